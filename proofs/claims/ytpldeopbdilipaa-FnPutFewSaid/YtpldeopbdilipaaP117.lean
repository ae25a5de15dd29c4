-- printed by wip/pp/pp.py
import Derived.Test.YtpldeopbdilipaaP10
import Derived.Test.YtpldeopbdilipaaP112
import Derived.Test.YtpldeopbdilipaaP116
namespace Go.Proofs.Ytpldeopbdilipaa.P1
open Go.RowKit Go.Proofs.YtpldeopbdilipaaW.PrintWords Go.Proofs.YtpldeopbdilipaaW.PrintLast Go.Proofs.YtpldeopbdilipaaW.PrintMore
attribute [local go_sem] max2_int min2_int max_two min_two max_three min_three max_four min_four
set_option linter.unusedVariables false
set_option linter.unusedSimpArgs false
mutual
def laws_FnPutFew.j0 : Nat → Int → Int → List (S34) → Bool → List (S63) → List Int → Option (Bool)
 | 0, _, _, _, _, _, _ => none
 | k + 1, x4, x5, x6, x35, x490000, x490001 => if x35 = true then ((spec_StepsPut.f k x490000 x490001 x4 x5).bind fun t496 => (some ((x6.length : Int) == (t496.length : Int)))) else (laws_FnPutFew.l0 k x4 x6 0 0 x490000 x490001)
def laws_FnPutFew.l0 : Nat → Int → List (S34) → Int → Int → List (S63) → List Int → Option (Bool)
 | 0, _, _, _, _, _, _ => none
 | k + 1, x4, x6, x7, x8, x490000, x490001 => if x8 < (x6.length : Int) then (if 0 ≤ x8 then (if ((rd_T34 x6 x8).f0) = 2 then (laws_FnPutFew.l0 k x4 x6 (wrap64 (x7 + 1)) (wrap64 (x8 + 1)) x490000 x490001) else (laws_FnPutFew.l0 k x4 x6 x7 (wrap64 (x8 + 1)) x490000 x490001)) else (none)) else ((impl_StepsFlush.f k x490000 x490001 x4).bind fun t500 => (if (((x6.length : Int) == 1) == (x7 == 0)) = true then (if x7 ≤ 1 then (if (x6.length : Int) ≤ 6 then (some (decide ((t500.length : Int) ≤ 7))) else (some false)) else (some false)) else (some false)))
end
def laws_FnPutFew.f (k : Nat) (l0 : List Int) : Option (Bool) := if (l0.length : Int) > 1048576 then (some true) else ((spec_DrawStepsPut.f k l0).bind fun bt481 => ((impl_StepsPut.f k bt481.1 bt481.2.1 bt481.2.2.1 bt481.2.2.2).bind fun t490 => ((spec_StepsPut.f k bt481.1 bt481.2.1 bt481.2.2.1 bt481.2.2.2).bind fun t493 => (if (t490.length : Int) = (t493.length : Int) then (laws_FnPutFew.j0 k bt481.2.2.1 bt481.2.2.2 t490 ((t490.length : Int) == 0) bt481.1 bt481.2.1) else (laws_FnPutFew.j0 k bt481.2.2.1 bt481.2.2.2 t490 true bt481.1 bt481.2.1)))))
set_option maxHeartbeats 8000000 in
set_option maxRecDepth 100000 in
theorem laws_FnPutFew.calls (k : Nat) (A0 : Option Addr) (c0 : Nat) (l0 : List Int) (r : Bool) (w : World) (hr0 : Kd.C (Kd.int .u8) w A0 l0.length l0) (hc0 : l0.length ≤ c0) (h : laws_FnPutFew.f k l0 = some r) :
 Calls Try.prog 3 #[.slice A0 l0.length c0] w fun e w' => e = .returned (.bool r) ∧ Below w.heap.size w w' := by
 have hu26 := Try.underlying26
 have HR0 := am hr0
 have HC0 := am hc0
 clear hr0 hc0
 have HB := am (Below.refl w.heap.size w)
 have H : (if (l0.length : Int) > 1048576 then (some true) else ((spec_DrawStepsPut.f k l0).bind fun bt481 => ((impl_StepsPut.f k bt481.1 bt481.2.1 bt481.2.2.1 bt481.2.2.2).bind fun t490 => ((spec_StepsPut.f k bt481.1 bt481.2.1 bt481.2.2.1 bt481.2.2.2).bind fun t493 => (if (t490.length : Int) = (t493.length : Int) then (laws_FnPutFew.j0 k bt481.2.2.1 bt481.2.2.2 t490 ((t490.length : Int) == 0) bt481.1 bt481.2.1) else (laws_FnPutFew.j0 k bt481.2.2.1 bt481.2.2.2 t490 true bt481.1 bt481.2.1)))))) = some r := h
 clear h
 by_cases c2 : (l0.length : Int) > 1048576
 · rw [if_pos c2] at H
   have c2b0 := decide_eq_true c2
   have c2b1 : decide (1048576 < l0.length) = true := decide_eq_true (by omega)
   clear c2
   obtain rfl := Option.some.inj H
   go_enter Try.func3, Try.ntmps3
   go_wp2
   go_ret
   exact (rq (ph HB.out))
 rw [if_neg c2] at H
 have c2b0 := decide_eq_false c2
 have c2b1 : decide (1048576 < l0.length) = false := decide_eq_false (by omega)
 clear c2
 replace H := Option.bind_eq_some_iff.mp H
 obtain ⟨⟨t481, t484, t487, t488⟩, A30, H⟩ := H
 have A3 := am A30
 clear A30
 replace H := Option.bind_eq_some_iff.mp H
 obtain ⟨t490, A40, H⟩ := H
 have A4 := am A40
 clear A40
 have HC5 := am H
 clear H
 go_enter Try.func3, Try.ntmps3
 go_upto_region 5 with (first | (refine gl 15 Try.func4 #[.slice A0 l0.length c0] rfl ?_; (with_reducible refine (spec_DrawStepsPut.calls k _ _ l0 t481 t484 t487 t488 _ ?side1 ?side2 A3.out).mono ?_); (case side1 => exact pc HR0.out); (case side2 => exact HC0.out); rintro e w6 ⟨v482, v485, rfl, ho0, ho1, hb⟩; refine ⟨_, rfl, ?_⟩; have HO483 := am (Kd.V_lower (Kd.V_mono (ok' := fun k_ => some k_ ≠ (v485 : Value).ownBlock) ho0 (fun k_ hk_ => hk_.2)) (below_size (ph HB.out))); have HO486 := am (Kd.Q_lower (Kd.Q_mono (ok' := fun k_ => True) ho1 (fun _ hk_ => trivial)) (below_size (ph HB.out))); replace HB := am (below_step (ph HB.out) hb); clear hb ho0 ho1) | ((with_reducible refine gate_dst (N := 3) rfl ?_); (try (refine gate_guard (by rfl) ?_; dsimp only)); refine box_event ?hg (N := 3) ?hd (cs := #[.slice none 0 0, .slice none 0 0]) (t := 26) ?hr ?_; (case hd => rfl); (case hg => rfl); (case hr => first | (go_simp; done) | (go_simp; rfl)); intro gb489 hg w7 hbox hb; replace HO483 := am (Kd.V_below (Kd.V_elderB (pv HO483.out) gb489 (Nat.le_of_eq hg.symm)) hb); replace HO486 := am (Kd.Q_below (pq HO486.out) hb); have BK489 := am (hbox); have GW489 := am (ge hg (ph HB.out)); have GE489 := GW489; replace HB := am (below_step (ph HB.out) hb); clear hb hbox hg; obtain ⟨Ao8, co8, eo8⟩ := Kd.V_slice HO483.out; subst eo8; obtain ⟨hcz9_0, hcz9_1⟩ := b2 BK489.out; obtain ⟨hfz9_0, hfz9_1⟩ := f2 BK489.out; obtain ⟨Ao10, co10, eo10, _⟩ := Kd.Q_slice HO486.out; subst eo10) | (refine gl 22 Try.func5 #[.agg #[.slice Ao8 t481.length co8, .slice Ao10 t484.length co10], .int .i64 t487, .int .i64 t488] rfl ?_; (with_reducible refine (impl_StepsPut.calls k _ _ t481 _ _ t484 t487 t488 t490 _ ?side1 ?side2 ?side3 ?side4 A4.out).mono ?_); (case side1 => refine (Kd.V_reads' (e := 63) (base := w.heap.size) (ok := fun k_ => (some k_ ≠ (.slice Ao10 t484.length co10 : Value).ownBlock ∧ k_ ≠ gb489)) (n := t481.length) (c := co8) ?_).2.2; exact (pv ((Kd.V_mono (Kd.V_far (p := ⟨gb489, 1, none⟩) (Kd.V_far (p := ⟨gb489, 0, none⟩) (Kd.V_mono HO483.out (fun k_ hk => (⟨hk, hk.2⟩ : _ ∧ k_ ≠ gb489))) (fun _ hk => hk.2) (.slice Ao8 t481.length co8)) (fun _ hk => hk.2) (.slice Ao10 t484.length co10)) (fun _ h_ => h_.1))))); (case side2 => exact (Kd.V_reads' HO483.out).2.1); (case side3 => refine (Kd.Q_reads' (e := 3) (base := w.heap.size) (ok := fun k_ => True) (n := t484.length) (c := co10) ?_).2.2; exact (pq ((Kd.Q_mono (Kd.Q_far (p := ⟨gb489, 1, none⟩) (Kd.Q_far (p := ⟨gb489, 0, none⟩) (Kd.Q_types HO486.out BK489.out (by decide)) (fun _ hk => hk.2) (.slice Ao8 t481.length co8)) (fun _ hk => hk.2) (.slice Ao10 t484.length co10)) (fun _ h_ => h_.1))))); (case side4 => exact (Kd.Q_reads' HO486.out).2.1); rintro e w11 ⟨v491, rfl, ho0, hb⟩; refine ⟨_, rfl, ?_⟩; replace HO483 := am (Kd.V_elder' (pv ((Kd.V_mono (Kd.V_far (p := ⟨gb489, 1, none⟩) (Kd.V_far (p := ⟨gb489, 0, none⟩) (Kd.V_mono HO483.out (fun k_ hk => (⟨hk, hk.2⟩ : _ ∧ k_ ≠ gb489))) (fun _ hk => hk.2) (.slice Ao8 t481.length co8)) (fun _ hk => hk.2) (.slice Ao10 t484.length co10)) (fun _ h_ => h_.1)))) (Kd.R_base ho0) hb); replace HO486 := am (Kd.Q_below (pq ((Kd.Q_mono (Kd.Q_far (p := ⟨gb489, 1, none⟩) (Kd.Q_far (p := ⟨gb489, 0, none⟩) (Kd.Q_types HO486.out BK489.out (by decide)) (fun _ hk => hk.2) (.slice Ao8 t481.length co8)) (fun _ hk => hk.2) (.slice Ao10 t484.length co10)) (fun _ h_ => h_.1)))) hb); have HO492 := am (Kd.R_lower ho0 (below_size (bg1 HB.out GE489.out))); replace BK489 := am (blk_below (bp2 (pb BK489.out)) hb); replace HB := am (below_step (bg1 HB.out GE489.out) hb); clear hb ho0))
 (try simp only [Act.put, List.setIfInBounds_toArray, List.set_cons_zero, List.set_cons_succ])
 go_cut [35] (fun v35 wc => ∃ (kq : Nat) (x35_4 : Bool), v35 = .bool x35_4 ∧ Aside0 (laws_FnPutFew.j0 kq t487 t488 t490 x35_4 t481 t484 = some r) ∧ Aside0 (kq ≤ k) ∧ Aside0 (Kd.R k34 34 wc w.heap.size (fun _ => True) v491 t490) ∧ Aside0 (Kd.V k63 63 wc w.heap.size (fun k_ => some k_ ≠ (v491 : Value).ownBlock ∧ some k_ ≠ ((.slice Ao10 t484.length co10) : Value).ownBlock ∧ k_ ≠ gb489) (.slice Ao8 t481.length co8) t481) ∧ Aside0 (Kd.Q (Kd.int .i64) 3 wc w.heap.size (fun _ => True) (.slice Ao10 t484.length co10) t484) ∧ Aside0 (wc.heap[gb489]? = some (.cells #[(.slice Ao8 t481.length co8), (.slice Ao10 t484.length co10)] 26 (0, 0))) ∧ Aside0 (Below w.heap.size w wc))
 case first =>
  have H := HC5.out
  clear HC5
  replace H := Option.bind_eq_some_iff.mp H
  obtain ⟨t493, A120, H⟩ := H
  have A12 := am A120
  clear A120
  by_cases c13 : (t490.length : Int) = (t493.length : Int)
  rotate_left
  · rw [if_neg c13] at H
    have c13b0 : ((t490.length : Int) == (t493.length : Int)) = false := beq_eq_false_iff_ne.mpr c13
    have c13b1 : ((t490.length : Int) != (t493.length : Int)) = true := bne_iff_ne.mpr c13
    have c13b2 : (t490.length == t493.length) = false := by first | simpa using c13 | (simp at c13 ⊢; omega)
    (first | rw [c13b0] | (simp only [i64_w, i32_w]; rw [c13b0]) | skip)
    have H' := am H
    clear H
    obtain ⟨Ao18, co18, eo18⟩ := Kd.R_slice HO492.out
    subst eo18
    obtain ⟨hcz19_0, hcz19_1⟩ := b2 BK489.out
    obtain ⟨hfz19_0, hfz19_1⟩ := f2 BK489.out
    go_wp2_with (first | (refine gl 28 Try.func6 #[.agg #[.slice Ao8 t481.length co8, .slice Ao10 t484.length co10], .int .i64 t487, .int .i64 t488] rfl ?_; (with_reducible refine (spec_StepsPut.calls k _ _ t481 _ _ t484 t487 t488 t493 _ ?side1 ?side2 ?side3 ?side4 A12.out).mono ?_); (case side1 => exact pc ((Kd.V_reads' HO483.out).2.2)); (case side2 => exact (Kd.V_reads' HO483.out).2.1); (case side3 => exact pc ((Kd.Q_reads' HO486.out).2.2)); (case side4 => exact (Kd.Q_reads' HO486.out).2.1); rintro e w20 ⟨v494, rfl, ho0, hb⟩; refine ⟨_, rfl, ?_⟩; replace HO483 := am (Kd.V_elder' (pv HO483.out) (Kd.R_base ho0) hb); replace HO486 := am (Kd.Q_below (pq HO486.out) hb); have HO495 := am (Kd.R_lower (Kd.R_new' ho0 (Kd.R_lt (pr HO492.out))) (below_size (bg1 HB.out GE489.out))); replace HO492 := am (Kd.R_elder' (pr HO492.out) (Kd.R_base ho0) hb); replace BK489 := am (blk_below (pb BK489.out) hb); replace HB := am (below_step (bg1 HB.out GE489.out) hb); clear hb ho0; obtain ⟨Ao21, co21, eo21⟩ := Kd.R_slice HO495.out; subst eo21))
    go_meet
    case rel => exact ⟨_, (true), rf, H', ⟨by first | omega | exact Nat.le_refl _⟩, ⟨pr (Kd.R_mono HO492.out (fun _ hk => trivial))⟩, ⟨pv (Kd.V_mono HO483.out (fun _ hk => ⟨hk.1.2, ⟨hk.1.1.1, hk.1.1.2⟩⟩))⟩, ⟨pq HO486.out⟩, ⟨pb BK489.out⟩, ⟨bg1 HB.out GE489.out⟩⟩
  rw [if_pos c13] at H
  have c13b0 : ((t490.length : Int) == (t493.length : Int)) = true := beq_iff_eq.mpr c13
  have c13b1 : ((t490.length : Int) != (t493.length : Int)) = false := bne_eq_false_iff_eq.mpr c13
  have c13b2 : (t490.length == t493.length) = true := by first | simpa using c13 | (simp at c13 ⊢; omega)
  clear c13
  (first | rw [c13b0] | (simp only [i64_w, i32_w]; rw [c13b0]) | skip)
  have H' := am H
  clear H
  obtain ⟨Ao14, co14, eo14⟩ := Kd.R_slice HO492.out
  subst eo14
  obtain ⟨hcz15_0, hcz15_1⟩ := b2 BK489.out
  obtain ⟨hfz15_0, hfz15_1⟩ := f2 BK489.out
  go_wp2_with (first | (refine gl 28 Try.func6 #[.agg #[.slice Ao8 t481.length co8, .slice Ao10 t484.length co10], .int .i64 t487, .int .i64 t488] rfl ?_; (with_reducible refine (spec_StepsPut.calls k _ _ t481 _ _ t484 t487 t488 t493 _ ?side1 ?side2 ?side3 ?side4 A12.out).mono ?_); (case side1 => exact pc ((Kd.V_reads' HO483.out).2.2)); (case side2 => exact (Kd.V_reads' HO483.out).2.1); (case side3 => exact pc ((Kd.Q_reads' HO486.out).2.2)); (case side4 => exact (Kd.Q_reads' HO486.out).2.1); rintro e w16 ⟨v494, rfl, ho0, hb⟩; refine ⟨_, rfl, ?_⟩; replace HO483 := am (Kd.V_elder' (pv HO483.out) (Kd.R_base ho0) hb); replace HO486 := am (Kd.Q_below (pq HO486.out) hb); have HO495 := am (Kd.R_lower (Kd.R_new' ho0 (Kd.R_lt (pr HO492.out))) (below_size (bg1 HB.out GE489.out))); replace HO492 := am (Kd.R_elder' (pr HO492.out) (Kd.R_base ho0) hb); replace BK489 := am (blk_below (pb BK489.out) hb); replace HB := am (below_step (bg1 HB.out GE489.out) hb); clear hb ho0; obtain ⟨Ao17, co17, eo17⟩ := Kd.R_slice HO495.out; subst eo17))
  go_meet
  case rel => exact ⟨_, (((t490.length : Int) == 0)), rf, H', ⟨by first | omega | exact Nat.le_refl _⟩, ⟨pr (Kd.R_mono HO492.out (fun _ hk => trivial))⟩, ⟨pv (Kd.V_mono HO483.out (fun _ hk => ⟨hk.1.2, ⟨hk.1.1.1, hk.1.1.2⟩⟩))⟩, ⟨pq HO486.out⟩, ⟨pb BK489.out⟩, ⟨bg1 HB.out GE489.out⟩⟩
 case rest =>
  clear HC5
  obtain ⟨kq, x35_4, rfl, HA, HJ4, HO_6, HO_490000, HO_490001, BK489, HB⟩ := hcut
  cases kq with
  | zero => exact absurd HA.out (by simp [laws_FnPutFew.j0])
  | succ kj4 =>
   have H := HA.out
   clear HA
   simp only [laws_FnPutFew.j0] at H
   by_cases c22 : x35_4 = true
   · subst c22
     rw [if_pos rfl] at H
     replace H := Option.bind_eq_some_iff.mp H
     obtain ⟨t496, A230, H⟩ := H
     have A23 := am A230
     clear A230
     obtain rfl := Option.some.inj H
     obtain ⟨Ao24, co24, eo24⟩ := Kd.R_slice HO_6.out
     subst eo24
     obtain ⟨hcz25_0, hcz25_1⟩ := b2 BK489.out
     obtain ⟨hfz25_0, hfz25_1⟩ := f2 BK489.out
     go_wp2_with (first | (refine gl 41 Try.func6 #[.agg #[.slice Ao8 t481.length co8, .slice Ao10 t484.length co10], .int .i64 t487, .int .i64 t488] rfl ?_; (with_reducible refine (spec_StepsPut.calls kj4 _ _ t481 _ _ t484 t487 t488 t496 _ ?side1 ?side2 ?side3 ?side4 A23.out).mono ?_); (case side1 => exact pc ((Kd.V_reads' HO_490000.out).2.2)); (case side2 => exact (Kd.V_reads' HO_490000.out).2.1); (case side3 => exact pc ((Kd.Q_reads' HO_490001.out).2.2)); (case side4 => exact (Kd.Q_reads' HO_490001.out).2.1); rintro e w26 ⟨v497, rfl, ho0, hb⟩; refine ⟨_, rfl, ?_⟩; replace HO_490000 := am (Kd.V_elder' (pv HO_490000.out) (Kd.R_base ho0) hb); replace HO_490001 := am (Kd.Q_below (pq HO_490001.out) hb); have HO498 := am (Kd.R_lower (Kd.R_new' ho0 (Kd.R_lt (pr HO_6.out))) (below_size (bg1 HB.out GE489.out))); replace HO_6 := am (Kd.R_elder' (pr HO_6.out) (Kd.R_base ho0) hb); replace BK489 := am (blk_below (pb BK489.out) hb); replace HB := am (below_step (bg1 HB.out GE489.out) hb); clear hb ho0; obtain ⟨Ao27, co27, eo27⟩ := Kd.R_slice HO498.out; subst eo27))
     go_ret
     exact (rq (bg1 HB.out GE489.out))
   replace c22 := Bool.eq_false_iff.mpr c22
   subst c22
   rw [if_neg (show ¬ (false = true) by decide)] at H
   have H' := am H
   clear H
   go_wp2
   go_loopg [7, 8] kj4 (fun kq v7 v8 w' => ∃ (x7_2 : Int) (x8_2 : Int), v7 = .int .i64 x7_2 ∧ v8 = .int .i64 x8_2 ∧ Aside0 (laws_FnPutFew.l0 kq t487 t490 x7_2 x8_2 t481 t484 = some r) ∧ Aside0 (kq ≤ kj4) ∧ Aside0 (Kd.R k34 34 w' w.heap.size (fun _ => True) v491 t490) ∧ Aside0 (Kd.V k63 63 w' w.heap.size (fun k_ => some k_ ≠ (v491 : Value).ownBlock ∧ some k_ ≠ ((.slice Ao10 t484.length co10) : Value).ownBlock ∧ k_ ≠ gb489) (.slice Ao8 t481.length co8) t481) ∧ Aside0 (Kd.Q (Kd.int .i64) 3 w' w.heap.size (fun _ => True) (.slice Ao10 t484.length co10) t484) ∧ Aside0 (w'.heap[gb489]? = some (.cells #[(.slice Ao8 t481.length co8), (.slice Ao10 t484.length co10)] 26 (0, 0))) ∧ Aside0 (Below w.heap.size w w'))
   case atStart => exact ⟨(0), (0), rf, rf, H', ⟨Nat.le_refl _⟩, ⟨pr HO_6.out⟩, ⟨pv HO_490000.out⟩, ⟨pq HO_490001.out⟩, ⟨pb BK489.out⟩, ⟨bg1 HB.out GE489.out⟩⟩
   case round =>
    clear H'
    obtain ⟨x7_2, x8_2, rfl, rfl, HA, HK2, HO_6, HO_490000, HO_490001, BK489, HB⟩ := hrel
    cases gk with
    | zero => exact absurd HA.out (by simp [laws_FnPutFew.l0])
    | succ k2 =>
     have H := HA.out
     clear HA
     simp only [laws_FnPutFew.l0] at H
     by_cases c28 : x8_2 < (t490.length : Int)
     · rw [if_pos c28] at H
       have c28b0 := decide_eq_true c28
       clear c28
       obtain ⟨c29b0, H⟩ := ifd H
       by_cases c30 : ((rd_T34 t490 x8_2).f0) = 2
       rotate_left
       · rw [if_neg c30] at H
         have c30b0 : (((rd_T34 t490 x8_2).f0) == 2) = false := beq_eq_false_iff_ne.mpr c30
         have c30b1 : (((rd_T34 t490 x8_2).f0) != 2) = true := bne_iff_ne.mpr c30
         have H' := am H
         clear H
         obtain ⟨Ao32, co32, eo32⟩ := Kd.R_slice HO_6.out
         subst eo32
         have p499 : 0 ≤ (x8_2 : Int) := ofb
         have q499 : x8_2 < (t490.length : Int) := ofb
         obtain ⟨ad499, e499, hx499_0, hx499_1, hx499_2, hx499_3, hx499_4, hx499_5, hx499_6, hx499_7⟩ := at_T34 (Kd.R_reads' HO_6.out).2.2 x8_2 p499 q499
         cases e499
         replace p499 := eq_true p499
         replace q499 := eq_true q499
         go_wp2
         go_roundg k2
         case measure => have := HJ4.out; have := HK2.out; omega
         case rel => exact ⟨(x7_2), (wrap64 (x8_2 + 1)), rf, rf, H', ⟨by have := HJ4.out; have := HK2.out; omega⟩, ⟨pr HO_6.out⟩, ⟨pv HO_490000.out⟩, ⟨pq HO_490001.out⟩, ⟨pb BK489.out⟩, ⟨bg1 HB.out GE489.out⟩⟩
       rw [if_pos c30] at H
       have c30b0 : (((rd_T34 t490 x8_2).f0) == 2) = true := beq_iff_eq.mpr c30
       have c30b1 : (((rd_T34 t490 x8_2).f0) != 2) = false := bne_eq_false_iff_eq.mpr c30
       clear c30
       have H' := am H
       clear H
       obtain ⟨Ao31, co31, eo31⟩ := Kd.R_slice HO_6.out
       subst eo31
       have p499 : 0 ≤ (x8_2 : Int) := ofb
       have q499 : x8_2 < (t490.length : Int) := ofb
       obtain ⟨ad499, e499, hx499_0, hx499_1, hx499_2, hx499_3, hx499_4, hx499_5, hx499_6, hx499_7⟩ := at_T34 (Kd.R_reads' HO_6.out).2.2 x8_2 p499 q499
       cases e499
       replace p499 := eq_true p499
       replace q499 := eq_true q499
       go_wp2
       go_roundg k2
       case measure => have := HJ4.out; have := HK2.out; omega
       case rel => exact ⟨(wrap64 (x7_2 + 1)), (wrap64 (x8_2 + 1)), rf, rf, H', ⟨by have := HJ4.out; have := HK2.out; omega⟩, ⟨pr HO_6.out⟩, ⟨pv HO_490000.out⟩, ⟨pq HO_490001.out⟩, ⟨pb BK489.out⟩, ⟨bg1 HB.out GE489.out⟩⟩
     rw [if_neg c28] at H
     have c28b0 := decide_eq_false c28
     clear c28
     replace H := Option.bind_eq_some_iff.mp H
     obtain ⟨t500, A330, H⟩ := H
     have A33 := am A330
     clear A330
     by_cases c34 : (((t490.length : Int) == 1) == (x7_2 == 0)) = true
     rotate_left
     · rw [if_neg c34] at H
       have c34b0 : (((t490.length : Int) == 1) == (x7_2 == 0)) = false := by simpa using c34
       (try (have c34b1 : decide (((t490.length : Int) == 1) = (x7_2 == 0)) = false := by simpa using c34))
       (try (have c34b2 : (((t490.length : Int) == 1) == (x7_2 == 0)) = false := by simpa using c34))
       (try (have c34b3 : ¬ (((t490.length : Int) == 1) = (x7_2 == 0)) := by simpa using c34))
       clear c34
       obtain rfl := Option.some.inj H
       obtain ⟨Ao47, co47, eo47⟩ := Kd.R_slice HO_6.out
       subst eo47
       obtain ⟨hcz48_0, hcz48_1⟩ := b2 BK489.out
       obtain ⟨hfz48_0, hfz48_1⟩ := f2 BK489.out
       go_wp2_with (first | (refine gl 60 Try.func7 #[.agg #[.slice Ao8 t481.length co8, .slice Ao10 t484.length co10], .int .i64 t487] rfl ?_; (with_reducible refine (impl_StepsFlush.calls k2 _ _ t481 _ _ t484 t487 t500 _ ?side1 ?side2 ?side3 ?side4 A33.out).mono ?_); (case side1 => exact pc ((Kd.V_reads' HO_490000.out).2.2)); (case side2 => exact (Kd.V_reads' HO_490000.out).2.1); (case side3 => exact pc ((Kd.Q_reads' HO_490001.out).2.2)); (case side4 => exact (Kd.Q_reads' HO_490001.out).2.1); rintro e w49 ⟨v501, rfl, ho0, hb⟩; refine ⟨_, rfl, ?_⟩; replace HO_490000 := am (Kd.V_elder' (pv HO_490000.out) (Kd.R_base ho0) hb); replace HO_490001 := am (Kd.Q_below (pq HO_490001.out) hb); have HO502 := am (Kd.R_lower (Kd.R_new' ho0 (Kd.R_lt (pr HO_6.out))) (below_size (bg1 HB.out GE489.out))); replace HO_6 := am (Kd.R_elder' (pr HO_6.out) (Kd.R_base ho0) hb); replace BK489 := am (blk_below (pb BK489.out) hb); replace HB := am (below_step (bg1 HB.out GE489.out) hb); clear hb ho0))
       go_ret
       exact (rq (bg1 HB.out GE489.out))
     rw [if_pos c34] at H
     have c34b0 : (((t490.length : Int) == 1) == (x7_2 == 0)) = true := c34
     (try (have c34b1 : decide (((t490.length : Int) == 1) = (x7_2 == 0)) = true := by simpa using c34))
     (try (have c34b2 : (((t490.length : Int) == 1) == (x7_2 == 0)) = true := by simpa using c34))
     clear c34
     by_cases c35 : x7_2 ≤ 1
     rotate_left
     · rw [if_neg c35] at H
       have c35b0 := decide_eq_false c35
       clear c35
       obtain rfl := Option.some.inj H
       obtain ⟨Ao44, co44, eo44⟩ := Kd.R_slice HO_6.out
       subst eo44
       obtain ⟨hcz45_0, hcz45_1⟩ := b2 BK489.out
       obtain ⟨hfz45_0, hfz45_1⟩ := f2 BK489.out
       go_wp2_with (first | (refine gl 60 Try.func7 #[.agg #[.slice Ao8 t481.length co8, .slice Ao10 t484.length co10], .int .i64 t487] rfl ?_; (with_reducible refine (impl_StepsFlush.calls k2 _ _ t481 _ _ t484 t487 t500 _ ?side1 ?side2 ?side3 ?side4 A33.out).mono ?_); (case side1 => exact pc ((Kd.V_reads' HO_490000.out).2.2)); (case side2 => exact (Kd.V_reads' HO_490000.out).2.1); (case side3 => exact pc ((Kd.Q_reads' HO_490001.out).2.2)); (case side4 => exact (Kd.Q_reads' HO_490001.out).2.1); rintro e w46 ⟨v501, rfl, ho0, hb⟩; refine ⟨_, rfl, ?_⟩; replace HO_490000 := am (Kd.V_elder' (pv HO_490000.out) (Kd.R_base ho0) hb); replace HO_490001 := am (Kd.Q_below (pq HO_490001.out) hb); have HO502 := am (Kd.R_lower (Kd.R_new' ho0 (Kd.R_lt (pr HO_6.out))) (below_size (bg1 HB.out GE489.out))); replace HO_6 := am (Kd.R_elder' (pr HO_6.out) (Kd.R_base ho0) hb); replace BK489 := am (blk_below (pb BK489.out) hb); replace HB := am (below_step (bg1 HB.out GE489.out) hb); clear hb ho0))
       go_ret
       exact (rq (bg1 HB.out GE489.out))
     rw [if_pos c35] at H
     have c35b0 := decide_eq_true c35
     clear c35
     by_cases c36 : (t490.length : Int) ≤ 6
     rotate_left
     · rw [if_neg c36] at H
       have c36b0 := decide_eq_false c36
       have c36b1 : decide (t490.length ≤ 6) = false := decide_eq_false (by omega)
       clear c36
       obtain rfl := Option.some.inj H
       obtain ⟨Ao41, co41, eo41⟩ := Kd.R_slice HO_6.out
       subst eo41
       obtain ⟨hcz42_0, hcz42_1⟩ := b2 BK489.out
       obtain ⟨hfz42_0, hfz42_1⟩ := f2 BK489.out
       go_wp2_with (first | (refine gl 60 Try.func7 #[.agg #[.slice Ao8 t481.length co8, .slice Ao10 t484.length co10], .int .i64 t487] rfl ?_; (with_reducible refine (impl_StepsFlush.calls k2 _ _ t481 _ _ t484 t487 t500 _ ?side1 ?side2 ?side3 ?side4 A33.out).mono ?_); (case side1 => exact pc ((Kd.V_reads' HO_490000.out).2.2)); (case side2 => exact (Kd.V_reads' HO_490000.out).2.1); (case side3 => exact pc ((Kd.Q_reads' HO_490001.out).2.2)); (case side4 => exact (Kd.Q_reads' HO_490001.out).2.1); rintro e w43 ⟨v501, rfl, ho0, hb⟩; refine ⟨_, rfl, ?_⟩; replace HO_490000 := am (Kd.V_elder' (pv HO_490000.out) (Kd.R_base ho0) hb); replace HO_490001 := am (Kd.Q_below (pq HO_490001.out) hb); have HO502 := am (Kd.R_lower (Kd.R_new' ho0 (Kd.R_lt (pr HO_6.out))) (below_size (bg1 HB.out GE489.out))); replace HO_6 := am (Kd.R_elder' (pr HO_6.out) (Kd.R_base ho0) hb); replace BK489 := am (blk_below (pb BK489.out) hb); replace HB := am (below_step (bg1 HB.out GE489.out) hb); clear hb ho0))
       go_ret
       exact (rq (bg1 HB.out GE489.out))
     rw [if_pos c36] at H
     have c36b0 := decide_eq_true c36
     have c36b1 : decide (t490.length ≤ 6) = true := decide_eq_true (by omega)
     clear c36
     obtain rfl := Option.some.inj H
     obtain ⟨Ao37, co37, eo37⟩ := Kd.R_slice HO_6.out
     subst eo37
     obtain ⟨hcz38_0, hcz38_1⟩ := b2 BK489.out
     obtain ⟨hfz38_0, hfz38_1⟩ := f2 BK489.out
     go_wp2_with (first | (refine gl 60 Try.func7 #[.agg #[.slice Ao8 t481.length co8, .slice Ao10 t484.length co10], .int .i64 t487] rfl ?_; (with_reducible refine (impl_StepsFlush.calls k2 _ _ t481 _ _ t484 t487 t500 _ ?side1 ?side2 ?side3 ?side4 A33.out).mono ?_); (case side1 => exact pc ((Kd.V_reads' HO_490000.out).2.2)); (case side2 => exact (Kd.V_reads' HO_490000.out).2.1); (case side3 => exact pc ((Kd.Q_reads' HO_490001.out).2.2)); (case side4 => exact (Kd.Q_reads' HO_490001.out).2.1); rintro e w39 ⟨v501, rfl, ho0, hb⟩; refine ⟨_, rfl, ?_⟩; replace HO_490000 := am (Kd.V_elder' (pv HO_490000.out) (Kd.R_base ho0) hb); replace HO_490001 := am (Kd.Q_below (pq HO_490001.out) hb); have HO502 := am (Kd.R_lower (Kd.R_new' ho0 (Kd.R_lt (pr HO_6.out))) (below_size (bg1 HB.out GE489.out))); replace HO_6 := am (Kd.R_elder' (pr HO_6.out) (Kd.R_base ho0) hb); replace BK489 := am (blk_below (pb BK489.out) hb); replace HB := am (below_step (bg1 HB.out GE489.out) hb); clear hb ho0; obtain ⟨Ao40, co40, eo40⟩ := Kd.R_slice HO502.out; subst eo40))
     go_ret
     exact (rq (bg1 HB.out GE489.out))
def laws_FnPutFew.Pure : Prop := ∀ (l0 : List Int), l0.length ≤ maxLen → l0.length * 1 ≤ 140737488351232 → (∀ x ∈ l0, (Lit.int .u8 x).wf = true) → ∃ k, laws_FnPutFew.f k l0 = some true
theorem laws_FnPutFew.walk (P : laws_FnPutFew.Pure) (a0 : Option Addr) (len0 cap0 : Nat) (z0 : List Int) (w : World) (w0 : (a0 = none ∧ len0 = 0 ∧ cap0 = 0 ∧ z0 = []) ∨ ∃ x, a0 = some x ∧ len0 ≤ cap0 ∧ cap0 ≤ maxLen ∧ z0.length = cap0 ∧ (∀ i, i < z0.length → w.cell? (x.add i) = some (.int .u8 (z0.getD i 0))) ∧ ∀ n ∈ z0, (Lit.int .u8 n).wf = true) (y0 : len0 * 1 ≤ 140737488351232) :
 Calls Try.prog 3 #[.slice a0 len0 cap0] w fun e w' => e = .returned (.bool true) ∧ Below w.heap.size w w' := by
 obtain ⟨l0, rfl, hr0, hm0, hw0, hc0⟩ := ReadsInt.ofRowC w0
 obtain ⟨k, h⟩ := P l0 hm0 y0 hw0
 refine (laws_FnPutFew.calls k _ _ l0 true w (Kd.C_of_reads (d := (0 : Int)) (h1 := fun _ => rfl) hr0) hc0 h).mono ?_
 rintro e w' ⟨rfl, hd⟩
 exact ⟨rfl, hd⟩
end Go.Proofs.Ytpldeopbdilipaa.P1
