-- printed by wip/pp/pp.py
import Derived.Test.YtoedphbikgoapaaRc0
import Derived.Test.YtoedphbikgoapaaRc1
namespace Go.Proofs.Ytoedphbikgoapaa.Rc
open Go.RowKit Go.Proofs.YtoedphbikgoapaaW.PrintWords Go.Proofs.YtoedphbikgoapaaW.PrintLast Go.Proofs.YtoedphbikgoapaaW.PrintMore
attribute [local go_sem] max2_int min2_int max_two min_two max_three min_three max_four min_four
set_option linter.unusedVariables false
set_option linter.unusedSimpArgs false
def laws_eqStep.f (a0_0 : Int) (a0_1 : Int) (a0_2 : Int) (a0_3 : Int) (a0_4 : Int) (a0_5 : Int) (a0_6 : Int) (a0_7 : Int) (a1_0 : Int) (a1_1 : Int) (a1_2 : Int) (a1_3 : Int) (a1_4 : Int) (a1_5 : Int) (a1_6 : Int) (a1_7 : Int) : Option (Bool) := if a0_0 = a1_0 then (if a0_1 = a1_1 then (if a0_2 = a1_2 then (if a0_3 = a1_3 then ((laws_eqRec.f a0_4 a0_5 a0_6 a0_7 a1_4 a1_5 a1_6 a1_7).bind fun t339 => (if t339 = true then (some true) else (some false))) else (some false)) else (some false)) else (some false)) else (some false)
set_option maxHeartbeats 8000000 in
set_option maxRecDepth 100000 in
theorem laws_eqStep.calls (a0_0 : Int) (a0_1 : Int) (a0_2 : Int) (a0_3 : Int) (a0_4 : Int) (a0_5 : Int) (a0_6 : Int) (a0_7 : Int) (a1_0 : Int) (a1_1 : Int) (a1_2 : Int) (a1_3 : Int) (a1_4 : Int) (a1_5 : Int) (a1_6 : Int) (a1_7 : Int) (r : Bool) (w : World) (h : laws_eqStep.f a0_0 a0_1 a0_2 a0_3 a0_4 a0_5 a0_6 a0_7 a1_0 a1_1 a1_2 a1_3 a1_4 a1_5 a1_6 a1_7 = some r) :
 Calls Try.prog 63 #[.agg #[.int .i64 a0_0, .int .i64 a0_1, .int .i64 a0_2, .int .i64 a0_3, .int .i64 a0_4, .int .i64 a0_5, .int .i64 a0_6, .int .i64 a0_7], .agg #[.int .i64 a1_0, .int .i64 a1_1, .int .i64 a1_2, .int .i64 a1_3, .int .i64 a1_4, .int .i64 a1_5, .int .i64 a1_6, .int .i64 a1_7]] w fun e w' => e = .returned (.bool r) ∧ Below w.heap.size w w' := by
 have hu85 := Try.underlying85
 have hu30 := Try.underlying30
 have HB := am (Below.refl w.heap.size w)
 have H : (if a0_0 = a1_0 then (if a0_1 = a1_1 then (if a0_2 = a1_2 then (if a0_3 = a1_3 then ((laws_eqRec.f a0_4 a0_5 a0_6 a0_7 a1_4 a1_5 a1_6 a1_7).bind fun t339 => (if t339 = true then (some true) else (some false))) else (some false)) else (some false)) else (some false)) else (some false)) = some r := h
 clear h
 by_cases c3 : a0_0 = a1_0
 rotate_left
 · rw [if_neg c3] at H
   have c3b0 : (a0_0 == a1_0) = false := beq_eq_false_iff_ne.mpr c3
   have c3b1 : (a0_0 != a1_0) = true := bne_iff_ne.mpr c3
   obtain rfl := Option.some.inj H
   go_enter Try.func63, Try.ntmps63
   go_wp2_with (first | (refine bx 2 #[.int .i64 a0_0, .int .i64 a0_1, .int .i64 a0_2, .int .i64 a0_3, .int .i64 a0_4, .int .i64 a0_5, .int .i64 a0_6, .int .i64 a0_7] 85 rfl ?_; intro gb337 hg w36 hbox hb; have BK337 := am (hbox); have GW337 := am ((by rw [hg]; exact (below_size (ph HB.out)) : w.heap.size ≤ gb337)); have GE337 := GW337; replace HB := am (below_step (ph HB.out) hb); clear hb hbox hg) | (refine bx 3 #[.int .i64 a1_0, .int .i64 a1_1, .int .i64 a1_2, .int .i64 a1_3, .int .i64 a1_4, .int .i64 a1_5, .int .i64 a1_6, .int .i64 a1_7] 85 rfl ?_; intro gb338 hg w37 hbox hb; have BK338 := am (hbox); have GW338 := am ((by rw [hg]; exact (below_size (bg1 HB.out GE337.out)) : w.heap.size ≤ gb338)); have GE338 := GW338; replace HB := am (below_step (bg1 HB.out GE337.out) hb); have NB337_338 := am ((by rw [hg]; exact Nat.ne_of_lt (blk_lt (pb BK337.out)) : gb337 ≠ gb338)); have NB338_337 := am (Ne.symm NB337_338.out); replace BK337 := am (blk_below (pb BK337.out) hb); clear hb hbox hg; have hnb38 := NB337_338.out; have hnc38 := NB338_337.out; obtain ⟨hcz39_0, hcz39_1, hcz39_2, hcz39_3, hcz39_4, hcz39_5, hcz39_6, hcz39_7⟩ := b8 BK337.out; obtain ⟨hfz39_0, hfz39_1, hfz39_2, hfz39_3, hfz39_4, hfz39_5, hfz39_6, hfz39_7⟩ := f8 BK337.out; obtain ⟨hcz40_0, hcz40_1, hcz40_2, hcz40_3, hcz40_4, hcz40_5, hcz40_6, hcz40_7⟩ := b8 BK338.out; obtain ⟨hfz40_0, hfz40_1, hfz40_2, hfz40_3, hfz40_4, hfz40_5, hfz40_6, hfz40_7⟩ := f8 BK338.out))
   go_ret
   exact (rq (bg2 HB.out GE337.out GE338.out))
 rw [if_pos c3] at H
 have c3b0 : (a0_0 == a1_0) = true := beq_iff_eq.mpr c3
 have c3b1 : (a0_0 != a1_0) = false := bne_eq_false_iff_eq.mpr c3
 clear c3
 by_cases c4 : a0_1 = a1_1
 rotate_left
 · rw [if_neg c4] at H
   have c4b0 : (a0_1 == a1_1) = false := beq_eq_false_iff_ne.mpr c4
   have c4b1 : (a0_1 != a1_1) = true := bne_iff_ne.mpr c4
   obtain rfl := Option.some.inj H
   go_enter Try.func63, Try.ntmps63
   go_wp2_with (first | (refine bx 2 #[.int .i64 a0_0, .int .i64 a0_1, .int .i64 a0_2, .int .i64 a0_3, .int .i64 a0_4, .int .i64 a0_5, .int .i64 a0_6, .int .i64 a0_7] 85 rfl ?_; intro gb337 hg w31 hbox hb; have BK337 := am (hbox); have GW337 := am ((by rw [hg]; exact (below_size (ph HB.out)) : w.heap.size ≤ gb337)); have GE337 := GW337; replace HB := am (below_step (ph HB.out) hb); clear hb hbox hg) | (refine bx 3 #[.int .i64 a1_0, .int .i64 a1_1, .int .i64 a1_2, .int .i64 a1_3, .int .i64 a1_4, .int .i64 a1_5, .int .i64 a1_6, .int .i64 a1_7] 85 rfl ?_; intro gb338 hg w32 hbox hb; have BK338 := am (hbox); have GW338 := am ((by rw [hg]; exact (below_size (bg1 HB.out GE337.out)) : w.heap.size ≤ gb338)); have GE338 := GW338; replace HB := am (below_step (bg1 HB.out GE337.out) hb); have NB337_338 := am ((by rw [hg]; exact Nat.ne_of_lt (blk_lt (pb BK337.out)) : gb337 ≠ gb338)); have NB338_337 := am (Ne.symm NB337_338.out); replace BK337 := am (blk_below (pb BK337.out) hb); clear hb hbox hg; have hnb33 := NB337_338.out; have hnc33 := NB338_337.out; obtain ⟨hcz34_0, hcz34_1, hcz34_2, hcz34_3, hcz34_4, hcz34_5, hcz34_6, hcz34_7⟩ := b8 BK337.out; obtain ⟨hfz34_0, hfz34_1, hfz34_2, hfz34_3, hfz34_4, hfz34_5, hfz34_6, hfz34_7⟩ := f8 BK337.out; obtain ⟨hcz35_0, hcz35_1, hcz35_2, hcz35_3, hcz35_4, hcz35_5, hcz35_6, hcz35_7⟩ := b8 BK338.out; obtain ⟨hfz35_0, hfz35_1, hfz35_2, hfz35_3, hfz35_4, hfz35_5, hfz35_6, hfz35_7⟩ := f8 BK338.out))
   go_ret
   exact (rq (bg2 HB.out GE337.out GE338.out))
 rw [if_pos c4] at H
 have c4b0 : (a0_1 == a1_1) = true := beq_iff_eq.mpr c4
 have c4b1 : (a0_1 != a1_1) = false := bne_eq_false_iff_eq.mpr c4
 clear c4
 by_cases c5 : a0_2 = a1_2
 rotate_left
 · rw [if_neg c5] at H
   have c5b0 : (a0_2 == a1_2) = false := beq_eq_false_iff_ne.mpr c5
   have c5b1 : (a0_2 != a1_2) = true := bne_iff_ne.mpr c5
   obtain rfl := Option.some.inj H
   go_enter Try.func63, Try.ntmps63
   go_wp2_with (first | (refine bx 2 #[.int .i64 a0_0, .int .i64 a0_1, .int .i64 a0_2, .int .i64 a0_3, .int .i64 a0_4, .int .i64 a0_5, .int .i64 a0_6, .int .i64 a0_7] 85 rfl ?_; intro gb337 hg w26 hbox hb; have BK337 := am (hbox); have GW337 := am ((by rw [hg]; exact (below_size (ph HB.out)) : w.heap.size ≤ gb337)); have GE337 := GW337; replace HB := am (below_step (ph HB.out) hb); clear hb hbox hg) | (refine bx 3 #[.int .i64 a1_0, .int .i64 a1_1, .int .i64 a1_2, .int .i64 a1_3, .int .i64 a1_4, .int .i64 a1_5, .int .i64 a1_6, .int .i64 a1_7] 85 rfl ?_; intro gb338 hg w27 hbox hb; have BK338 := am (hbox); have GW338 := am ((by rw [hg]; exact (below_size (bg1 HB.out GE337.out)) : w.heap.size ≤ gb338)); have GE338 := GW338; replace HB := am (below_step (bg1 HB.out GE337.out) hb); have NB337_338 := am ((by rw [hg]; exact Nat.ne_of_lt (blk_lt (pb BK337.out)) : gb337 ≠ gb338)); have NB338_337 := am (Ne.symm NB337_338.out); replace BK337 := am (blk_below (pb BK337.out) hb); clear hb hbox hg; have hnb28 := NB337_338.out; have hnc28 := NB338_337.out; obtain ⟨hcz29_0, hcz29_1, hcz29_2, hcz29_3, hcz29_4, hcz29_5, hcz29_6, hcz29_7⟩ := b8 BK337.out; obtain ⟨hfz29_0, hfz29_1, hfz29_2, hfz29_3, hfz29_4, hfz29_5, hfz29_6, hfz29_7⟩ := f8 BK337.out; obtain ⟨hcz30_0, hcz30_1, hcz30_2, hcz30_3, hcz30_4, hcz30_5, hcz30_6, hcz30_7⟩ := b8 BK338.out; obtain ⟨hfz30_0, hfz30_1, hfz30_2, hfz30_3, hfz30_4, hfz30_5, hfz30_6, hfz30_7⟩ := f8 BK338.out))
   go_ret
   exact (rq (bg2 HB.out GE337.out GE338.out))
 rw [if_pos c5] at H
 have c5b0 : (a0_2 == a1_2) = true := beq_iff_eq.mpr c5
 have c5b1 : (a0_2 != a1_2) = false := bne_eq_false_iff_eq.mpr c5
 clear c5
 by_cases c6 : a0_3 = a1_3
 rotate_left
 · rw [if_neg c6] at H
   have c6b0 : (a0_3 == a1_3) = false := beq_eq_false_iff_ne.mpr c6
   have c6b1 : (a0_3 != a1_3) = true := bne_iff_ne.mpr c6
   obtain rfl := Option.some.inj H
   go_enter Try.func63, Try.ntmps63
   go_wp2_with (first | (refine bx 2 #[.int .i64 a0_0, .int .i64 a0_1, .int .i64 a0_2, .int .i64 a0_3, .int .i64 a0_4, .int .i64 a0_5, .int .i64 a0_6, .int .i64 a0_7] 85 rfl ?_; intro gb337 hg w21 hbox hb; have BK337 := am (hbox); have GW337 := am ((by rw [hg]; exact (below_size (ph HB.out)) : w.heap.size ≤ gb337)); have GE337 := GW337; replace HB := am (below_step (ph HB.out) hb); clear hb hbox hg) | (refine bx 3 #[.int .i64 a1_0, .int .i64 a1_1, .int .i64 a1_2, .int .i64 a1_3, .int .i64 a1_4, .int .i64 a1_5, .int .i64 a1_6, .int .i64 a1_7] 85 rfl ?_; intro gb338 hg w22 hbox hb; have BK338 := am (hbox); have GW338 := am ((by rw [hg]; exact (below_size (bg1 HB.out GE337.out)) : w.heap.size ≤ gb338)); have GE338 := GW338; replace HB := am (below_step (bg1 HB.out GE337.out) hb); have NB337_338 := am ((by rw [hg]; exact Nat.ne_of_lt (blk_lt (pb BK337.out)) : gb337 ≠ gb338)); have NB338_337 := am (Ne.symm NB337_338.out); replace BK337 := am (blk_below (pb BK337.out) hb); clear hb hbox hg; have hnb23 := NB337_338.out; have hnc23 := NB338_337.out; obtain ⟨hcz24_0, hcz24_1, hcz24_2, hcz24_3, hcz24_4, hcz24_5, hcz24_6, hcz24_7⟩ := b8 BK337.out; obtain ⟨hfz24_0, hfz24_1, hfz24_2, hfz24_3, hfz24_4, hfz24_5, hfz24_6, hfz24_7⟩ := f8 BK337.out; obtain ⟨hcz25_0, hcz25_1, hcz25_2, hcz25_3, hcz25_4, hcz25_5, hcz25_6, hcz25_7⟩ := b8 BK338.out; obtain ⟨hfz25_0, hfz25_1, hfz25_2, hfz25_3, hfz25_4, hfz25_5, hfz25_6, hfz25_7⟩ := f8 BK338.out))
   go_ret
   exact (rq (bg2 HB.out GE337.out GE338.out))
 rw [if_pos c6] at H
 have c6b0 : (a0_3 == a1_3) = true := beq_iff_eq.mpr c6
 have c6b1 : (a0_3 != a1_3) = false := bne_eq_false_iff_eq.mpr c6
 clear c6
 replace H := Option.bind_eq_some_iff.mp H
 obtain ⟨t339, A70, H⟩ := H
 replace H : (if t339 = true then (some true) else (some false)) = some r := H
 have A7 := am A70
 clear A70
 by_cases c8 : t339 = true
 · subst c8
   have H1 : (some true) = some r := by rw [if_pos rfl] at H; exact H
   clear H
   have H := H1
   clear H1
   obtain rfl := Option.some.inj H
   go_enter Try.func63, Try.ntmps63
   go_wp2_with (first | (refine bx 2 #[.int .i64 a0_0, .int .i64 a0_1, .int .i64 a0_2, .int .i64 a0_3, .int .i64 a0_4, .int .i64 a0_5, .int .i64 a0_6, .int .i64 a0_7] 85 rfl ?_; intro gb337 hg w9 hbox hb; have BK337 := am (hbox); have GW337 := am ((by rw [hg]; exact (below_size (ph HB.out)) : w.heap.size ≤ gb337)); have GE337 := GW337; replace HB := am (below_step (ph HB.out) hb); clear hb hbox hg) | (refine bx 3 #[.int .i64 a1_0, .int .i64 a1_1, .int .i64 a1_2, .int .i64 a1_3, .int .i64 a1_4, .int .i64 a1_5, .int .i64 a1_6, .int .i64 a1_7] 85 rfl ?_; intro gb338 hg w10 hbox hb; have BK338 := am (hbox); have GW338 := am ((by rw [hg]; exact (below_size (bg1 HB.out GE337.out)) : w.heap.size ≤ gb338)); have GE338 := GW338; replace HB := am (below_step (bg1 HB.out GE337.out) hb); have NB337_338 := am ((by rw [hg]; exact Nat.ne_of_lt (blk_lt (pb BK337.out)) : gb337 ≠ gb338)); have NB338_337 := am (Ne.symm NB337_338.out); replace BK337 := am (blk_below (pb BK337.out) hb); clear hb hbox hg; have hnb11 := NB337_338.out; have hnc11 := NB338_337.out; obtain ⟨hcz12_0, hcz12_1, hcz12_2, hcz12_3, hcz12_4, hcz12_5, hcz12_6, hcz12_7⟩ := b8 BK337.out; obtain ⟨hfz12_0, hfz12_1, hfz12_2, hfz12_3, hfz12_4, hfz12_5, hfz12_6, hfz12_7⟩ := f8 BK337.out; obtain ⟨hcz13_0, hcz13_1, hcz13_2, hcz13_3, hcz13_4, hcz13_5, hcz13_6, hcz13_7⟩ := b8 BK338.out; obtain ⟨hfz13_0, hfz13_1, hfz13_2, hfz13_3, hfz13_4, hfz13_5, hfz13_6, hfz13_7⟩ := f8 BK338.out) | (refine gl 29 Try.func90 #[.agg #[.int .i64 a0_4, .int .i64 a0_5, .int .i64 a0_6, .int .i64 a0_7], .agg #[.int .i64 a1_4, .int .i64 a1_5, .int .i64 a1_6, .int .i64 a1_7]] rfl ?_; (with_reducible refine (laws_eqRec.calls a0_4 a0_5 a0_6 a0_7 a1_4 a1_5 a1_6 a1_7 true _ A7.out).mono ?_); rintro e w14 ⟨rfl, hb⟩; refine ⟨_, rfl, ?_⟩; replace BK337 := am (blk_below (pb BK337.out) hb); replace BK338 := am (blk_below (pb BK338.out) hb); replace HB := am (below_step (bg2 HB.out GE337.out GE338.out) hb); (try clear hb); (try clear hb2); (try clear hk); (try clear hi)))
   go_ret
   exact (rq (bg2 HB.out GE337.out GE338.out))
 replace c8 := Bool.eq_false_iff.mpr c8
 subst c8
 have H1 : (some false) = some r := by rw [if_neg (show ¬ (false = true) by decide)] at H; exact H
 clear H
 have H := H1
 clear H1
 obtain rfl := Option.some.inj H
 go_enter Try.func63, Try.ntmps63
 go_wp2_with (first | (refine bx 2 #[.int .i64 a0_0, .int .i64 a0_1, .int .i64 a0_2, .int .i64 a0_3, .int .i64 a0_4, .int .i64 a0_5, .int .i64 a0_6, .int .i64 a0_7] 85 rfl ?_; intro gb337 hg w15 hbox hb; have BK337 := am (hbox); have GW337 := am ((by rw [hg]; exact (below_size (ph HB.out)) : w.heap.size ≤ gb337)); have GE337 := GW337; replace HB := am (below_step (ph HB.out) hb); clear hb hbox hg) | (refine bx 3 #[.int .i64 a1_0, .int .i64 a1_1, .int .i64 a1_2, .int .i64 a1_3, .int .i64 a1_4, .int .i64 a1_5, .int .i64 a1_6, .int .i64 a1_7] 85 rfl ?_; intro gb338 hg w16 hbox hb; have BK338 := am (hbox); have GW338 := am ((by rw [hg]; exact (below_size (bg1 HB.out GE337.out)) : w.heap.size ≤ gb338)); have GE338 := GW338; replace HB := am (below_step (bg1 HB.out GE337.out) hb); have NB337_338 := am ((by rw [hg]; exact Nat.ne_of_lt (blk_lt (pb BK337.out)) : gb337 ≠ gb338)); have NB338_337 := am (Ne.symm NB337_338.out); replace BK337 := am (blk_below (pb BK337.out) hb); clear hb hbox hg; have hnb17 := NB337_338.out; have hnc17 := NB338_337.out; obtain ⟨hcz18_0, hcz18_1, hcz18_2, hcz18_3, hcz18_4, hcz18_5, hcz18_6, hcz18_7⟩ := b8 BK337.out; obtain ⟨hfz18_0, hfz18_1, hfz18_2, hfz18_3, hfz18_4, hfz18_5, hfz18_6, hfz18_7⟩ := f8 BK337.out; obtain ⟨hcz19_0, hcz19_1, hcz19_2, hcz19_3, hcz19_4, hcz19_5, hcz19_6, hcz19_7⟩ := b8 BK338.out; obtain ⟨hfz19_0, hfz19_1, hfz19_2, hfz19_3, hfz19_4, hfz19_5, hfz19_6, hfz19_7⟩ := f8 BK338.out) | (refine gl 29 Try.func90 #[.agg #[.int .i64 a0_4, .int .i64 a0_5, .int .i64 a0_6, .int .i64 a0_7], .agg #[.int .i64 a1_4, .int .i64 a1_5, .int .i64 a1_6, .int .i64 a1_7]] rfl ?_; (with_reducible refine (laws_eqRec.calls a0_4 a0_5 a0_6 a0_7 a1_4 a1_5 a1_6 a1_7 false _ A7.out).mono ?_); rintro e w20 ⟨rfl, hb⟩; refine ⟨_, rfl, ?_⟩; replace BK337 := am (blk_below (pb BK337.out) hb); replace BK338 := am (blk_below (pb BK338.out) hb); replace HB := am (below_step (bg2 HB.out GE337.out GE338.out) hb); (try clear hb); (try clear hb2); (try clear hk); (try clear hi)))
 go_ret
 exact (rq (bg2 HB.out GE337.out GE338.out))
def laws_eqStepS.l0 : Nat → List (S85) → List (S85) → Int → Option (Bool)
 | 0, _, _, _ => none
 | k + 1, x0, x1, x5 => if x5 < (x0.length : Int) then (if 0 ≤ x5 then (if x5 < (x1.length : Int) then ((laws_eqStep.f ((rd_T85 x0 x5).f0) ((rd_T85 x0 x5).f1) ((rd_T85 x0 x5).f2) ((rd_T85 x0 x5).f3) ((rd_T85 x0 x5).f4.f0) ((rd_T85 x0 x5).f4.f1) ((rd_T85 x0 x5).f4.f2) ((rd_T85 x0 x5).f4.f3) ((rd_T85 x1 x5).f0) ((rd_T85 x1 x5).f1) ((rd_T85 x1 x5).f2) ((rd_T85 x1 x5).f3) ((rd_T85 x1 x5).f4.f0) ((rd_T85 x1 x5).f4.f1) ((rd_T85 x1 x5).f4.f2) ((rd_T85 x1 x5).f4.f3)).bind fun t342 => (if t342 = true then (laws_eqStepS.l0 k x0 x1 (wrap64 (x5 + 1))) else (some false))) else (none)) else (none)) else (some true)
def laws_eqStepS.f (k : Nat) (l0 : List (S85)) (l1 : List (S85)) : Option (Bool) := if (l0.length : Int) = (l1.length : Int) then (laws_eqStepS.l0 k l0 l1 0) else (some false)
theorem laws_eqStepS.mono_l : ∀ k, (∀ y0 y1 y2, LeO (laws_eqStepS.l0 k y0 y1 y2) (laws_eqStepS.l0 (k + 1) y0 y1 y2))
 | 0 => fun _ _ _ r h => by simp [laws_eqStepS.l0] at h
 | k + 1 => by
  have ih0 := laws_eqStepS.mono_l k
  · intro y0 y1 y2
    unfold laws_eqStepS.l0
    repeat' first
    | (with_reducible exact ih0 _ _ _)
    | (with_reducible exact LeO.refl _)
    | (with_reducible exact LeO.none _)
    | (with_reducible refine LeO.ite ?_ ?_)
    | (with_reducible refine LeO.bind ?_ (fun _ => ?_))
    | exact ih0 _ _ _
    | exact LeO.none _
    | refine LeO.ite ?_ ?_
    | refine LeO.bind ?_ (fun _ => ?_)
theorem laws_eqStepS.mono : ∀ a0 a1 k, LeO (laws_eqStepS.f k a0 a1) (laws_eqStepS.f (k + 1) a0 a1) := by
 intro a0 a1 k
 have ih0 := laws_eqStepS.mono_l k
 unfold laws_eqStepS.f
 repeat' first
  | (with_reducible exact ih0 _ _ _)
  | (with_reducible exact LeO.refl _)
  | (with_reducible exact LeO.none _)
  | (with_reducible refine LeO.ite ?_ ?_)
  | (with_reducible refine LeO.bind ?_ (fun _ => ?_))
  | exact ih0 _ _ _
  | exact LeO.none _
  | refine LeO.ite ?_ ?_
  | refine LeO.bind ?_ (fun _ => ?_)
def laws_eqStepS.T6 : Bool × List (List Nat × List Nat) := (true, [([], []), ([], []), ([0, 1], [0, 1]), ([2], [2]), ([], []), ([], []), ([4, 5], [4, 5]), ([6], [6]), ([3, 7], [3, 7]), ([8], [8])])
def laws_eqStepS.B6 : List Nat := [0, 0, 3, 7, 0, 0, 48, 112, 255, 511]
theorem laws_eqStepS.tab6 : rtab .any (opsOf Try.f30 6) = laws_eqStepS.T6 := by kernel_rfl
theorem laws_eqStepS.bits6 : waitsOk laws_eqStepS.T6.2 laws_eqStepS.B6 = true := by kernel_rfl
set_option maxHeartbeats 8000000 in
set_option maxRecDepth 100000 in
theorem laws_eqStepS.calls (k : Nat) (A0 : Option Addr) (c0 : Nat) (l0 : List (S85)) (A1 : Option Addr) (c1 : Nat) (l1 : List (S85)) (r : Bool) (w : World) (hr0 : Kd.C k85 w A0 l0.length l0) (hc0 : l0.length ≤ c0) (hr1 : Kd.C k85 w A1 l1.length l1) (hc1 : l1.length ≤ c1) (h : laws_eqStepS.f k l0 l1 = some r) :
 Calls Try.prog 30 #[.slice A0 l0.length c0, .slice A1 l1.length c1] w fun e w' => e = .returned (.bool r) ∧ Below w.heap.size w w' := by
 have hu85 := Try.underlying85
 have HR0 := am hr0
 have HC0 := am hc0
 clear hr0 hc0
 have HR1 := am hr1
 have HC1 := am hc1
 clear hr1 hc1
 have HB := am (Below.refl w.heap.size w)
 have H : (if (l0.length : Int) = (l1.length : Int) then (laws_eqStepS.l0 k l0 l1 0) else (some false)) = some r := h
 clear h
 by_cases c3 : (l0.length : Int) = (l1.length : Int)
 rotate_left
 · rw [if_neg c3] at H
   have c3b0 : ((l0.length : Int) == (l1.length : Int)) = false := beq_eq_false_iff_ne.mpr c3
   have c3b1 : ((l0.length : Int) != (l1.length : Int)) = true := bne_iff_ne.mpr c3
   have c3b2 : (l0.length == l1.length) = false := by first | simpa using c3 | (simp at c3 ⊢; omega)
   obtain rfl := Option.some.inj H
   go_enter Try.func30, Try.ntmps30
   go_wp2
   go_ret
   exact (rq (ph HB.out))
 rw [if_pos c3] at H
 have c3b0 : ((l0.length : Int) == (l1.length : Int)) = true := beq_iff_eq.mpr c3
 have c3b1 : ((l0.length : Int) != (l1.length : Int)) = false := bne_eq_false_iff_eq.mpr c3
 have c3b2 : (l0.length == l1.length) = true := by first | simpa using c3 | (simp at c3 ⊢; omega)
 clear c3
 have H' := am H
 clear H
 go_enter Try.func30, Try.ntmps30
 go_wp2
 go_loopg [5] k (fun kq v5 w' => ∃ (x5_1 : Int), v5 = .int .i64 x5_1 ∧ Aside0 (laws_eqStepS.l0 kq l0 l1 x5_1 = some r) ∧ Aside0 (kq ≤ k) ∧ Aside0 (Below w.heap.size w w'))
 case atStart => exact ⟨(0), rf, H', ⟨Nat.le_refl _⟩, ⟨ph HB.out⟩⟩
 case round =>
  clear H'
  obtain ⟨x5_1, rfl, HA, HK1, HB⟩ := hrel
  cases gk with
  | zero => exact absurd HA.out (by simp [laws_eqStepS.l0])
  | succ k1 =>
   have H := HA.out
   clear HA
   simp only [laws_eqStepS.l0] at H
   by_cases c4 : x5_1 < (l0.length : Int)
   rotate_left
   · rw [if_neg c4] at H
     have c4b0 := decide_eq_false c4
     clear c4
     obtain rfl := Option.some.inj H
     go_wp2
     go_ret
     exact (rq (ph HB.out))
   rw [if_pos c4] at H
   have c4b0 := decide_eq_true c4
   clear c4
   by_cases c5 : 0 ≤ x5_1
   rotate_left
   · rw [if_neg c5] at H
     exact absurd H (by simp)
   rw [if_pos c5] at H
   have c5b0 := decide_eq_true c5
   clear c5
   by_cases c6 : x5_1 < (l1.length : Int)
   rotate_left
   · rw [if_neg c6] at H
     exact absurd H (by simp)
   rw [if_pos c6] at H
   have c6b0 := decide_eq_true c6
   clear c6
   replace H := Option.bind_eq_some_iff.mp H
   obtain ⟨t342, A70, H⟩ := H
   replace H : (if t342 = true then (laws_eqStepS.l0 k1 l0 l1 (wrap64 (x5_1 + 1))) else (some false)) = some r := H
   have A7 := am A70
   clear A70
   by_cases c8 : t342 = true
   rotate_left
   · replace c8 := Bool.eq_false_iff.mpr c8
     subst c8
     have H1 : (some false) = some r := by rw [if_neg (show ¬ (false = true) by decide)] at H; exact H
     clear H
     have H := H1
     clear H1
     obtain rfl := Option.some.inj H
     try go_wp2
     replace HB := am (below_drew1 HB.out)
     have p340 : 0 ≤ (x5_1 : Int) := ofb
     have q340 : x5_1 < (l0.length : Int) := ofb
     obtain ⟨ad340, e340, hx340_0, hx340_1, hx340_2, hx340_3, hx340_4, hx340_5, hx340_6, hx340_7⟩ := at_T85 HR0.out x5_1 p340 q340
     have hw340_7 := hx340_7
     have hw340_6 := hx340_6
     have hw340_5 := hx340_5
     have hw340_4 := hx340_4
     have hw340_3 := hx340_3
     have hw340_2 := hx340_2
     have hw340_1 := hx340_1
     have hw340_0 := hx340_0
     cases e340
     replace hx340_0 := up HB.out hx340_0
     replace hx340_1 := up HB.out hx340_1
     replace hx340_2 := up HB.out hx340_2
     replace hx340_3 := up HB.out hx340_3
     replace hx340_4 := up HB.out hx340_4
     replace hx340_5 := up HB.out hx340_5
     replace hx340_6 := up HB.out hx340_6
     replace hx340_7 := up HB.out hx340_7
     replace p340 := eq_true p340
     replace q340 := eq_true q340
     have p341 : 0 ≤ (x5_1 : Int) := ofb
     have q341 : x5_1 < (l1.length : Int) := ofb
     obtain ⟨ad341, e341, hx341_0, hx341_1, hx341_2, hx341_3, hx341_4, hx341_5, hx341_6, hx341_7⟩ := at_T85 HR1.out x5_1 p341 q341
     have hw341_7 := hx341_7
     have hw341_6 := hx341_6
     have hw341_5 := hx341_5
     have hw341_4 := hx341_4
     have hw341_3 := hx341_3
     have hw341_2 := hx341_2
     have hw341_1 := hx341_1
     have hw341_0 := hx341_0
     cases e341
     replace hx341_0 := up HB.out hx341_0
     replace hx341_1 := up HB.out hx341_1
     replace hx341_2 := up HB.out hx341_2
     replace hx341_3 := up HB.out hx341_3
     replace hx341_4 := up HB.out hx341_4
     replace hx341_5 := up HB.out hx341_5
     replace hx341_6 := up HB.out hx341_6
     replace hx341_7 := up HB.out hx341_7
     replace p341 := eq_true p341
     replace q341 := eq_true q341
     refine start_ (n := 10) (S := fun w' => w'.cell? (ad340.add ((x5_1).toNat * 8)) = some (.int .i64 ((rd_T85 l0 x5_1).f0)) ∧ w'.cell? ⟨(ad340.add ((x5_1).toNat * 8)).block, (ad340.add ((x5_1).toNat * 8)).off + 1, none⟩ = some (.int .i64 ((rd_T85 l0 x5_1).f1)) ∧ w'.cell? ⟨(ad340.add ((x5_1).toNat * 8)).block, (ad340.add ((x5_1).toNat * 8)).off + 2, none⟩ = some (.int .i64 ((rd_T85 l0 x5_1).f2)) ∧ w'.cell? ⟨(ad340.add ((x5_1).toNat * 8)).block, (ad340.add ((x5_1).toNat * 8)).off + 3, none⟩ = some (.int .i64 ((rd_T85 l0 x5_1).f3)) ∧ w'.cell? ⟨(ad340.add ((x5_1).toNat * 8)).block, (ad340.add ((x5_1).toNat * 8)).off + 4, none⟩ = some (.int .i64 ((rd_T85 l0 x5_1).f4.f0)) ∧ w'.cell? ⟨(ad340.add ((x5_1).toNat * 8)).block, (ad340.add ((x5_1).toNat * 8)).off + 5, none⟩ = some (.int .i64 ((rd_T85 l0 x5_1).f4.f1)) ∧ w'.cell? ⟨(ad340.add ((x5_1).toNat * 8)).block, (ad340.add ((x5_1).toNat * 8)).off + 6, none⟩ = some (.int .i64 ((rd_T85 l0 x5_1).f4.f2)) ∧ w'.cell? ⟨(ad340.add ((x5_1).toNat * 8)).block, (ad340.add ((x5_1).toNat * 8)).off + 7, none⟩ = some (.int .i64 ((rd_T85 l0 x5_1).f4.f3)) ∧ w'.cell? (ad341.add ((x5_1).toNat * 8)) = some (.int .i64 ((rd_T85 l1 x5_1).f0)) ∧ w'.cell? ⟨(ad341.add ((x5_1).toNat * 8)).block, (ad341.add ((x5_1).toNat * 8)).off + 1, none⟩ = some (.int .i64 ((rd_T85 l1 x5_1).f1)) ∧ w'.cell? ⟨(ad341.add ((x5_1).toNat * 8)).block, (ad341.add ((x5_1).toNat * 8)).off + 2, none⟩ = some (.int .i64 ((rd_T85 l1 x5_1).f2)) ∧ w'.cell? ⟨(ad341.add ((x5_1).toNat * 8)).block, (ad341.add ((x5_1).toNat * 8)).off + 3, none⟩ = some (.int .i64 ((rd_T85 l1 x5_1).f3)) ∧ w'.cell? ⟨(ad341.add ((x5_1).toNat * 8)).block, (ad341.add ((x5_1).toNat * 8)).off + 4, none⟩ = some (.int .i64 ((rd_T85 l1 x5_1).f4.f0)) ∧ w'.cell? ⟨(ad341.add ((x5_1).toNat * 8)).block, (ad341.add ((x5_1).toNat * 8)).off + 5, none⟩ = some (.int .i64 ((rd_T85 l1 x5_1).f4.f1)) ∧ w'.cell? ⟨(ad341.add ((x5_1).toNat * 8)).block, (ad341.add ((x5_1).toNat * 8)).off + 6, none⟩ = some (.int .i64 ((rd_T85 l1 x5_1).f4.f2)) ∧ w'.cell? ⟨(ad341.add ((x5_1).toNat * 8)).block, (ad341.add ((x5_1).toNat * 8)).off + 7, none⟩ = some (.int .i64 ((rd_T85 l1 x5_1).f4.f3))) (ds := []) #[false, false, false, false, false, false, false, false, false, false] (by kernel_rfl) rfl rfl ⟨((HB.out.cell (World.block_lt_of_cell? w _ hw340_0)).trans hw340_0), ((HB.out.cell (World.block_lt_of_cell? w _ hw340_1)).trans hw340_1), ((HB.out.cell (World.block_lt_of_cell? w _ hw340_2)).trans hw340_2), ((HB.out.cell (World.block_lt_of_cell? w _ hw340_3)).trans hw340_3), ((HB.out.cell (World.block_lt_of_cell? w _ hw340_4)).trans hw340_4), ((HB.out.cell (World.block_lt_of_cell? w _ hw340_5)).trans hw340_5), ((HB.out.cell (World.block_lt_of_cell? w _ hw340_6)).trans hw340_6), ((HB.out.cell (World.block_lt_of_cell? w _ hw340_7)).trans hw340_7), ((HB.out.cell (World.block_lt_of_cell? w _ hw341_0)).trans hw341_0), ((HB.out.cell (World.block_lt_of_cell? w _ hw341_1)).trans hw341_1), ((HB.out.cell (World.block_lt_of_cell? w _ hw341_2)).trans hw341_2), ((HB.out.cell (World.block_lt_of_cell? w _ hw341_3)).trans hw341_3), ((HB.out.cell (World.block_lt_of_cell? w _ hw341_4)).trans hw341_4), ((HB.out.cell (World.block_lt_of_cell? w _ hw341_5)).trans hw341_5), ((HB.out.cell (World.block_lt_of_cell? w _ hw341_6)).trans hw341_6), ((HB.out.cell (World.block_lt_of_cell? w _ hw341_7)).trans hw341_7)⟩ (fun hHeld => ?_); refine with_tabW laws_eqStepS.tab6 laws_eqStepS.bits6 (fun HT_ HW_ => ?_)
     generalize wr.drew = w11 at HB hx340_0 hx340_1 hx340_2 hx340_3 hx340_4 hx340_5 hx340_6 hx340_7 hx341_0 hx341_1 hx341_2 hx341_3 hx341_4 hx341_5 hx341_6 hx341_7 hHeld ⊢
     refine pj_ 0 17 #[true, false, false, false, false, false, false, false, false, false] rfl rfl (any_of HT_.out (by kernel_rfl)) (fun _ _ _ h => h) ?_
     refine pj_ 1 18 #[true, true, false, false, false, false, false, false, false, false] rfl rfl (any_of HT_.out (by kernel_rfl)) (fun _ _ _ h => h) ?_
     refine pj_ 2 19 #[true, true, true, false, false, false, false, false, false, false] rfl rfl (any_of HT_.out (by kernel_rfl)) (fun _ _ _ h => h) ?_
     refine pj_ 4 21 #[true, true, true, false, true, false, false, false, false, false] rfl rfl (any_of HT_.out (by kernel_rfl)) (fun _ _ _ h => h) ?_
     refine pj_ 5 22 #[true, true, true, false, true, true, false, false, false, false] rfl rfl (any_of HT_.out (by kernel_rfl)) (fun _ _ _ h => h) ?_
     refine pj_ 6 23 #[true, true, true, false, true, true, true, false, false, false] rfl rfl (any_of HT_.out (by kernel_rfl)) (fun _ _ _ h => h) ?_
     refine pm_ 3 20 #[true, true, true, true, true, true, true, false, false, false] rfl rfl (take_ofW HT_.out HW_.out (by kernel_rfl)) (fun _ _ _ h => h) hHeld ?_
     refine pm_ 7 24 #[true, true, true, true, true, true, true, true, false, false] rfl rfl (take_ofW HT_.out HW_.out (by kernel_rfl)) (fun _ _ _ h => h) hHeld ?_
     refine one_ (i := 8) (N := some 25) #[true, true, true, true, true, true, true, true, true, false] rfl rfl (one_of HT_.out (by kernel_rfl)) (by decide) (fun K hK => ?_)
     refine goes_ Try.func63 (by kernel_rfl) rfl #[.agg #[.int .i64 ((rd_T85 l0 x5_1).f0), .int .i64 ((rd_T85 l0 x5_1).f1), .int .i64 ((rd_T85 l0 x5_1).f2), .int .i64 ((rd_T85 l0 x5_1).f3), .int .i64 ((rd_T85 l0 x5_1).f4.f0), .int .i64 ((rd_T85 l0 x5_1).f4.f1), .int .i64 ((rd_T85 l0 x5_1).f4.f2), .int .i64 ((rd_T85 l0 x5_1).f4.f3)], .agg #[.int .i64 ((rd_T85 l1 x5_1).f0), .int .i64 ((rd_T85 l1 x5_1).f1), .int .i64 ((rd_T85 l1 x5_1).f2), .int .i64 ((rd_T85 l1 x5_1).f3), .int .i64 ((rd_T85 l1 x5_1).f4.f0), .int .i64 ((rd_T85 l1 x5_1).f4.f1), .int .i64 ((rd_T85 l1 x5_1).f4.f2), .int .i64 ((rd_T85 l1 x5_1).f4.f3)]] (by rfl) rfl rfl (by (try simp only [List.map_toArray, List.map_cons, List.map_nil]); first | done | rfl | (simp only [List.length_drop, List.length_take]; rfl)) ?_
     with_reducible refine (laws_eqStep.calls ((rd_T85 l0 x5_1).f0) ((rd_T85 l0 x5_1).f1) ((rd_T85 l0 x5_1).f2) ((rd_T85 l0 x5_1).f3) ((rd_T85 l0 x5_1).f4.f0) ((rd_T85 l0 x5_1).f4.f1) ((rd_T85 l0 x5_1).f4.f2) ((rd_T85 l0 x5_1).f4.f3) ((rd_T85 l1 x5_1).f0) ((rd_T85 l1 x5_1).f1) ((rd_T85 l1 x5_1).f2) ((rd_T85 l1 x5_1).f3) ((rd_T85 l1 x5_1).f4.f0) ((rd_T85 l1 x5_1).f4.f1) ((rd_T85 l1 x5_1).f4.f2) ((rd_T85 l1 x5_1).f4.f3) false _ A7.out).mono ?_
     rintro e w12 ⟨rfl, hb⟩
     refine ⟨_, rfl, ?_⟩
     replace HB := am (below_step (ph HB.out) hb)
     (try clear hb)
     (try clear hb2)
     (try clear hk)
     (try clear hi)
     refine hK.out _ _ ⟨((HB.out.cell (World.block_lt_of_cell? w _ hw340_0)).trans hw340_0), ((HB.out.cell (World.block_lt_of_cell? w _ hw340_1)).trans hw340_1), ((HB.out.cell (World.block_lt_of_cell? w _ hw340_2)).trans hw340_2), ((HB.out.cell (World.block_lt_of_cell? w _ hw340_3)).trans hw340_3), ((HB.out.cell (World.block_lt_of_cell? w _ hw340_4)).trans hw340_4), ((HB.out.cell (World.block_lt_of_cell? w _ hw340_5)).trans hw340_5), ((HB.out.cell (World.block_lt_of_cell? w _ hw340_6)).trans hw340_6), ((HB.out.cell (World.block_lt_of_cell? w _ hw340_7)).trans hw340_7), ((HB.out.cell (World.block_lt_of_cell? w _ hw341_0)).trans hw341_0), ((HB.out.cell (World.block_lt_of_cell? w _ hw341_1)).trans hw341_1), ((HB.out.cell (World.block_lt_of_cell? w _ hw341_2)).trans hw341_2), ((HB.out.cell (World.block_lt_of_cell? w _ hw341_3)).trans hw341_3), ((HB.out.cell (World.block_lt_of_cell? w _ hw341_4)).trans hw341_4), ((HB.out.cell (World.block_lt_of_cell? w _ hw341_5)).trans hw341_5), ((HB.out.cell (World.block_lt_of_cell? w _ hw341_6)).trans hw341_6), ((HB.out.cell (World.block_lt_of_cell? w _ hw341_7)).trans hw341_7)⟩ (fun hHeld => ?_)
     clear hK K
     refine norm_ (a' := ?_) ?_ ?_
     rotate_left
     · show Act.put _ (some 25) _ = _
       simp only [Act.put, List.setIfInBounds_toArray, List.set_cons_zero, List.set_cons_succ, i64_w, i32_w]
       rfl
     refine pj_ 9 26 #[true, true, true, true, true, true, true, true, true, true] rfl rfl (any_of HT_.out (by kernel_rfl)) (fun _ _ _ h => h) ?_
     refine done_ (done_of HT_.out (by kernel_rfl)) ?_
     try go_wp2
     go_ret
     exact (rq (ph HB.out))
   subst c8
   have H1 : (laws_eqStepS.l0 k1 l0 l1 (wrap64 (x5_1 + 1))) = some r := by rw [if_pos rfl] at H; exact H
   clear H
   have H := H1
   clear H1
   have H' := am H
   clear H
   try go_wp2
   replace HB := am (below_drew1 HB.out)
   have p340 : 0 ≤ (x5_1 : Int) := ofb
   have q340 : x5_1 < (l0.length : Int) := ofb
   obtain ⟨ad340, e340, hx340_0, hx340_1, hx340_2, hx340_3, hx340_4, hx340_5, hx340_6, hx340_7⟩ := at_T85 HR0.out x5_1 p340 q340
   have hw340_7 := hx340_7
   have hw340_6 := hx340_6
   have hw340_5 := hx340_5
   have hw340_4 := hx340_4
   have hw340_3 := hx340_3
   have hw340_2 := hx340_2
   have hw340_1 := hx340_1
   have hw340_0 := hx340_0
   cases e340
   replace hx340_0 := up HB.out hx340_0
   replace hx340_1 := up HB.out hx340_1
   replace hx340_2 := up HB.out hx340_2
   replace hx340_3 := up HB.out hx340_3
   replace hx340_4 := up HB.out hx340_4
   replace hx340_5 := up HB.out hx340_5
   replace hx340_6 := up HB.out hx340_6
   replace hx340_7 := up HB.out hx340_7
   replace p340 := eq_true p340
   replace q340 := eq_true q340
   have p341 : 0 ≤ (x5_1 : Int) := ofb
   have q341 : x5_1 < (l1.length : Int) := ofb
   obtain ⟨ad341, e341, hx341_0, hx341_1, hx341_2, hx341_3, hx341_4, hx341_5, hx341_6, hx341_7⟩ := at_T85 HR1.out x5_1 p341 q341
   have hw341_7 := hx341_7
   have hw341_6 := hx341_6
   have hw341_5 := hx341_5
   have hw341_4 := hx341_4
   have hw341_3 := hx341_3
   have hw341_2 := hx341_2
   have hw341_1 := hx341_1
   have hw341_0 := hx341_0
   cases e341
   replace hx341_0 := up HB.out hx341_0
   replace hx341_1 := up HB.out hx341_1
   replace hx341_2 := up HB.out hx341_2
   replace hx341_3 := up HB.out hx341_3
   replace hx341_4 := up HB.out hx341_4
   replace hx341_5 := up HB.out hx341_5
   replace hx341_6 := up HB.out hx341_6
   replace hx341_7 := up HB.out hx341_7
   replace p341 := eq_true p341
   replace q341 := eq_true q341
   refine start_ (n := 10) (S := fun w' => w'.cell? (ad340.add ((x5_1).toNat * 8)) = some (.int .i64 ((rd_T85 l0 x5_1).f0)) ∧ w'.cell? ⟨(ad340.add ((x5_1).toNat * 8)).block, (ad340.add ((x5_1).toNat * 8)).off + 1, none⟩ = some (.int .i64 ((rd_T85 l0 x5_1).f1)) ∧ w'.cell? ⟨(ad340.add ((x5_1).toNat * 8)).block, (ad340.add ((x5_1).toNat * 8)).off + 2, none⟩ = some (.int .i64 ((rd_T85 l0 x5_1).f2)) ∧ w'.cell? ⟨(ad340.add ((x5_1).toNat * 8)).block, (ad340.add ((x5_1).toNat * 8)).off + 3, none⟩ = some (.int .i64 ((rd_T85 l0 x5_1).f3)) ∧ w'.cell? ⟨(ad340.add ((x5_1).toNat * 8)).block, (ad340.add ((x5_1).toNat * 8)).off + 4, none⟩ = some (.int .i64 ((rd_T85 l0 x5_1).f4.f0)) ∧ w'.cell? ⟨(ad340.add ((x5_1).toNat * 8)).block, (ad340.add ((x5_1).toNat * 8)).off + 5, none⟩ = some (.int .i64 ((rd_T85 l0 x5_1).f4.f1)) ∧ w'.cell? ⟨(ad340.add ((x5_1).toNat * 8)).block, (ad340.add ((x5_1).toNat * 8)).off + 6, none⟩ = some (.int .i64 ((rd_T85 l0 x5_1).f4.f2)) ∧ w'.cell? ⟨(ad340.add ((x5_1).toNat * 8)).block, (ad340.add ((x5_1).toNat * 8)).off + 7, none⟩ = some (.int .i64 ((rd_T85 l0 x5_1).f4.f3)) ∧ w'.cell? (ad341.add ((x5_1).toNat * 8)) = some (.int .i64 ((rd_T85 l1 x5_1).f0)) ∧ w'.cell? ⟨(ad341.add ((x5_1).toNat * 8)).block, (ad341.add ((x5_1).toNat * 8)).off + 1, none⟩ = some (.int .i64 ((rd_T85 l1 x5_1).f1)) ∧ w'.cell? ⟨(ad341.add ((x5_1).toNat * 8)).block, (ad341.add ((x5_1).toNat * 8)).off + 2, none⟩ = some (.int .i64 ((rd_T85 l1 x5_1).f2)) ∧ w'.cell? ⟨(ad341.add ((x5_1).toNat * 8)).block, (ad341.add ((x5_1).toNat * 8)).off + 3, none⟩ = some (.int .i64 ((rd_T85 l1 x5_1).f3)) ∧ w'.cell? ⟨(ad341.add ((x5_1).toNat * 8)).block, (ad341.add ((x5_1).toNat * 8)).off + 4, none⟩ = some (.int .i64 ((rd_T85 l1 x5_1).f4.f0)) ∧ w'.cell? ⟨(ad341.add ((x5_1).toNat * 8)).block, (ad341.add ((x5_1).toNat * 8)).off + 5, none⟩ = some (.int .i64 ((rd_T85 l1 x5_1).f4.f1)) ∧ w'.cell? ⟨(ad341.add ((x5_1).toNat * 8)).block, (ad341.add ((x5_1).toNat * 8)).off + 6, none⟩ = some (.int .i64 ((rd_T85 l1 x5_1).f4.f2)) ∧ w'.cell? ⟨(ad341.add ((x5_1).toNat * 8)).block, (ad341.add ((x5_1).toNat * 8)).off + 7, none⟩ = some (.int .i64 ((rd_T85 l1 x5_1).f4.f3))) (ds := []) #[false, false, false, false, false, false, false, false, false, false] (by kernel_rfl) rfl rfl ⟨((HB.out.cell (World.block_lt_of_cell? w _ hw340_0)).trans hw340_0), ((HB.out.cell (World.block_lt_of_cell? w _ hw340_1)).trans hw340_1), ((HB.out.cell (World.block_lt_of_cell? w _ hw340_2)).trans hw340_2), ((HB.out.cell (World.block_lt_of_cell? w _ hw340_3)).trans hw340_3), ((HB.out.cell (World.block_lt_of_cell? w _ hw340_4)).trans hw340_4), ((HB.out.cell (World.block_lt_of_cell? w _ hw340_5)).trans hw340_5), ((HB.out.cell (World.block_lt_of_cell? w _ hw340_6)).trans hw340_6), ((HB.out.cell (World.block_lt_of_cell? w _ hw340_7)).trans hw340_7), ((HB.out.cell (World.block_lt_of_cell? w _ hw341_0)).trans hw341_0), ((HB.out.cell (World.block_lt_of_cell? w _ hw341_1)).trans hw341_1), ((HB.out.cell (World.block_lt_of_cell? w _ hw341_2)).trans hw341_2), ((HB.out.cell (World.block_lt_of_cell? w _ hw341_3)).trans hw341_3), ((HB.out.cell (World.block_lt_of_cell? w _ hw341_4)).trans hw341_4), ((HB.out.cell (World.block_lt_of_cell? w _ hw341_5)).trans hw341_5), ((HB.out.cell (World.block_lt_of_cell? w _ hw341_6)).trans hw341_6), ((HB.out.cell (World.block_lt_of_cell? w _ hw341_7)).trans hw341_7)⟩ (fun hHeld => ?_); refine with_tabW laws_eqStepS.tab6 laws_eqStepS.bits6 (fun HT_ HW_ => ?_)
   generalize wr.drew = w9 at HB hx340_0 hx340_1 hx340_2 hx340_3 hx340_4 hx340_5 hx340_6 hx340_7 hx341_0 hx341_1 hx341_2 hx341_3 hx341_4 hx341_5 hx341_6 hx341_7 hHeld ⊢
   refine pj_ 0 17 #[true, false, false, false, false, false, false, false, false, false] rfl rfl (any_of HT_.out (by kernel_rfl)) (fun _ _ _ h => h) ?_
   refine pj_ 1 18 #[true, true, false, false, false, false, false, false, false, false] rfl rfl (any_of HT_.out (by kernel_rfl)) (fun _ _ _ h => h) ?_
   refine pj_ 2 19 #[true, true, true, false, false, false, false, false, false, false] rfl rfl (any_of HT_.out (by kernel_rfl)) (fun _ _ _ h => h) ?_
   refine pj_ 4 21 #[true, true, true, false, true, false, false, false, false, false] rfl rfl (any_of HT_.out (by kernel_rfl)) (fun _ _ _ h => h) ?_
   refine pj_ 5 22 #[true, true, true, false, true, true, false, false, false, false] rfl rfl (any_of HT_.out (by kernel_rfl)) (fun _ _ _ h => h) ?_
   refine pj_ 6 23 #[true, true, true, false, true, true, true, false, false, false] rfl rfl (any_of HT_.out (by kernel_rfl)) (fun _ _ _ h => h) ?_
   refine pm_ 3 20 #[true, true, true, true, true, true, true, false, false, false] rfl rfl (take_ofW HT_.out HW_.out (by kernel_rfl)) (fun _ _ _ h => h) hHeld ?_
   refine pm_ 7 24 #[true, true, true, true, true, true, true, true, false, false] rfl rfl (take_ofW HT_.out HW_.out (by kernel_rfl)) (fun _ _ _ h => h) hHeld ?_
   refine one_ (i := 8) (N := some 25) #[true, true, true, true, true, true, true, true, true, false] rfl rfl (one_of HT_.out (by kernel_rfl)) (by decide) (fun K hK => ?_)
   refine goes_ Try.func63 (by kernel_rfl) rfl #[.agg #[.int .i64 ((rd_T85 l0 x5_1).f0), .int .i64 ((rd_T85 l0 x5_1).f1), .int .i64 ((rd_T85 l0 x5_1).f2), .int .i64 ((rd_T85 l0 x5_1).f3), .int .i64 ((rd_T85 l0 x5_1).f4.f0), .int .i64 ((rd_T85 l0 x5_1).f4.f1), .int .i64 ((rd_T85 l0 x5_1).f4.f2), .int .i64 ((rd_T85 l0 x5_1).f4.f3)], .agg #[.int .i64 ((rd_T85 l1 x5_1).f0), .int .i64 ((rd_T85 l1 x5_1).f1), .int .i64 ((rd_T85 l1 x5_1).f2), .int .i64 ((rd_T85 l1 x5_1).f3), .int .i64 ((rd_T85 l1 x5_1).f4.f0), .int .i64 ((rd_T85 l1 x5_1).f4.f1), .int .i64 ((rd_T85 l1 x5_1).f4.f2), .int .i64 ((rd_T85 l1 x5_1).f4.f3)]] (by rfl) rfl rfl (by (try simp only [List.map_toArray, List.map_cons, List.map_nil]); first | done | rfl | (simp only [List.length_drop, List.length_take]; rfl)) ?_
   with_reducible refine (laws_eqStep.calls ((rd_T85 l0 x5_1).f0) ((rd_T85 l0 x5_1).f1) ((rd_T85 l0 x5_1).f2) ((rd_T85 l0 x5_1).f3) ((rd_T85 l0 x5_1).f4.f0) ((rd_T85 l0 x5_1).f4.f1) ((rd_T85 l0 x5_1).f4.f2) ((rd_T85 l0 x5_1).f4.f3) ((rd_T85 l1 x5_1).f0) ((rd_T85 l1 x5_1).f1) ((rd_T85 l1 x5_1).f2) ((rd_T85 l1 x5_1).f3) ((rd_T85 l1 x5_1).f4.f0) ((rd_T85 l1 x5_1).f4.f1) ((rd_T85 l1 x5_1).f4.f2) ((rd_T85 l1 x5_1).f4.f3) true _ A7.out).mono ?_
   rintro e w10 ⟨rfl, hb⟩
   refine ⟨_, rfl, ?_⟩
   replace HB := am (below_step (ph HB.out) hb)
   (try clear hb)
   (try clear hb2)
   (try clear hk)
   (try clear hi)
   refine hK.out _ _ ⟨((HB.out.cell (World.block_lt_of_cell? w _ hw340_0)).trans hw340_0), ((HB.out.cell (World.block_lt_of_cell? w _ hw340_1)).trans hw340_1), ((HB.out.cell (World.block_lt_of_cell? w _ hw340_2)).trans hw340_2), ((HB.out.cell (World.block_lt_of_cell? w _ hw340_3)).trans hw340_3), ((HB.out.cell (World.block_lt_of_cell? w _ hw340_4)).trans hw340_4), ((HB.out.cell (World.block_lt_of_cell? w _ hw340_5)).trans hw340_5), ((HB.out.cell (World.block_lt_of_cell? w _ hw340_6)).trans hw340_6), ((HB.out.cell (World.block_lt_of_cell? w _ hw340_7)).trans hw340_7), ((HB.out.cell (World.block_lt_of_cell? w _ hw341_0)).trans hw341_0), ((HB.out.cell (World.block_lt_of_cell? w _ hw341_1)).trans hw341_1), ((HB.out.cell (World.block_lt_of_cell? w _ hw341_2)).trans hw341_2), ((HB.out.cell (World.block_lt_of_cell? w _ hw341_3)).trans hw341_3), ((HB.out.cell (World.block_lt_of_cell? w _ hw341_4)).trans hw341_4), ((HB.out.cell (World.block_lt_of_cell? w _ hw341_5)).trans hw341_5), ((HB.out.cell (World.block_lt_of_cell? w _ hw341_6)).trans hw341_6), ((HB.out.cell (World.block_lt_of_cell? w _ hw341_7)).trans hw341_7)⟩ (fun hHeld => ?_)
   clear hK K
   refine norm_ (a' := ?_) ?_ ?_
   rotate_left
   · show Act.put _ (some 25) _ = _
     simp only [Act.put, List.setIfInBounds_toArray, List.set_cons_zero, List.set_cons_succ, i64_w, i32_w]
     rfl
   refine pj_ 9 26 #[true, true, true, true, true, true, true, true, true, true] rfl rfl (any_of HT_.out (by kernel_rfl)) (fun _ _ _ h => h) ?_
   refine done_ (done_of HT_.out (by kernel_rfl)) ?_
   try go_wp2
   go_roundg k1
   case measure => have := HK1.out; omega
   case rel => exact ⟨(wrap64 (x5_1 + 1)), rf, H', ⟨by have := HK1.out; omega⟩, ⟨ph HB.out⟩⟩
end Go.Proofs.Ytoedphbikgoapaa.Rc
