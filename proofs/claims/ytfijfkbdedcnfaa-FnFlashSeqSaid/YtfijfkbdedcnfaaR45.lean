-- printed by wip/pp/pp.py
import Derived.Test.YtfijfkbdedcnfaaR40
import Derived.Test.YtfijfkbdedcnfaaR41
import Derived.Test.YtfijfkbdedcnfaaR43
import Derived.Test.YtfijfkbdedcnfaaR44
namespace Go.Proofs.Ytfijfkbdedcnfaa.R4
open Go.RowKit Go.Proofs.YtfijfkbdedcnfaaW.PrintWords Go.Proofs.YtfijfkbdedcnfaaW.PrintLast Go.Proofs.YtfijfkbdedcnfaaW.PrintMore
attribute [local go_sem] max2_int min2_int max_two min_two max_three min_three max_four min_four
set_option linter.unusedVariables false
set_option linter.unusedSimpArgs false
def spec_l12Write.f (k : Nat) (l0_0 : List (S33)) (l0_1 : List Int) (a1 : Int) (a2 : Int) (a3 : Int) : Option ((List (S75))) := (spec_l3Next.f k l0_0).bind fun t217 => ((spec_l12Room.f k l0_0 l0_1).bind fun bt219 => (if bt219.2.2 = true then ((spec_RecOk.f a1 t217 a2 a3).bind fun t224 => (if t224 = true then (if bt219.1.length < 2199023255552 then (some (bt219.1 ++ [(⟨3, 0, 0, bt219.2.1, (⟨a1, t217, a2, a3⟩ : S28)⟩ : S75)])) else (none)) else (some (([] : List (S75)))))) else (some (([] : List (S75))))))
theorem spec_l12Write.mono : ∀ a0 a1 a2 a3 a4 k, LeO (spec_l12Write.f k a0 a1 a2 a3 a4) (spec_l12Write.f (k + 1) a0 a1 a2 a3 a4) := by
 intro a0 a1 a2 a3 a4 k
 unfold spec_l12Write.f
 with_reducible repeat' first | exact spec_l12Room.mono _ _ _ | exact spec_l3Next.mono _ _ | exact LeO.refl _ | exact LeO.none _ | refine LeO.ite ?_ ?_ | refine LeO.bind ?_ (fun _ => ?_)
set_option maxHeartbeats 8000000 in
set_option maxRecDepth 100000 in
theorem spec_l12Write.calls (k : Nat) (A0_0 : Option Addr) (c0_0 : Nat) (l0_0 : List (S33)) (A0_1 : Option Addr) (c0_1 : Nat) (l0_1 : List Int) (a1 : Int) (a2 : Int) (a3 : Int) (r : List (S75)) (w : World) (hr0_0 : Kd.C k33 w A0_0 l0_0.length l0_0) (hc0_0 : l0_0.length ≤ c0_0) (hr0_1 : Kd.C (Kd.int .i64) w A0_1 l0_1.length l0_1) (hc0_1 : l0_1.length ≤ c0_1) (h : spec_l12Write.f k l0_0 l0_1 a1 a2 a3 = some r) :
 Calls Try.prog 33 #[.agg #[.slice A0_0 l0_0.length c0_0, .slice A0_1 l0_1.length c0_1], .int .i64 a1, .int .i64 a2, .int .i64 a3] w fun e w' => ∃ v0_ : Value, e = .returned (v0_) ∧ Kd.R k75 75 w' w.heap.size (fun _ => True) v0_ r ∧ Below w.heap.size w w' := by
 have hu51 := Try.underlying51
 have hu28 := Try.underlying28
 have hu75 := Try.underlying75
 have HR0_0 := am hr0_0
 have HC0_0 := am hc0_0
 clear hr0_0 hc0_0
 have HR0_1 := am hr0_1
 have HC0_1 := am hc0_1
 clear hr0_1 hc0_1
 have HB := am (Below.refl w.heap.size w)
 have H : ((spec_l3Next.f k l0_0).bind fun t217 => ((spec_l12Room.f k l0_0 l0_1).bind fun bt219 => (if bt219.2.2 = true then ((spec_RecOk.f a1 t217 a2 a3).bind fun t224 => (if t224 = true then (if bt219.1.length < 2199023255552 then (some (bt219.1 ++ [(⟨3, 0, 0, bt219.2.1, (⟨a1, t217, a2, a3⟩ : S28)⟩ : S75)])) else (none)) else (some (([] : List (S75)))))) else (some (([] : List (S75))))))) = some r := h
 clear h
 replace H := Option.bind_eq_some_iff.mp H
 obtain ⟨t217, A50, H⟩ := H
 have A5 := am A50
 clear A50
 replace H := Option.bind_eq_some_iff.mp H
 obtain ⟨⟨t219, t222, t223⟩, A60, H⟩ := H
 have A6 := am A60
 clear A60
 by_cases c7 : t223 = true
 rotate_left
 · replace c7 := Bool.eq_false_iff.mpr c7
   subst c7
   rw [if_neg (show ¬ (false = true) by decide)] at H
   obtain ⟨y231, hy231⟩ : ∃ y_ : List (S75), y_ = (([] : List (S75))) := ⟨_, rfl⟩
   replace H : (some y231) = some r := yy hy231 H
   have Ny231 := am hy231
   clear hy231
   obtain rfl := Option.some.inj H
   go_enter Try.func33, Try.ntmps33
   go_wp2_with (first | (refine bx 4 #[.slice A0_0 l0_0.length c0_0, .slice A0_1 l0_1.length c0_1] 51 rfl ?_; intro gb216 hg w35 hbox hb; have BK216 := am (hbox); have GW216 := am (ge hg (ph HB.out)); have GE216 := GW216; replace HB := am (below_step (ph HB.out) hb); clear hb hbox hg; obtain ⟨hcz36_0, hcz36_1⟩ := b2 BK216.out; obtain ⟨hfz36_0, hfz36_1⟩ := f2 BK216.out) | (refine gl 16 Try.func39 #[.slice A0_0 l0_0.length c0_0] rfl ?_; (with_reducible refine (spec_l3Next.calls k _ _ l0_0 t217 _ ?side1 ?side2 A5.out).mono ?_); (case side1 => exact pc (Kd.C_below HR0_0.out HB.out)); (case side2 => exact HC0_0.out); rintro e w37 ⟨rfl, hb⟩; refine ⟨_, rfl, ?_⟩; replace BK216 := am (blk_below (pb BK216.out) hb); replace HB := am (below_step (bg1 HB.out GE216.out) hb); clear hb) | (refine bx 9 #[.int .i64 0, .int .i64 0, .int .i64 0, .int .i64 0] 28 rfl ?_; intro gb218 hg w38 hbox hb; have BK218 := am (hbox); have GW218 := am (ge hg (bg1 HB.out GE216.out)); have GE218 := GW218; replace HB := am (below_step (bg1 HB.out GE216.out) hb); have NB216_218 := am (nb hg (pb BK216.out)); have NB218_216 := am (Ne.symm NB216_218.out); replace BK216 := am (blk_below (pb BK216.out) hb); clear hb hbox hg; have hnb39 := NB218_216.out; have hnc39 := NB216_218.out; obtain ⟨hcz40_0, hcz40_1, hcz40_2, hcz40_3⟩ := b4 BK218.out; obtain ⟨hfz40_0, hfz40_1, hfz40_2, hfz40_3⟩ := f4 BK218.out; obtain ⟨hcz41_0, hcz41_1⟩ := b2 BK216.out; obtain ⟨hfz41_0, hfz41_1⟩ := f2 BK216.out) | (refine gl 22 Try.func40 #[.agg #[.slice A0_0 l0_0.length c0_0, .slice A0_1 l0_1.length c0_1]] rfl ?_; (with_reducible refine (spec_l12Room.calls k _ _ l0_0 _ _ l0_1 t219 t222 false _ ?side1 ?side2 ?side3 ?side4 A6.out).mono ?_); (case side1 => exact Kd.C_below HR0_0.out (bg2 HB.out GE216.out GE218.out)); (case side2 => exact HC0_0.out); (case side3 => exact Kd.C_below HR0_1.out (bg2 HB.out GE216.out GE218.out)); (case side4 => exact HC0_1.out); rintro e w42 ⟨v220, rfl, ho0, hb⟩; refine ⟨_, rfl, ?_⟩; have HO221 := am (Kd.R_lower ho0 (below_size (bg2 HB.out GE216.out GE218.out))); replace BK216 := am (blk_below (bf4 (pb BK216.out) NB216_218.out) hb); replace BK218 := am (blk_below (bp4 (pb BK218.out)) hb); replace HB := am (below_step (bg2 HB.out GE216.out GE218.out) hb); clear hb ho0) | ((with_reducible refine gate_dst (N := 33) rfl ?_); refine Kd.R_lit k75 _ 75 ?hg (N := 33) ?hd (xs := ([] : List (S75))) (inner := []) (ok := fun _ => True) (okp := fun _ => True) ?hr ?hp (fun _ hk => hk) trivial (Below.refl _ _) (Nat.le_refl _) (by simp) ?_; (case hd => rfl); (case hg => rfl); (case hr => first | (go_simp; done) | (go_simp; rfl)); (case hp => exact (Reps.none _ _)); intro v232 w43 ho44 hb hg_ hnew_; clear hg_ hnew_; (first | rw [← Ny231.out] at ho44 | (simp only [Int.reduceToNat] at ho44; rw [← Ny231.out] at ho44)); have HO233 := am (Kd.R_lower (Kd.R_new' ho44 (Kd.R_lt (pr HO221.out))) (below_size (bg2 HB.out GE216.out GE218.out))); replace HO221 := am (Kd.R_elder' (pr HO221.out) (Kd.R_base ho44) hb); replace BK216 := am (blk_below (pb BK216.out) hb); replace BK218 := am (blk_below (pb BK218.out) hb); replace HB := am (below_step (bg2 HB.out GE216.out GE218.out) hb); clear hb ho44))
   go_ret
   exact ⟨_, rq ⟨pr (Kd.R_mono HO233.out (fun _ hk => trivial)), bg2 HB.out GE216.out GE218.out⟩⟩
 subst c7
 rw [if_pos rfl] at H
 replace H := Option.bind_eq_some_iff.mp H
 obtain ⟨t224, A80, H⟩ := H
 have A8 := am A80
 clear A80
 by_cases c9 : t224 = true
 rotate_left
 · replace c9 := Bool.eq_false_iff.mpr c9
   subst c9
   rw [if_neg (show ¬ (false = true) by decide)] at H
   obtain ⟨y228, hy228⟩ : ∃ y_ : List (S75), y_ = (([] : List (S75))) := ⟨_, rfl⟩
   replace H : (some y228) = some r := yy hy228 H
   have Ny228 := am hy228
   clear hy228
   obtain rfl := Option.some.inj H
   go_enter Try.func33, Try.ntmps33
   go_wp2_with (first | (refine bx 4 #[.slice A0_0 l0_0.length c0_0, .slice A0_1 l0_1.length c0_1] 51 rfl ?_; intro gb216 hg w23 hbox hb; have BK216 := am (hbox); have GW216 := am (ge hg (ph HB.out)); have GE216 := GW216; replace HB := am (below_step (ph HB.out) hb); clear hb hbox hg; obtain ⟨hcz24_0, hcz24_1⟩ := b2 BK216.out; obtain ⟨hfz24_0, hfz24_1⟩ := f2 BK216.out) | (refine gl 16 Try.func39 #[.slice A0_0 l0_0.length c0_0] rfl ?_; (with_reducible refine (spec_l3Next.calls k _ _ l0_0 t217 _ ?side1 ?side2 A5.out).mono ?_); (case side1 => exact pc (Kd.C_below HR0_0.out HB.out)); (case side2 => exact HC0_0.out); rintro e w25 ⟨rfl, hb⟩; refine ⟨_, rfl, ?_⟩; replace BK216 := am (blk_below (pb BK216.out) hb); replace HB := am (below_step (bg1 HB.out GE216.out) hb); clear hb) | (refine bx 9 #[.int .i64 0, .int .i64 0, .int .i64 0, .int .i64 0] 28 rfl ?_; intro gb218 hg w26 hbox hb; have BK218 := am (hbox); have GW218 := am (ge hg (bg1 HB.out GE216.out)); have GE218 := GW218; replace HB := am (below_step (bg1 HB.out GE216.out) hb); have NB216_218 := am (nb hg (pb BK216.out)); have NB218_216 := am (Ne.symm NB216_218.out); replace BK216 := am (blk_below (pb BK216.out) hb); clear hb hbox hg; have hnb27 := NB218_216.out; have hnc27 := NB216_218.out; obtain ⟨hcz28_0, hcz28_1, hcz28_2, hcz28_3⟩ := b4 BK218.out; obtain ⟨hfz28_0, hfz28_1, hfz28_2, hfz28_3⟩ := f4 BK218.out; obtain ⟨hcz29_0, hcz29_1⟩ := b2 BK216.out; obtain ⟨hfz29_0, hfz29_1⟩ := f2 BK216.out) | (refine gl 22 Try.func40 #[.agg #[.slice A0_0 l0_0.length c0_0, .slice A0_1 l0_1.length c0_1]] rfl ?_; (with_reducible refine (spec_l12Room.calls k _ _ l0_0 _ _ l0_1 t219 t222 true _ ?side1 ?side2 ?side3 ?side4 A6.out).mono ?_); (case side1 => exact Kd.C_below HR0_0.out (bg2 HB.out GE216.out GE218.out)); (case side2 => exact HC0_0.out); (case side3 => exact Kd.C_below HR0_1.out (bg2 HB.out GE216.out GE218.out)); (case side4 => exact HC0_1.out); rintro e w30 ⟨v220, rfl, ho0, hb⟩; refine ⟨_, rfl, ?_⟩; have HO221 := am (Kd.R_lower ho0 (below_size (bg2 HB.out GE216.out GE218.out))); replace BK216 := am (blk_below (bf4 (pb BK216.out) NB216_218.out) hb); replace BK218 := am (blk_below (bp4 (pb BK218.out)) hb); replace HB := am (below_step (bg2 HB.out GE216.out GE218.out) hb); clear hb ho0; obtain ⟨hcz31_0, hcz31_1, hcz31_2, hcz31_3⟩ := b4 BK218.out; obtain ⟨hfz31_0, hfz31_1, hfz31_2, hfz31_3⟩ := f4 BK218.out) | (go_at_call 20; (with_reducible refine (spec_RecOk.calls a1 t217 a2 a3 false _ A8.out).mono ?_); rintro e w32 ⟨rfl, hb⟩; replace HO221 := am (Kd.R_below (pr HO221.out) hb); replace BK216 := am (blk_below (pb BK216.out) hb); replace BK218 := am (blk_below (pb BK218.out) hb); replace HB := am (below_step (bg2 HB.out GE216.out GE218.out) hb); clear hb) | ((with_reducible refine gate_dst (N := 33) rfl ?_); refine Kd.R_lit k75 _ 75 ?hg (N := 33) ?hd (xs := ([] : List (S75))) (inner := []) (ok := fun _ => True) (okp := fun _ => True) ?hr ?hp (fun _ hk => hk) trivial (Below.refl _ _) (Nat.le_refl _) (by simp) ?_; (case hd => rfl); (case hg => rfl); (case hr => first | (go_simp; done) | (go_simp; rfl)); (case hp => exact (Reps.none _ _)); intro v229 w33 ho34 hb hg_ hnew_; clear hg_ hnew_; (first | rw [← Ny228.out] at ho34 | (simp only [Int.reduceToNat] at ho34; rw [← Ny228.out] at ho34)); have HO230 := am (Kd.R_lower (Kd.R_new' ho34 (Kd.R_lt (pr HO221.out))) (below_size (bg2 HB.out GE216.out GE218.out))); replace HO221 := am (Kd.R_elder' (pr HO221.out) (Kd.R_base ho34) hb); replace BK216 := am (blk_below (pb BK216.out) hb); replace BK218 := am (blk_below (pb BK218.out) hb); replace HB := am (below_step (bg2 HB.out GE216.out GE218.out) hb); clear hb ho34))
   go_ret
   exact ⟨_, rq ⟨pr (Kd.R_mono HO230.out (fun _ hk => trivial)), bg2 HB.out GE216.out GE218.out⟩⟩
 subst c9
 rw [if_pos rfl] at H
 by_cases c10 : t219.length < 2199023255552
 rotate_left
 · rw [if_neg c10] at H
   exact absurd H (by simp)
 rw [if_pos c10] at H
 have LMc10 := am c10
 clear c10
 obtain ⟨y225, hy225⟩ : ∃ y_ : List (S75), y_ = (t219 ++ [(⟨3, 0, 0, t222, (⟨a1, t217, a2, a3⟩ : S28)⟩ : S75)]) := ⟨_, rfl⟩
 replace H : (some y225) = some r := yy hy225 H
 have Ny225 := am hy225
 clear hy225
 obtain rfl := Option.some.inj H
 go_enter Try.func33, Try.ntmps33
 go_wp2_with (first | (refine bx 4 #[.slice A0_0 l0_0.length c0_0, .slice A0_1 l0_1.length c0_1] 51 rfl ?_; intro gb216 hg w11 hbox hb; have BK216 := am (hbox); have GW216 := am (ge hg (ph HB.out)); have GE216 := GW216; replace HB := am (below_step (ph HB.out) hb); clear hb hbox hg; obtain ⟨hcz12_0, hcz12_1⟩ := b2 BK216.out; obtain ⟨hfz12_0, hfz12_1⟩ := f2 BK216.out) | (refine gl 16 Try.func39 #[.slice A0_0 l0_0.length c0_0] rfl ?_; (with_reducible refine (spec_l3Next.calls k _ _ l0_0 t217 _ ?side1 ?side2 A5.out).mono ?_); (case side1 => exact pc (Kd.C_below HR0_0.out HB.out)); (case side2 => exact HC0_0.out); rintro e w13 ⟨rfl, hb⟩; refine ⟨_, rfl, ?_⟩; replace BK216 := am (blk_below (pb BK216.out) hb); replace HB := am (below_step (bg1 HB.out GE216.out) hb); clear hb) | (refine bx 9 #[.int .i64 0, .int .i64 0, .int .i64 0, .int .i64 0] 28 rfl ?_; intro gb218 hg w14 hbox hb; have BK218 := am (hbox); have GW218 := am (ge hg (bg1 HB.out GE216.out)); have GE218 := GW218; replace HB := am (below_step (bg1 HB.out GE216.out) hb); have NB216_218 := am (nb hg (pb BK216.out)); have NB218_216 := am (Ne.symm NB216_218.out); replace BK216 := am (blk_below (pb BK216.out) hb); clear hb hbox hg; have hnb15 := NB218_216.out; have hnc15 := NB216_218.out; obtain ⟨hcz16_0, hcz16_1, hcz16_2, hcz16_3⟩ := b4 BK218.out; obtain ⟨hfz16_0, hfz16_1, hfz16_2, hfz16_3⟩ := f4 BK218.out; obtain ⟨hcz17_0, hcz17_1⟩ := b2 BK216.out; obtain ⟨hfz17_0, hfz17_1⟩ := f2 BK216.out) | (refine gl 22 Try.func40 #[.agg #[.slice A0_0 l0_0.length c0_0, .slice A0_1 l0_1.length c0_1]] rfl ?_; (with_reducible refine (spec_l12Room.calls k _ _ l0_0 _ _ l0_1 t219 t222 true _ ?side1 ?side2 ?side3 ?side4 A6.out).mono ?_); (case side1 => exact Kd.C_below HR0_0.out (bg2 HB.out GE216.out GE218.out)); (case side2 => exact HC0_0.out); (case side3 => exact Kd.C_below HR0_1.out (bg2 HB.out GE216.out GE218.out)); (case side4 => exact HC0_1.out); rintro e w18 ⟨v220, rfl, ho0, hb⟩; refine ⟨_, rfl, ?_⟩; have HO221 := am (Kd.R_lower ho0 (below_size (bg2 HB.out GE216.out GE218.out))); replace BK216 := am (blk_below (bf4 (pb BK216.out) NB216_218.out) hb); replace BK218 := am (blk_below (bp4 (pb BK218.out)) hb); replace HB := am (below_step (bg2 HB.out GE216.out GE218.out) hb); clear hb ho0; obtain ⟨hcz19_0, hcz19_1, hcz19_2, hcz19_3⟩ := b4 BK218.out; obtain ⟨hfz19_0, hfz19_1, hfz19_2, hfz19_3⟩ := f4 BK218.out) | (go_at_call 20; (with_reducible refine (spec_RecOk.calls a1 t217 a2 a3 true _ A8.out).mono ?_); rintro e w20 ⟨rfl, hb⟩; replace HO221 := am (Kd.R_below (pr HO221.out) hb); replace BK216 := am (blk_below (pb BK216.out) hb); replace BK218 := am (blk_below (pb BK218.out) hb); replace HB := am (below_step (bg2 HB.out GE216.out GE218.out) hb); clear hb; obtain ⟨hcz21_0, hcz21_1, hcz21_2, hcz21_3⟩ := b4 BK218.out; obtain ⟨hfz21_0, hfz21_1, hfz21_2, hfz21_3⟩ := f4 BK218.out) | ((with_reducible refine gate_builtin (b := .append) (xs := #[.tmp 34, .tmp 38]) rfl ?_); at_builtin; refine Kd.R_append k75 (w0 := w) w.heap.size rfl (.tmp 34) (.tmp 38) 67 75 (.agg #[(.int .i64 0), (.int .i64 0), (.int .i64 0), (.int .i64 0), (.int .i64 0), (.int .i64 0), (.int .i64 0), (.int .i64 0)]) 64 rfl Try.underlying67 info75 rfl (by decide) (by omega) v220 t219 (⟨3, 0, 0, t222, (⟨a1, t217, a2, a3⟩ : S28)⟩ : S75) [.int .i64 3, .int .i64 0, .int .i64 0, .int .i64 t222, .int .i64 a1, .int .i64 t217, .int .i64 a2, .int .i64 a3] (fun _ => True) (fun _ => False) rfl rfl ?aP (fun _ hk => hk.elim) ?aF ?aO ?aB ?aS ?aL ?_; (case aP => exact k75_mkM _ _ _ (⟨3, 0, 0, t222, (⟨a1, t217, a2, a3⟩ : S28)⟩ : S75)); (case aB => exact (bg2 HB.out GE216.out GE218.out)); (case aF => exact (fun _ _ => trivial)); (case aO => exact (pr HO221.out)); (case aS => exact (below_size (bg2 HB.out GE216.out GE218.out))); (case aL => have := LMc10.out; omega); intro v226 w22 ho hb hg hat; rw [← Ny225.out] at ho; replace BK216 := am (blk_grown (g := gb216) (o := .cells #[.slice A0_0 l0_0.length c0_0, .slice A0_1 l0_1.length c0_1] 51 (0, 0)) (pb BK216.out) hg (Kd.R_ne HO221.out BK216.out (by decide))); replace BK218 := am (blk_grown (g := gb218) (o := .cells #[.int .i64 a1, .int .i64 t217, .int .i64 a2, .int .i64 a3] 28 (0, 0)) (pb BK218.out) hg (Kd.R_ne HO221.out BK218.out (by decide))); replace HB := am (hb); have HO227 := am (ho); clear HO221; clear ho hb hg hat))
 go_ret
 exact ⟨_, rq ⟨pr HO227.out, bg2 HB.out GE216.out GE218.out⟩⟩
def spec_l11Dirty.f (k : Nat) (l0_0 : List (S33)) (l0_1 : List Int) (a1 : Int) : Option (Bool) := (spec_l3Last.f k l0_0 a1).bind fun bt235 => (if bt235.2.2.2.2 = true then (some (bt235.1 == 1)) else (some false))
theorem spec_l11Dirty.mono : ∀ a0 a1 a2 k, LeO (spec_l11Dirty.f k a0 a1 a2) (spec_l11Dirty.f (k + 1) a0 a1 a2) := by
 intro a0 a1 a2 k
 unfold spec_l11Dirty.f
 with_reducible repeat' first | exact spec_l3Last.mono _ _ _ | exact LeO.refl _ | exact LeO.none _ | refine LeO.ite ?_ ?_ | refine LeO.bind ?_ (fun _ => ?_)
set_option maxHeartbeats 8000000 in
set_option maxRecDepth 100000 in
theorem spec_l11Dirty.calls (k : Nat) (A0_0 : Option Addr) (c0_0 : Nat) (l0_0 : List (S33)) (A0_1 : Option Addr) (c0_1 : Nat) (l0_1 : List Int) (a1 : Int) (r : Bool) (w : World) (hr0_0 : Kd.C k33 w A0_0 l0_0.length l0_0) (hc0_0 : l0_0.length ≤ c0_0) (hr0_1 : Kd.C (Kd.int .i64) w A0_1 l0_1.length l0_1) (hc0_1 : l0_1.length ≤ c0_1) (h : spec_l11Dirty.f k l0_0 l0_1 a1 = some r) :
 Calls Try.prog 35 #[.agg #[.slice A0_0 l0_0.length c0_0, .slice A0_1 l0_1.length c0_1], .int .i64 a1] w fun e w' => e = .returned (.bool r) ∧ Below w.heap.size w w' := by
 have hu51 := Try.underlying51
 have hu28 := Try.underlying28
 have HR0_0 := am hr0_0
 have HC0_0 := am hc0_0
 clear hr0_0 hc0_0
 have HR0_1 := am hr0_1
 have HC0_1 := am hc0_1
 clear hr0_1 hc0_1
 have HB := am (Below.refl w.heap.size w)
 have H : ((spec_l3Last.f k l0_0 a1).bind fun bt235 => (if bt235.2.2.2.2 = true then (some (bt235.1 == 1)) else (some false))) = some r := h
 clear h
 replace H := Option.bind_eq_some_iff.mp H
 obtain ⟨⟨t235, t236, t237, t238, t239⟩, A30, H⟩ := H
 have A3 := am A30
 clear A30
 by_cases c4 : t239 = true
 · subst c4
   rw [if_pos rfl] at H
   obtain rfl := Option.some.inj H
   go_enter Try.func35, Try.ntmps35
   go_wp2_with (first | (refine bx 2 #[.slice A0_0 l0_0.length c0_0, .slice A0_1 l0_1.length c0_1] 51 rfl ?_; intro gb234 hg w5 hbox hb; have BK234 := am (hbox); have GW234 := am (ge hg (ph HB.out)); have GE234 := GW234; replace HB := am (below_step (ph HB.out) hb); clear hb hbox hg; obtain ⟨hcz6_0, hcz6_1⟩ := b2 BK234.out; obtain ⟨hfz6_0, hfz6_1⟩ := f2 BK234.out) | (refine gl 11 Try.func41 #[.slice A0_0 l0_0.length c0_0, .int .i64 a1] rfl ?_; (with_reducible refine (spec_l3Last.calls k _ _ l0_0 a1 t235 t236 t237 t238 true _ ?side1 ?side2 A3.out).mono ?_); (case side1 => exact pc (Kd.C_below HR0_0.out HB.out)); (case side2 => exact HC0_0.out); rintro e w7 ⟨rfl, hb⟩; refine ⟨_, rfl, ?_⟩; replace BK234 := am (blk_below (pb BK234.out) hb); replace HB := am (below_step (bg1 HB.out GE234.out) hb); clear hb) | (refine bx 5 #[.int .i64 0, .int .i64 0, .int .i64 0, .int .i64 0] 28 rfl ?_; intro gb240 hg w8 hbox hb; have BK240 := am (hbox); have GW240 := am (ge hg (bg1 HB.out GE234.out)); have GE240 := GW240; replace HB := am (below_step (bg1 HB.out GE234.out) hb); have NB234_240 := am (nb hg (pb BK234.out)); have NB240_234 := am (Ne.symm NB234_240.out); replace BK234 := am (blk_below (pb BK234.out) hb); clear hb hbox hg; have hnb9 := NB240_234.out; have hnc9 := NB234_240.out; obtain ⟨hcz10_0, hcz10_1, hcz10_2, hcz10_3⟩ := b4 BK240.out; obtain ⟨hfz10_0, hfz10_1, hfz10_2, hfz10_3⟩ := f4 BK240.out))
   go_ret
   exact (rq (bg2 HB.out GE234.out GE240.out))
 replace c4 := Bool.eq_false_iff.mpr c4
 subst c4
 rw [if_neg (show ¬ (false = true) by decide)] at H
 obtain rfl := Option.some.inj H
 go_enter Try.func35, Try.ntmps35
 go_wp2_with (first | (refine bx 2 #[.slice A0_0 l0_0.length c0_0, .slice A0_1 l0_1.length c0_1] 51 rfl ?_; intro gb234 hg w11 hbox hb; have BK234 := am (hbox); have GW234 := am (ge hg (ph HB.out)); have GE234 := GW234; replace HB := am (below_step (ph HB.out) hb); clear hb hbox hg; obtain ⟨hcz12_0, hcz12_1⟩ := b2 BK234.out; obtain ⟨hfz12_0, hfz12_1⟩ := f2 BK234.out) | (refine gl 11 Try.func41 #[.slice A0_0 l0_0.length c0_0, .int .i64 a1] rfl ?_; (with_reducible refine (spec_l3Last.calls k _ _ l0_0 a1 t235 t236 t237 t238 false _ ?side1 ?side2 A3.out).mono ?_); (case side1 => exact pc (Kd.C_below HR0_0.out HB.out)); (case side2 => exact HC0_0.out); rintro e w13 ⟨rfl, hb⟩; refine ⟨_, rfl, ?_⟩; replace BK234 := am (blk_below (pb BK234.out) hb); replace HB := am (below_step (bg1 HB.out GE234.out) hb); clear hb) | (refine bx 5 #[.int .i64 0, .int .i64 0, .int .i64 0, .int .i64 0] 28 rfl ?_; intro gb240 hg w14 hbox hb; have BK240 := am (hbox); have GW240 := am (ge hg (bg1 HB.out GE234.out)); have GE240 := GW240; replace HB := am (below_step (bg1 HB.out GE234.out) hb); have NB234_240 := am (nb hg (pb BK234.out)); have NB240_234 := am (Ne.symm NB234_240.out); replace BK234 := am (blk_below (pb BK234.out) hb); clear hb hbox hg; have hnb15 := NB240_234.out; have hnc15 := NB234_240.out; obtain ⟨hcz16_0, hcz16_1, hcz16_2, hcz16_3⟩ := b4 BK240.out; obtain ⟨hfz16_0, hfz16_1, hfz16_2, hfz16_3⟩ := f4 BK240.out))
 go_ret
 exact (rq (bg2 HB.out GE234.out GE240.out))
def spec_l11Read.f (k : Nat) (l0_0 : List (S33)) (l0_1 : List Int) (a1 : Int) : Option (Int) := (spec_l3Last.f k l0_0 a1).bind fun bt242 => (if bt242.2.2.2.2 = true then (some bt242.2.2.2.1) else (if 0 ≤ (wrap64 (a1 - 1)) then (if (wrap64 (a1 - 1)) < (l0_1.length : Int) then (some (rd l0_1 (wrap64 (a1 - 1)))) else (none)) else (none)))
theorem spec_l11Read.mono : ∀ a0 a1 a2 k, LeO (spec_l11Read.f k a0 a1 a2) (spec_l11Read.f (k + 1) a0 a1 a2) := by
 intro a0 a1 a2 k
 unfold spec_l11Read.f
 with_reducible repeat' first | exact spec_l3Last.mono _ _ _ | exact LeO.refl _ | exact LeO.none _ | refine LeO.ite ?_ ?_ | refine LeO.bind ?_ (fun _ => ?_)
set_option maxHeartbeats 8000000 in
set_option maxRecDepth 100000 in
theorem spec_l11Read.calls (k : Nat) (A0_0 : Option Addr) (c0_0 : Nat) (l0_0 : List (S33)) (A0_1 : Option Addr) (c0_1 : Nat) (l0_1 : List Int) (a1 : Int) (r : Int) (w : World) (hr0_0 : Kd.C k33 w A0_0 l0_0.length l0_0) (hc0_0 : l0_0.length ≤ c0_0) (hr0_1 : Kd.C (Kd.int .i64) w A0_1 l0_1.length l0_1) (hc0_1 : l0_1.length ≤ c0_1) (h : spec_l11Read.f k l0_0 l0_1 a1 = some r) :
 Calls Try.prog 36 #[.agg #[.slice A0_0 l0_0.length c0_0, .slice A0_1 l0_1.length c0_1], .int .i64 a1] w fun e w' => e = .returned (.int .i64 r) ∧ Below w.heap.size w w' := by
 have hu51 := Try.underlying51
 have hu28 := Try.underlying28
 have HR0_0 := am hr0_0
 have HC0_0 := am hc0_0
 clear hr0_0 hc0_0
 have HR0_1 := am hr0_1
 have HC0_1 := am hc0_1
 clear hr0_1 hc0_1
 have HB := am (Below.refl w.heap.size w)
 have H : ((spec_l3Last.f k l0_0 a1).bind fun bt242 => (if bt242.2.2.2.2 = true then (some bt242.2.2.2.1) else (if 0 ≤ (wrap64 (a1 - 1)) then (if (wrap64 (a1 - 1)) < (l0_1.length : Int) then (some (rd l0_1 (wrap64 (a1 - 1)))) else (none)) else (none)))) = some r := h
 clear h
 replace H := Option.bind_eq_some_iff.mp H
 obtain ⟨⟨t242, t243, t244, t245, t246⟩, A30, H⟩ := H
 have A3 := am A30
 clear A30
 by_cases c4 : t246 = true
 · subst c4
   rw [if_pos rfl] at H
   obtain rfl := Option.some.inj H
   go_enter Try.func36, Try.ntmps36
   go_wp2_with (first | (refine bx 2 #[.slice A0_0 l0_0.length c0_0, .slice A0_1 l0_1.length c0_1] 51 rfl ?_; intro gb241 hg w5 hbox hb; have BK241 := am (hbox); have GW241 := am (ge hg (ph HB.out)); have GE241 := GW241; replace HB := am (below_step (ph HB.out) hb); clear hb hbox hg; obtain ⟨hcz6_0, hcz6_1⟩ := b2 BK241.out; obtain ⟨hfz6_0, hfz6_1⟩ := f2 BK241.out) | (refine gl 11 Try.func41 #[.slice A0_0 l0_0.length c0_0, .int .i64 a1] rfl ?_; (with_reducible refine (spec_l3Last.calls k _ _ l0_0 a1 t242 t243 t244 t245 true _ ?side1 ?side2 A3.out).mono ?_); (case side1 => exact pc (Kd.C_below HR0_0.out HB.out)); (case side2 => exact HC0_0.out); rintro e w7 ⟨rfl, hb⟩; refine ⟨_, rfl, ?_⟩; replace BK241 := am (blk_below (pb BK241.out) hb); replace HB := am (below_step (bg1 HB.out GE241.out) hb); clear hb) | (refine bx 5 #[.int .i64 0, .int .i64 0, .int .i64 0, .int .i64 0] 28 rfl ?_; intro gb247 hg w8 hbox hb; have BK247 := am (hbox); have GW247 := am (ge hg (bg1 HB.out GE241.out)); have GE247 := GW247; replace HB := am (below_step (bg1 HB.out GE241.out) hb); have NB241_247 := am (nb hg (pb BK241.out)); have NB247_241 := am (Ne.symm NB241_247.out); replace BK241 := am (blk_below (pb BK241.out) hb); clear hb hbox hg; have hnb9 := NB247_241.out; have hnc9 := NB241_247.out; obtain ⟨hcz10_0, hcz10_1, hcz10_2, hcz10_3⟩ := b4 BK247.out; obtain ⟨hfz10_0, hfz10_1, hfz10_2, hfz10_3⟩ := f4 BK247.out))
   go_ret
   exact (rq (bg2 HB.out GE241.out GE247.out))
 replace c4 := Bool.eq_false_iff.mpr c4
 subst c4
 rw [if_neg (show ¬ (false = true) by decide)] at H
 obtain ⟨ji11, hji11⟩ : ∃ j_ : Int, (wrap64 (a1 - 1)) = j_ := ⟨_, rfl⟩
 replace H : (if 0 ≤ (ji11) then (if (ji11) < (l0_1.length : Int) then (some (rd l0_1 (ji11))) else (none)) else (none)) = some r := by first | (rw [hji11] at H; exact H) | (simp only [hji11] at H ⊢; exact H)
 (try rw [hji11] at A3)
 have hji11w : (IntKind.i64.wrap (a1 - 1)) = ji11 := (i64_w _).trans hji11
 obtain ⟨c12b0, H⟩ := ifd H
 obtain ⟨c13b0, H⟩ := ifd H
 obtain rfl := Option.some.inj H
 go_enter Try.func36, Try.ntmps36
 go_wp2_with (first | (refine bx 2 #[.slice A0_0 l0_0.length c0_0, .slice A0_1 l0_1.length c0_1] 51 rfl ?_; intro gb241 hg w14 hbox hb; have BK241 := am (hbox); have GW241 := am (ge hg (ph HB.out)); have GE241 := GW241; replace HB := am (below_step (ph HB.out) hb); clear hb hbox hg; obtain ⟨hcz15_0, hcz15_1⟩ := b2 BK241.out; obtain ⟨hfz15_0, hfz15_1⟩ := f2 BK241.out) | (refine gl 11 Try.func41 #[.slice A0_0 l0_0.length c0_0, .int .i64 a1] rfl ?_; (with_reducible refine (spec_l3Last.calls k _ _ l0_0 a1 t242 t243 t244 t245 false _ ?side1 ?side2 A3.out).mono ?_); (case side1 => exact pc (Kd.C_below HR0_0.out HB.out)); (case side2 => exact HC0_0.out); rintro e w16 ⟨rfl, hb⟩; refine ⟨_, rfl, ?_⟩; replace BK241 := am (blk_below (pb BK241.out) hb); replace HB := am (below_step (bg1 HB.out GE241.out) hb); clear hb) | (refine bx 5 #[.int .i64 0, .int .i64 0, .int .i64 0, .int .i64 0] 28 rfl ?_; intro gb247 hg w17 hbox hb; have BK247 := am (hbox); have GW247 := am (ge hg (bg1 HB.out GE241.out)); have GE247 := GW247; replace HB := am (below_step (bg1 HB.out GE241.out) hb); have NB241_247 := am (nb hg (pb BK241.out)); have NB247_241 := am (Ne.symm NB241_247.out); replace BK241 := am (blk_below (pb BK241.out) hb); clear hb hbox hg; have hnb18 := NB247_241.out; have hnc18 := NB241_247.out; obtain ⟨hcz19_0, hcz19_1, hcz19_2, hcz19_3⟩ := b4 BK247.out; obtain ⟨hfz19_0, hfz19_1, hfz19_2, hfz19_3⟩ := f4 BK247.out; obtain ⟨hcz20_0, hcz20_1⟩ := b2 BK241.out; obtain ⟨hfz20_0, hfz20_1⟩ := f2 BK241.out; have p248 : 0 ≤ ((ji11) : Int) := ofb; have q248 : (ji11) < (l0_1.length : Int) := ofb; obtain ⟨ad248, e248, hx248_0⟩ := Kd.at_int HR0_1.out (ji11) p248 q248; cases e248; have hn248_0 : ad248.block ≠ gb247 := Nat.ne_of_lt (Nat.lt_of_lt_of_le (by have := World.block_lt_of_cell? _ _ hx248_0; first | rwa [add_block] at this | exact this) GW247.out); have hn248_1 : ad248.block ≠ gb247 := Nat.ne_of_lt (Nat.lt_of_lt_of_le (by have := World.block_lt_of_cell? _ _ hx248_0; first | rwa [add_block] at this | exact this) GW247.out); have hn248_2 : ad248.block ≠ gb247 := Nat.ne_of_lt (Nat.lt_of_lt_of_le (by have := World.block_lt_of_cell? _ _ hx248_0; first | rwa [add_block] at this | exact this) GW247.out); have hn248_3 : ad248.block ≠ gb247 := Nat.ne_of_lt (Nat.lt_of_lt_of_le (by have := World.block_lt_of_cell? _ _ hx248_0; first | rwa [add_block] at this | exact this) GW247.out); replace hx248_0 := up HB.out hx248_0; replace hx248_0 := (cell_far (p := ⟨gb247, 0, none⟩) (by first | (rw [add_block]; exact hn248_0) | (show (Addr.add _ _).block ≠ _; rw [add_block]; exact hn248_0) | exact hn248_0) (.int .i64 t242)).trans hx248_0; replace hx248_0 := (cell_far (p := ⟨gb247, 1, none⟩) (by first | (rw [add_block]; exact hn248_1) | (show (Addr.add _ _).block ≠ _; rw [add_block]; exact hn248_1) | exact hn248_1) (.int .i64 t243)).trans hx248_0; replace hx248_0 := (cell_far (p := ⟨gb247, 2, none⟩) (by first | (rw [add_block]; exact hn248_2) | (show (Addr.add _ _).block ≠ _; rw [add_block]; exact hn248_2) | exact hn248_2) (.int .i64 t244)).trans hx248_0; replace hx248_0 := (cell_far (p := ⟨gb247, 3, none⟩) (by first | (rw [add_block]; exact hn248_3) | (show (Addr.add _ _).block ≠ _; rw [add_block]; exact hn248_3) | exact hn248_3) (.int .i64 t245)).trans hx248_0; clear hn248_0; clear hn248_1; clear hn248_2; clear hn248_3; replace p248 := eq_true p248; replace q248 := eq_true q248))
 go_ret
 exact ⟨by first | rfl | (simp [errW_none, errW_some] <;> rfl) | (simp only [← hji11]; first | rfl | (simp [errW_none, errW_some] <;> rfl)) | (simp [*, errW_none, errW_some] <;> rfl), bg2 HB.out GE241.out GE247.out⟩
def spec_l12Flush.j0 : Nat → Int → Bool → List (S33) → List Int → Option ((List (S75)))
 | 0, _, _, _, _ => none
 | k + 1, x1, x15, x250000, x250001 => if x15 = true then (some (([] : List (S75)))) else ((spec_l11Read.f k x250000 x250001 x1).bind fun t255 => ((spec_l12Write.f k x250000 x250001 2 x1 t255).bind fun t256 => (if (t256.length : Int) = 0 then (some t256) else ((some (([(⟨1, x1, t255, 0, (⟨0, 0, 0, 0⟩ : S28)⟩ : S75)] : List (S75)) : List (S75))).bind fun y259 => (if y259.length + t256.length < 2199023255552 then (some (y259 ++ t256)) else (none))))))
def spec_l12Flush.f (k : Nat) (l0_0 : List (S33)) (l0_1 : List Int) (a1 : Int) : Option ((List (S75))) := (spec_l6In.f a1 1 6).bind fun t250 => (if t250 = true then ((spec_l11Dirty.f k l0_0 l0_1 a1).bind fun t251 => (spec_l12Flush.j0 k a1 (!t251) l0_0 l0_1)) else (spec_l12Flush.j0 k a1 true l0_0 l0_1))
theorem spec_l12Flush.mono_l : ∀ k, (∀ y0 y1 y2 y3, LeO (spec_l12Flush.j0 k y0 y1 y2 y3) (spec_l12Flush.j0 (k + 1) y0 y1 y2 y3))
 | 0 => fun _ _ _ _ r h => by simp [spec_l12Flush.j0] at h
 | k + 1 => by
  have ih0 := spec_l12Flush.mono_l k
  · intro y0 y1 y2 y3
    unfold spec_l12Flush.j0
    with_reducible repeat' first | exact ih0 _ _ _ _ | exact spec_l11Dirty.mono _ _ _ _ | exact spec_l11Read.mono _ _ _ _ | exact spec_l12Write.mono _ _ _ _ _ _ | exact LeO.refl _ | exact LeO.none _ | refine LeO.ite ?_ ?_ | refine LeO.bind ?_ (fun _ => ?_)
theorem spec_l12Flush.mono : ∀ a0 a1 a2 k, LeO (spec_l12Flush.f k a0 a1 a2) (spec_l12Flush.f (k + 1) a0 a1 a2) := by
 intro a0 a1 a2 k
 have ih0 := spec_l12Flush.mono_l k
 unfold spec_l12Flush.f
 with_reducible repeat' first | exact ih0 _ _ _ _ | exact spec_l11Dirty.mono _ _ _ _ | exact spec_l11Read.mono _ _ _ _ | exact spec_l12Write.mono _ _ _ _ _ _ | exact LeO.refl _ | exact LeO.none _ | refine LeO.ite ?_ ?_ | refine LeO.bind ?_ (fun _ => ?_)
set_option maxHeartbeats 8000000 in
set_option maxRecDepth 100000 in
theorem spec_l12Flush.calls (k : Nat) (A0_0 : Option Addr) (c0_0 : Nat) (l0_0 : List (S33)) (A0_1 : Option Addr) (c0_1 : Nat) (l0_1 : List Int) (a1 : Int) (r : List (S75)) (w : World) (hr0_0 : Kd.C k33 w A0_0 l0_0.length l0_0) (hc0_0 : l0_0.length ≤ c0_0) (hr0_1 : Kd.C (Kd.int .i64) w A0_1 l0_1.length l0_1) (hc0_1 : l0_1.length ≤ c0_1) (h : spec_l12Flush.f k l0_0 l0_1 a1 = some r) :
 Calls Try.prog 31 #[.agg #[.slice A0_0 l0_0.length c0_0, .slice A0_1 l0_1.length c0_1], .int .i64 a1] w fun e w' => ∃ v0_ : Value, e = .returned (v0_) ∧ Kd.R k75 75 w' w.heap.size (fun _ => True) v0_ r ∧ Below w.heap.size w w' := by
 have hu51 := Try.underlying51
 have hu75 := Try.underlying75
 have HR0_0 := am hr0_0
 have HC0_0 := am hc0_0
 clear hr0_0 hc0_0
 have HR0_1 := am hr0_1
 have HC0_1 := am hc0_1
 clear hr0_1 hc0_1
 have HB := am (Below.refl w.heap.size w)
 have H : ((spec_l6In.f a1 1 6).bind fun t250 => (if t250 = true then ((spec_l11Dirty.f k l0_0 l0_1 a1).bind fun t251 => (spec_l12Flush.j0 k a1 (!t251) l0_0 l0_1)) else (spec_l12Flush.j0 k a1 true l0_0 l0_1))) = some r := h
 clear h
 have HC3 := am H
 clear H
 go_enter Try.func31, Try.ntmps31
 go_upto_region 1 with (first | (refine bx 2 #[.slice A0_0 l0_0.length c0_0, .slice A0_1 l0_1.length c0_1] 51 rfl ?_; intro gb249 hg w4 hbox hb; have BK249 := am (hbox); have GW249 := am (ge hg (ph HB.out)); have GE249 := GW249; replace HB := am (below_step (ph HB.out) hb); clear hb hbox hg))
 (try simp only [Act.put, List.setIfInBounds_toArray, List.set_cons_zero, List.set_cons_succ])
 go_cut [15] (fun v15 wc => ∃ (kq : Nat) (x15_2 : Bool), v15 = .bool x15_2 ∧ Aside0 (spec_l12Flush.j0 kq a1 x15_2 l0_0 l0_1 = some r) ∧ Aside0 (kq ≤ k) ∧ Aside0 (wc.heap[gb249]? = some (.cells #[(.slice A0_0 l0_0.length c0_0), (.slice A0_1 l0_1.length c0_1)] 51 (0, 0))) ∧ Aside0 (Below w.heap.size w wc))
 case first =>
  have H := HC3.out
  clear HC3
  replace H := Option.bind_eq_some_iff.mp H
  obtain ⟨t250, A50, H⟩ := H
  have A5 := am A50
  clear A50
  by_cases c6 : t250 = true
  rotate_left
  · replace c6 := Bool.eq_false_iff.mpr c6
    subst c6
    rw [if_neg (show ¬ (false = true) by decide)] at H
    have H' := am H
    clear H
    go_wp2_with (first | (refine gl 8 Try.func13 #[.int .i64 a1, .int .i64 1, .int .i64 6] rfl ?_; (with_reducible refine (spec_l6In.calls a1 1 6 false _ A5.out).mono ?_); rintro e w' ⟨rfl, ⟨nd, rfl⟩⟩; refine ⟨_, rfl, ?_⟩))
    go_meet
    case rel => exact ⟨_, (true), rf, H', ⟨by first | omega | exact Nat.le_refl _⟩, ⟨pb BK249.out⟩, ⟨bg1 HB.out GE249.out⟩⟩
  subst c6
  rw [if_pos rfl] at H
  replace H := Option.bind_eq_some_iff.mp H
  obtain ⟨t251, A70, H⟩ := H
  have A7 := am A70
  clear A70
  have H' := am H
  clear H
  go_wp2_with (first | (refine gl 8 Try.func13 #[.int .i64 a1, .int .i64 1, .int .i64 6] rfl ?_; (with_reducible refine (spec_l6In.calls a1 1 6 true _ A5.out).mono ?_); rintro e w' ⟨rfl, ⟨nd, rfl⟩⟩; refine ⟨_, rfl, ?_⟩; obtain ⟨hcz8_0, hcz8_1⟩ := b2 BK249.out; obtain ⟨hfz8_0, hfz8_1⟩ := f2 BK249.out) | (go_at_call 35; (with_reducible refine (spec_l11Dirty.calls k _ _ l0_0 _ _ l0_1 a1 t251 _ ?side1 ?side2 ?side3 ?side4 A7.out).mono ?_); (case side1 => exact (Kd.C_below HR0_0.out (bg1 HB.out GE249.out))); (case side2 => exact HC0_0.out); (case side3 => exact (Kd.C_below HR0_1.out (bg1 HB.out GE249.out))); (case side4 => exact HC0_1.out); rintro e w9 ⟨rfl, hb⟩; replace BK249 := am (blk_below (pb BK249.out) hb); replace HB := am (below_step (bg1 HB.out GE249.out) hb); clear hb))
  go_meet
  case rel => exact ⟨_, (!t251), rf, H', ⟨by first | omega | exact Nat.le_refl _⟩, ⟨pb BK249.out⟩, ⟨bg1 HB.out GE249.out⟩⟩
 case rest =>
  clear HC3
  obtain ⟨kq, x15_2, rfl, HA, HJ2, BK249, HB⟩ := hcut
  cases kq with
  | zero => exact absurd HA.out (by simp [spec_l12Flush.j0])
  | succ kj2 =>
   have H := HA.out
   clear HA
   simp only [spec_l12Flush.j0] at H
   by_cases c10 : x15_2 = true
   · subst c10
     rw [if_pos rfl] at H
     obtain ⟨y252, hy252⟩ : ∃ y_ : List (S75), y_ = (([] : List (S75))) := ⟨_, rfl⟩
     replace H : (some y252) = some r := yy hy252 H
     have Ny252 := am hy252
     clear hy252
     obtain rfl := Option.some.inj H
     go_wp2_with (first | ((with_reducible refine gate_dst (N := 16) rfl ?_); refine Kd.R_lit k75 _ 75 ?hg (N := 16) ?hd (xs := ([] : List (S75))) (inner := []) (ok := fun _ => True) (okp := fun _ => True) ?hr ?hp (fun _ hk => hk) trivial (Below.refl _ _) (Nat.le_refl _) (by simp) ?_; (case hd => rfl); (case hg => rfl); (case hr => first | (go_simp; done) | (go_simp; rfl)); (case hp => exact (Reps.none _ _)); intro v253 w11 ho12 hb hg_ hnew_; clear hg_ hnew_; (first | rw [← Ny252.out] at ho12 | (simp only [Int.reduceToNat] at ho12; rw [← Ny252.out] at ho12)); have HO254 := am (Kd.R_lower ho12 (below_size (bg1 HB.out GE249.out))); replace BK249 := am (blk_below (pb BK249.out) hb); replace HB := am (below_step (bg1 HB.out GE249.out) hb); clear hb ho12))
     go_ret
     exact ⟨_, rq ⟨pr HO254.out, bg1 HB.out GE249.out⟩⟩
   replace c10 := Bool.eq_false_iff.mpr c10
   subst c10
   rw [if_neg (show ¬ (false = true) by decide)] at H
   replace H := Option.bind_eq_some_iff.mp H
   obtain ⟨t255, A130, H⟩ := H
   have A13 := am A130
   clear A130
   replace H := Option.bind_eq_some_iff.mp H
   obtain ⟨t256, A140, H⟩ := H
   have A14 := am A140
   clear A140
   by_cases c15 : (t256.length : Int) = 0
   · rw [if_pos c15] at H
     have c15b0 : ((t256.length : Int) == 0) = true := beq_iff_eq.mpr c15
     have c15b1 : ((t256.length : Int) != 0) = false := bne_eq_false_iff_eq.mpr c15
     clear c15
     obtain rfl := Option.some.inj H
     obtain ⟨hcz16_0, hcz16_1⟩ := b2 BK249.out
     obtain ⟨hfz16_0, hfz16_1⟩ := f2 BK249.out
     go_wp2_with (first | (refine gl 19 Try.func36 #[.agg #[.slice A0_0 l0_0.length c0_0, .slice A0_1 l0_1.length c0_1], .int .i64 a1] rfl ?_; (with_reducible refine (spec_l11Read.calls kj2 _ _ l0_0 _ _ l0_1 a1 t255 _ ?side1 ?side2 ?side3 ?side4 A13.out).mono ?_); (case side1 => exact pc (Kd.C_below HR0_0.out HB.out)); (case side2 => exact HC0_0.out); (case side3 => exact pc (Kd.C_below HR0_1.out HB.out)); (case side4 => exact HC0_1.out); rintro e w17 ⟨rfl, hb⟩; refine ⟨_, rfl, ?_⟩; replace BK249 := am (blk_below (pb BK249.out) hb); replace HB := am (below_step (bg1 HB.out GE249.out) hb); clear hb; obtain ⟨hcz18_0, hcz18_1⟩ := b2 BK249.out; obtain ⟨hfz18_0, hfz18_1⟩ := f2 BK249.out) | (refine gl 23 Try.func33 #[.agg #[.slice A0_0 l0_0.length c0_0, .slice A0_1 l0_1.length c0_1], .int .i64 2, .int .i64 a1, .int .i64 t255] rfl ?_; (with_reducible refine (spec_l12Write.calls kj2 _ _ l0_0 _ _ l0_1 2 a1 t255 t256 _ ?side1 ?side2 ?side3 ?side4 A14.out).mono ?_); (case side1 => exact pc (Kd.C_below HR0_0.out HB.out)); (case side2 => exact HC0_0.out); (case side3 => exact pc (Kd.C_below HR0_1.out HB.out)); (case side4 => exact HC0_1.out); rintro e w19 ⟨v257, rfl, ho0, hb⟩; refine ⟨_, rfl, ?_⟩; have HO258 := am (Kd.R_lower ho0 (below_size (bg1 HB.out GE249.out))); replace BK249 := am (blk_below (pb BK249.out) hb); replace HB := am (below_step (bg1 HB.out GE249.out) hb); clear hb ho0; obtain ⟨Ao20, co20, eo20⟩ := Kd.R_slice HO258.out; subst eo20))
     go_ret
     exact ⟨_, rq ⟨pr HO258.out, bg1 HB.out GE249.out⟩⟩
   rw [if_neg c15] at H
   have c15b0 : ((t256.length : Int) == 0) = false := beq_eq_false_iff_ne.mpr c15
   have c15b1 : ((t256.length : Int) != 0) = true := bne_iff_ne.mpr c15
   have c15b2 : ¬ (t256 = []) := fun h_ => c15 (by rw [h_]; rfl)
   obtain ⟨y259, hy259⟩ : ∃ y_ : List (S75), y_ = (([(⟨1, a1, t255, 0, (⟨0, 0, 0, 0⟩ : S28)⟩ : S75)] : List (S75))) := ⟨_, rfl⟩
   replace H : (if y259.length + t256.length < 2199023255552 then (some (y259 ++ t256)) else (none)) = some r := yy hy259 H
   have Ny259 := am hy259
   clear hy259
   by_cases c21 : y259.length + t256.length < 2199023255552
   rotate_left
   · rw [if_neg c21] at H
     exact absurd H (by simp)
   rw [if_pos c21] at H
   have LMc21 := am c21
   clear c21
   obtain ⟨y262, hy262⟩ : ∃ y_ : List (S75), y_ = (y259 ++ t256) := ⟨_, rfl⟩
   replace H : (some y262) = some r := yy hy262 H
   have Ny262 := am hy262
   clear hy262
   obtain rfl := Option.some.inj H
   obtain ⟨hcz22_0, hcz22_1⟩ := b2 BK249.out
   obtain ⟨hfz22_0, hfz22_1⟩ := f2 BK249.out
   go_wp2_with (first | (refine gl 19 Try.func36 #[.agg #[.slice A0_0 l0_0.length c0_0, .slice A0_1 l0_1.length c0_1], .int .i64 a1] rfl ?_; (with_reducible refine (spec_l11Read.calls kj2 _ _ l0_0 _ _ l0_1 a1 t255 _ ?side1 ?side2 ?side3 ?side4 A13.out).mono ?_); (case side1 => exact pc (Kd.C_below HR0_0.out HB.out)); (case side2 => exact HC0_0.out); (case side3 => exact pc (Kd.C_below HR0_1.out HB.out)); (case side4 => exact HC0_1.out); rintro e w23 ⟨rfl, hb⟩; refine ⟨_, rfl, ?_⟩; replace BK249 := am (blk_below (pb BK249.out) hb); replace HB := am (below_step (bg1 HB.out GE249.out) hb); clear hb; obtain ⟨hcz24_0, hcz24_1⟩ := b2 BK249.out; obtain ⟨hfz24_0, hfz24_1⟩ := f2 BK249.out) | (refine gl 23 Try.func33 #[.agg #[.slice A0_0 l0_0.length c0_0, .slice A0_1 l0_1.length c0_1], .int .i64 2, .int .i64 a1, .int .i64 t255] rfl ?_; (with_reducible refine (spec_l12Write.calls kj2 _ _ l0_0 _ _ l0_1 2 a1 t255 t256 _ ?side1 ?side2 ?side3 ?side4 A14.out).mono ?_); (case side1 => exact pc (Kd.C_below HR0_0.out HB.out)); (case side2 => exact HC0_0.out); (case side3 => exact pc (Kd.C_below HR0_1.out HB.out)); (case side4 => exact HC0_1.out); rintro e w25 ⟨v257, rfl, ho0, hb⟩; refine ⟨_, rfl, ?_⟩; have HO258 := am (Kd.R_lower ho0 (below_size (bg1 HB.out GE249.out))); replace BK249 := am (blk_below (pb BK249.out) hb); replace HB := am (below_step (bg1 HB.out GE249.out) hb); clear hb ho0; obtain ⟨Ao26, co26, eo26⟩ := Kd.R_slice HO258.out; subst eo26) | ((with_reducible refine gate_dst (N := 31) rfl ?_); refine Kd.R_lit k75 _ 75 ?hg (N := 31) ?hd (xs := ([(⟨1, a1, t255, 0, (⟨0, 0, 0, 0⟩ : S28)⟩ : S75)] : List (S75))) (inner := [.int .i64 1, .int .i64 a1, .int .i64 t255, .int .i64 0, .int .i64 0, .int .i64 0, .int .i64 0, .int .i64 0]) (ok := fun _ => True) (okp := fun _ => True) ?hr ?hp (fun _ hk => hk) trivial (Below.refl _ _) (Nat.le_refl _) (by simp) ?_; (case hd => rfl); (case hg => rfl); (case hr => first | (go_simp; done) | (go_simp; rfl)); (case hp => exact (Reps.c8 (show Kd.M k75 _ _ _ (⟨1, a1, t255, 0, (⟨0, 0, 0, 0⟩ : S28)⟩ : S75) [.int .i64 1, .int .i64 a1, .int .i64 t255, .int .i64 0, .int .i64 0, .int .i64 0, .int .i64 0, .int .i64 0] from (k75_mkM _ _ _ (⟨1, a1, t255, 0, (⟨0, 0, 0, 0⟩ : S28)⟩ : S75) )) (Reps.none _ _))); intro v260 w27 ho28 hb hg_ hnew_; clear hg_ hnew_; (first | rw [← Ny259.out] at ho28 | (simp only [Int.reduceToNat] at ho28; rw [← Ny259.out] at ho28)); have HO261 := am (Kd.R_lower (Kd.R_new' ho28 (Kd.R_lt (pr HO258.out))) (below_size (bg1 HB.out GE249.out))); replace HO258 := am (Kd.R_elder' (pr HO258.out) (Kd.R_base ho28) hb); replace BK249 := am (blk_below (pb BK249.out) hb); replace HB := am (below_step (bg1 HB.out GE249.out) hb); clear hb ho28) | ((with_reducible refine gate_builtin (b := .append) (xs := #[.tmp 31, .tmp 32]) rfl ?_); at_builtin; refine Kd.R_append_rows k75 (w0 := w) w.heap.size rfl (.tmp 31) (.tmp 32) 67 75 (.agg #[(.int .i64 0), (.int .i64 0), (.int .i64 0), (.int .i64 0), (.int .i64 0), (.int .i64 0), (.int .i64 0), (.int .i64 0)]) 64 rfl Try.underlying67 info75 rfl (by decide) (by omega) v260 y259 t256 _ _ _ (fun k_ => some k_ ≠ (.slice Ao26 t256.length co26 : Value).ownBlock) (fun _ => False) rfl rfl ?aO ?aR (fun _ _ h => h) (fun _ h => h.elim) ?aF ?aB ?aS ?aL ?_; (case aR => exact pc ((Kd.R_reads' HO258.out).2.2)); (case aB => exact (bg1 HB.out GE249.out)); (case aF => exact (fun k_ hk => Kd.fresh' (Kd.R_lt (pr HO258.out)) k_ hk)); (case aO => exact (pr (Kd.R_mono HO261.out (fun _ hk => hk.2)))); (case aS => exact (below_size (bg1 HB.out GE249.out))); (case aL => have := LMc21.out; omega); intro v263 w29 ho hb hg hat; rw [← Ny262.out] at ho; replace BK249 := am (blk_grown (g := gb249) (o := .cells #[.slice A0_0 l0_0.length c0_0, .slice A0_1 l0_1.length c0_1] 51 (0, 0)) (pb BK249.out) hg (Kd.R_ne HO261.out BK249.out (by decide))); replace HO258 := am (Kd.R_after (ok := (fun _ => True)) (pr HO258.out) hg hat); replace HB := am (hb); have HO264 := am (ho); clear HO261; clear ho hb hg hat))
   go_ret
   exact ⟨_, rq ⟨pr (Kd.R_mono HO264.out (fun _ hk => trivial)), bg1 HB.out GE249.out⟩⟩
end Go.Proofs.Ytfijfkbdedcnfaa.R4
