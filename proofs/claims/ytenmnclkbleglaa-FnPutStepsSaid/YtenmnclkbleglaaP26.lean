-- printed by wip/pp/pp.py
import Derived.Test.YtenmnclkbleglaaP20
import Derived.Test.YtenmnclkbleglaaP22
import Derived.Test.YtenmnclkbleglaaP24
import Derived.Test.YtenmnclkbleglaaP25
namespace Go.Proofs.Ytenmnclkbleglaa.P2
set_option maxHeartbeats 8000000
set_option maxRecDepth 100000
open Go.RowKit Go.Proofs.YtenmnclkbleglaaW.PrintWords Go.Proofs.YtenmnclkbleglaaW.PrintLast Go.Proofs.YtenmnclkbleglaaW.PrintMore
attribute [local go_sem] max2_int min2_int max_two min_two max_three min_three max_four min_four
set_option linter.unusedVariables false
set_option linter.unusedSimpArgs false
def spec_l12Write.f (k : Nat) (l0_0 : List (S42)) (l0_1 : List Int) (a1 : Int) (a2 : Int) (a3 : Int) : Option ((List (S34))) := (spec_l3Next.f k l0_0).bind fun t205 => ((spec_l12Room.f k l0_0 l0_1).bind fun bt207 => (if bt207.2.2 = true then ((spec_RecOk.f a1 t205 a2 a3).bind fun t212 => (if t212 = true then (if bt207.1.length < 2199023255552 then (some (bt207.1 ++ [(⟨3, 0, 0, bt207.2.1, (⟨a1, t205, a2, a3⟩ : S32)⟩ : S34)])) else (none)) else (some (([] : List (S34)))))) else (some (([] : List (S34))))))
theorem spec_l12Write.calls (k : Nat) (A0_0 : Option Addr) (c0_0 : Nat) (l0_0 : List (S42)) (A0_1 : Option Addr) (c0_1 : Nat) (l0_1 : List Int) (a1 : Int) (a2 : Int) (a3 : Int) (r : List (S34)) (w : World) (hr0_0 : Kd.C k42 w A0_0 l0_0.length l0_0) (hc0_0 : l0_0.length ≤ c0_0) (hr0_1 : Kd.C (Kd.int .i64) w A0_1 l0_1.length l0_1) (hc0_1 : l0_1.length ≤ c0_1) (h : spec_l12Write.f k l0_0 l0_1 a1 a2 a3 = some r) :
 Calls Try.prog 17 #[.agg #[.slice A0_0 l0_0.length c0_0, .slice A0_1 l0_1.length c0_1], .int .i64 a1, .int .i64 a2, .int .i64 a3] w fun e w' => ∃ v0_ : Value, e = .returned (v0_) ∧ Kd.R k34 34 w' w.heap.size (fun _ => True) v0_ r ∧ Below w.heap.size w w' := by
 have hu26 := Try.underlying26
 have hu32 := Try.underlying32
 have hu34 := Try.underlying34
 have HR0_0 := am hr0_0
 have HC0_0 := am hc0_0
 clear hr0_0 hc0_0
 have HR0_1 := am hr0_1
 have HC0_1 := am hc0_1
 clear hr0_1 hc0_1
 have HB := am (Below.refl w.heap.size w)
 have H : ((spec_l3Next.f k l0_0).bind fun t205 => ((spec_l12Room.f k l0_0 l0_1).bind fun bt207 => (if bt207.2.2 = true then ((spec_RecOk.f a1 t205 a2 a3).bind fun t212 => (if t212 = true then (if bt207.1.length < 2199023255552 then (some (bt207.1 ++ [(⟨3, 0, 0, bt207.2.1, (⟨a1, t205, a2, a3⟩ : S32)⟩ : S34)])) else (none)) else (some (([] : List (S34)))))) else (some (([] : List (S34))))))) = some r := h
 clear h
 replace H := Option.bind_eq_some_iff.mp H
 obtain ⟨t205, A50, H⟩ := H
 have A5 := am A50
 clear A50
 replace H := Option.bind_eq_some_iff.mp H
 obtain ⟨⟨t207, t210, t211⟩, A60, H⟩ := H
 have A6 := am A60
 clear A60
 by_cases c7 : t211 = true
 rotate_left
 · replace c7 := Bool.eq_false_iff.mpr c7
   subst c7
   rw [if_neg (show ¬ (false = true) by decide)] at H
   obtain ⟨y219, hy219⟩ : ∃ y_ : List (S34), y_ = (([] : List (S34))) := ⟨_, rfl⟩
   replace H : (some y219) = some r := yy hy219 H
   have Ny219 := am hy219
   clear hy219
   obtain rfl := Option.some.inj H
   go_enter Try.func17, Try.ntmps17
   go_wp2_with (first | (refine bx 4 #[.slice A0_0 l0_0.length c0_0, .slice A0_1 l0_1.length c0_1] 26 rfl ?_; intro gb204 hg w35 hbox hb; have BK204 := am (hbox); have GW204 := am (ge hg (ph HB.out)); have GE204 := GW204; replace HB := am (below_step (ph HB.out) hb); clear hb hbox hg; obtain ⟨hcz36_0, hcz36_1⟩ := b2 BK204.out; obtain ⟨hfz36_0, hfz36_1⟩ := f2 BK204.out) | (refine gl 16 Try.func37 #[.slice A0_0 l0_0.length c0_0] rfl ?_; (with_reducible refine (spec_l3Next.calls k _ _ l0_0 t205 _ ?side1 ?side2 A5.out).mono ?_); (case side1 => exact pc (Kd.C_below HR0_0.out HB.out)); (case side2 => exact HC0_0.out); rintro e w37 ⟨rfl, hb⟩; refine ⟨_, rfl, ?_⟩; replace BK204 := am (blk_below (pb BK204.out) hb); replace HB := am (below_step (bg1 HB.out GE204.out) hb); clear hb) | (refine bx 9 #[.int .i64 0, .int .i64 0, .int .i64 0, .int .i64 0] 32 rfl ?_; intro gb206 hg w38 hbox hb; have BK206 := am (hbox); have GW206 := am (ge hg (bg1 HB.out GE204.out)); have GE206 := GW206; replace HB := am (below_step (bg1 HB.out GE204.out) hb); have NB204_206 := am (nb hg (pb BK204.out)); have NB206_204 := am (Ne.symm NB204_206.out); replace BK204 := am (blk_below (pb BK204.out) hb); clear hb hbox hg; have hnb39 := NB206_204.out; have hnc39 := NB204_206.out; obtain ⟨hcz40_0, hcz40_1, hcz40_2, hcz40_3⟩ := b4 BK206.out; obtain ⟨hfz40_0, hfz40_1, hfz40_2, hfz40_3⟩ := f4 BK206.out; obtain ⟨hcz41_0, hcz41_1⟩ := b2 BK204.out; obtain ⟨hfz41_0, hfz41_1⟩ := f2 BK204.out) | (refine gl 22 Try.func38 #[.agg #[.slice A0_0 l0_0.length c0_0, .slice A0_1 l0_1.length c0_1]] rfl ?_; (with_reducible refine (spec_l12Room.calls k _ _ l0_0 _ _ l0_1 t207 t210 false _ ?side1 ?side2 ?side3 ?side4 A6.out).mono ?_); (case side1 => exact Kd.C_below HR0_0.out (bg2 HB.out GE204.out GE206.out)); (case side2 => exact HC0_0.out); (case side3 => exact Kd.C_below HR0_1.out (bg2 HB.out GE204.out GE206.out)); (case side4 => exact HC0_1.out); rintro e w42 ⟨v208, rfl, ho0, hb⟩; refine ⟨_, rfl, ?_⟩; have HO209 := am (Kd.R_lower ho0 (below_size (bg2 HB.out GE204.out GE206.out))); replace BK204 := am (blk_below (bf4 (pb BK204.out) NB204_206.out) hb); replace BK206 := am (blk_below (bp4 (pb BK206.out)) hb); replace HB := am (below_step (bg2 HB.out GE204.out GE206.out) hb); clear hb ho0) | ((with_reducible refine gate_dst (N := 33) rfl ?_); refine Kd.R_lit k34 _ 34 ?hg (N := 33) ?hd (xs := ([] : List (S34))) (inner := []) (ok := fun _ => True) (okp := fun _ => True) ?hr ?hp (fun _ hk => hk) trivial (Below.refl _ _) (Nat.le_refl _) (by simp) ?_; (case hd => rfl); (case hg => rfl); (case hr => first | (go_simp; done) | (go_simp; rfl)); (case hp => exact (Reps.none _ _)); intro v220 w43 ho44 hb hg_ hnew_; clear hg_ hnew_; (first | rw [← Ny219.out] at ho44 | (simp only [Int.reduceToNat] at ho44; rw [← Ny219.out] at ho44)); have HO221 := am (Kd.R_lower (Kd.R_new' ho44 (Kd.R_lt (pr HO209.out))) (below_size (bg2 HB.out GE204.out GE206.out))); replace HO209 := am (Kd.R_elder' (pr HO209.out) (Kd.R_base ho44) hb); replace BK204 := am (blk_below (pb BK204.out) hb); replace BK206 := am (blk_below (pb BK206.out) hb); replace HB := am (below_step (bg2 HB.out GE204.out GE206.out) hb); clear hb ho44))
   go_ret
   exact ⟨_, rq ⟨pr (Kd.R_mono HO221.out (fun _ hk => trivial)), bg2 HB.out GE204.out GE206.out⟩⟩
 subst c7
 rw [if_pos rfl] at H
 replace H := Option.bind_eq_some_iff.mp H
 obtain ⟨t212, A80, H⟩ := H
 have A8 := am A80
 clear A80
 by_cases c9 : t212 = true
 rotate_left
 · replace c9 := Bool.eq_false_iff.mpr c9
   subst c9
   rw [if_neg (show ¬ (false = true) by decide)] at H
   obtain ⟨y216, hy216⟩ : ∃ y_ : List (S34), y_ = (([] : List (S34))) := ⟨_, rfl⟩
   replace H : (some y216) = some r := yy hy216 H
   have Ny216 := am hy216
   clear hy216
   obtain rfl := Option.some.inj H
   go_enter Try.func17, Try.ntmps17
   go_wp2_with (first | (refine bx 4 #[.slice A0_0 l0_0.length c0_0, .slice A0_1 l0_1.length c0_1] 26 rfl ?_; intro gb204 hg w23 hbox hb; have BK204 := am (hbox); have GW204 := am (ge hg (ph HB.out)); have GE204 := GW204; replace HB := am (below_step (ph HB.out) hb); clear hb hbox hg; obtain ⟨hcz24_0, hcz24_1⟩ := b2 BK204.out; obtain ⟨hfz24_0, hfz24_1⟩ := f2 BK204.out) | (refine gl 16 Try.func37 #[.slice A0_0 l0_0.length c0_0] rfl ?_; (with_reducible refine (spec_l3Next.calls k _ _ l0_0 t205 _ ?side1 ?side2 A5.out).mono ?_); (case side1 => exact pc (Kd.C_below HR0_0.out HB.out)); (case side2 => exact HC0_0.out); rintro e w25 ⟨rfl, hb⟩; refine ⟨_, rfl, ?_⟩; replace BK204 := am (blk_below (pb BK204.out) hb); replace HB := am (below_step (bg1 HB.out GE204.out) hb); clear hb) | (refine bx 9 #[.int .i64 0, .int .i64 0, .int .i64 0, .int .i64 0] 32 rfl ?_; intro gb206 hg w26 hbox hb; have BK206 := am (hbox); have GW206 := am (ge hg (bg1 HB.out GE204.out)); have GE206 := GW206; replace HB := am (below_step (bg1 HB.out GE204.out) hb); have NB204_206 := am (nb hg (pb BK204.out)); have NB206_204 := am (Ne.symm NB204_206.out); replace BK204 := am (blk_below (pb BK204.out) hb); clear hb hbox hg; have hnb27 := NB206_204.out; have hnc27 := NB204_206.out; obtain ⟨hcz28_0, hcz28_1, hcz28_2, hcz28_3⟩ := b4 BK206.out; obtain ⟨hfz28_0, hfz28_1, hfz28_2, hfz28_3⟩ := f4 BK206.out; obtain ⟨hcz29_0, hcz29_1⟩ := b2 BK204.out; obtain ⟨hfz29_0, hfz29_1⟩ := f2 BK204.out) | (refine gl 22 Try.func38 #[.agg #[.slice A0_0 l0_0.length c0_0, .slice A0_1 l0_1.length c0_1]] rfl ?_; (with_reducible refine (spec_l12Room.calls k _ _ l0_0 _ _ l0_1 t207 t210 true _ ?side1 ?side2 ?side3 ?side4 A6.out).mono ?_); (case side1 => exact Kd.C_below HR0_0.out (bg2 HB.out GE204.out GE206.out)); (case side2 => exact HC0_0.out); (case side3 => exact Kd.C_below HR0_1.out (bg2 HB.out GE204.out GE206.out)); (case side4 => exact HC0_1.out); rintro e w30 ⟨v208, rfl, ho0, hb⟩; refine ⟨_, rfl, ?_⟩; have HO209 := am (Kd.R_lower ho0 (below_size (bg2 HB.out GE204.out GE206.out))); replace BK204 := am (blk_below (bf4 (pb BK204.out) NB204_206.out) hb); replace BK206 := am (blk_below (bp4 (pb BK206.out)) hb); replace HB := am (below_step (bg2 HB.out GE204.out GE206.out) hb); clear hb ho0; obtain ⟨hcz31_0, hcz31_1, hcz31_2, hcz31_3⟩ := b4 BK206.out; obtain ⟨hfz31_0, hfz31_1, hfz31_2, hfz31_3⟩ := f4 BK206.out) | (go_at_call 39; (with_reducible refine (spec_RecOk.calls a1 t205 a2 a3 false _ A8.out).mono ?_); rintro e w32 ⟨rfl, hb⟩; replace HO209 := am (Kd.R_below (pr HO209.out) hb); replace BK204 := am (blk_below (pb BK204.out) hb); replace BK206 := am (blk_below (pb BK206.out) hb); replace HB := am (below_step (bg2 HB.out GE204.out GE206.out) hb); clear hb) | ((with_reducible refine gate_dst (N := 33) rfl ?_); refine Kd.R_lit k34 _ 34 ?hg (N := 33) ?hd (xs := ([] : List (S34))) (inner := []) (ok := fun _ => True) (okp := fun _ => True) ?hr ?hp (fun _ hk => hk) trivial (Below.refl _ _) (Nat.le_refl _) (by simp) ?_; (case hd => rfl); (case hg => rfl); (case hr => first | (go_simp; done) | (go_simp; rfl)); (case hp => exact (Reps.none _ _)); intro v217 w33 ho34 hb hg_ hnew_; clear hg_ hnew_; (first | rw [← Ny216.out] at ho34 | (simp only [Int.reduceToNat] at ho34; rw [← Ny216.out] at ho34)); have HO218 := am (Kd.R_lower (Kd.R_new' ho34 (Kd.R_lt (pr HO209.out))) (below_size (bg2 HB.out GE204.out GE206.out))); replace HO209 := am (Kd.R_elder' (pr HO209.out) (Kd.R_base ho34) hb); replace BK204 := am (blk_below (pb BK204.out) hb); replace BK206 := am (blk_below (pb BK206.out) hb); replace HB := am (below_step (bg2 HB.out GE204.out GE206.out) hb); clear hb ho34))
   go_ret
   exact ⟨_, rq ⟨pr (Kd.R_mono HO218.out (fun _ hk => trivial)), bg2 HB.out GE204.out GE206.out⟩⟩
 subst c9
 rw [if_pos rfl] at H
 by_cases c10 : t207.length < 2199023255552
 rotate_left
 · rw [if_neg c10] at H
   exact absurd H (by simp)
 rw [if_pos c10] at H
 have LMc10 := am c10
 clear c10
 obtain ⟨y213, hy213⟩ : ∃ y_ : List (S34), y_ = (t207 ++ [(⟨3, 0, 0, t210, (⟨a1, t205, a2, a3⟩ : S32)⟩ : S34)]) := ⟨_, rfl⟩
 replace H : (some y213) = some r := yy hy213 H
 have Ny213 := am hy213
 clear hy213
 obtain rfl := Option.some.inj H
 go_enter Try.func17, Try.ntmps17
 go_wp2_with (first | (refine bx 4 #[.slice A0_0 l0_0.length c0_0, .slice A0_1 l0_1.length c0_1] 26 rfl ?_; intro gb204 hg w11 hbox hb; have BK204 := am (hbox); have GW204 := am (ge hg (ph HB.out)); have GE204 := GW204; replace HB := am (below_step (ph HB.out) hb); clear hb hbox hg; obtain ⟨hcz12_0, hcz12_1⟩ := b2 BK204.out; obtain ⟨hfz12_0, hfz12_1⟩ := f2 BK204.out) | (refine gl 16 Try.func37 #[.slice A0_0 l0_0.length c0_0] rfl ?_; (with_reducible refine (spec_l3Next.calls k _ _ l0_0 t205 _ ?side1 ?side2 A5.out).mono ?_); (case side1 => exact pc (Kd.C_below HR0_0.out HB.out)); (case side2 => exact HC0_0.out); rintro e w13 ⟨rfl, hb⟩; refine ⟨_, rfl, ?_⟩; replace BK204 := am (blk_below (pb BK204.out) hb); replace HB := am (below_step (bg1 HB.out GE204.out) hb); clear hb) | (refine bx 9 #[.int .i64 0, .int .i64 0, .int .i64 0, .int .i64 0] 32 rfl ?_; intro gb206 hg w14 hbox hb; have BK206 := am (hbox); have GW206 := am (ge hg (bg1 HB.out GE204.out)); have GE206 := GW206; replace HB := am (below_step (bg1 HB.out GE204.out) hb); have NB204_206 := am (nb hg (pb BK204.out)); have NB206_204 := am (Ne.symm NB204_206.out); replace BK204 := am (blk_below (pb BK204.out) hb); clear hb hbox hg; have hnb15 := NB206_204.out; have hnc15 := NB204_206.out; obtain ⟨hcz16_0, hcz16_1, hcz16_2, hcz16_3⟩ := b4 BK206.out; obtain ⟨hfz16_0, hfz16_1, hfz16_2, hfz16_3⟩ := f4 BK206.out; obtain ⟨hcz17_0, hcz17_1⟩ := b2 BK204.out; obtain ⟨hfz17_0, hfz17_1⟩ := f2 BK204.out) | (refine gl 22 Try.func38 #[.agg #[.slice A0_0 l0_0.length c0_0, .slice A0_1 l0_1.length c0_1]] rfl ?_; (with_reducible refine (spec_l12Room.calls k _ _ l0_0 _ _ l0_1 t207 t210 true _ ?side1 ?side2 ?side3 ?side4 A6.out).mono ?_); (case side1 => exact Kd.C_below HR0_0.out (bg2 HB.out GE204.out GE206.out)); (case side2 => exact HC0_0.out); (case side3 => exact Kd.C_below HR0_1.out (bg2 HB.out GE204.out GE206.out)); (case side4 => exact HC0_1.out); rintro e w18 ⟨v208, rfl, ho0, hb⟩; refine ⟨_, rfl, ?_⟩; have HO209 := am (Kd.R_lower ho0 (below_size (bg2 HB.out GE204.out GE206.out))); replace BK204 := am (blk_below (bf4 (pb BK204.out) NB204_206.out) hb); replace BK206 := am (blk_below (bp4 (pb BK206.out)) hb); replace HB := am (below_step (bg2 HB.out GE204.out GE206.out) hb); clear hb ho0; obtain ⟨hcz19_0, hcz19_1, hcz19_2, hcz19_3⟩ := b4 BK206.out; obtain ⟨hfz19_0, hfz19_1, hfz19_2, hfz19_3⟩ := f4 BK206.out) | (go_at_call 39; (with_reducible refine (spec_RecOk.calls a1 t205 a2 a3 true _ A8.out).mono ?_); rintro e w20 ⟨rfl, hb⟩; replace HO209 := am (Kd.R_below (pr HO209.out) hb); replace BK204 := am (blk_below (pb BK204.out) hb); replace BK206 := am (blk_below (pb BK206.out) hb); replace HB := am (below_step (bg2 HB.out GE204.out GE206.out) hb); clear hb; obtain ⟨hcz21_0, hcz21_1, hcz21_2, hcz21_3⟩ := b4 BK206.out; obtain ⟨hfz21_0, hfz21_1, hfz21_2, hfz21_3⟩ := f4 BK206.out) | ((with_reducible refine gate_builtin (b := .append) (xs := #[.tmp 34, .tmp 38]) rfl ?_); at_builtin; refine Kd.R_append k34 (w0 := w) w.heap.size rfl (.tmp 34) (.tmp 38) 29 34 (.agg #[(.int .i64 0), (.int .i64 0), (.int .i64 0), (.int .i64 0), (.int .i64 0), (.int .i64 0), (.int .i64 0), (.int .i64 0)]) 64 rfl Try.underlying29 info34 rfl (by decide) (by omega) v208 t207 (⟨3, 0, 0, t210, (⟨a1, t205, a2, a3⟩ : S32)⟩ : S34) [.int .i64 3, .int .i64 0, .int .i64 0, .int .i64 t210, .int .i64 a1, .int .i64 t205, .int .i64 a2, .int .i64 a3] (fun _ => True) (fun _ => False) rfl rfl ?aP (fun _ hk => hk.elim) ?aF ?aO ?aB ?aS ?aL ?_; (case aP => exact k34_mkM _ _ _ (⟨3, 0, 0, t210, (⟨a1, t205, a2, a3⟩ : S32)⟩ : S34)); (case aB => exact (bg2 HB.out GE204.out GE206.out)); (case aF => exact (fun _ _ => trivial)); (case aO => exact (pr HO209.out)); (case aS => exact (below_size (bg2 HB.out GE204.out GE206.out))); (case aL => have := LMc10.out; omega); intro v214 w22 ho hb hg hat; rw [← Ny213.out] at ho; replace BK204 := am (blk_grown (g := gb204) (o := .cells #[.slice A0_0 l0_0.length c0_0, .slice A0_1 l0_1.length c0_1] 26 (0, 0)) (pb BK204.out) hg (Kd.R_ne HO209.out BK204.out (by decide))); replace BK206 := am (blk_grown (g := gb206) (o := .cells #[.int .i64 a1, .int .i64 t205, .int .i64 a2, .int .i64 a3] 32 (0, 0)) (pb BK206.out) hg (Kd.R_ne HO209.out BK206.out (by decide))); replace HB := am (hb); have HO215 := am (ho); clear HO209; clear ho hb hg hat))
 go_ret
 exact ⟨_, rq ⟨pr HO215.out, bg2 HB.out GE204.out GE206.out⟩⟩
def spec_l11Dirty.f (k : Nat) (l0_0 : List (S42)) (l0_1 : List Int) (a1 : Int) : Option (Bool) := (spec_l3Last.f k l0_0 a1).bind fun bt223 => (if bt223.2.2.2.2 = true then (some (bt223.1 == 1)) else (some false))
theorem spec_l11Dirty.calls (k : Nat) (A0_0 : Option Addr) (c0_0 : Nat) (l0_0 : List (S42)) (A0_1 : Option Addr) (c0_1 : Nat) (l0_1 : List Int) (a1 : Int) (r : Bool) (w : World) (hr0_0 : Kd.C k42 w A0_0 l0_0.length l0_0) (hc0_0 : l0_0.length ≤ c0_0) (hr0_1 : Kd.C (Kd.int .i64) w A0_1 l0_1.length l0_1) (hc0_1 : l0_1.length ≤ c0_1) (h : spec_l11Dirty.f k l0_0 l0_1 a1 = some r) :
 Calls Try.prog 64 #[.agg #[.slice A0_0 l0_0.length c0_0, .slice A0_1 l0_1.length c0_1], .int .i64 a1] w fun e w' => e = .returned (.bool r) ∧ Below w.heap.size w w' := by
 have hu26 := Try.underlying26
 have hu32 := Try.underlying32
 have HR0_0 := am hr0_0
 have HC0_0 := am hc0_0
 clear hr0_0 hc0_0
 have HR0_1 := am hr0_1
 have HC0_1 := am hc0_1
 clear hr0_1 hc0_1
 have HB := am (Below.refl w.heap.size w)
 have H : ((spec_l3Last.f k l0_0 a1).bind fun bt223 => (if bt223.2.2.2.2 = true then (some (bt223.1 == 1)) else (some false))) = some r := h
 clear h
 replace H := Option.bind_eq_some_iff.mp H
 obtain ⟨⟨t223, t224, t225, t226, t227⟩, A30, H⟩ := H
 have A3 := am A30
 clear A30
 by_cases c4 : t227 = true
 · subst c4
   rw [if_pos rfl] at H
   obtain rfl := Option.some.inj H
   go_enter Try.func64, Try.ntmps64
   go_wp2_with (first | (refine bx 2 #[.slice A0_0 l0_0.length c0_0, .slice A0_1 l0_1.length c0_1] 26 rfl ?_; intro gb222 hg w5 hbox hb; have BK222 := am (hbox); have GW222 := am (ge hg (ph HB.out)); have GE222 := GW222; replace HB := am (below_step (ph HB.out) hb); clear hb hbox hg; obtain ⟨hcz6_0, hcz6_1⟩ := b2 BK222.out; obtain ⟨hfz6_0, hfz6_1⟩ := f2 BK222.out) | (refine gl 11 Try.func35 #[.slice A0_0 l0_0.length c0_0, .int .i64 a1] rfl ?_; (with_reducible refine (spec_l3Last.calls k _ _ l0_0 a1 t223 t224 t225 t226 true _ ?side1 ?side2 A3.out).mono ?_); (case side1 => exact pc (Kd.C_below HR0_0.out HB.out)); (case side2 => exact HC0_0.out); rintro e w7 ⟨rfl, hb⟩; refine ⟨_, rfl, ?_⟩; replace BK222 := am (blk_below (pb BK222.out) hb); replace HB := am (below_step (bg1 HB.out GE222.out) hb); clear hb) | (refine bx 5 #[.int .i64 0, .int .i64 0, .int .i64 0, .int .i64 0] 32 rfl ?_; intro gb228 hg w8 hbox hb; have BK228 := am (hbox); have GW228 := am (ge hg (bg1 HB.out GE222.out)); have GE228 := GW228; replace HB := am (below_step (bg1 HB.out GE222.out) hb); have NB222_228 := am (nb hg (pb BK222.out)); have NB228_222 := am (Ne.symm NB222_228.out); replace BK222 := am (blk_below (pb BK222.out) hb); clear hb hbox hg; have hnb9 := NB228_222.out; have hnc9 := NB222_228.out; obtain ⟨hcz10_0, hcz10_1, hcz10_2, hcz10_3⟩ := b4 BK228.out; obtain ⟨hfz10_0, hfz10_1, hfz10_2, hfz10_3⟩ := f4 BK228.out))
   go_ret
   exact (rq (bg2 HB.out GE222.out GE228.out))
 replace c4 := Bool.eq_false_iff.mpr c4
 subst c4
 rw [if_neg (show ¬ (false = true) by decide)] at H
 obtain rfl := Option.some.inj H
 go_enter Try.func64, Try.ntmps64
 go_wp2_with (first | (refine bx 2 #[.slice A0_0 l0_0.length c0_0, .slice A0_1 l0_1.length c0_1] 26 rfl ?_; intro gb222 hg w11 hbox hb; have BK222 := am (hbox); have GW222 := am (ge hg (ph HB.out)); have GE222 := GW222; replace HB := am (below_step (ph HB.out) hb); clear hb hbox hg; obtain ⟨hcz12_0, hcz12_1⟩ := b2 BK222.out; obtain ⟨hfz12_0, hfz12_1⟩ := f2 BK222.out) | (refine gl 11 Try.func35 #[.slice A0_0 l0_0.length c0_0, .int .i64 a1] rfl ?_; (with_reducible refine (spec_l3Last.calls k _ _ l0_0 a1 t223 t224 t225 t226 false _ ?side1 ?side2 A3.out).mono ?_); (case side1 => exact pc (Kd.C_below HR0_0.out HB.out)); (case side2 => exact HC0_0.out); rintro e w13 ⟨rfl, hb⟩; refine ⟨_, rfl, ?_⟩; replace BK222 := am (blk_below (pb BK222.out) hb); replace HB := am (below_step (bg1 HB.out GE222.out) hb); clear hb) | (refine bx 5 #[.int .i64 0, .int .i64 0, .int .i64 0, .int .i64 0] 32 rfl ?_; intro gb228 hg w14 hbox hb; have BK228 := am (hbox); have GW228 := am (ge hg (bg1 HB.out GE222.out)); have GE228 := GW228; replace HB := am (below_step (bg1 HB.out GE222.out) hb); have NB222_228 := am (nb hg (pb BK222.out)); have NB228_222 := am (Ne.symm NB222_228.out); replace BK222 := am (blk_below (pb BK222.out) hb); clear hb hbox hg; have hnb15 := NB228_222.out; have hnc15 := NB222_228.out; obtain ⟨hcz16_0, hcz16_1, hcz16_2, hcz16_3⟩ := b4 BK228.out; obtain ⟨hfz16_0, hfz16_1, hfz16_2, hfz16_3⟩ := f4 BK228.out))
 go_ret
 exact (rq (bg2 HB.out GE222.out GE228.out))
def spec_l11Read.f (k : Nat) (l0_0 : List (S42)) (l0_1 : List Int) (a1 : Int) : Option (Int) := (spec_l3Last.f k l0_0 a1).bind fun bt230 => (if bt230.2.2.2.2 = true then (some bt230.2.2.2.1) else (if 0 ≤ (wrap64 (a1 - 1)) then (if (wrap64 (a1 - 1)) < (l0_1.length : Int) then (some (rd l0_1 (wrap64 (a1 - 1)))) else (none)) else (none)))
theorem spec_l11Read.calls (k : Nat) (A0_0 : Option Addr) (c0_0 : Nat) (l0_0 : List (S42)) (A0_1 : Option Addr) (c0_1 : Nat) (l0_1 : List Int) (a1 : Int) (r : Int) (w : World) (hr0_0 : Kd.C k42 w A0_0 l0_0.length l0_0) (hc0_0 : l0_0.length ≤ c0_0) (hr0_1 : Kd.C (Kd.int .i64) w A0_1 l0_1.length l0_1) (hc0_1 : l0_1.length ≤ c0_1) (h : spec_l11Read.f k l0_0 l0_1 a1 = some r) :
 Calls Try.prog 65 #[.agg #[.slice A0_0 l0_0.length c0_0, .slice A0_1 l0_1.length c0_1], .int .i64 a1] w fun e w' => e = .returned (.int .i64 r) ∧ Below w.heap.size w w' := by
 have hu26 := Try.underlying26
 have hu32 := Try.underlying32
 have HR0_0 := am hr0_0
 have HC0_0 := am hc0_0
 clear hr0_0 hc0_0
 have HR0_1 := am hr0_1
 have HC0_1 := am hc0_1
 clear hr0_1 hc0_1
 have HB := am (Below.refl w.heap.size w)
 have H : ((spec_l3Last.f k l0_0 a1).bind fun bt230 => (if bt230.2.2.2.2 = true then (some bt230.2.2.2.1) else (if 0 ≤ (wrap64 (a1 - 1)) then (if (wrap64 (a1 - 1)) < (l0_1.length : Int) then (some (rd l0_1 (wrap64 (a1 - 1)))) else (none)) else (none)))) = some r := h
 clear h
 replace H := Option.bind_eq_some_iff.mp H
 obtain ⟨⟨t230, t231, t232, t233, t234⟩, A30, H⟩ := H
 have A3 := am A30
 clear A30
 by_cases c4 : t234 = true
 · subst c4
   rw [if_pos rfl] at H
   obtain rfl := Option.some.inj H
   go_enter Try.func65, Try.ntmps65
   go_wp2_with (first | (refine bx 2 #[.slice A0_0 l0_0.length c0_0, .slice A0_1 l0_1.length c0_1] 26 rfl ?_; intro gb229 hg w5 hbox hb; have BK229 := am (hbox); have GW229 := am (ge hg (ph HB.out)); have GE229 := GW229; replace HB := am (below_step (ph HB.out) hb); clear hb hbox hg; obtain ⟨hcz6_0, hcz6_1⟩ := b2 BK229.out; obtain ⟨hfz6_0, hfz6_1⟩ := f2 BK229.out) | (refine gl 11 Try.func35 #[.slice A0_0 l0_0.length c0_0, .int .i64 a1] rfl ?_; (with_reducible refine (spec_l3Last.calls k _ _ l0_0 a1 t230 t231 t232 t233 true _ ?side1 ?side2 A3.out).mono ?_); (case side1 => exact pc (Kd.C_below HR0_0.out HB.out)); (case side2 => exact HC0_0.out); rintro e w7 ⟨rfl, hb⟩; refine ⟨_, rfl, ?_⟩; replace BK229 := am (blk_below (pb BK229.out) hb); replace HB := am (below_step (bg1 HB.out GE229.out) hb); clear hb) | (refine bx 5 #[.int .i64 0, .int .i64 0, .int .i64 0, .int .i64 0] 32 rfl ?_; intro gb235 hg w8 hbox hb; have BK235 := am (hbox); have GW235 := am (ge hg (bg1 HB.out GE229.out)); have GE235 := GW235; replace HB := am (below_step (bg1 HB.out GE229.out) hb); have NB229_235 := am (nb hg (pb BK229.out)); have NB235_229 := am (Ne.symm NB229_235.out); replace BK229 := am (blk_below (pb BK229.out) hb); clear hb hbox hg; have hnb9 := NB235_229.out; have hnc9 := NB229_235.out; obtain ⟨hcz10_0, hcz10_1, hcz10_2, hcz10_3⟩ := b4 BK235.out; obtain ⟨hfz10_0, hfz10_1, hfz10_2, hfz10_3⟩ := f4 BK235.out))
   go_ret
   exact (rq (bg2 HB.out GE229.out GE235.out))
 replace c4 := Bool.eq_false_iff.mpr c4
 subst c4
 rw [if_neg (show ¬ (false = true) by decide)] at H
 obtain ⟨ji11, hji11⟩ : ∃ j_ : Int, (wrap64 (a1 - 1)) = j_ := ⟨_, rfl⟩
 replace H : (if 0 ≤ (ji11) then (if (ji11) < (l0_1.length : Int) then (some (rd l0_1 (ji11))) else (none)) else (none)) = some r := by first | (rw [hji11] at H; exact H) | (simp only [hji11] at H ⊢; exact H)
 (try rw [hji11] at A3)
 have hji11w : (IntKind.i64.wrap (a1 - 1)) = ji11 := (i64_w _).trans hji11
 obtain ⟨c12b0, H⟩ := ifd H
 obtain ⟨c13b0, H⟩ := ifd H
 obtain rfl := Option.some.inj H
 go_enter Try.func65, Try.ntmps65
 go_wp2_with (first | (refine bx 2 #[.slice A0_0 l0_0.length c0_0, .slice A0_1 l0_1.length c0_1] 26 rfl ?_; intro gb229 hg w14 hbox hb; have BK229 := am (hbox); have GW229 := am (ge hg (ph HB.out)); have GE229 := GW229; replace HB := am (below_step (ph HB.out) hb); clear hb hbox hg; obtain ⟨hcz15_0, hcz15_1⟩ := b2 BK229.out; obtain ⟨hfz15_0, hfz15_1⟩ := f2 BK229.out) | (refine gl 11 Try.func35 #[.slice A0_0 l0_0.length c0_0, .int .i64 a1] rfl ?_; (with_reducible refine (spec_l3Last.calls k _ _ l0_0 a1 t230 t231 t232 t233 false _ ?side1 ?side2 A3.out).mono ?_); (case side1 => exact pc (Kd.C_below HR0_0.out HB.out)); (case side2 => exact HC0_0.out); rintro e w16 ⟨rfl, hb⟩; refine ⟨_, rfl, ?_⟩; replace BK229 := am (blk_below (pb BK229.out) hb); replace HB := am (below_step (bg1 HB.out GE229.out) hb); clear hb) | (refine bx 5 #[.int .i64 0, .int .i64 0, .int .i64 0, .int .i64 0] 32 rfl ?_; intro gb235 hg w17 hbox hb; have BK235 := am (hbox); have GW235 := am (ge hg (bg1 HB.out GE229.out)); have GE235 := GW235; replace HB := am (below_step (bg1 HB.out GE229.out) hb); have NB229_235 := am (nb hg (pb BK229.out)); have NB235_229 := am (Ne.symm NB229_235.out); replace BK229 := am (blk_below (pb BK229.out) hb); clear hb hbox hg; have hnb18 := NB235_229.out; have hnc18 := NB229_235.out; obtain ⟨hcz19_0, hcz19_1, hcz19_2, hcz19_3⟩ := b4 BK235.out; obtain ⟨hfz19_0, hfz19_1, hfz19_2, hfz19_3⟩ := f4 BK235.out; obtain ⟨hcz20_0, hcz20_1⟩ := b2 BK229.out; obtain ⟨hfz20_0, hfz20_1⟩ := f2 BK229.out; have p236 : 0 ≤ ((ji11) : Int) := ofb; have q236 : (ji11) < (l0_1.length : Int) := ofb; obtain ⟨ad236, e236, hx236_0⟩ := Kd.at_int HR0_1.out (ji11) p236 q236; cases e236; have hn236_0 : ad236.block ≠ gb235 := Nat.ne_of_lt (Nat.lt_of_lt_of_le (by have := World.block_lt_of_cell? _ _ hx236_0; first | rwa [add_block] at this | exact this) GW235.out); have hn236_1 : ad236.block ≠ gb235 := Nat.ne_of_lt (Nat.lt_of_lt_of_le (by have := World.block_lt_of_cell? _ _ hx236_0; first | rwa [add_block] at this | exact this) GW235.out); have hn236_2 : ad236.block ≠ gb235 := Nat.ne_of_lt (Nat.lt_of_lt_of_le (by have := World.block_lt_of_cell? _ _ hx236_0; first | rwa [add_block] at this | exact this) GW235.out); have hn236_3 : ad236.block ≠ gb235 := Nat.ne_of_lt (Nat.lt_of_lt_of_le (by have := World.block_lt_of_cell? _ _ hx236_0; first | rwa [add_block] at this | exact this) GW235.out); replace hx236_0 := up HB.out hx236_0; replace hx236_0 := (cell_far (p := ⟨gb235, 0, none⟩) (by first | (rw [add_block]; exact hn236_0) | (show (Addr.add _ _).block ≠ _; rw [add_block]; exact hn236_0) | exact hn236_0) (.int .i64 t230)).trans hx236_0; replace hx236_0 := (cell_far (p := ⟨gb235, 1, none⟩) (by first | (rw [add_block]; exact hn236_1) | (show (Addr.add _ _).block ≠ _; rw [add_block]; exact hn236_1) | exact hn236_1) (.int .i64 t231)).trans hx236_0; replace hx236_0 := (cell_far (p := ⟨gb235, 2, none⟩) (by first | (rw [add_block]; exact hn236_2) | (show (Addr.add _ _).block ≠ _; rw [add_block]; exact hn236_2) | exact hn236_2) (.int .i64 t232)).trans hx236_0; replace hx236_0 := (cell_far (p := ⟨gb235, 3, none⟩) (by first | (rw [add_block]; exact hn236_3) | (show (Addr.add _ _).block ≠ _; rw [add_block]; exact hn236_3) | exact hn236_3) (.int .i64 t233)).trans hx236_0; clear hn236_0; clear hn236_1; clear hn236_2; clear hn236_3; replace p236 := eq_true p236; replace q236 := eq_true q236))
 go_ret
 exact ⟨by first | rfl | (simp [errW_none, errW_some] <;> rfl) | (simp only [← hji11]; first | rfl | (simp [errW_none, errW_some] <;> rfl)) | (simp [*, errW_none, errW_some] <;> rfl), bg2 HB.out GE229.out GE235.out⟩
def spec_l12Flush.j0 : Nat → Int → Bool → List (S42) → List Int → Option ((List (S34)))
 | 0, _, _, _, _ => none
 | k + 1, x1, x15, x238000, x238001 => if x15 = true then (some (([] : List (S34)))) else ((spec_l11Read.f k x238000 x238001 x1).bind fun t243 => ((spec_l12Write.f k x238000 x238001 2 x1 t243).bind fun t244 => (if (t244.length : Int) = 0 then (some t244) else ((some (([(⟨1, x1, t243, 0, (⟨0, 0, 0, 0⟩ : S32)⟩ : S34)] : List (S34)) : List (S34))).bind fun y247 => (if y247.length + t244.length < 2199023255552 then (some (y247 ++ t244)) else (none))))))
def spec_l12Flush.f (k : Nat) (l0_0 : List (S42)) (l0_1 : List Int) (a1 : Int) : Option ((List (S34))) := (spec_l6In.f a1 1 6).bind fun t238 => (if t238 = true then ((spec_l11Dirty.f k l0_0 l0_1 a1).bind fun t239 => (spec_l12Flush.j0 k a1 (!t239) l0_0 l0_1)) else (spec_l12Flush.j0 k a1 true l0_0 l0_1))
theorem spec_l12Flush.calls (k : Nat) (A0_0 : Option Addr) (c0_0 : Nat) (l0_0 : List (S42)) (A0_1 : Option Addr) (c0_1 : Nat) (l0_1 : List Int) (a1 : Int) (r : List (S34)) (w : World) (hr0_0 : Kd.C k42 w A0_0 l0_0.length l0_0) (hc0_0 : l0_0.length ≤ c0_0) (hr0_1 : Kd.C (Kd.int .i64) w A0_1 l0_1.length l0_1) (hc0_1 : l0_1.length ≤ c0_1) (h : spec_l12Flush.f k l0_0 l0_1 a1 = some r) :
 Calls Try.prog 59 #[.agg #[.slice A0_0 l0_0.length c0_0, .slice A0_1 l0_1.length c0_1], .int .i64 a1] w fun e w' => ∃ v0_ : Value, e = .returned (v0_) ∧ Kd.R k34 34 w' w.heap.size (fun _ => True) v0_ r ∧ Below w.heap.size w w' := by
 have hu26 := Try.underlying26
 have hu34 := Try.underlying34
 have HR0_0 := am hr0_0
 have HC0_0 := am hc0_0
 clear hr0_0 hc0_0
 have HR0_1 := am hr0_1
 have HC0_1 := am hc0_1
 clear hr0_1 hc0_1
 have HB := am (Below.refl w.heap.size w)
 have H : ((spec_l6In.f a1 1 6).bind fun t238 => (if t238 = true then ((spec_l11Dirty.f k l0_0 l0_1 a1).bind fun t239 => (spec_l12Flush.j0 k a1 (!t239) l0_0 l0_1)) else (spec_l12Flush.j0 k a1 true l0_0 l0_1))) = some r := h
 clear h
 have HC3 := am H
 clear H
 go_enter Try.func59, Try.ntmps59
 go_upto_region 1 with (first | (refine bx 2 #[.slice A0_0 l0_0.length c0_0, .slice A0_1 l0_1.length c0_1] 26 rfl ?_; intro gb237 hg w4 hbox hb; have BK237 := am (hbox); have GW237 := am (ge hg (ph HB.out)); have GE237 := GW237; replace HB := am (below_step (ph HB.out) hb); clear hb hbox hg))
 (try simp only [Act.put, List.setIfInBounds_toArray, List.set_cons_zero, List.set_cons_succ])
 go_cut [15] (fun v15 wc => ∃ (kq : Nat) (x15_2 : Bool), v15 = .bool x15_2 ∧ Aside0 (spec_l12Flush.j0 kq a1 x15_2 l0_0 l0_1 = some r) ∧ Aside0 (kq ≤ k) ∧ Aside0 (wc.heap[gb237]? = some (.cells #[(.slice A0_0 l0_0.length c0_0), (.slice A0_1 l0_1.length c0_1)] 26 (0, 0))) ∧ Aside0 (Below w.heap.size w wc))
 case first =>
  have H := HC3.out
  clear HC3
  replace H := Option.bind_eq_some_iff.mp H
  obtain ⟨t238, A50, H⟩ := H
  have A5 := am A50
  clear A50
  by_cases c6 : t238 = true
  rotate_left
  · replace c6 := Bool.eq_false_iff.mpr c6
    subst c6
    rw [if_neg (show ¬ (false = true) by decide)] at H
    have H' := am H
    clear H
    go_wp2_with (first | (refine gl 8 Try.func36 #[.int .i64 a1, .int .i64 1, .int .i64 6] rfl ?_; (with_reducible refine (spec_l6In.calls a1 1 6 false _ A5.out).mono ?_); rintro e w' ⟨rfl, ⟨nd, rfl⟩⟩; refine ⟨_, rfl, ?_⟩))
    go_meet
    case rel => exact ⟨_, (true), rf, H', ⟨by first | omega | exact Nat.le_refl _⟩, ⟨pb BK237.out⟩, ⟨bg1 HB.out GE237.out⟩⟩
  subst c6
  rw [if_pos rfl] at H
  replace H := Option.bind_eq_some_iff.mp H
  obtain ⟨t239, A70, H⟩ := H
  have A7 := am A70
  clear A70
  have H' := am H
  clear H
  go_wp2_with (first | (refine gl 8 Try.func36 #[.int .i64 a1, .int .i64 1, .int .i64 6] rfl ?_; (with_reducible refine (spec_l6In.calls a1 1 6 true _ A5.out).mono ?_); rintro e w' ⟨rfl, ⟨nd, rfl⟩⟩; refine ⟨_, rfl, ?_⟩; obtain ⟨hcz8_0, hcz8_1⟩ := b2 BK237.out; obtain ⟨hfz8_0, hfz8_1⟩ := f2 BK237.out) | (go_at_call 64; (with_reducible refine (spec_l11Dirty.calls k _ _ l0_0 _ _ l0_1 a1 t239 _ ?side1 ?side2 ?side3 ?side4 A7.out).mono ?_); (case side1 => exact (Kd.C_below HR0_0.out (bg1 HB.out GE237.out))); (case side2 => exact HC0_0.out); (case side3 => exact (Kd.C_below HR0_1.out (bg1 HB.out GE237.out))); (case side4 => exact HC0_1.out); rintro e w9 ⟨rfl, hb⟩; replace BK237 := am (blk_below (pb BK237.out) hb); replace HB := am (below_step (bg1 HB.out GE237.out) hb); clear hb))
  go_meet
  case rel => exact ⟨_, (!t239), rf, H', ⟨by first | omega | exact Nat.le_refl _⟩, ⟨pb BK237.out⟩, ⟨bg1 HB.out GE237.out⟩⟩
 case rest =>
  clear HC3
  obtain ⟨kq, x15_2, rfl, HA, HJ2, BK237, HB⟩ := hcut
  cases kq with
  | zero => exact absurd HA.out (by simp [spec_l12Flush.j0])
  | succ kj2 =>
   have H := HA.out
   clear HA
   simp only [spec_l12Flush.j0] at H
   by_cases c10 : x15_2 = true
   · subst c10
     rw [if_pos rfl] at H
     obtain ⟨y240, hy240⟩ : ∃ y_ : List (S34), y_ = (([] : List (S34))) := ⟨_, rfl⟩
     replace H : (some y240) = some r := yy hy240 H
     have Ny240 := am hy240
     clear hy240
     obtain rfl := Option.some.inj H
     go_wp2_with (first | ((with_reducible refine gate_dst (N := 16) rfl ?_); refine Kd.R_lit k34 _ 34 ?hg (N := 16) ?hd (xs := ([] : List (S34))) (inner := []) (ok := fun _ => True) (okp := fun _ => True) ?hr ?hp (fun _ hk => hk) trivial (Below.refl _ _) (Nat.le_refl _) (by simp) ?_; (case hd => rfl); (case hg => rfl); (case hr => first | (go_simp; done) | (go_simp; rfl)); (case hp => exact (Reps.none _ _)); intro v241 w11 ho12 hb hg_ hnew_; clear hg_ hnew_; (first | rw [← Ny240.out] at ho12 | (simp only [Int.reduceToNat] at ho12; rw [← Ny240.out] at ho12)); have HO242 := am (Kd.R_lower ho12 (below_size (bg1 HB.out GE237.out))); replace BK237 := am (blk_below (pb BK237.out) hb); replace HB := am (below_step (bg1 HB.out GE237.out) hb); clear hb ho12))
     go_ret
     exact ⟨_, rq ⟨pr HO242.out, bg1 HB.out GE237.out⟩⟩
   replace c10 := Bool.eq_false_iff.mpr c10
   subst c10
   rw [if_neg (show ¬ (false = true) by decide)] at H
   replace H := Option.bind_eq_some_iff.mp H
   obtain ⟨t243, A130, H⟩ := H
   have A13 := am A130
   clear A130
   replace H := Option.bind_eq_some_iff.mp H
   obtain ⟨t244, A140, H⟩ := H
   have A14 := am A140
   clear A140
   by_cases c15 : (t244.length : Int) = 0
   · rw [if_pos c15] at H
     have c15b0 : ((t244.length : Int) == 0) = true := beq_iff_eq.mpr c15
     have c15b1 : ((t244.length : Int) != 0) = false := bne_eq_false_iff_eq.mpr c15
     clear c15
     obtain rfl := Option.some.inj H
     obtain ⟨hcz16_0, hcz16_1⟩ := b2 BK237.out
     obtain ⟨hfz16_0, hfz16_1⟩ := f2 BK237.out
     go_wp2_with (first | (refine gl 19 Try.func65 #[.agg #[.slice A0_0 l0_0.length c0_0, .slice A0_1 l0_1.length c0_1], .int .i64 a1] rfl ?_; (with_reducible refine (spec_l11Read.calls kj2 _ _ l0_0 _ _ l0_1 a1 t243 _ ?side1 ?side2 ?side3 ?side4 A13.out).mono ?_); (case side1 => exact pc (Kd.C_below HR0_0.out HB.out)); (case side2 => exact HC0_0.out); (case side3 => exact pc (Kd.C_below HR0_1.out HB.out)); (case side4 => exact HC0_1.out); rintro e w17 ⟨rfl, hb⟩; refine ⟨_, rfl, ?_⟩; replace BK237 := am (blk_below (pb BK237.out) hb); replace HB := am (below_step (bg1 HB.out GE237.out) hb); clear hb; obtain ⟨hcz18_0, hcz18_1⟩ := b2 BK237.out; obtain ⟨hfz18_0, hfz18_1⟩ := f2 BK237.out) | (refine gl 23 Try.func17 #[.agg #[.slice A0_0 l0_0.length c0_0, .slice A0_1 l0_1.length c0_1], .int .i64 2, .int .i64 a1, .int .i64 t243] rfl ?_; (with_reducible refine (spec_l12Write.calls kj2 _ _ l0_0 _ _ l0_1 2 a1 t243 t244 _ ?side1 ?side2 ?side3 ?side4 A14.out).mono ?_); (case side1 => exact pc (Kd.C_below HR0_0.out HB.out)); (case side2 => exact HC0_0.out); (case side3 => exact pc (Kd.C_below HR0_1.out HB.out)); (case side4 => exact HC0_1.out); rintro e w19 ⟨v245, rfl, ho0, hb⟩; refine ⟨_, rfl, ?_⟩; have HO246 := am (Kd.R_lower ho0 (below_size (bg1 HB.out GE237.out))); replace BK237 := am (blk_below (pb BK237.out) hb); replace HB := am (below_step (bg1 HB.out GE237.out) hb); clear hb ho0; obtain ⟨Ao20, co20, eo20⟩ := Kd.R_slice HO246.out; subst eo20))
     go_ret
     exact ⟨_, rq ⟨pr HO246.out, bg1 HB.out GE237.out⟩⟩
   rw [if_neg c15] at H
   have c15b0 : ((t244.length : Int) == 0) = false := beq_eq_false_iff_ne.mpr c15
   have c15b1 : ((t244.length : Int) != 0) = true := bne_iff_ne.mpr c15
   have c15b2 : ¬ (t244 = []) := fun h_ => c15 (by rw [h_]; rfl)
   obtain ⟨y247, hy247⟩ : ∃ y_ : List (S34), y_ = (([(⟨1, a1, t243, 0, (⟨0, 0, 0, 0⟩ : S32)⟩ : S34)] : List (S34))) := ⟨_, rfl⟩
   replace H : (if y247.length + t244.length < 2199023255552 then (some (y247 ++ t244)) else (none)) = some r := yy hy247 H
   have Ny247 := am hy247
   clear hy247
   by_cases c21 : y247.length + t244.length < 2199023255552
   rotate_left
   · rw [if_neg c21] at H
     exact absurd H (by simp)
   rw [if_pos c21] at H
   have LMc21 := am c21
   clear c21
   obtain ⟨y250, hy250⟩ : ∃ y_ : List (S34), y_ = (y247 ++ t244) := ⟨_, rfl⟩
   replace H : (some y250) = some r := yy hy250 H
   have Ny250 := am hy250
   clear hy250
   obtain rfl := Option.some.inj H
   obtain ⟨hcz22_0, hcz22_1⟩ := b2 BK237.out
   obtain ⟨hfz22_0, hfz22_1⟩ := f2 BK237.out
   go_wp2_with (first | (refine gl 19 Try.func65 #[.agg #[.slice A0_0 l0_0.length c0_0, .slice A0_1 l0_1.length c0_1], .int .i64 a1] rfl ?_; (with_reducible refine (spec_l11Read.calls kj2 _ _ l0_0 _ _ l0_1 a1 t243 _ ?side1 ?side2 ?side3 ?side4 A13.out).mono ?_); (case side1 => exact pc (Kd.C_below HR0_0.out HB.out)); (case side2 => exact HC0_0.out); (case side3 => exact pc (Kd.C_below HR0_1.out HB.out)); (case side4 => exact HC0_1.out); rintro e w23 ⟨rfl, hb⟩; refine ⟨_, rfl, ?_⟩; replace BK237 := am (blk_below (pb BK237.out) hb); replace HB := am (below_step (bg1 HB.out GE237.out) hb); clear hb; obtain ⟨hcz24_0, hcz24_1⟩ := b2 BK237.out; obtain ⟨hfz24_0, hfz24_1⟩ := f2 BK237.out) | (refine gl 23 Try.func17 #[.agg #[.slice A0_0 l0_0.length c0_0, .slice A0_1 l0_1.length c0_1], .int .i64 2, .int .i64 a1, .int .i64 t243] rfl ?_; (with_reducible refine (spec_l12Write.calls kj2 _ _ l0_0 _ _ l0_1 2 a1 t243 t244 _ ?side1 ?side2 ?side3 ?side4 A14.out).mono ?_); (case side1 => exact pc (Kd.C_below HR0_0.out HB.out)); (case side2 => exact HC0_0.out); (case side3 => exact pc (Kd.C_below HR0_1.out HB.out)); (case side4 => exact HC0_1.out); rintro e w25 ⟨v245, rfl, ho0, hb⟩; refine ⟨_, rfl, ?_⟩; have HO246 := am (Kd.R_lower ho0 (below_size (bg1 HB.out GE237.out))); replace BK237 := am (blk_below (pb BK237.out) hb); replace HB := am (below_step (bg1 HB.out GE237.out) hb); clear hb ho0; obtain ⟨Ao26, co26, eo26⟩ := Kd.R_slice HO246.out; subst eo26) | ((with_reducible refine gate_dst (N := 31) rfl ?_); refine Kd.R_lit k34 _ 34 ?hg (N := 31) ?hd (xs := ([(⟨1, a1, t243, 0, (⟨0, 0, 0, 0⟩ : S32)⟩ : S34)] : List (S34))) (inner := [.int .i64 1, .int .i64 a1, .int .i64 t243, .int .i64 0, .int .i64 0, .int .i64 0, .int .i64 0, .int .i64 0]) (ok := fun _ => True) (okp := fun _ => True) ?hr ?hp (fun _ hk => hk) trivial (Below.refl _ _) (Nat.le_refl _) (by simp) ?_; (case hd => rfl); (case hg => rfl); (case hr => first | (go_simp; done) | (go_simp; rfl)); (case hp => exact (Reps.c8 (show Kd.M k34 _ _ _ (⟨1, a1, t243, 0, (⟨0, 0, 0, 0⟩ : S32)⟩ : S34) [.int .i64 1, .int .i64 a1, .int .i64 t243, .int .i64 0, .int .i64 0, .int .i64 0, .int .i64 0, .int .i64 0] from (k34_mkM _ _ _ (⟨1, a1, t243, 0, (⟨0, 0, 0, 0⟩ : S32)⟩ : S34) )) (Reps.none _ _))); intro v248 w27 ho28 hb hg_ hnew_; clear hg_ hnew_; (first | rw [← Ny247.out] at ho28 | (simp only [Int.reduceToNat] at ho28; rw [← Ny247.out] at ho28)); have HO249 := am (Kd.R_lower (Kd.R_new' ho28 (Kd.R_lt (pr HO246.out))) (below_size (bg1 HB.out GE237.out))); replace HO246 := am (Kd.R_elder' (pr HO246.out) (Kd.R_base ho28) hb); replace BK237 := am (blk_below (pb BK237.out) hb); replace HB := am (below_step (bg1 HB.out GE237.out) hb); clear hb ho28) | ((with_reducible refine gate_builtin (b := .append) (xs := #[.tmp 31, .tmp 32]) rfl ?_); at_builtin; refine Kd.R_append_rows k34 (w0 := w) w.heap.size rfl (.tmp 31) (.tmp 32) 29 34 (.agg #[(.int .i64 0), (.int .i64 0), (.int .i64 0), (.int .i64 0), (.int .i64 0), (.int .i64 0), (.int .i64 0), (.int .i64 0)]) 64 rfl Try.underlying29 info34 rfl (by decide) (by omega) v248 y247 t244 _ _ _ (fun k_ => some k_ ≠ (.slice Ao26 t244.length co26 : Value).ownBlock) (fun _ => False) rfl rfl ?aO ?aR (fun _ _ h => h) (fun _ h => h.elim) ?aF ?aB ?aS ?aL ?_; (case aR => exact pc ((Kd.R_reads' HO246.out).2.2)); (case aB => exact (bg1 HB.out GE237.out)); (case aF => exact (fun k_ hk => Kd.fresh' (Kd.R_lt (pr HO246.out)) k_ hk)); (case aO => exact (pr (Kd.R_mono HO249.out (fun _ hk => hk.2)))); (case aS => exact (below_size (bg1 HB.out GE237.out))); (case aL => have := LMc21.out; omega); intro v251 w29 ho hb hg hat; rw [← Ny250.out] at ho; replace BK237 := am (blk_grown (g := gb237) (o := .cells #[.slice A0_0 l0_0.length c0_0, .slice A0_1 l0_1.length c0_1] 26 (0, 0)) (pb BK237.out) hg (Kd.R_ne HO249.out BK237.out (by decide))); replace HO246 := am (Kd.R_after (ok := (fun _ => True)) (pr HO246.out) hg hat); replace HB := am (hb); have HO252 := am (ho); clear HO249; clear ho hb hg hat))
   go_ret
   exact ⟨_, rq ⟨pr (Kd.R_mono HO252.out (fun _ hk => trivial)), bg1 HB.out GE237.out⟩⟩
end Go.Proofs.Ytenmnclkbleglaa.P2
