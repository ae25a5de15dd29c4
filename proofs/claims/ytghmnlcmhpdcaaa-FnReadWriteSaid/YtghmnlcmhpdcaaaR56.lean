-- printed by wip/pp/pp.py
import Derived.Test.YtghmnlcmhpdcaaaR50
import Derived.Test.YtghmnlcmhpdcaaaR51
import Derived.Test.YtghmnlcmhpdcaaaR53
import Derived.Test.YtghmnlcmhpdcaaaR54
import Derived.Test.YtghmnlcmhpdcaaaR55
namespace Go.Proofs.Ytghmnlcmhpdcaaa.R5
open Go.RowKit Go.Proofs.YtghmnlcmhpdcaaaW.PrintWords Go.Proofs.YtghmnlcmhpdcaaaW.PrintLast Go.Proofs.YtghmnlcmhpdcaaaW.PrintMore
attribute [local go_sem] max2_int min2_int max_two min_two max_three min_three max_four min_four
set_option linter.unusedVariables false
set_option linter.unusedSimpArgs false
def spec_l12Write.f (k : Nat) (l0_0 : List (S54)) (l0_1 : List Int) (a1 : Int) (a2 : Int) (a3 : Int) : Option ((List (S107))) := (spec_l3Next.f k l0_0).bind fun t225 => ((spec_l12Room.f k l0_0 l0_1).bind fun bt227 => (if bt227.2.2 = true then ((spec_RecOk.f a1 t225 a2 a3).bind fun t232 => (if t232 = true then (if bt227.1.length < 2199023255552 then (some (bt227.1 ++ [(⟨3, 0, 0, bt227.2.1, (⟨a1, t225, a2, a3⟩ : S37)⟩ : S107)])) else (none)) else (some (([] : List (S107)))))) else (some (([] : List (S107))))))
theorem spec_l12Write.mono : ∀ a0 a1 a2 a3 a4 k, LeO (spec_l12Write.f k a0 a1 a2 a3 a4) (spec_l12Write.f (k + 1) a0 a1 a2 a3 a4) := by
 intro a0 a1 a2 a3 a4 k
 unfold spec_l12Write.f
 with_reducible repeat' first | exact spec_l12Room.mono _ _ _ | exact spec_l3Next.mono _ _ | exact LeO.refl _ | exact LeO.none _ | refine LeO.ite ?_ ?_ | refine LeO.bind ?_ (fun _ => ?_)
set_option maxHeartbeats 8000000 in
set_option maxRecDepth 100000 in
theorem spec_l12Write.calls (k : Nat) (A0_0 : Option Addr) (c0_0 : Nat) (l0_0 : List (S54)) (A0_1 : Option Addr) (c0_1 : Nat) (l0_1 : List Int) (a1 : Int) (a2 : Int) (a3 : Int) (r : List (S107)) (w : World) (hr0_0 : Kd.C k54 w A0_0 l0_0.length l0_0) (hc0_0 : l0_0.length ≤ c0_0) (hr0_1 : Kd.C (Kd.int .i64) w A0_1 l0_1.length l0_1) (hc0_1 : l0_1.length ≤ c0_1) (h : spec_l12Write.f k l0_0 l0_1 a1 a2 a3 = some r) :
 Calls Try.prog 58 #[.agg #[.slice A0_0 l0_0.length c0_0, .slice A0_1 l0_1.length c0_1], .int .i64 a1, .int .i64 a2, .int .i64 a3] w fun e w' => ∃ v0_ : Value, e = .returned (v0_) ∧ Kd.R k107 107 w' w.heap.size (fun _ => True) v0_ r ∧ Below w.heap.size w w' := by
 have hu26 := Try.underlying26
 have hu37 := Try.underlying37
 have hu107 := Try.underlying107
 have HR0_0 := am hr0_0
 have HC0_0 := am hc0_0
 clear hr0_0 hc0_0
 have HR0_1 := am hr0_1
 have HC0_1 := am hc0_1
 clear hr0_1 hc0_1
 have HB := am (Below.refl w.heap.size w)
 have H : ((spec_l3Next.f k l0_0).bind fun t225 => ((spec_l12Room.f k l0_0 l0_1).bind fun bt227 => (if bt227.2.2 = true then ((spec_RecOk.f a1 t225 a2 a3).bind fun t232 => (if t232 = true then (if bt227.1.length < 2199023255552 then (some (bt227.1 ++ [(⟨3, 0, 0, bt227.2.1, (⟨a1, t225, a2, a3⟩ : S37)⟩ : S107)])) else (none)) else (some (([] : List (S107)))))) else (some (([] : List (S107))))))) = some r := h
 clear h
 replace H := Option.bind_eq_some_iff.mp H
 obtain ⟨t225, A50, H⟩ := H
 have A5 := am A50
 clear A50
 replace H := Option.bind_eq_some_iff.mp H
 obtain ⟨⟨t227, t230, t231⟩, A60, H⟩ := H
 have A6 := am A60
 clear A60
 by_cases c7 : t231 = true
 rotate_left
 · replace c7 := Bool.eq_false_iff.mpr c7
   subst c7
   rw [if_neg (show ¬ (false = true) by decide)] at H
   obtain ⟨y239, hy239⟩ : ∃ y_ : List (S107), y_ = (([] : List (S107))) := ⟨_, rfl⟩
   replace H : (some y239) = some r := yy hy239 H
   have Ny239 := am hy239
   clear hy239
   obtain rfl := Option.some.inj H
   go_enter Try.func58, Try.ntmps58
   go_wp2_with (first | (refine bx 4 #[.slice A0_0 l0_0.length c0_0, .slice A0_1 l0_1.length c0_1] 26 rfl ?_; intro gb224 hg w35 hbox hb; have BK224 := am (hbox); have GW224 := am (ge hg (ph HB.out)); have GE224 := GW224; replace HB := am (below_step (ph HB.out) hb); clear hb hbox hg; obtain ⟨hcz36_0, hcz36_1⟩ := b2 BK224.out; obtain ⟨hfz36_0, hfz36_1⟩ := f2 BK224.out) | (refine gl 16 Try.func63 #[.slice A0_0 l0_0.length c0_0] rfl ?_; (with_reducible refine (spec_l3Next.calls k _ _ l0_0 t225 _ ?side1 ?side2 A5.out).mono ?_); (case side1 => exact pc (Kd.C_below HR0_0.out HB.out)); (case side2 => exact HC0_0.out); rintro e w37 ⟨rfl, hb⟩; refine ⟨_, rfl, ?_⟩; replace BK224 := am (blk_below (pb BK224.out) hb); replace HB := am (below_step (bg1 HB.out GE224.out) hb); clear hb) | (refine bx 9 #[.int .i64 0, .int .i64 0, .int .i64 0, .int .i64 0] 37 rfl ?_; intro gb226 hg w38 hbox hb; have BK226 := am (hbox); have GW226 := am (ge hg (bg1 HB.out GE224.out)); have GE226 := GW226; replace HB := am (below_step (bg1 HB.out GE224.out) hb); have NB224_226 := am (nb hg (pb BK224.out)); have NB226_224 := am (Ne.symm NB224_226.out); replace BK224 := am (blk_below (pb BK224.out) hb); clear hb hbox hg; have hnb39 := NB226_224.out; have hnc39 := NB224_226.out; obtain ⟨hcz40_0, hcz40_1, hcz40_2, hcz40_3⟩ := b4 BK226.out; obtain ⟨hfz40_0, hfz40_1, hfz40_2, hfz40_3⟩ := f4 BK226.out; obtain ⟨hcz41_0, hcz41_1⟩ := b2 BK224.out; obtain ⟨hfz41_0, hfz41_1⟩ := f2 BK224.out) | (refine gl 22 Try.func64 #[.agg #[.slice A0_0 l0_0.length c0_0, .slice A0_1 l0_1.length c0_1]] rfl ?_; (with_reducible refine (spec_l12Room.calls k _ _ l0_0 _ _ l0_1 t227 t230 false _ ?side1 ?side2 ?side3 ?side4 A6.out).mono ?_); (case side1 => exact Kd.C_below HR0_0.out (bg2 HB.out GE224.out GE226.out)); (case side2 => exact HC0_0.out); (case side3 => exact Kd.C_below HR0_1.out (bg2 HB.out GE224.out GE226.out)); (case side4 => exact HC0_1.out); rintro e w42 ⟨v228, rfl, ho0, hb⟩; refine ⟨_, rfl, ?_⟩; have HO229 := am (Kd.R_lower ho0 (below_size (bg2 HB.out GE224.out GE226.out))); replace BK224 := am (blk_below (bf4 (pb BK224.out) NB224_226.out) hb); replace BK226 := am (blk_below (bp4 (pb BK226.out)) hb); replace HB := am (below_step (bg2 HB.out GE224.out GE226.out) hb); clear hb ho0) | ((with_reducible refine gate_dst (N := 33) rfl ?_); refine Kd.R_lit k107 _ 107 ?hg (N := 33) ?hd (xs := ([] : List (S107))) (inner := []) (ok := fun _ => True) (okp := fun _ => True) ?hr ?hp (fun _ hk => hk) trivial (Below.refl _ _) (Nat.le_refl _) (by simp) ?_; (case hd => rfl); (case hg => rfl); (case hr => first | (go_simp; done) | (go_simp; rfl)); (case hp => exact (Reps.none _ _)); intro v240 w43 ho44 hb hg_ hnew_; clear hg_ hnew_; (first | rw [← Ny239.out] at ho44 | (simp only [Int.reduceToNat] at ho44; rw [← Ny239.out] at ho44)); have HO241 := am (Kd.R_lower (Kd.R_new' ho44 (Kd.R_lt (pr HO229.out))) (below_size (bg2 HB.out GE224.out GE226.out))); replace HO229 := am (Kd.R_elder' (pr HO229.out) (Kd.R_base ho44) hb); replace BK224 := am (blk_below (pb BK224.out) hb); replace BK226 := am (blk_below (pb BK226.out) hb); replace HB := am (below_step (bg2 HB.out GE224.out GE226.out) hb); clear hb ho44))
   go_ret
   exact ⟨_, rq ⟨pr (Kd.R_mono HO241.out (fun _ hk => trivial)), bg2 HB.out GE224.out GE226.out⟩⟩
 subst c7
 rw [if_pos rfl] at H
 replace H := Option.bind_eq_some_iff.mp H
 obtain ⟨t232, A80, H⟩ := H
 have A8 := am A80
 clear A80
 by_cases c9 : t232 = true
 rotate_left
 · replace c9 := Bool.eq_false_iff.mpr c9
   subst c9
   rw [if_neg (show ¬ (false = true) by decide)] at H
   obtain ⟨y236, hy236⟩ : ∃ y_ : List (S107), y_ = (([] : List (S107))) := ⟨_, rfl⟩
   replace H : (some y236) = some r := yy hy236 H
   have Ny236 := am hy236
   clear hy236
   obtain rfl := Option.some.inj H
   go_enter Try.func58, Try.ntmps58
   go_wp2_with (first | (refine bx 4 #[.slice A0_0 l0_0.length c0_0, .slice A0_1 l0_1.length c0_1] 26 rfl ?_; intro gb224 hg w23 hbox hb; have BK224 := am (hbox); have GW224 := am (ge hg (ph HB.out)); have GE224 := GW224; replace HB := am (below_step (ph HB.out) hb); clear hb hbox hg; obtain ⟨hcz24_0, hcz24_1⟩ := b2 BK224.out; obtain ⟨hfz24_0, hfz24_1⟩ := f2 BK224.out) | (refine gl 16 Try.func63 #[.slice A0_0 l0_0.length c0_0] rfl ?_; (with_reducible refine (spec_l3Next.calls k _ _ l0_0 t225 _ ?side1 ?side2 A5.out).mono ?_); (case side1 => exact pc (Kd.C_below HR0_0.out HB.out)); (case side2 => exact HC0_0.out); rintro e w25 ⟨rfl, hb⟩; refine ⟨_, rfl, ?_⟩; replace BK224 := am (blk_below (pb BK224.out) hb); replace HB := am (below_step (bg1 HB.out GE224.out) hb); clear hb) | (refine bx 9 #[.int .i64 0, .int .i64 0, .int .i64 0, .int .i64 0] 37 rfl ?_; intro gb226 hg w26 hbox hb; have BK226 := am (hbox); have GW226 := am (ge hg (bg1 HB.out GE224.out)); have GE226 := GW226; replace HB := am (below_step (bg1 HB.out GE224.out) hb); have NB224_226 := am (nb hg (pb BK224.out)); have NB226_224 := am (Ne.symm NB224_226.out); replace BK224 := am (blk_below (pb BK224.out) hb); clear hb hbox hg; have hnb27 := NB226_224.out; have hnc27 := NB224_226.out; obtain ⟨hcz28_0, hcz28_1, hcz28_2, hcz28_3⟩ := b4 BK226.out; obtain ⟨hfz28_0, hfz28_1, hfz28_2, hfz28_3⟩ := f4 BK226.out; obtain ⟨hcz29_0, hcz29_1⟩ := b2 BK224.out; obtain ⟨hfz29_0, hfz29_1⟩ := f2 BK224.out) | (refine gl 22 Try.func64 #[.agg #[.slice A0_0 l0_0.length c0_0, .slice A0_1 l0_1.length c0_1]] rfl ?_; (with_reducible refine (spec_l12Room.calls k _ _ l0_0 _ _ l0_1 t227 t230 true _ ?side1 ?side2 ?side3 ?side4 A6.out).mono ?_); (case side1 => exact Kd.C_below HR0_0.out (bg2 HB.out GE224.out GE226.out)); (case side2 => exact HC0_0.out); (case side3 => exact Kd.C_below HR0_1.out (bg2 HB.out GE224.out GE226.out)); (case side4 => exact HC0_1.out); rintro e w30 ⟨v228, rfl, ho0, hb⟩; refine ⟨_, rfl, ?_⟩; have HO229 := am (Kd.R_lower ho0 (below_size (bg2 HB.out GE224.out GE226.out))); replace BK224 := am (blk_below (bf4 (pb BK224.out) NB224_226.out) hb); replace BK226 := am (blk_below (bp4 (pb BK226.out)) hb); replace HB := am (below_step (bg2 HB.out GE224.out GE226.out) hb); clear hb ho0; obtain ⟨hcz31_0, hcz31_1, hcz31_2, hcz31_3⟩ := b4 BK226.out; obtain ⟨hfz31_0, hfz31_1, hfz31_2, hfz31_3⟩ := f4 BK226.out) | (go_at_call 55; (with_reducible refine (spec_RecOk.calls a1 t225 a2 a3 false _ A8.out).mono ?_); rintro e w32 ⟨rfl, hb⟩; replace HO229 := am (Kd.R_below (pr HO229.out) hb); replace BK224 := am (blk_below (pb BK224.out) hb); replace BK226 := am (blk_below (pb BK226.out) hb); replace HB := am (below_step (bg2 HB.out GE224.out GE226.out) hb); clear hb) | ((with_reducible refine gate_dst (N := 33) rfl ?_); refine Kd.R_lit k107 _ 107 ?hg (N := 33) ?hd (xs := ([] : List (S107))) (inner := []) (ok := fun _ => True) (okp := fun _ => True) ?hr ?hp (fun _ hk => hk) trivial (Below.refl _ _) (Nat.le_refl _) (by simp) ?_; (case hd => rfl); (case hg => rfl); (case hr => first | (go_simp; done) | (go_simp; rfl)); (case hp => exact (Reps.none _ _)); intro v237 w33 ho34 hb hg_ hnew_; clear hg_ hnew_; (first | rw [← Ny236.out] at ho34 | (simp only [Int.reduceToNat] at ho34; rw [← Ny236.out] at ho34)); have HO238 := am (Kd.R_lower (Kd.R_new' ho34 (Kd.R_lt (pr HO229.out))) (below_size (bg2 HB.out GE224.out GE226.out))); replace HO229 := am (Kd.R_elder' (pr HO229.out) (Kd.R_base ho34) hb); replace BK224 := am (blk_below (pb BK224.out) hb); replace BK226 := am (blk_below (pb BK226.out) hb); replace HB := am (below_step (bg2 HB.out GE224.out GE226.out) hb); clear hb ho34))
   go_ret
   exact ⟨_, rq ⟨pr (Kd.R_mono HO238.out (fun _ hk => trivial)), bg2 HB.out GE224.out GE226.out⟩⟩
 subst c9
 rw [if_pos rfl] at H
 by_cases c10 : t227.length < 2199023255552
 rotate_left
 · rw [if_neg c10] at H
   exact absurd H (by simp)
 rw [if_pos c10] at H
 have LMc10 := am c10
 clear c10
 obtain ⟨y233, hy233⟩ : ∃ y_ : List (S107), y_ = (t227 ++ [(⟨3, 0, 0, t230, (⟨a1, t225, a2, a3⟩ : S37)⟩ : S107)]) := ⟨_, rfl⟩
 replace H : (some y233) = some r := yy hy233 H
 have Ny233 := am hy233
 clear hy233
 obtain rfl := Option.some.inj H
 go_enter Try.func58, Try.ntmps58
 go_wp2_with (first | (refine bx 4 #[.slice A0_0 l0_0.length c0_0, .slice A0_1 l0_1.length c0_1] 26 rfl ?_; intro gb224 hg w11 hbox hb; have BK224 := am (hbox); have GW224 := am (ge hg (ph HB.out)); have GE224 := GW224; replace HB := am (below_step (ph HB.out) hb); clear hb hbox hg; obtain ⟨hcz12_0, hcz12_1⟩ := b2 BK224.out; obtain ⟨hfz12_0, hfz12_1⟩ := f2 BK224.out) | (refine gl 16 Try.func63 #[.slice A0_0 l0_0.length c0_0] rfl ?_; (with_reducible refine (spec_l3Next.calls k _ _ l0_0 t225 _ ?side1 ?side2 A5.out).mono ?_); (case side1 => exact pc (Kd.C_below HR0_0.out HB.out)); (case side2 => exact HC0_0.out); rintro e w13 ⟨rfl, hb⟩; refine ⟨_, rfl, ?_⟩; replace BK224 := am (blk_below (pb BK224.out) hb); replace HB := am (below_step (bg1 HB.out GE224.out) hb); clear hb) | (refine bx 9 #[.int .i64 0, .int .i64 0, .int .i64 0, .int .i64 0] 37 rfl ?_; intro gb226 hg w14 hbox hb; have BK226 := am (hbox); have GW226 := am (ge hg (bg1 HB.out GE224.out)); have GE226 := GW226; replace HB := am (below_step (bg1 HB.out GE224.out) hb); have NB224_226 := am (nb hg (pb BK224.out)); have NB226_224 := am (Ne.symm NB224_226.out); replace BK224 := am (blk_below (pb BK224.out) hb); clear hb hbox hg; have hnb15 := NB226_224.out; have hnc15 := NB224_226.out; obtain ⟨hcz16_0, hcz16_1, hcz16_2, hcz16_3⟩ := b4 BK226.out; obtain ⟨hfz16_0, hfz16_1, hfz16_2, hfz16_3⟩ := f4 BK226.out; obtain ⟨hcz17_0, hcz17_1⟩ := b2 BK224.out; obtain ⟨hfz17_0, hfz17_1⟩ := f2 BK224.out) | (refine gl 22 Try.func64 #[.agg #[.slice A0_0 l0_0.length c0_0, .slice A0_1 l0_1.length c0_1]] rfl ?_; (with_reducible refine (spec_l12Room.calls k _ _ l0_0 _ _ l0_1 t227 t230 true _ ?side1 ?side2 ?side3 ?side4 A6.out).mono ?_); (case side1 => exact Kd.C_below HR0_0.out (bg2 HB.out GE224.out GE226.out)); (case side2 => exact HC0_0.out); (case side3 => exact Kd.C_below HR0_1.out (bg2 HB.out GE224.out GE226.out)); (case side4 => exact HC0_1.out); rintro e w18 ⟨v228, rfl, ho0, hb⟩; refine ⟨_, rfl, ?_⟩; have HO229 := am (Kd.R_lower ho0 (below_size (bg2 HB.out GE224.out GE226.out))); replace BK224 := am (blk_below (bf4 (pb BK224.out) NB224_226.out) hb); replace BK226 := am (blk_below (bp4 (pb BK226.out)) hb); replace HB := am (below_step (bg2 HB.out GE224.out GE226.out) hb); clear hb ho0; obtain ⟨hcz19_0, hcz19_1, hcz19_2, hcz19_3⟩ := b4 BK226.out; obtain ⟨hfz19_0, hfz19_1, hfz19_2, hfz19_3⟩ := f4 BK226.out) | (go_at_call 55; (with_reducible refine (spec_RecOk.calls a1 t225 a2 a3 true _ A8.out).mono ?_); rintro e w20 ⟨rfl, hb⟩; replace HO229 := am (Kd.R_below (pr HO229.out) hb); replace BK224 := am (blk_below (pb BK224.out) hb); replace BK226 := am (blk_below (pb BK226.out) hb); replace HB := am (below_step (bg2 HB.out GE224.out GE226.out) hb); clear hb; obtain ⟨hcz21_0, hcz21_1, hcz21_2, hcz21_3⟩ := b4 BK226.out; obtain ⟨hfz21_0, hfz21_1, hfz21_2, hfz21_3⟩ := f4 BK226.out) | ((with_reducible refine gate_builtin (b := .append) (xs := #[.tmp 34, .tmp 38]) rfl ?_); at_builtin; refine Kd.R_append k107 (w0 := w) w.heap.size rfl (.tmp 34) (.tmp 38) 102 107 (.agg #[(.int .i64 0), (.int .i64 0), (.int .i64 0), (.int .i64 0), (.int .i64 0), (.int .i64 0), (.int .i64 0), (.int .i64 0)]) 64 rfl Try.underlying102 info107 rfl (by decide) (by omega) v228 t227 (⟨3, 0, 0, t230, (⟨a1, t225, a2, a3⟩ : S37)⟩ : S107) [.int .i64 3, .int .i64 0, .int .i64 0, .int .i64 t230, .int .i64 a1, .int .i64 t225, .int .i64 a2, .int .i64 a3] (fun _ => True) (fun _ => False) rfl rfl ?aP (fun _ hk => hk.elim) ?aF ?aO ?aB ?aS ?aL ?_; (case aP => exact k107_mkM _ _ _ (⟨3, 0, 0, t230, (⟨a1, t225, a2, a3⟩ : S37)⟩ : S107)); (case aB => exact (bg2 HB.out GE224.out GE226.out)); (case aF => exact (fun _ _ => trivial)); (case aO => exact (pr HO229.out)); (case aS => exact (below_size (bg2 HB.out GE224.out GE226.out))); (case aL => have := LMc10.out; omega); intro v234 w22 ho hb hg hat; rw [← Ny233.out] at ho; replace BK224 := am (blk_grown (g := gb224) (o := .cells #[.slice A0_0 l0_0.length c0_0, .slice A0_1 l0_1.length c0_1] 26 (0, 0)) (pb BK224.out) hg (Kd.R_ne HO229.out BK224.out (by decide))); replace BK226 := am (blk_grown (g := gb226) (o := .cells #[.int .i64 a1, .int .i64 t225, .int .i64 a2, .int .i64 a3] 37 (0, 0)) (pb BK226.out) hg (Kd.R_ne HO229.out BK226.out (by decide))); replace HB := am (hb); have HO235 := am (ho); clear HO229; clear ho hb hg hat))
 go_ret
 exact ⟨_, rq ⟨pr HO235.out, bg2 HB.out GE224.out GE226.out⟩⟩
def spec_l11Dirty.f (k : Nat) (l0_0 : List (S54)) (l0_1 : List Int) (a1 : Int) : Option (Bool) := (spec_l3Last.f k l0_0 a1).bind fun bt243 => (if bt243.2.2.2.2 = true then (some (bt243.1 == 1)) else (some false))
theorem spec_l11Dirty.mono : ∀ a0 a1 a2 k, LeO (spec_l11Dirty.f k a0 a1 a2) (spec_l11Dirty.f (k + 1) a0 a1 a2) := by
 intro a0 a1 a2 k
 unfold spec_l11Dirty.f
 with_reducible repeat' first | exact spec_l3Last.mono _ _ _ | exact LeO.refl _ | exact LeO.none _ | refine LeO.ite ?_ ?_ | refine LeO.bind ?_ (fun _ => ?_)
set_option maxHeartbeats 8000000 in
set_option maxRecDepth 100000 in
theorem spec_l11Dirty.calls (k : Nat) (A0_0 : Option Addr) (c0_0 : Nat) (l0_0 : List (S54)) (A0_1 : Option Addr) (c0_1 : Nat) (l0_1 : List Int) (a1 : Int) (r : Bool) (w : World) (hr0_0 : Kd.C k54 w A0_0 l0_0.length l0_0) (hc0_0 : l0_0.length ≤ c0_0) (hr0_1 : Kd.C (Kd.int .i64) w A0_1 l0_1.length l0_1) (hc0_1 : l0_1.length ≤ c0_1) (h : spec_l11Dirty.f k l0_0 l0_1 a1 = some r) :
 Calls Try.prog 60 #[.agg #[.slice A0_0 l0_0.length c0_0, .slice A0_1 l0_1.length c0_1], .int .i64 a1] w fun e w' => e = .returned (.bool r) ∧ Below w.heap.size w w' := by
 have hu26 := Try.underlying26
 have hu37 := Try.underlying37
 have HR0_0 := am hr0_0
 have HC0_0 := am hc0_0
 clear hr0_0 hc0_0
 have HR0_1 := am hr0_1
 have HC0_1 := am hc0_1
 clear hr0_1 hc0_1
 have HB := am (Below.refl w.heap.size w)
 have H : ((spec_l3Last.f k l0_0 a1).bind fun bt243 => (if bt243.2.2.2.2 = true then (some (bt243.1 == 1)) else (some false))) = some r := h
 clear h
 replace H := Option.bind_eq_some_iff.mp H
 obtain ⟨⟨t243, t244, t245, t246, t247⟩, A30, H⟩ := H
 have A3 := am A30
 clear A30
 by_cases c4 : t247 = true
 · subst c4
   rw [if_pos rfl] at H
   obtain rfl := Option.some.inj H
   go_enter Try.func60, Try.ntmps60
   go_wp2_with (first | (refine bx 2 #[.slice A0_0 l0_0.length c0_0, .slice A0_1 l0_1.length c0_1] 26 rfl ?_; intro gb242 hg w5 hbox hb; have BK242 := am (hbox); have GW242 := am (ge hg (ph HB.out)); have GE242 := GW242; replace HB := am (below_step (ph HB.out) hb); clear hb hbox hg; obtain ⟨hcz6_0, hcz6_1⟩ := b2 BK242.out; obtain ⟨hfz6_0, hfz6_1⟩ := f2 BK242.out) | (refine gl 11 Try.func22 #[.slice A0_0 l0_0.length c0_0, .int .i64 a1] rfl ?_; (with_reducible refine (spec_l3Last.calls k _ _ l0_0 a1 t243 t244 t245 t246 true _ ?side1 ?side2 A3.out).mono ?_); (case side1 => exact pc (Kd.C_below HR0_0.out HB.out)); (case side2 => exact HC0_0.out); rintro e w7 ⟨rfl, hb⟩; refine ⟨_, rfl, ?_⟩; replace BK242 := am (blk_below (pb BK242.out) hb); replace HB := am (below_step (bg1 HB.out GE242.out) hb); clear hb) | (refine bx 5 #[.int .i64 0, .int .i64 0, .int .i64 0, .int .i64 0] 37 rfl ?_; intro gb248 hg w8 hbox hb; have BK248 := am (hbox); have GW248 := am (ge hg (bg1 HB.out GE242.out)); have GE248 := GW248; replace HB := am (below_step (bg1 HB.out GE242.out) hb); have NB242_248 := am (nb hg (pb BK242.out)); have NB248_242 := am (Ne.symm NB242_248.out); replace BK242 := am (blk_below (pb BK242.out) hb); clear hb hbox hg; have hnb9 := NB248_242.out; have hnc9 := NB242_248.out; obtain ⟨hcz10_0, hcz10_1, hcz10_2, hcz10_3⟩ := b4 BK248.out; obtain ⟨hfz10_0, hfz10_1, hfz10_2, hfz10_3⟩ := f4 BK248.out))
   go_ret
   exact (rq (bg2 HB.out GE242.out GE248.out))
 replace c4 := Bool.eq_false_iff.mpr c4
 subst c4
 rw [if_neg (show ¬ (false = true) by decide)] at H
 obtain rfl := Option.some.inj H
 go_enter Try.func60, Try.ntmps60
 go_wp2_with (first | (refine bx 2 #[.slice A0_0 l0_0.length c0_0, .slice A0_1 l0_1.length c0_1] 26 rfl ?_; intro gb242 hg w11 hbox hb; have BK242 := am (hbox); have GW242 := am (ge hg (ph HB.out)); have GE242 := GW242; replace HB := am (below_step (ph HB.out) hb); clear hb hbox hg; obtain ⟨hcz12_0, hcz12_1⟩ := b2 BK242.out; obtain ⟨hfz12_0, hfz12_1⟩ := f2 BK242.out) | (refine gl 11 Try.func22 #[.slice A0_0 l0_0.length c0_0, .int .i64 a1] rfl ?_; (with_reducible refine (spec_l3Last.calls k _ _ l0_0 a1 t243 t244 t245 t246 false _ ?side1 ?side2 A3.out).mono ?_); (case side1 => exact pc (Kd.C_below HR0_0.out HB.out)); (case side2 => exact HC0_0.out); rintro e w13 ⟨rfl, hb⟩; refine ⟨_, rfl, ?_⟩; replace BK242 := am (blk_below (pb BK242.out) hb); replace HB := am (below_step (bg1 HB.out GE242.out) hb); clear hb) | (refine bx 5 #[.int .i64 0, .int .i64 0, .int .i64 0, .int .i64 0] 37 rfl ?_; intro gb248 hg w14 hbox hb; have BK248 := am (hbox); have GW248 := am (ge hg (bg1 HB.out GE242.out)); have GE248 := GW248; replace HB := am (below_step (bg1 HB.out GE242.out) hb); have NB242_248 := am (nb hg (pb BK242.out)); have NB248_242 := am (Ne.symm NB242_248.out); replace BK242 := am (blk_below (pb BK242.out) hb); clear hb hbox hg; have hnb15 := NB248_242.out; have hnc15 := NB242_248.out; obtain ⟨hcz16_0, hcz16_1, hcz16_2, hcz16_3⟩ := b4 BK248.out; obtain ⟨hfz16_0, hfz16_1, hfz16_2, hfz16_3⟩ := f4 BK248.out))
 go_ret
 exact (rq (bg2 HB.out GE242.out GE248.out))
def spec_l12Flush.j0 : Nat → Int → Bool → List (S54) → List Int → Option ((List (S107)))
 | 0, _, _, _, _ => none
 | k + 1, x1, x15, x250000, x250001 => if x15 = true then (some (([] : List (S107)))) else ((spec_l11Read.f k x250000 x250001 x1).bind fun t255 => ((spec_l12Write.f k x250000 x250001 2 x1 t255).bind fun t256 => (if (t256.length : Int) = 0 then (some t256) else ((some (([(⟨1, x1, t255, 0, (⟨0, 0, 0, 0⟩ : S37)⟩ : S107)] : List (S107)) : List (S107))).bind fun y259 => (if y259.length + t256.length < 2199023255552 then (some (y259 ++ t256)) else (none))))))
def spec_l12Flush.f (k : Nat) (l0_0 : List (S54)) (l0_1 : List Int) (a1 : Int) : Option ((List (S107))) := (spec_l6In.f a1 1 6).bind fun t250 => (if t250 = true then ((spec_l11Dirty.f k l0_0 l0_1 a1).bind fun t251 => (spec_l12Flush.j0 k a1 (!t251) l0_0 l0_1)) else (spec_l12Flush.j0 k a1 true l0_0 l0_1))
theorem spec_l12Flush.mono_l : ∀ k, (∀ y0 y1 y2 y3, LeO (spec_l12Flush.j0 k y0 y1 y2 y3) (spec_l12Flush.j0 (k + 1) y0 y1 y2 y3))
 | 0 => fun _ _ _ _ r h => by simp [spec_l12Flush.j0] at h
 | k + 1 => by
  have ih0 := spec_l12Flush.mono_l k
  · intro y0 y1 y2 y3
    unfold spec_l12Flush.j0
    with_reducible repeat' first | exact ih0 _ _ _ _ | exact spec_l11Dirty.mono _ _ _ _ | exact spec_l11Read.mono _ _ _ _ | exact spec_l12Write.mono _ _ _ _ _ _ | exact LeO.refl _ | exact LeO.none _ | refine LeO.ite ?_ ?_ | refine LeO.bind ?_ (fun _ => ?_)
theorem spec_l12Flush.mono : ∀ a0 a1 a2 k, LeO (spec_l12Flush.f k a0 a1 a2) (spec_l12Flush.f (k + 1) a0 a1 a2) := by
 intro a0 a1 a2 k
 have ih0 := spec_l12Flush.mono_l k
 unfold spec_l12Flush.f
 with_reducible repeat' first | exact ih0 _ _ _ _ | exact spec_l11Dirty.mono _ _ _ _ | exact spec_l11Read.mono _ _ _ _ | exact spec_l12Write.mono _ _ _ _ _ _ | exact LeO.refl _ | exact LeO.none _ | refine LeO.ite ?_ ?_ | refine LeO.bind ?_ (fun _ => ?_)
set_option maxHeartbeats 8000000 in
set_option maxRecDepth 100000 in
theorem spec_l12Flush.calls (k : Nat) (A0_0 : Option Addr) (c0_0 : Nat) (l0_0 : List (S54)) (A0_1 : Option Addr) (c0_1 : Nat) (l0_1 : List Int) (a1 : Int) (r : List (S107)) (w : World) (hr0_0 : Kd.C k54 w A0_0 l0_0.length l0_0) (hc0_0 : l0_0.length ≤ c0_0) (hr0_1 : Kd.C (Kd.int .i64) w A0_1 l0_1.length l0_1) (hc0_1 : l0_1.length ≤ c0_1) (h : spec_l12Flush.f k l0_0 l0_1 a1 = some r) :
 Calls Try.prog 56 #[.agg #[.slice A0_0 l0_0.length c0_0, .slice A0_1 l0_1.length c0_1], .int .i64 a1] w fun e w' => ∃ v0_ : Value, e = .returned (v0_) ∧ Kd.R k107 107 w' w.heap.size (fun _ => True) v0_ r ∧ Below w.heap.size w w' := by
 have hu26 := Try.underlying26
 have hu107 := Try.underlying107
 have HR0_0 := am hr0_0
 have HC0_0 := am hc0_0
 clear hr0_0 hc0_0
 have HR0_1 := am hr0_1
 have HC0_1 := am hc0_1
 clear hr0_1 hc0_1
 have HB := am (Below.refl w.heap.size w)
 have H : ((spec_l6In.f a1 1 6).bind fun t250 => (if t250 = true then ((spec_l11Dirty.f k l0_0 l0_1 a1).bind fun t251 => (spec_l12Flush.j0 k a1 (!t251) l0_0 l0_1)) else (spec_l12Flush.j0 k a1 true l0_0 l0_1))) = some r := h
 clear h
 have HC3 := am H
 clear H
 go_enter Try.func56, Try.ntmps56
 go_upto_region 1 with (first | (refine bx 2 #[.slice A0_0 l0_0.length c0_0, .slice A0_1 l0_1.length c0_1] 26 rfl ?_; intro gb249 hg w4 hbox hb; have BK249 := am (hbox); have GW249 := am (ge hg (ph HB.out)); have GE249 := GW249; replace HB := am (below_step (ph HB.out) hb); clear hb hbox hg))
 (try simp only [Act.put, List.setIfInBounds_toArray, List.set_cons_zero, List.set_cons_succ])
 go_cut [15] (fun v15 wc => ∃ (kq : Nat) (x15_2 : Bool), v15 = .bool x15_2 ∧ Aside0 (spec_l12Flush.j0 kq a1 x15_2 l0_0 l0_1 = some r) ∧ Aside0 (kq ≤ k) ∧ Aside0 (wc.heap[gb249]? = some (.cells #[(.slice A0_0 l0_0.length c0_0), (.slice A0_1 l0_1.length c0_1)] 26 (0, 0))) ∧ Aside0 (Below w.heap.size w wc))
 case first =>
  have H := HC3.out
  clear HC3
  replace H := Option.bind_eq_some_iff.mp H
  obtain ⟨t250, A50, H⟩ := H
  have A5 := am A50
  clear A50
  by_cases c6 : t250 = true
  rotate_left
  · replace c6 := Bool.eq_false_iff.mpr c6
    subst c6
    rw [if_neg (show ¬ (false = true) by decide)] at H
    have H' := am H
    clear H
    go_wp2_with (first | (refine gl 8 Try.func19 #[.int .i64 a1, .int .i64 1, .int .i64 6] rfl ?_; (with_reducible refine (spec_l6In.calls a1 1 6 false _ A5.out).mono ?_); rintro e w' ⟨rfl, ⟨nd, rfl⟩⟩; refine ⟨_, rfl, ?_⟩))
    go_meet
    case rel => exact ⟨_, (true), rf, H', ⟨by first | omega | exact Nat.le_refl _⟩, ⟨pb BK249.out⟩, ⟨bg1 HB.out GE249.out⟩⟩
  subst c6
  rw [if_pos rfl] at H
  replace H := Option.bind_eq_some_iff.mp H
  obtain ⟨t251, A70, H⟩ := H
  have A7 := am A70
  clear A70
  have H' := am H
  clear H
  go_wp2_with (first | (refine gl 8 Try.func19 #[.int .i64 a1, .int .i64 1, .int .i64 6] rfl ?_; (with_reducible refine (spec_l6In.calls a1 1 6 true _ A5.out).mono ?_); rintro e w' ⟨rfl, ⟨nd, rfl⟩⟩; refine ⟨_, rfl, ?_⟩; obtain ⟨hcz8_0, hcz8_1⟩ := b2 BK249.out; obtain ⟨hfz8_0, hfz8_1⟩ := f2 BK249.out) | (go_at_call 60; (with_reducible refine (spec_l11Dirty.calls k _ _ l0_0 _ _ l0_1 a1 t251 _ ?side1 ?side2 ?side3 ?side4 A7.out).mono ?_); (case side1 => exact (Kd.C_below HR0_0.out (bg1 HB.out GE249.out))); (case side2 => exact HC0_0.out); (case side3 => exact (Kd.C_below HR0_1.out (bg1 HB.out GE249.out))); (case side4 => exact HC0_1.out); rintro e w9 ⟨rfl, hb⟩; replace BK249 := am (blk_below (pb BK249.out) hb); replace HB := am (below_step (bg1 HB.out GE249.out) hb); clear hb))
  go_meet
  case rel => exact ⟨_, (!t251), rf, H', ⟨by first | omega | exact Nat.le_refl _⟩, ⟨pb BK249.out⟩, ⟨bg1 HB.out GE249.out⟩⟩
 case rest =>
  clear HC3
  obtain ⟨kq, x15_2, rfl, HA, HJ2, BK249, HB⟩ := hcut
  cases kq with
  | zero => exact absurd HA.out (by simp [spec_l12Flush.j0])
  | succ kj2 =>
   have H := HA.out
   clear HA
   simp only [spec_l12Flush.j0] at H
   by_cases c10 : x15_2 = true
   · subst c10
     rw [if_pos rfl] at H
     obtain ⟨y252, hy252⟩ : ∃ y_ : List (S107), y_ = (([] : List (S107))) := ⟨_, rfl⟩
     replace H : (some y252) = some r := yy hy252 H
     have Ny252 := am hy252
     clear hy252
     obtain rfl := Option.some.inj H
     go_wp2_with (first | ((with_reducible refine gate_dst (N := 16) rfl ?_); refine Kd.R_lit k107 _ 107 ?hg (N := 16) ?hd (xs := ([] : List (S107))) (inner := []) (ok := fun _ => True) (okp := fun _ => True) ?hr ?hp (fun _ hk => hk) trivial (Below.refl _ _) (Nat.le_refl _) (by simp) ?_; (case hd => rfl); (case hg => rfl); (case hr => first | (go_simp; done) | (go_simp; rfl)); (case hp => exact (Reps.none _ _)); intro v253 w11 ho12 hb hg_ hnew_; clear hg_ hnew_; (first | rw [← Ny252.out] at ho12 | (simp only [Int.reduceToNat] at ho12; rw [← Ny252.out] at ho12)); have HO254 := am (Kd.R_lower ho12 (below_size (bg1 HB.out GE249.out))); replace BK249 := am (blk_below (pb BK249.out) hb); replace HB := am (below_step (bg1 HB.out GE249.out) hb); clear hb ho12))
     go_ret
     exact ⟨_, rq ⟨pr HO254.out, bg1 HB.out GE249.out⟩⟩
   replace c10 := Bool.eq_false_iff.mpr c10
   subst c10
   rw [if_neg (show ¬ (false = true) by decide)] at H
   replace H := Option.bind_eq_some_iff.mp H
   obtain ⟨t255, A130, H⟩ := H
   have A13 := am A130
   clear A130
   replace H := Option.bind_eq_some_iff.mp H
   obtain ⟨t256, A140, H⟩ := H
   have A14 := am A140
   clear A140
   by_cases c15 : (t256.length : Int) = 0
   · rw [if_pos c15] at H
     have c15b0 : ((t256.length : Int) == 0) = true := beq_iff_eq.mpr c15
     have c15b1 : ((t256.length : Int) != 0) = false := bne_eq_false_iff_eq.mpr c15
     clear c15
     obtain rfl := Option.some.inj H
     obtain ⟨hcz16_0, hcz16_1⟩ := b2 BK249.out
     obtain ⟨hfz16_0, hfz16_1⟩ := f2 BK249.out
     go_wp2_with (first | (refine gl 19 Try.func20 #[.agg #[.slice A0_0 l0_0.length c0_0, .slice A0_1 l0_1.length c0_1], .int .i64 a1] rfl ?_; (with_reducible refine (spec_l11Read.calls kj2 _ _ l0_0 _ _ l0_1 a1 t255 _ ?side1 ?side2 ?side3 ?side4 A13.out).mono ?_); (case side1 => exact pc (Kd.C_below HR0_0.out HB.out)); (case side2 => exact HC0_0.out); (case side3 => exact pc (Kd.C_below HR0_1.out HB.out)); (case side4 => exact HC0_1.out); rintro e w17 ⟨rfl, hb⟩; refine ⟨_, rfl, ?_⟩; replace BK249 := am (blk_below (pb BK249.out) hb); replace HB := am (below_step (bg1 HB.out GE249.out) hb); clear hb; obtain ⟨hcz18_0, hcz18_1⟩ := b2 BK249.out; obtain ⟨hfz18_0, hfz18_1⟩ := f2 BK249.out) | (refine gl 23 Try.func58 #[.agg #[.slice A0_0 l0_0.length c0_0, .slice A0_1 l0_1.length c0_1], .int .i64 2, .int .i64 a1, .int .i64 t255] rfl ?_; (with_reducible refine (spec_l12Write.calls kj2 _ _ l0_0 _ _ l0_1 2 a1 t255 t256 _ ?side1 ?side2 ?side3 ?side4 A14.out).mono ?_); (case side1 => exact pc (Kd.C_below HR0_0.out HB.out)); (case side2 => exact HC0_0.out); (case side3 => exact pc (Kd.C_below HR0_1.out HB.out)); (case side4 => exact HC0_1.out); rintro e w19 ⟨v257, rfl, ho0, hb⟩; refine ⟨_, rfl, ?_⟩; have HO258 := am (Kd.R_lower ho0 (below_size (bg1 HB.out GE249.out))); replace BK249 := am (blk_below (pb BK249.out) hb); replace HB := am (below_step (bg1 HB.out GE249.out) hb); clear hb ho0; obtain ⟨Ao20, co20, eo20⟩ := Kd.R_slice HO258.out; subst eo20))
     go_ret
     exact ⟨_, rq ⟨pr HO258.out, bg1 HB.out GE249.out⟩⟩
   rw [if_neg c15] at H
   have c15b0 : ((t256.length : Int) == 0) = false := beq_eq_false_iff_ne.mpr c15
   have c15b1 : ((t256.length : Int) != 0) = true := bne_iff_ne.mpr c15
   have c15b2 : ¬ (t256 = []) := fun h_ => c15 (by rw [h_]; rfl)
   obtain ⟨y259, hy259⟩ : ∃ y_ : List (S107), y_ = (([(⟨1, a1, t255, 0, (⟨0, 0, 0, 0⟩ : S37)⟩ : S107)] : List (S107))) := ⟨_, rfl⟩
   replace H : (if y259.length + t256.length < 2199023255552 then (some (y259 ++ t256)) else (none)) = some r := yy hy259 H
   have Ny259 := am hy259
   clear hy259
   by_cases c21 : y259.length + t256.length < 2199023255552
   rotate_left
   · rw [if_neg c21] at H
     exact absurd H (by simp)
   rw [if_pos c21] at H
   have LMc21 := am c21
   clear c21
   obtain ⟨y262, hy262⟩ : ∃ y_ : List (S107), y_ = (y259 ++ t256) := ⟨_, rfl⟩
   replace H : (some y262) = some r := yy hy262 H
   have Ny262 := am hy262
   clear hy262
   obtain rfl := Option.some.inj H
   obtain ⟨hcz22_0, hcz22_1⟩ := b2 BK249.out
   obtain ⟨hfz22_0, hfz22_1⟩ := f2 BK249.out
   go_wp2_with (first | (refine gl 19 Try.func20 #[.agg #[.slice A0_0 l0_0.length c0_0, .slice A0_1 l0_1.length c0_1], .int .i64 a1] rfl ?_; (with_reducible refine (spec_l11Read.calls kj2 _ _ l0_0 _ _ l0_1 a1 t255 _ ?side1 ?side2 ?side3 ?side4 A13.out).mono ?_); (case side1 => exact pc (Kd.C_below HR0_0.out HB.out)); (case side2 => exact HC0_0.out); (case side3 => exact pc (Kd.C_below HR0_1.out HB.out)); (case side4 => exact HC0_1.out); rintro e w23 ⟨rfl, hb⟩; refine ⟨_, rfl, ?_⟩; replace BK249 := am (blk_below (pb BK249.out) hb); replace HB := am (below_step (bg1 HB.out GE249.out) hb); clear hb; obtain ⟨hcz24_0, hcz24_1⟩ := b2 BK249.out; obtain ⟨hfz24_0, hfz24_1⟩ := f2 BK249.out) | (refine gl 23 Try.func58 #[.agg #[.slice A0_0 l0_0.length c0_0, .slice A0_1 l0_1.length c0_1], .int .i64 2, .int .i64 a1, .int .i64 t255] rfl ?_; (with_reducible refine (spec_l12Write.calls kj2 _ _ l0_0 _ _ l0_1 2 a1 t255 t256 _ ?side1 ?side2 ?side3 ?side4 A14.out).mono ?_); (case side1 => exact pc (Kd.C_below HR0_0.out HB.out)); (case side2 => exact HC0_0.out); (case side3 => exact pc (Kd.C_below HR0_1.out HB.out)); (case side4 => exact HC0_1.out); rintro e w25 ⟨v257, rfl, ho0, hb⟩; refine ⟨_, rfl, ?_⟩; have HO258 := am (Kd.R_lower ho0 (below_size (bg1 HB.out GE249.out))); replace BK249 := am (blk_below (pb BK249.out) hb); replace HB := am (below_step (bg1 HB.out GE249.out) hb); clear hb ho0; obtain ⟨Ao26, co26, eo26⟩ := Kd.R_slice HO258.out; subst eo26) | ((with_reducible refine gate_dst (N := 31) rfl ?_); refine Kd.R_lit k107 _ 107 ?hg (N := 31) ?hd (xs := ([(⟨1, a1, t255, 0, (⟨0, 0, 0, 0⟩ : S37)⟩ : S107)] : List (S107))) (inner := [.int .i64 1, .int .i64 a1, .int .i64 t255, .int .i64 0, .int .i64 0, .int .i64 0, .int .i64 0, .int .i64 0]) (ok := fun _ => True) (okp := fun _ => True) ?hr ?hp (fun _ hk => hk) trivial (Below.refl _ _) (Nat.le_refl _) (by simp) ?_; (case hd => rfl); (case hg => rfl); (case hr => first | (go_simp; done) | (go_simp; rfl)); (case hp => exact (Reps.c8 (show Kd.M k107 _ _ _ (⟨1, a1, t255, 0, (⟨0, 0, 0, 0⟩ : S37)⟩ : S107) [.int .i64 1, .int .i64 a1, .int .i64 t255, .int .i64 0, .int .i64 0, .int .i64 0, .int .i64 0, .int .i64 0] from (k107_mkM _ _ _ (⟨1, a1, t255, 0, (⟨0, 0, 0, 0⟩ : S37)⟩ : S107) )) (Reps.none _ _))); intro v260 w27 ho28 hb hg_ hnew_; clear hg_ hnew_; (first | rw [← Ny259.out] at ho28 | (simp only [Int.reduceToNat] at ho28; rw [← Ny259.out] at ho28)); have HO261 := am (Kd.R_lower (Kd.R_new' ho28 (Kd.R_lt (pr HO258.out))) (below_size (bg1 HB.out GE249.out))); replace HO258 := am (Kd.R_elder' (pr HO258.out) (Kd.R_base ho28) hb); replace BK249 := am (blk_below (pb BK249.out) hb); replace HB := am (below_step (bg1 HB.out GE249.out) hb); clear hb ho28) | ((with_reducible refine gate_builtin (b := .append) (xs := #[.tmp 31, .tmp 32]) rfl ?_); at_builtin; refine Kd.R_append_rows k107 (w0 := w) w.heap.size rfl (.tmp 31) (.tmp 32) 102 107 (.agg #[(.int .i64 0), (.int .i64 0), (.int .i64 0), (.int .i64 0), (.int .i64 0), (.int .i64 0), (.int .i64 0), (.int .i64 0)]) 64 rfl Try.underlying102 info107 rfl (by decide) (by omega) v260 y259 t256 _ _ _ (fun k_ => some k_ ≠ (.slice Ao26 t256.length co26 : Value).ownBlock) (fun _ => False) rfl rfl ?aO ?aR (fun _ _ h => h) (fun _ h => h.elim) ?aF ?aB ?aS ?aL ?_; (case aR => exact pc ((Kd.R_reads' HO258.out).2.2)); (case aB => exact (bg1 HB.out GE249.out)); (case aF => exact (fun k_ hk => Kd.fresh' (Kd.R_lt (pr HO258.out)) k_ hk)); (case aO => exact (pr (Kd.R_mono HO261.out (fun _ hk => hk.2)))); (case aS => exact (below_size (bg1 HB.out GE249.out))); (case aL => have := LMc21.out; omega); intro v263 w29 ho hb hg hat; rw [← Ny262.out] at ho; replace BK249 := am (blk_grown (g := gb249) (o := .cells #[.slice A0_0 l0_0.length c0_0, .slice A0_1 l0_1.length c0_1] 26 (0, 0)) (pb BK249.out) hg (Kd.R_ne HO261.out BK249.out (by decide))); replace HO258 := am (Kd.R_after (ok := (fun _ => True)) (pr HO258.out) hg hat); replace HB := am (hb); have HO264 := am (ho); clear HO261; clear ho hb hg hat))
   go_ret
   exact ⟨_, rq ⟨pr (Kd.R_mono HO264.out (fun _ hk => trivial)), bg1 HB.out GE249.out⟩⟩
def spec_l21All.l0 : Nat → Int → List (S54) → List Int → Option ((List (S54)) × List Int)
 | 0, _, _, _ => none
 | k + 1, x3, x266000, x266001 => if x3 ≤ 6 then ((spec_l12Flush.f k x266000 x266001 x3).bind fun t267 => ((spec_l12To.f k x266000 x266001 t267 (t267.length : Int) false).bind fun bt270 => (spec_l21All.l0 k (wrap64 (x3 + 1)) bt270.1 bt270.2))) else (some (x266000, x266001))
def spec_l21All.f (k : Nat) (l0_0 : List (S54)) (l0_1 : List Int) : Option ((List (S54)) × List Int) := spec_l21All.l0 k 1 l0_0 l0_1
theorem spec_l21All.mono_l : ∀ k, (∀ y0 y1 y2, LeO (spec_l21All.l0 k y0 y1 y2) (spec_l21All.l0 (k + 1) y0 y1 y2))
 | 0 => fun _ _ _ r h => by simp [spec_l21All.l0] at h
 | k + 1 => by
  have ih0 := spec_l21All.mono_l k
  · intro y0 y1 y2
    unfold spec_l21All.l0
    with_reducible repeat' first | exact ih0 _ _ _ | exact spec_l12Flush.mono _ _ _ _ | exact spec_l12To.mono _ _ _ _ _ _ | exact LeO.refl _ | exact LeO.none _ | refine LeO.ite ?_ ?_ | refine LeO.bind ?_ (fun _ => ?_)
theorem spec_l21All.mono : ∀ a0 a1 k, LeO (spec_l21All.f k a0 a1) (spec_l21All.f (k + 1) a0 a1) := by
 intro a0 a1 k
 have ih0 := spec_l21All.mono_l k
 unfold spec_l21All.f
 with_reducible repeat' first | exact ih0 _ _ _ | exact spec_l12Flush.mono _ _ _ _ | exact spec_l12To.mono _ _ _ _ _ _ | exact LeO.refl _ | exact LeO.none _ | refine LeO.ite ?_ ?_ | refine LeO.bind ?_ (fun _ => ?_)
set_option maxHeartbeats 8000000 in
set_option maxRecDepth 100000 in
theorem spec_l21All.calls (k : Nat) (P0_0_ : Nat → Prop) (u9000_ : Value) (l0_0 : List (S54)) (P0_1_ : Nat → Prop) (u9001_ : Value) (l0_1 : List Int) (r1 : List (S54)) (r2 : List Int) (w0 w : World) (hB : Below w0.heap.size w0 w) (ho0_0 : Kd.S k54 54 w w0.heap.size P0_0_ u9000_ l0_0) (ho0_1 : Kd.R (Kd.int .i64) 3 w w0.heap.size P0_1_ u9001_ l0_1) (h : spec_l21All.f k l0_0 l0_1 = some (r1, r2)) :
 Calls Try.prog 52 #[.agg #[u9000_, u9001_]] w fun e w' => ∃ v0_ v1_ : Value, e = .returned (.agg #[v0_, v1_]) ∧ Kd.S k54 54 w' w0.heap.size (fun k_ => ((P0_0_ k_ ∨ P0_1_ k_) ∨ w.heap.size ≤ k_)) v0_ r1 ∧ Kd.R (Kd.int .i64) 3 w' w0.heap.size (fun k_ => ((P0_0_ k_ ∨ P0_1_ k_) ∨ w.heap.size ≤ k_)) v1_ r2 ∧ Below w0.heap.size w0 w' ∧ Kept w w' (fun k_ => P0_0_ k_ ∨ P0_1_ k_) := by
 have hu26 := Try.underlying26
 have HO0_0 := am (show Kd.S k54 54 w w0.heap.size (fun k_ => ((P0_0_ k_ ∨ P0_1_ k_) ∨ w.heap.size ≤ k_)) u9000_ l0_0 from Kd.S_mono ho0_0 (fun k_ hk => (.inl (.inl hk))))
 have HO0_1 := am (show Kd.R (Kd.int .i64) 3 w w0.heap.size (fun k_ => ((P0_0_ k_ ∨ P0_1_ k_) ∨ w.heap.size ≤ k_)) u9001_ l0_1 from Kd.R_mono ho0_1 (fun k_ hk => (.inl (.inr hk))))
 have HK := am (Kept.refl w (fun k_ => P0_0_ k_ ∨ P0_1_ k_))
 have HW0 := am hB.size
 have HB := am hB
 clear hB
 have H : (spec_l21All.l0 k 1 l0_0 l0_1) = some (r1, r2) := h
 clear h
 have H' := am H
 clear H
 obtain ⟨Ao2, co2, eo2⟩ := Kd.S_slice HO0_0.out
 subst eo2
 obtain ⟨Ao3, co3, eo3⟩ := Kd.R_slice HO0_1.out
 subst eo3
 go_enter Try.func52, Try.ntmps52
 go_wp2_with (first | (refine bx 1 #[.slice Ao2 l0_0.length co2, .slice Ao3 l0_1.length co3] 26 rfl ?_; intro gb265 hg w4 hbox hb; replace HO0_0 := am (Kd.S_below (ps HO0_0.out) hb); replace HO0_1 := am (Kd.R_below (pr HO0_1.out) hb); have BK265 := am (hbox); have GW265 := am (gw hg (pk HK.out)); replace HK := am (Kept.below (pk HK.out) hb); have GE265 := am (ge hg (ph HB.out)); replace HB := am (below_step (ph HB.out) hb); clear hb hbox hg) | (refine bx 2 #[.slice none 0 0, .slice none 0 0] 26 rfl ?_; intro gb266 hg w5 hbox hb; replace HO0_0 := am (Kd.S_below (ps HO0_0.out) hb); replace HO0_1 := am (Kd.R_below (pr HO0_1.out) hb); have BK266 := am (hbox); have GW266 := am (gw hg (kg1 HK.out (.inr GW265.out))); replace HK := am (Kept.below (kg1 HK.out (.inr GW265.out)) hb); have GE266 := am (ge hg (bg1 HB.out GE265.out)); replace HB := am (below_step (bg1 HB.out GE265.out) hb); have NB265_266 := am (nb hg (pb BK265.out)); have NB266_265 := am (Ne.symm NB265_266.out); replace BK265 := am (blk_below (pb BK265.out) hb); clear hb hbox hg))
 go_loopg [3] k (fun kq v3 w' => ∃ (x3_1 : Int) (x266000_1 : List (S54)) (x266001_1 : List Int) (u266000 : Value) (u266001 : Value), v3 = .int .i64 x3_1 ∧ Aside0 (spec_l21All.l0 kq x3_1 x266000_1 x266001_1 = some (r1, r2)) ∧ Aside0 (kq ≤ k) ∧ Aside0 (Kd.S k54 54 w' w0.heap.size (fun k_ => ((P0_0_ k_ ∨ P0_1_ k_) ∨ w.heap.size ≤ k_)) u266000 x266000_1) ∧ Aside0 (Kd.R (Kd.int .i64) 3 w' w0.heap.size (fun k_ => ((P0_0_ k_ ∨ P0_1_ k_) ∨ w.heap.size ≤ k_)) u266001 x266001_1) ∧ Aside0 (w'.heap[gb265]? = some (.cells #[u266000, u266001] 26 (0, 0))) ∧ Aside0 (w'.heap[gb266]? = some (.cells #[(.slice none 0 0), (.slice none 0 0)] 26 (0, 0))) ∧ Aside0 (Kept w w' (fun k_ => P0_0_ k_ ∨ P0_1_ k_)) ∧ Aside0 (Below w0.heap.size w0 w'))
 case atStart => exact ⟨(1), (l0_0), (l0_1), (.slice Ao2 l0_0.length co2), (.slice Ao3 l0_1.length co3), rf, H', ⟨Nat.le_refl _⟩, ⟨ps HO0_0.out⟩, ⟨pr HO0_1.out⟩, ⟨pb BK265.out⟩, ⟨pb BK266.out⟩, ⟨kg2 HK.out (.inr GW265.out) (.inr GW266.out)⟩, ⟨bg2 HB.out GE265.out GE266.out⟩⟩
 case round =>
  clear H'
  obtain ⟨x3_1, x266000_1, x266001_1, u266000, u266001, rfl, HA, HK1, HO_266000, HO_266001, BK265, BK266, HK, HB⟩ := hrel
  cases gk with
  | zero => exact absurd HA.out (by simp [spec_l21All.l0])
  | succ k1 =>
   have H := HA.out
   clear HA
   simp only [spec_l21All.l0] at H
   by_cases c6 : x3_1 ≤ 6
   rotate_left
   · rw [if_neg c6] at H
     have c6b0 := decide_eq_false c6
     clear c6
     simp only [Option.some.injEq, Prod.mk.injEq] at H
     obtain ⟨rfl, rfl⟩ := H
     have hnb21 := NB265_266.out
     have hnc21 := NB266_265.out
     obtain ⟨hcz22_0, hcz22_1⟩ := b2 BK265.out
     obtain ⟨hfz22_0, hfz22_1⟩ := f2 BK265.out
     obtain ⟨Ao23, co23, eo23⟩ := Kd.S_slice HO_266000.out
     subst eo23
     obtain ⟨hcz24_0, hcz24_1⟩ := b2 BK266.out
     obtain ⟨hfz24_0, hfz24_1⟩ := f2 BK266.out
     obtain ⟨Ao25, co25, eo25⟩ := Kd.R_slice HO_266001.out
     subst eo25
     go_wp2
     refine bodyPost_ret (results_cell_row rfl _ _ gb266 26 #[.slice Ao23 x266000_1.length co23, .slice Ao25 x266001_1.length co25] (0, 0) _ rfl (bp2 (pb BK266.out)) Try.underlying26 rfl (by kernel_rfl)) rfl ?_
     exact ⟨_, _, rq ⟨ps (Kd.S_mono (Kd.S_far (p := ⟨gb266, 1, none⟩) (Kd.S_far (p := ⟨gb266, 0, none⟩) (Kd.S_types HO_266000.out BK266.out (by decide)) (fun _ hk => hk.2) (.slice Ao23 x266000_1.length co23)) (fun _ hk => hk.2) (.slice Ao25 x266001_1.length co25)) (fun _ hk => hk.1)), pr (Kd.R_mono (Kd.R_far (p := ⟨gb266, 1, none⟩) (Kd.R_far (p := ⟨gb266, 0, none⟩) (Kd.R_types HO_266001.out BK266.out (by decide)) (fun _ hk => hk.2) (.slice Ao23 x266000_1.length co23)) (fun _ hk => hk.2) (.slice Ao25 x266001_1.length co25)) (fun _ hk => hk.1)), bg2 HB.out GE265.out GE266.out, kg2 HK.out (.inr GW265.out) (.inr GW266.out)⟩⟩
   rw [if_pos c6] at H
   have c6b0 := decide_eq_true c6
   clear c6
   replace H := Option.bind_eq_some_iff.mp H
   obtain ⟨t267, A70, H⟩ := H
   have A7 := am A70
   clear A70
   replace H := Option.bind_eq_some_iff.mp H
   obtain ⟨⟨t270, t273⟩, A80, H⟩ := H
   have A8 := am A80
   clear A80
   have H' := am H
   clear H
   have hnb9 := NB265_266.out
   have hnc9 := NB266_265.out
   obtain ⟨hcz10_0, hcz10_1⟩ := b2 BK265.out
   obtain ⟨hfz10_0, hfz10_1⟩ := f2 BK265.out
   obtain ⟨Ao11, co11, eo11⟩ := Kd.S_slice HO_266000.out
   subst eo11
   obtain ⟨Ao12, co12, eo12⟩ := Kd.R_slice HO_266001.out
   subst eo12
   go_wp2_with (first | (refine gl 11 Try.func56 #[.agg #[.slice Ao11 x266000_1.length co11, .slice Ao12 x266001_1.length co12], .int .i64 x3_1] rfl ?_; (with_reducible refine (spec_l12Flush.calls k1 _ _ x266000_1 _ _ x266001_1 x3_1 t267 _ ?side1 ?side2 ?side3 ?side4 A7.out).mono ?_); (case side1 => exact pc ((Kd.S_reads' HO_266000.out).2.2)); (case side2 => exact (Kd.S_reads' HO_266000.out).2.1); (case side3 => exact pc ((Kd.R_reads' HO_266001.out).2.2)); (case side4 => exact (Kd.R_reads' HO_266001.out).2.1); rintro e w13 ⟨v268, rfl, ho0, hb⟩; refine ⟨_, rfl, ?_⟩; replace HO_266000 := am (Kd.S_below (ps HO_266000.out) hb); replace HO_266001 := am (Kd.R_below (pr HO_266001.out) hb); have HO269 := am (Kd.R_lower (Kd.R_newM (M := fun k_ => ((P0_0_ k_ ∨ P0_1_ k_) ∨ w.heap.size ≤ k_)) ho0 (kg2 HK.out (.inr GW265.out) (.inr GW266.out)).1 (fun k_ h_ => .inr h_)) (below_size (bg2 HB.out GE265.out GE266.out))); replace BK265 := am (blk_below (pb BK265.out) hb); replace BK266 := am (blk_below (pb BK266.out) hb); replace HK := am (Kept.below (kg2 HK.out (.inr GW265.out) (.inr GW266.out)) hb); replace HB := am (below_step (bg2 HB.out GE265.out GE266.out) hb); clear hb ho0; obtain ⟨hcz14_0, hcz14_1⟩ := b2 BK265.out; obtain ⟨hfz14_0, hfz14_1⟩ := f2 BK265.out; obtain ⟨Ao15, co15, eo15⟩ := Kd.R_slice HO269.out; subst eo15; obtain ⟨PXh16, hxa_, hxb_⟩ := Kd.S_hand HO_266000.out; have HXAh16 := am hxa_; have HXBh16 := am hxb_; clear hxa_ hxb_) | (refine gl 16 Try.func53 #[.agg #[.slice Ao11 x266000_1.length co11, .slice Ao12 x266001_1.length co12], .slice Ao15 t267.length co15, .int .i64 (t267.length : Int), .bool false] rfl ?_; (with_reducible refine (spec_l12To.calls k1 PXh16 (.slice Ao11 x266000_1.length co11) x266000_1 (fun k_ => some k_ = (.slice Ao12 x266001_1.length co12 : Value).ownBlock) (.slice Ao12 x266001_1.length co12) x266001_1 _ _ t267 (t267.length : Int) false t270 t273 w0 _ ?side1 ?side2 ?side3 ?side4 ?side5 A8.out).mono ?_); (case side1 => exact bg2 HB.out GE265.out GE266.out); (case side2 => exact (ps HXAh16.out)); (case side3 => exact Kd.R_tight rfl HO_266001.out); (case side4 => exact Kd.C_kept_own ((Kd.R_apart' (Kd.R_awayP HO269.out (fun k_ h_ => (HXBh16.out k_ h_).2.2.2) (by decide)) (Kd.R_typed HO_266001.out) (by decide))) (fun k_ hk_ hs_ => Or.elim hs_ (fun e_ => (hk_.1.2) e_) (fun e_ => (hk_.2) e_))); (case side5 => exact (Kd.R_reads' HO269.out).2.1); rintro e w17 ⟨v271, v274, rfl, ho0, ho1, hb, hkp⟩; refine ⟨_, rfl, ?_⟩; replace BK265 := am (blk_kept (pb BK265.out) hkp (fun hs_ => Or.elim hs_ (fun e_ => (fun e_ => Kd.blk_awayP (fun k_ h_ => (HXBh16.out k_ h_).2.2.2) BK265.out (by decide) e_) e_) (fun e_ => (fun e_ => (Kd.R_ne HO_266001.out BK265.out (by decide)) e_) e_))); replace BK266 := am (blk_kept (pb BK266.out) hkp (fun hs_ => Or.elim hs_ (fun e_ => (fun e_ => Kd.blk_awayP (fun k_ h_ => (HXBh16.out k_ h_).2.2.2) BK266.out (by decide) e_) e_) (fun e_ => (fun e_ => (Kd.R_ne HO_266001.out BK266.out (by decide)) e_) e_))); replace HO269 := am (Kd.R_mono (ok' := fun k_ => ((P0_0_ k_ ∨ P0_1_ k_) ∨ w.heap.size ≤ k_)) (Kd.R_keptB ((Kd.R_apart' (Kd.R_awayP HO269.out (fun k_ h_ => (HXBh16.out k_ h_).2.2.2) (by decide)) (Kd.R_typed HO_266001.out) (by decide))) hkp (fun k_ hk_ hs_ => Or.elim hs_ (fun e_ => (hk_.1.2) e_) (fun e_ => (hk_.2) e_))) (fun k_ hk_ => hk_.1.1.1.1)); have HO272 := am (Kd.S_mono (ok' := fun k_ => ((P0_0_ k_ ∨ P0_1_ k_) ∨ w.heap.size ≤ k_)) ho0 (fun k_ hk_ => Or.elim hk_ (fun hs_ => Or.elim hs_ (fun hs_ => (HXBh16.out k_ hs_).1) (fun hs_ => (HO_266001.out.1 k_ (hs_).symm))) (fun hn_ => (.inr (Nat.le_trans (kg2 HK.out (.inr GW265.out) (.inr GW266.out)).1 hn_))))); have HO275 := am (Kd.R_mono (ok' := fun k_ => ((P0_0_ k_ ∨ P0_1_ k_) ∨ w.heap.size ≤ k_)) ho1 (fun k_ hk_ => Or.elim hk_ (fun hs_ => Or.elim hs_ (fun hs_ => (HXBh16.out k_ hs_).1) (fun hs_ => (HO_266001.out.1 k_ (hs_).symm))) (fun hn_ => (.inr (Nat.le_trans (kg2 HK.out (.inr GW265.out) (.inr GW266.out)).1 hn_))))); replace HK := am (Kept.then_ (S := (fun k_ => P0_0_ k_ ∨ P0_1_ k_)) (kg2 HK.out (.inr GW265.out) (.inr GW266.out)) hkp (fun k_ hs_ => Or.elim hs_ (fun e_ => (fun e_ => (HXBh16.out k_ e_).1) e_) (fun e_ => (fun e_ => (HO_266001.out.1 k_ e_.symm)) e_))); replace HB := am (hb); clear HO_266000; clear HO_266001; clear hb hkp ho0 ho1; obtain ⟨Ao18, co18, eo18⟩ := Kd.S_slice HO272.out; subst eo18; obtain ⟨hcz19_0, hcz19_1⟩ := b2 BK265.out; obtain ⟨hfz19_0, hfz19_1⟩ := f2 BK265.out; obtain ⟨Ao20, co20, eo20⟩ := Kd.R_slice HO275.out; subst eo20))
   go_roundg k1
   case measure => have := HK1.out; omega
   case rel => exact ⟨(wrap64 (x3_1 + 1)), (t270), (t273), (.slice Ao18 t270.length co18), (.slice Ao20 t273.length co20), rf, H', ⟨by have := HK1.out; omega⟩, ⟨ps (Kd.S_mono (Kd.S_far (p := ⟨gb265, 1, none⟩) (Kd.S_far (p := ⟨gb265, 0, none⟩) (Kd.S_types HO272.out BK265.out (by decide)) (fun _ hk => hk.2) (.slice Ao18 t270.length co18)) (fun _ hk => hk.2) (.slice Ao20 t273.length co20)) (fun _ hk => hk.1))⟩, ⟨pr (Kd.R_mono (Kd.R_far (p := ⟨gb265, 1, none⟩) (Kd.R_far (p := ⟨gb265, 0, none⟩) (Kd.R_types HO275.out BK265.out (by decide)) (fun _ hk => hk.2) (.slice Ao18 t270.length co18)) (fun _ hk => hk.2) (.slice Ao20 t273.length co20)) (fun _ hk => hk.1))⟩, ⟨bp2 (pb BK265.out)⟩, ⟨bf2 (pb BK266.out) NB266_265.out⟩, ⟨kg2 HK.out (.inr GW265.out) (.inr GW266.out)⟩, ⟨bg2 HB.out GE265.out GE266.out⟩⟩
end Go.Proofs.Ytghmnlcmhpdcaaa.R5
