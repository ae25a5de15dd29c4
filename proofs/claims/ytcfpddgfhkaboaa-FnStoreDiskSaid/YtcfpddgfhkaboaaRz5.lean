-- printed by wip/pp/pp.py
import Derived.Test.YtcfpddgfhkaboaaRz0
import Derived.Test.YtcfpddgfhkaboaaRz1
import Derived.Test.YtcfpddgfhkaboaaRz3
import Derived.Test.YtcfpddgfhkaboaaRz4
namespace Go.Proofs.Ytcfpddgfhkaboaa.Rz
open Go.RowKit Go.Proofs.YtcfpddgfhkaboaaW.PrintWords Go.Proofs.YtcfpddgfhkaboaaW.PrintLast Go.Proofs.YtcfpddgfhkaboaaW.PrintMore
attribute [local go_sem] max2_int min2_int max_two min_two max_three min_three max_four min_four
set_option linter.unusedVariables false
set_option linter.unusedSimpArgs false
def spec_l12Write.f (k : Nat) (l0_0 : List (S60)) (l0_1 : List Int) (a1 : Int) (a2 : Int) (a3 : Int) : Option ((List (S91))) := (spec_l3Next.f k l0_0).bind fun t214 => ((spec_l12Room.f k l0_0 l0_1).bind fun bt216 => (if bt216.2.2 = true then ((spec_RecOk.f a1 t214 a2 a3).bind fun t221 => (if t221 = true then (if bt216.1.length < 2199023255552 then (some (bt216.1 ++ [(⟨3, 0, 0, bt216.2.1, (⟨a1, t214, a2, a3⟩ : S30)⟩ : S91)])) else (none)) else (some (([] : List (S91)))))) else (some (([] : List (S91))))))
theorem spec_l12Write.mono : ∀ a0 a1 a2 a3 a4 k, LeO (spec_l12Write.f k a0 a1 a2 a3 a4) (spec_l12Write.f (k + 1) a0 a1 a2 a3 a4) := by
 intro a0 a1 a2 a3 a4 k
 unfold spec_l12Write.f
 with_reducible repeat' first | exact spec_l12Room.mono _ _ _ | exact spec_l3Next.mono _ _ | exact LeO.refl _ | exact LeO.none _ | refine LeO.ite ?_ ?_ | refine LeO.bind ?_ (fun _ => ?_)
set_option maxHeartbeats 8000000 in
set_option maxRecDepth 100000 in
theorem spec_l12Write.calls (k : Nat) (A0_0 : Option Addr) (c0_0 : Nat) (l0_0 : List (S60)) (A0_1 : Option Addr) (c0_1 : Nat) (l0_1 : List Int) (a1 : Int) (a2 : Int) (a3 : Int) (r : List (S91)) (w : World) (hr0_0 : Kd.C k60 w A0_0 l0_0.length l0_0) (hc0_0 : l0_0.length ≤ c0_0) (hr0_1 : Kd.C (Kd.int .i64) w A0_1 l0_1.length l0_1) (hc0_1 : l0_1.length ≤ c0_1) (h : spec_l12Write.f k l0_0 l0_1 a1 a2 a3 = some r) :
 Calls Try.prog 49 #[.agg #[.slice A0_0 l0_0.length c0_0, .slice A0_1 l0_1.length c0_1], .int .i64 a1, .int .i64 a2, .int .i64 a3] w fun e w' => ∃ v0_ : Value, e = .returned (v0_) ∧ Kd.R k91 91 w' w.heap.size (fun _ => True) v0_ r ∧ Below w.heap.size w w' := by
 have hu26 := Try.underlying26
 have hu30 := Try.underlying30
 have hu91 := Try.underlying91
 have HR0_0 := am hr0_0
 have HC0_0 := am hc0_0
 clear hr0_0 hc0_0
 have HR0_1 := am hr0_1
 have HC0_1 := am hc0_1
 clear hr0_1 hc0_1
 have HB := am (Below.refl w.heap.size w)
 have H : ((spec_l3Next.f k l0_0).bind fun t214 => ((spec_l12Room.f k l0_0 l0_1).bind fun bt216 => (if bt216.2.2 = true then ((spec_RecOk.f a1 t214 a2 a3).bind fun t221 => (if t221 = true then (if bt216.1.length < 2199023255552 then (some (bt216.1 ++ [(⟨3, 0, 0, bt216.2.1, (⟨a1, t214, a2, a3⟩ : S30)⟩ : S91)])) else (none)) else (some (([] : List (S91)))))) else (some (([] : List (S91))))))) = some r := h
 clear h
 replace H := Option.bind_eq_some_iff.mp H
 obtain ⟨t214, A50, H⟩ := H
 have A5 := am A50
 clear A50
 replace H := Option.bind_eq_some_iff.mp H
 obtain ⟨⟨t216, t219, t220⟩, A60, H⟩ := H
 have A6 := am A60
 clear A60
 by_cases c7 : t220 = true
 rotate_left
 · replace c7 := Bool.eq_false_iff.mpr c7
   subst c7
   rw [if_neg (show ¬ (false = true) by decide)] at H
   obtain ⟨y228, hy228⟩ : ∃ y_ : List (S91), y_ = (([] : List (S91))) := ⟨_, rfl⟩
   replace H : (some y228) = some r := yy hy228 H
   have Ny228 := am hy228
   clear hy228
   obtain rfl := Option.some.inj H
   go_enter Try.func49, Try.ntmps49
   go_wp2_with (first | (refine bx 4 #[.slice A0_0 l0_0.length c0_0, .slice A0_1 l0_1.length c0_1] 26 rfl ?_; intro gb213 hg w35 hbox hb; have BK213 := am (hbox); have GW213 := am (ge hg (ph HB.out)); have GE213 := GW213; replace HB := am (below_step (ph HB.out) hb); clear hb hbox hg; obtain ⟨hcz36_0, hcz36_1⟩ := b2 BK213.out; obtain ⟨hfz36_0, hfz36_1⟩ := f2 BK213.out) | (refine gl 16 Try.func55 #[.slice A0_0 l0_0.length c0_0] rfl ?_; (with_reducible refine (spec_l3Next.calls k _ _ l0_0 t214 _ ?side1 ?side2 A5.out).mono ?_); (case side1 => exact pc (Kd.C_below HR0_0.out HB.out)); (case side2 => exact HC0_0.out); rintro e w37 ⟨rfl, hb⟩; refine ⟨_, rfl, ?_⟩; replace BK213 := am (blk_below (pb BK213.out) hb); replace HB := am (below_step (bg1 HB.out GE213.out) hb); clear hb) | (refine bx 9 #[.int .i64 0, .int .i64 0, .int .i64 0, .int .i64 0] 30 rfl ?_; intro gb215 hg w38 hbox hb; have BK215 := am (hbox); have GW215 := am (ge hg (bg1 HB.out GE213.out)); have GE215 := GW215; replace HB := am (below_step (bg1 HB.out GE213.out) hb); have NB213_215 := am (nb hg (pb BK213.out)); have NB215_213 := am (Ne.symm NB213_215.out); replace BK213 := am (blk_below (pb BK213.out) hb); clear hb hbox hg; have hnb39 := NB215_213.out; have hnc39 := NB213_215.out; obtain ⟨hcz40_0, hcz40_1, hcz40_2, hcz40_3⟩ := b4 BK215.out; obtain ⟨hfz40_0, hfz40_1, hfz40_2, hfz40_3⟩ := f4 BK215.out; obtain ⟨hcz41_0, hcz41_1⟩ := b2 BK213.out; obtain ⟨hfz41_0, hfz41_1⟩ := f2 BK213.out) | (refine gl 22 Try.func56 #[.agg #[.slice A0_0 l0_0.length c0_0, .slice A0_1 l0_1.length c0_1]] rfl ?_; (with_reducible refine (spec_l12Room.calls k _ _ l0_0 _ _ l0_1 t216 t219 false _ ?side1 ?side2 ?side3 ?side4 A6.out).mono ?_); (case side1 => exact Kd.C_below HR0_0.out (bg2 HB.out GE213.out GE215.out)); (case side2 => exact HC0_0.out); (case side3 => exact Kd.C_below HR0_1.out (bg2 HB.out GE213.out GE215.out)); (case side4 => exact HC0_1.out); rintro e w42 ⟨v217, rfl, ho0, hb⟩; refine ⟨_, rfl, ?_⟩; have HO218 := am (Kd.R_lower ho0 (below_size (bg2 HB.out GE213.out GE215.out))); replace BK213 := am (blk_below (bf4 (pb BK213.out) NB213_215.out) hb); replace BK215 := am (blk_below (bp4 (pb BK215.out)) hb); replace HB := am (below_step (bg2 HB.out GE213.out GE215.out) hb); clear hb ho0) | ((with_reducible refine gate_dst (N := 33) rfl ?_); refine Kd.R_lit k91 _ 91 ?hg (N := 33) ?hd (xs := ([] : List (S91))) (inner := []) (ok := fun _ => True) (okp := fun _ => True) ?hr ?hp (fun _ hk => hk) trivial (Below.refl _ _) (Nat.le_refl _) (by simp) ?_; (case hd => rfl); (case hg => rfl); (case hr => first | (go_simp; done) | (go_simp; rfl)); (case hp => exact (Reps.none _ _)); intro v229 w43 ho44 hb hg_ hnew_; clear hg_ hnew_; (first | rw [← Ny228.out] at ho44 | (simp only [Int.reduceToNat] at ho44; rw [← Ny228.out] at ho44)); have HO230 := am (Kd.R_lower (Kd.R_new' ho44 (Kd.R_lt (pr HO218.out))) (below_size (bg2 HB.out GE213.out GE215.out))); replace HO218 := am (Kd.R_elder' (pr HO218.out) (Kd.R_base ho44) hb); replace BK213 := am (blk_below (pb BK213.out) hb); replace BK215 := am (blk_below (pb BK215.out) hb); replace HB := am (below_step (bg2 HB.out GE213.out GE215.out) hb); clear hb ho44))
   go_ret
   exact ⟨_, rq ⟨pr (Kd.R_mono HO230.out (fun _ hk => trivial)), bg2 HB.out GE213.out GE215.out⟩⟩
 subst c7
 rw [if_pos rfl] at H
 replace H := Option.bind_eq_some_iff.mp H
 obtain ⟨t221, A80, H⟩ := H
 have A8 := am A80
 clear A80
 by_cases c9 : t221 = true
 rotate_left
 · replace c9 := Bool.eq_false_iff.mpr c9
   subst c9
   rw [if_neg (show ¬ (false = true) by decide)] at H
   obtain ⟨y225, hy225⟩ : ∃ y_ : List (S91), y_ = (([] : List (S91))) := ⟨_, rfl⟩
   replace H : (some y225) = some r := yy hy225 H
   have Ny225 := am hy225
   clear hy225
   obtain rfl := Option.some.inj H
   go_enter Try.func49, Try.ntmps49
   go_wp2_with (first | (refine bx 4 #[.slice A0_0 l0_0.length c0_0, .slice A0_1 l0_1.length c0_1] 26 rfl ?_; intro gb213 hg w23 hbox hb; have BK213 := am (hbox); have GW213 := am (ge hg (ph HB.out)); have GE213 := GW213; replace HB := am (below_step (ph HB.out) hb); clear hb hbox hg; obtain ⟨hcz24_0, hcz24_1⟩ := b2 BK213.out; obtain ⟨hfz24_0, hfz24_1⟩ := f2 BK213.out) | (refine gl 16 Try.func55 #[.slice A0_0 l0_0.length c0_0] rfl ?_; (with_reducible refine (spec_l3Next.calls k _ _ l0_0 t214 _ ?side1 ?side2 A5.out).mono ?_); (case side1 => exact pc (Kd.C_below HR0_0.out HB.out)); (case side2 => exact HC0_0.out); rintro e w25 ⟨rfl, hb⟩; refine ⟨_, rfl, ?_⟩; replace BK213 := am (blk_below (pb BK213.out) hb); replace HB := am (below_step (bg1 HB.out GE213.out) hb); clear hb) | (refine bx 9 #[.int .i64 0, .int .i64 0, .int .i64 0, .int .i64 0] 30 rfl ?_; intro gb215 hg w26 hbox hb; have BK215 := am (hbox); have GW215 := am (ge hg (bg1 HB.out GE213.out)); have GE215 := GW215; replace HB := am (below_step (bg1 HB.out GE213.out) hb); have NB213_215 := am (nb hg (pb BK213.out)); have NB215_213 := am (Ne.symm NB213_215.out); replace BK213 := am (blk_below (pb BK213.out) hb); clear hb hbox hg; have hnb27 := NB215_213.out; have hnc27 := NB213_215.out; obtain ⟨hcz28_0, hcz28_1, hcz28_2, hcz28_3⟩ := b4 BK215.out; obtain ⟨hfz28_0, hfz28_1, hfz28_2, hfz28_3⟩ := f4 BK215.out; obtain ⟨hcz29_0, hcz29_1⟩ := b2 BK213.out; obtain ⟨hfz29_0, hfz29_1⟩ := f2 BK213.out) | (refine gl 22 Try.func56 #[.agg #[.slice A0_0 l0_0.length c0_0, .slice A0_1 l0_1.length c0_1]] rfl ?_; (with_reducible refine (spec_l12Room.calls k _ _ l0_0 _ _ l0_1 t216 t219 true _ ?side1 ?side2 ?side3 ?side4 A6.out).mono ?_); (case side1 => exact Kd.C_below HR0_0.out (bg2 HB.out GE213.out GE215.out)); (case side2 => exact HC0_0.out); (case side3 => exact Kd.C_below HR0_1.out (bg2 HB.out GE213.out GE215.out)); (case side4 => exact HC0_1.out); rintro e w30 ⟨v217, rfl, ho0, hb⟩; refine ⟨_, rfl, ?_⟩; have HO218 := am (Kd.R_lower ho0 (below_size (bg2 HB.out GE213.out GE215.out))); replace BK213 := am (blk_below (bf4 (pb BK213.out) NB213_215.out) hb); replace BK215 := am (blk_below (bp4 (pb BK215.out)) hb); replace HB := am (below_step (bg2 HB.out GE213.out GE215.out) hb); clear hb ho0; obtain ⟨hcz31_0, hcz31_1, hcz31_2, hcz31_3⟩ := b4 BK215.out; obtain ⟨hfz31_0, hfz31_1, hfz31_2, hfz31_3⟩ := f4 BK215.out) | (go_at_call 45; (with_reducible refine (spec_RecOk.calls a1 t214 a2 a3 false _ A8.out).mono ?_); rintro e w32 ⟨rfl, hb⟩; replace HO218 := am (Kd.R_below (pr HO218.out) hb); replace BK213 := am (blk_below (pb BK213.out) hb); replace BK215 := am (blk_below (pb BK215.out) hb); replace HB := am (below_step (bg2 HB.out GE213.out GE215.out) hb); clear hb) | ((with_reducible refine gate_dst (N := 33) rfl ?_); refine Kd.R_lit k91 _ 91 ?hg (N := 33) ?hd (xs := ([] : List (S91))) (inner := []) (ok := fun _ => True) (okp := fun _ => True) ?hr ?hp (fun _ hk => hk) trivial (Below.refl _ _) (Nat.le_refl _) (by simp) ?_; (case hd => rfl); (case hg => rfl); (case hr => first | (go_simp; done) | (go_simp; rfl)); (case hp => exact (Reps.none _ _)); intro v226 w33 ho34 hb hg_ hnew_; clear hg_ hnew_; (first | rw [← Ny225.out] at ho34 | (simp only [Int.reduceToNat] at ho34; rw [← Ny225.out] at ho34)); have HO227 := am (Kd.R_lower (Kd.R_new' ho34 (Kd.R_lt (pr HO218.out))) (below_size (bg2 HB.out GE213.out GE215.out))); replace HO218 := am (Kd.R_elder' (pr HO218.out) (Kd.R_base ho34) hb); replace BK213 := am (blk_below (pb BK213.out) hb); replace BK215 := am (blk_below (pb BK215.out) hb); replace HB := am (below_step (bg2 HB.out GE213.out GE215.out) hb); clear hb ho34))
   go_ret
   exact ⟨_, rq ⟨pr (Kd.R_mono HO227.out (fun _ hk => trivial)), bg2 HB.out GE213.out GE215.out⟩⟩
 subst c9
 rw [if_pos rfl] at H
 by_cases c10 : t216.length < 2199023255552
 rotate_left
 · rw [if_neg c10] at H
   exact absurd H (by simp)
 rw [if_pos c10] at H
 have LMc10 := am c10
 clear c10
 obtain ⟨y222, hy222⟩ : ∃ y_ : List (S91), y_ = (t216 ++ [(⟨3, 0, 0, t219, (⟨a1, t214, a2, a3⟩ : S30)⟩ : S91)]) := ⟨_, rfl⟩
 replace H : (some y222) = some r := yy hy222 H
 have Ny222 := am hy222
 clear hy222
 obtain rfl := Option.some.inj H
 go_enter Try.func49, Try.ntmps49
 go_wp2_with (first | (refine bx 4 #[.slice A0_0 l0_0.length c0_0, .slice A0_1 l0_1.length c0_1] 26 rfl ?_; intro gb213 hg w11 hbox hb; have BK213 := am (hbox); have GW213 := am (ge hg (ph HB.out)); have GE213 := GW213; replace HB := am (below_step (ph HB.out) hb); clear hb hbox hg; obtain ⟨hcz12_0, hcz12_1⟩ := b2 BK213.out; obtain ⟨hfz12_0, hfz12_1⟩ := f2 BK213.out) | (refine gl 16 Try.func55 #[.slice A0_0 l0_0.length c0_0] rfl ?_; (with_reducible refine (spec_l3Next.calls k _ _ l0_0 t214 _ ?side1 ?side2 A5.out).mono ?_); (case side1 => exact pc (Kd.C_below HR0_0.out HB.out)); (case side2 => exact HC0_0.out); rintro e w13 ⟨rfl, hb⟩; refine ⟨_, rfl, ?_⟩; replace BK213 := am (blk_below (pb BK213.out) hb); replace HB := am (below_step (bg1 HB.out GE213.out) hb); clear hb) | (refine bx 9 #[.int .i64 0, .int .i64 0, .int .i64 0, .int .i64 0] 30 rfl ?_; intro gb215 hg w14 hbox hb; have BK215 := am (hbox); have GW215 := am (ge hg (bg1 HB.out GE213.out)); have GE215 := GW215; replace HB := am (below_step (bg1 HB.out GE213.out) hb); have NB213_215 := am (nb hg (pb BK213.out)); have NB215_213 := am (Ne.symm NB213_215.out); replace BK213 := am (blk_below (pb BK213.out) hb); clear hb hbox hg; have hnb15 := NB215_213.out; have hnc15 := NB213_215.out; obtain ⟨hcz16_0, hcz16_1, hcz16_2, hcz16_3⟩ := b4 BK215.out; obtain ⟨hfz16_0, hfz16_1, hfz16_2, hfz16_3⟩ := f4 BK215.out; obtain ⟨hcz17_0, hcz17_1⟩ := b2 BK213.out; obtain ⟨hfz17_0, hfz17_1⟩ := f2 BK213.out) | (refine gl 22 Try.func56 #[.agg #[.slice A0_0 l0_0.length c0_0, .slice A0_1 l0_1.length c0_1]] rfl ?_; (with_reducible refine (spec_l12Room.calls k _ _ l0_0 _ _ l0_1 t216 t219 true _ ?side1 ?side2 ?side3 ?side4 A6.out).mono ?_); (case side1 => exact Kd.C_below HR0_0.out (bg2 HB.out GE213.out GE215.out)); (case side2 => exact HC0_0.out); (case side3 => exact Kd.C_below HR0_1.out (bg2 HB.out GE213.out GE215.out)); (case side4 => exact HC0_1.out); rintro e w18 ⟨v217, rfl, ho0, hb⟩; refine ⟨_, rfl, ?_⟩; have HO218 := am (Kd.R_lower ho0 (below_size (bg2 HB.out GE213.out GE215.out))); replace BK213 := am (blk_below (bf4 (pb BK213.out) NB213_215.out) hb); replace BK215 := am (blk_below (bp4 (pb BK215.out)) hb); replace HB := am (below_step (bg2 HB.out GE213.out GE215.out) hb); clear hb ho0; obtain ⟨hcz19_0, hcz19_1, hcz19_2, hcz19_3⟩ := b4 BK215.out; obtain ⟨hfz19_0, hfz19_1, hfz19_2, hfz19_3⟩ := f4 BK215.out) | (go_at_call 45; (with_reducible refine (spec_RecOk.calls a1 t214 a2 a3 true _ A8.out).mono ?_); rintro e w20 ⟨rfl, hb⟩; replace HO218 := am (Kd.R_below (pr HO218.out) hb); replace BK213 := am (blk_below (pb BK213.out) hb); replace BK215 := am (blk_below (pb BK215.out) hb); replace HB := am (below_step (bg2 HB.out GE213.out GE215.out) hb); clear hb; obtain ⟨hcz21_0, hcz21_1, hcz21_2, hcz21_3⟩ := b4 BK215.out; obtain ⟨hfz21_0, hfz21_1, hfz21_2, hfz21_3⟩ := f4 BK215.out) | ((with_reducible refine gate_builtin (b := .append) (xs := #[.tmp 34, .tmp 38]) rfl ?_); at_builtin; refine Kd.R_append k91 (w0 := w) w.heap.size rfl (.tmp 34) (.tmp 38) 83 91 (.agg #[(.int .i64 0), (.int .i64 0), (.int .i64 0), (.int .i64 0), (.int .i64 0), (.int .i64 0), (.int .i64 0), (.int .i64 0)]) 64 rfl Try.underlying83 info91 rfl (by decide) (by omega) v217 t216 (⟨3, 0, 0, t219, (⟨a1, t214, a2, a3⟩ : S30)⟩ : S91) [.int .i64 3, .int .i64 0, .int .i64 0, .int .i64 t219, .int .i64 a1, .int .i64 t214, .int .i64 a2, .int .i64 a3] (fun _ => True) (fun _ => False) rfl rfl ?aP (fun _ hk => hk.elim) ?aF ?aO ?aB ?aS ?aL ?_; (case aP => exact k91_mkM _ _ _ (⟨3, 0, 0, t219, (⟨a1, t214, a2, a3⟩ : S30)⟩ : S91)); (case aB => exact (bg2 HB.out GE213.out GE215.out)); (case aF => exact (fun _ _ => trivial)); (case aO => exact (pr HO218.out)); (case aS => exact (below_size (bg2 HB.out GE213.out GE215.out))); (case aL => have := LMc10.out; omega); intro v223 w22 ho hb hg hat; rw [← Ny222.out] at ho; replace BK213 := am (blk_grown (g := gb213) (o := .cells #[.slice A0_0 l0_0.length c0_0, .slice A0_1 l0_1.length c0_1] 26 (0, 0)) (pb BK213.out) hg (Kd.R_ne HO218.out BK213.out (by decide))); replace BK215 := am (blk_grown (g := gb215) (o := .cells #[.int .i64 a1, .int .i64 t214, .int .i64 a2, .int .i64 a3] 30 (0, 0)) (pb BK215.out) hg (Kd.R_ne HO218.out BK215.out (by decide))); replace HB := am (hb); have HO224 := am (ho); clear HO218; clear ho hb hg hat))
 go_ret
 exact ⟨_, rq ⟨pr HO224.out, bg2 HB.out GE213.out GE215.out⟩⟩
def spec_l11Dirty.f (k : Nat) (l0_0 : List (S60)) (l0_1 : List Int) (a1 : Int) : Option (Bool) := (spec_l3Last.f k l0_0 a1).bind fun bt232 => (if bt232.2.2.2.2 = true then (some (bt232.1 == 1)) else (some false))
theorem spec_l11Dirty.mono : ∀ a0 a1 a2 k, LeO (spec_l11Dirty.f k a0 a1 a2) (spec_l11Dirty.f (k + 1) a0 a1 a2) := by
 intro a0 a1 a2 k
 unfold spec_l11Dirty.f
 with_reducible repeat' first | exact spec_l3Last.mono _ _ _ | exact LeO.refl _ | exact LeO.none _ | refine LeO.ite ?_ ?_ | refine LeO.bind ?_ (fun _ => ?_)
set_option maxHeartbeats 8000000 in
set_option maxRecDepth 100000 in
theorem spec_l11Dirty.calls (k : Nat) (A0_0 : Option Addr) (c0_0 : Nat) (l0_0 : List (S60)) (A0_1 : Option Addr) (c0_1 : Nat) (l0_1 : List Int) (a1 : Int) (r : Bool) (w : World) (hr0_0 : Kd.C k60 w A0_0 l0_0.length l0_0) (hc0_0 : l0_0.length ≤ c0_0) (hr0_1 : Kd.C (Kd.int .i64) w A0_1 l0_1.length l0_1) (hc0_1 : l0_1.length ≤ c0_1) (h : spec_l11Dirty.f k l0_0 l0_1 a1 = some r) :
 Calls Try.prog 51 #[.agg #[.slice A0_0 l0_0.length c0_0, .slice A0_1 l0_1.length c0_1], .int .i64 a1] w fun e w' => e = .returned (.bool r) ∧ Below w.heap.size w w' := by
 have hu26 := Try.underlying26
 have hu30 := Try.underlying30
 have HR0_0 := am hr0_0
 have HC0_0 := am hc0_0
 clear hr0_0 hc0_0
 have HR0_1 := am hr0_1
 have HC0_1 := am hc0_1
 clear hr0_1 hc0_1
 have HB := am (Below.refl w.heap.size w)
 have H : ((spec_l3Last.f k l0_0 a1).bind fun bt232 => (if bt232.2.2.2.2 = true then (some (bt232.1 == 1)) else (some false))) = some r := h
 clear h
 replace H := Option.bind_eq_some_iff.mp H
 obtain ⟨⟨t232, t233, t234, t235, t236⟩, A30, H⟩ := H
 have A3 := am A30
 clear A30
 by_cases c4 : t236 = true
 · subst c4
   rw [if_pos rfl] at H
   obtain rfl := Option.some.inj H
   go_enter Try.func51, Try.ntmps51
   go_wp2_with (first | (refine bx 2 #[.slice A0_0 l0_0.length c0_0, .slice A0_1 l0_1.length c0_1] 26 rfl ?_; intro gb231 hg w5 hbox hb; have BK231 := am (hbox); have GW231 := am (ge hg (ph HB.out)); have GE231 := GW231; replace HB := am (below_step (ph HB.out) hb); clear hb hbox hg; obtain ⟨hcz6_0, hcz6_1⟩ := b2 BK231.out; obtain ⟨hfz6_0, hfz6_1⟩ := f2 BK231.out) | (refine gl 11 Try.func17 #[.slice A0_0 l0_0.length c0_0, .int .i64 a1] rfl ?_; (with_reducible refine (spec_l3Last.calls k _ _ l0_0 a1 t232 t233 t234 t235 true _ ?side1 ?side2 A3.out).mono ?_); (case side1 => exact pc (Kd.C_below HR0_0.out HB.out)); (case side2 => exact HC0_0.out); rintro e w7 ⟨rfl, hb⟩; refine ⟨_, rfl, ?_⟩; replace BK231 := am (blk_below (pb BK231.out) hb); replace HB := am (below_step (bg1 HB.out GE231.out) hb); clear hb) | (refine bx 5 #[.int .i64 0, .int .i64 0, .int .i64 0, .int .i64 0] 30 rfl ?_; intro gb237 hg w8 hbox hb; have BK237 := am (hbox); have GW237 := am (ge hg (bg1 HB.out GE231.out)); have GE237 := GW237; replace HB := am (below_step (bg1 HB.out GE231.out) hb); have NB231_237 := am (nb hg (pb BK231.out)); have NB237_231 := am (Ne.symm NB231_237.out); replace BK231 := am (blk_below (pb BK231.out) hb); clear hb hbox hg; have hnb9 := NB237_231.out; have hnc9 := NB231_237.out; obtain ⟨hcz10_0, hcz10_1, hcz10_2, hcz10_3⟩ := b4 BK237.out; obtain ⟨hfz10_0, hfz10_1, hfz10_2, hfz10_3⟩ := f4 BK237.out))
   go_ret
   exact (rq (bg2 HB.out GE231.out GE237.out))
 replace c4 := Bool.eq_false_iff.mpr c4
 subst c4
 rw [if_neg (show ¬ (false = true) by decide)] at H
 obtain rfl := Option.some.inj H
 go_enter Try.func51, Try.ntmps51
 go_wp2_with (first | (refine bx 2 #[.slice A0_0 l0_0.length c0_0, .slice A0_1 l0_1.length c0_1] 26 rfl ?_; intro gb231 hg w11 hbox hb; have BK231 := am (hbox); have GW231 := am (ge hg (ph HB.out)); have GE231 := GW231; replace HB := am (below_step (ph HB.out) hb); clear hb hbox hg; obtain ⟨hcz12_0, hcz12_1⟩ := b2 BK231.out; obtain ⟨hfz12_0, hfz12_1⟩ := f2 BK231.out) | (refine gl 11 Try.func17 #[.slice A0_0 l0_0.length c0_0, .int .i64 a1] rfl ?_; (with_reducible refine (spec_l3Last.calls k _ _ l0_0 a1 t232 t233 t234 t235 false _ ?side1 ?side2 A3.out).mono ?_); (case side1 => exact pc (Kd.C_below HR0_0.out HB.out)); (case side2 => exact HC0_0.out); rintro e w13 ⟨rfl, hb⟩; refine ⟨_, rfl, ?_⟩; replace BK231 := am (blk_below (pb BK231.out) hb); replace HB := am (below_step (bg1 HB.out GE231.out) hb); clear hb) | (refine bx 5 #[.int .i64 0, .int .i64 0, .int .i64 0, .int .i64 0] 30 rfl ?_; intro gb237 hg w14 hbox hb; have BK237 := am (hbox); have GW237 := am (ge hg (bg1 HB.out GE231.out)); have GE237 := GW237; replace HB := am (below_step (bg1 HB.out GE231.out) hb); have NB231_237 := am (nb hg (pb BK231.out)); have NB237_231 := am (Ne.symm NB231_237.out); replace BK231 := am (blk_below (pb BK231.out) hb); clear hb hbox hg; have hnb15 := NB237_231.out; have hnc15 := NB231_237.out; obtain ⟨hcz16_0, hcz16_1, hcz16_2, hcz16_3⟩ := b4 BK237.out; obtain ⟨hfz16_0, hfz16_1, hfz16_2, hfz16_3⟩ := f4 BK237.out))
 go_ret
 exact (rq (bg2 HB.out GE231.out GE237.out))
def spec_l11Read.f (k : Nat) (l0_0 : List (S60)) (l0_1 : List Int) (a1 : Int) : Option (Int) := (spec_l3Last.f k l0_0 a1).bind fun bt239 => (if bt239.2.2.2.2 = true then (some bt239.2.2.2.1) else (if 0 ≤ (wrap64 (a1 - 1)) then (if (wrap64 (a1 - 1)) < (l0_1.length : Int) then (some (rd l0_1 (wrap64 (a1 - 1)))) else (none)) else (none)))
theorem spec_l11Read.mono : ∀ a0 a1 a2 k, LeO (spec_l11Read.f k a0 a1 a2) (spec_l11Read.f (k + 1) a0 a1 a2) := by
 intro a0 a1 a2 k
 unfold spec_l11Read.f
 with_reducible repeat' first | exact spec_l3Last.mono _ _ _ | exact LeO.refl _ | exact LeO.none _ | refine LeO.ite ?_ ?_ | refine LeO.bind ?_ (fun _ => ?_)
set_option maxHeartbeats 8000000 in
set_option maxRecDepth 100000 in
theorem spec_l11Read.calls (k : Nat) (A0_0 : Option Addr) (c0_0 : Nat) (l0_0 : List (S60)) (A0_1 : Option Addr) (c0_1 : Nat) (l0_1 : List Int) (a1 : Int) (r : Int) (w : World) (hr0_0 : Kd.C k60 w A0_0 l0_0.length l0_0) (hc0_0 : l0_0.length ≤ c0_0) (hr0_1 : Kd.C (Kd.int .i64) w A0_1 l0_1.length l0_1) (hc0_1 : l0_1.length ≤ c0_1) (h : spec_l11Read.f k l0_0 l0_1 a1 = some r) :
 Calls Try.prog 52 #[.agg #[.slice A0_0 l0_0.length c0_0, .slice A0_1 l0_1.length c0_1], .int .i64 a1] w fun e w' => e = .returned (.int .i64 r) ∧ Below w.heap.size w w' := by
 have hu26 := Try.underlying26
 have hu30 := Try.underlying30
 have HR0_0 := am hr0_0
 have HC0_0 := am hc0_0
 clear hr0_0 hc0_0
 have HR0_1 := am hr0_1
 have HC0_1 := am hc0_1
 clear hr0_1 hc0_1
 have HB := am (Below.refl w.heap.size w)
 have H : ((spec_l3Last.f k l0_0 a1).bind fun bt239 => (if bt239.2.2.2.2 = true then (some bt239.2.2.2.1) else (if 0 ≤ (wrap64 (a1 - 1)) then (if (wrap64 (a1 - 1)) < (l0_1.length : Int) then (some (rd l0_1 (wrap64 (a1 - 1)))) else (none)) else (none)))) = some r := h
 clear h
 replace H := Option.bind_eq_some_iff.mp H
 obtain ⟨⟨t239, t240, t241, t242, t243⟩, A30, H⟩ := H
 have A3 := am A30
 clear A30
 by_cases c4 : t243 = true
 · subst c4
   rw [if_pos rfl] at H
   obtain rfl := Option.some.inj H
   go_enter Try.func52, Try.ntmps52
   go_wp2_with (first | (refine bx 2 #[.slice A0_0 l0_0.length c0_0, .slice A0_1 l0_1.length c0_1] 26 rfl ?_; intro gb238 hg w5 hbox hb; have BK238 := am (hbox); have GW238 := am (ge hg (ph HB.out)); have GE238 := GW238; replace HB := am (below_step (ph HB.out) hb); clear hb hbox hg; obtain ⟨hcz6_0, hcz6_1⟩ := b2 BK238.out; obtain ⟨hfz6_0, hfz6_1⟩ := f2 BK238.out) | (refine gl 11 Try.func17 #[.slice A0_0 l0_0.length c0_0, .int .i64 a1] rfl ?_; (with_reducible refine (spec_l3Last.calls k _ _ l0_0 a1 t239 t240 t241 t242 true _ ?side1 ?side2 A3.out).mono ?_); (case side1 => exact pc (Kd.C_below HR0_0.out HB.out)); (case side2 => exact HC0_0.out); rintro e w7 ⟨rfl, hb⟩; refine ⟨_, rfl, ?_⟩; replace BK238 := am (blk_below (pb BK238.out) hb); replace HB := am (below_step (bg1 HB.out GE238.out) hb); clear hb) | (refine bx 5 #[.int .i64 0, .int .i64 0, .int .i64 0, .int .i64 0] 30 rfl ?_; intro gb244 hg w8 hbox hb; have BK244 := am (hbox); have GW244 := am (ge hg (bg1 HB.out GE238.out)); have GE244 := GW244; replace HB := am (below_step (bg1 HB.out GE238.out) hb); have NB238_244 := am (nb hg (pb BK238.out)); have NB244_238 := am (Ne.symm NB238_244.out); replace BK238 := am (blk_below (pb BK238.out) hb); clear hb hbox hg; have hnb9 := NB244_238.out; have hnc9 := NB238_244.out; obtain ⟨hcz10_0, hcz10_1, hcz10_2, hcz10_3⟩ := b4 BK244.out; obtain ⟨hfz10_0, hfz10_1, hfz10_2, hfz10_3⟩ := f4 BK244.out))
   go_ret
   exact (rq (bg2 HB.out GE238.out GE244.out))
 replace c4 := Bool.eq_false_iff.mpr c4
 subst c4
 rw [if_neg (show ¬ (false = true) by decide)] at H
 obtain ⟨ji11, hji11⟩ : ∃ j_ : Int, (wrap64 (a1 - 1)) = j_ := ⟨_, rfl⟩
 replace H : (if 0 ≤ (ji11) then (if (ji11) < (l0_1.length : Int) then (some (rd l0_1 (ji11))) else (none)) else (none)) = some r := by first | (rw [hji11] at H; exact H) | (simp only [hji11] at H ⊢; exact H)
 (try rw [hji11] at A3)
 have hji11w : (IntKind.i64.wrap (a1 - 1)) = ji11 := (i64_w _).trans hji11
 obtain ⟨c12b0, H⟩ := ifd H
 obtain ⟨c13b0, H⟩ := ifd H
 obtain rfl := Option.some.inj H
 go_enter Try.func52, Try.ntmps52
 go_wp2_with (first | (refine bx 2 #[.slice A0_0 l0_0.length c0_0, .slice A0_1 l0_1.length c0_1] 26 rfl ?_; intro gb238 hg w14 hbox hb; have BK238 := am (hbox); have GW238 := am (ge hg (ph HB.out)); have GE238 := GW238; replace HB := am (below_step (ph HB.out) hb); clear hb hbox hg; obtain ⟨hcz15_0, hcz15_1⟩ := b2 BK238.out; obtain ⟨hfz15_0, hfz15_1⟩ := f2 BK238.out) | (refine gl 11 Try.func17 #[.slice A0_0 l0_0.length c0_0, .int .i64 a1] rfl ?_; (with_reducible refine (spec_l3Last.calls k _ _ l0_0 a1 t239 t240 t241 t242 false _ ?side1 ?side2 A3.out).mono ?_); (case side1 => exact pc (Kd.C_below HR0_0.out HB.out)); (case side2 => exact HC0_0.out); rintro e w16 ⟨rfl, hb⟩; refine ⟨_, rfl, ?_⟩; replace BK238 := am (blk_below (pb BK238.out) hb); replace HB := am (below_step (bg1 HB.out GE238.out) hb); clear hb) | (refine bx 5 #[.int .i64 0, .int .i64 0, .int .i64 0, .int .i64 0] 30 rfl ?_; intro gb244 hg w17 hbox hb; have BK244 := am (hbox); have GW244 := am (ge hg (bg1 HB.out GE238.out)); have GE244 := GW244; replace HB := am (below_step (bg1 HB.out GE238.out) hb); have NB238_244 := am (nb hg (pb BK238.out)); have NB244_238 := am (Ne.symm NB238_244.out); replace BK238 := am (blk_below (pb BK238.out) hb); clear hb hbox hg; have hnb18 := NB244_238.out; have hnc18 := NB238_244.out; obtain ⟨hcz19_0, hcz19_1, hcz19_2, hcz19_3⟩ := b4 BK244.out; obtain ⟨hfz19_0, hfz19_1, hfz19_2, hfz19_3⟩ := f4 BK244.out; obtain ⟨hcz20_0, hcz20_1⟩ := b2 BK238.out; obtain ⟨hfz20_0, hfz20_1⟩ := f2 BK238.out; have p245 : 0 ≤ ((ji11) : Int) := ofb; have q245 : (ji11) < (l0_1.length : Int) := ofb; obtain ⟨ad245, e245, hx245_0⟩ := Kd.at_int HR0_1.out (ji11) p245 q245; cases e245; have hn245_0 : ad245.block ≠ gb244 := Nat.ne_of_lt (Nat.lt_of_lt_of_le (by have := World.block_lt_of_cell? _ _ hx245_0; first | rwa [add_block] at this | exact this) GW244.out); have hn245_1 : ad245.block ≠ gb244 := Nat.ne_of_lt (Nat.lt_of_lt_of_le (by have := World.block_lt_of_cell? _ _ hx245_0; first | rwa [add_block] at this | exact this) GW244.out); have hn245_2 : ad245.block ≠ gb244 := Nat.ne_of_lt (Nat.lt_of_lt_of_le (by have := World.block_lt_of_cell? _ _ hx245_0; first | rwa [add_block] at this | exact this) GW244.out); have hn245_3 : ad245.block ≠ gb244 := Nat.ne_of_lt (Nat.lt_of_lt_of_le (by have := World.block_lt_of_cell? _ _ hx245_0; first | rwa [add_block] at this | exact this) GW244.out); replace hx245_0 := up HB.out hx245_0; replace hx245_0 := (cell_far (p := ⟨gb244, 0, none⟩) (by first | (rw [add_block]; exact hn245_0) | (show (Addr.add _ _).block ≠ _; rw [add_block]; exact hn245_0) | exact hn245_0) (.int .i64 t239)).trans hx245_0; replace hx245_0 := (cell_far (p := ⟨gb244, 1, none⟩) (by first | (rw [add_block]; exact hn245_1) | (show (Addr.add _ _).block ≠ _; rw [add_block]; exact hn245_1) | exact hn245_1) (.int .i64 t240)).trans hx245_0; replace hx245_0 := (cell_far (p := ⟨gb244, 2, none⟩) (by first | (rw [add_block]; exact hn245_2) | (show (Addr.add _ _).block ≠ _; rw [add_block]; exact hn245_2) | exact hn245_2) (.int .i64 t241)).trans hx245_0; replace hx245_0 := (cell_far (p := ⟨gb244, 3, none⟩) (by first | (rw [add_block]; exact hn245_3) | (show (Addr.add _ _).block ≠ _; rw [add_block]; exact hn245_3) | exact hn245_3) (.int .i64 t242)).trans hx245_0; clear hn245_0; clear hn245_1; clear hn245_2; clear hn245_3; replace p245 := eq_true p245; replace q245 := eq_true q245))
 go_ret
 exact ⟨by first | rfl | (simp [errW_none, errW_some] <;> rfl) | (simp only [← hji11]; first | rfl | (simp [errW_none, errW_some] <;> rfl)) | (simp [*, errW_none, errW_some] <;> rfl), bg2 HB.out GE238.out GE244.out⟩
def spec_l12Flush.j0 : Nat → Int → Bool → List (S60) → List Int → Option ((List (S91)))
 | 0, _, _, _, _ => none
 | k + 1, x1, x15, x247000, x247001 => if x15 = true then (some (([] : List (S91)))) else ((spec_l11Read.f k x247000 x247001 x1).bind fun t252 => ((spec_l12Write.f k x247000 x247001 2 x1 t252).bind fun t253 => (if (t253.length : Int) = 0 then (some t253) else ((some (([(⟨1, x1, t252, 0, (⟨0, 0, 0, 0⟩ : S30)⟩ : S91)] : List (S91)) : List (S91))).bind fun y256 => (if y256.length + t253.length < 2199023255552 then (some (y256 ++ t253)) else (none))))))
def spec_l12Flush.f (k : Nat) (l0_0 : List (S60)) (l0_1 : List Int) (a1 : Int) : Option ((List (S91))) := (spec_l6In.f a1 1 6).bind fun t247 => (if t247 = true then ((spec_l11Dirty.f k l0_0 l0_1 a1).bind fun t248 => (spec_l12Flush.j0 k a1 (!t248) l0_0 l0_1)) else (spec_l12Flush.j0 k a1 true l0_0 l0_1))
theorem spec_l12Flush.mono_l : ∀ k, (∀ y0 y1 y2 y3, LeO (spec_l12Flush.j0 k y0 y1 y2 y3) (spec_l12Flush.j0 (k + 1) y0 y1 y2 y3))
 | 0 => fun _ _ _ _ r h => by simp [spec_l12Flush.j0] at h
 | k + 1 => by
  have ih0 := spec_l12Flush.mono_l k
  · intro y0 y1 y2 y3
    unfold spec_l12Flush.j0
    with_reducible repeat' first | exact ih0 _ _ _ _ | exact spec_l11Dirty.mono _ _ _ _ | exact spec_l11Read.mono _ _ _ _ | exact spec_l12Write.mono _ _ _ _ _ _ | exact LeO.refl _ | exact LeO.none _ | refine LeO.ite ?_ ?_ | refine LeO.bind ?_ (fun _ => ?_)
theorem spec_l12Flush.mono : ∀ a0 a1 a2 k, LeO (spec_l12Flush.f k a0 a1 a2) (spec_l12Flush.f (k + 1) a0 a1 a2) := by
 intro a0 a1 a2 k
 have ih0 := spec_l12Flush.mono_l k
 unfold spec_l12Flush.f
 with_reducible repeat' first | exact ih0 _ _ _ _ | exact spec_l11Dirty.mono _ _ _ _ | exact spec_l11Read.mono _ _ _ _ | exact spec_l12Write.mono _ _ _ _ _ _ | exact LeO.refl _ | exact LeO.none _ | refine LeO.ite ?_ ?_ | refine LeO.bind ?_ (fun _ => ?_)
set_option maxHeartbeats 8000000 in
set_option maxRecDepth 100000 in
theorem spec_l12Flush.calls (k : Nat) (A0_0 : Option Addr) (c0_0 : Nat) (l0_0 : List (S60)) (A0_1 : Option Addr) (c0_1 : Nat) (l0_1 : List Int) (a1 : Int) (r : List (S91)) (w : World) (hr0_0 : Kd.C k60 w A0_0 l0_0.length l0_0) (hc0_0 : l0_0.length ≤ c0_0) (hr0_1 : Kd.C (Kd.int .i64) w A0_1 l0_1.length l0_1) (hc0_1 : l0_1.length ≤ c0_1) (h : spec_l12Flush.f k l0_0 l0_1 a1 = some r) :
 Calls Try.prog 47 #[.agg #[.slice A0_0 l0_0.length c0_0, .slice A0_1 l0_1.length c0_1], .int .i64 a1] w fun e w' => ∃ v0_ : Value, e = .returned (v0_) ∧ Kd.R k91 91 w' w.heap.size (fun _ => True) v0_ r ∧ Below w.heap.size w w' := by
 have hu26 := Try.underlying26
 have hu91 := Try.underlying91
 have HR0_0 := am hr0_0
 have HC0_0 := am hc0_0
 clear hr0_0 hc0_0
 have HR0_1 := am hr0_1
 have HC0_1 := am hc0_1
 clear hr0_1 hc0_1
 have HB := am (Below.refl w.heap.size w)
 have H : ((spec_l6In.f a1 1 6).bind fun t247 => (if t247 = true then ((spec_l11Dirty.f k l0_0 l0_1 a1).bind fun t248 => (spec_l12Flush.j0 k a1 (!t248) l0_0 l0_1)) else (spec_l12Flush.j0 k a1 true l0_0 l0_1))) = some r := h
 clear h
 have HC3 := am H
 clear H
 go_enter Try.func47, Try.ntmps47
 go_upto_region 1 with (first | (refine bx 2 #[.slice A0_0 l0_0.length c0_0, .slice A0_1 l0_1.length c0_1] 26 rfl ?_; intro gb246 hg w4 hbox hb; have BK246 := am (hbox); have GW246 := am (ge hg (ph HB.out)); have GE246 := GW246; replace HB := am (below_step (ph HB.out) hb); clear hb hbox hg))
 (try simp only [Act.put, List.setIfInBounds_toArray, List.set_cons_zero, List.set_cons_succ])
 go_cut [15] (fun v15 wc => ∃ (kq : Nat) (x15_2 : Bool), v15 = .bool x15_2 ∧ Aside0 (spec_l12Flush.j0 kq a1 x15_2 l0_0 l0_1 = some r) ∧ Aside0 (kq ≤ k) ∧ Aside0 (wc.heap[gb246]? = some (.cells #[(.slice A0_0 l0_0.length c0_0), (.slice A0_1 l0_1.length c0_1)] 26 (0, 0))) ∧ Aside0 (Below w.heap.size w wc))
 case first =>
  have H := HC3.out
  clear HC3
  replace H := Option.bind_eq_some_iff.mp H
  obtain ⟨t247, A50, H⟩ := H
  have A5 := am A50
  clear A50
  by_cases c6 : t247 = true
  rotate_left
  · replace c6 := Bool.eq_false_iff.mpr c6
    subst c6
    rw [if_neg (show ¬ (false = true) by decide)] at H
    have H' := am H
    clear H
    go_wp2_with (first | (refine gl 8 Try.func18 #[.int .i64 a1, .int .i64 1, .int .i64 6] rfl ?_; (with_reducible refine (spec_l6In.calls a1 1 6 false _ A5.out).mono ?_); rintro e w' ⟨rfl, ⟨nd, rfl⟩⟩; refine ⟨_, rfl, ?_⟩))
    go_meet
    case rel => exact ⟨_, (true), rf, H', ⟨by first | omega | exact Nat.le_refl _⟩, ⟨pb BK246.out⟩, ⟨bg1 HB.out GE246.out⟩⟩
  subst c6
  rw [if_pos rfl] at H
  replace H := Option.bind_eq_some_iff.mp H
  obtain ⟨t248, A70, H⟩ := H
  have A7 := am A70
  clear A70
  have H' := am H
  clear H
  go_wp2_with (first | (refine gl 8 Try.func18 #[.int .i64 a1, .int .i64 1, .int .i64 6] rfl ?_; (with_reducible refine (spec_l6In.calls a1 1 6 true _ A5.out).mono ?_); rintro e w' ⟨rfl, ⟨nd, rfl⟩⟩; refine ⟨_, rfl, ?_⟩; obtain ⟨hcz8_0, hcz8_1⟩ := b2 BK246.out; obtain ⟨hfz8_0, hfz8_1⟩ := f2 BK246.out) | (go_at_call 51; (with_reducible refine (spec_l11Dirty.calls k _ _ l0_0 _ _ l0_1 a1 t248 _ ?side1 ?side2 ?side3 ?side4 A7.out).mono ?_); (case side1 => exact (Kd.C_below HR0_0.out (bg1 HB.out GE246.out))); (case side2 => exact HC0_0.out); (case side3 => exact (Kd.C_below HR0_1.out (bg1 HB.out GE246.out))); (case side4 => exact HC0_1.out); rintro e w9 ⟨rfl, hb⟩; replace BK246 := am (blk_below (pb BK246.out) hb); replace HB := am (below_step (bg1 HB.out GE246.out) hb); clear hb))
  go_meet
  case rel => exact ⟨_, (!t248), rf, H', ⟨by first | omega | exact Nat.le_refl _⟩, ⟨pb BK246.out⟩, ⟨bg1 HB.out GE246.out⟩⟩
 case rest =>
  clear HC3
  obtain ⟨kq, x15_2, rfl, HA, HJ2, BK246, HB⟩ := hcut
  cases kq with
  | zero => exact absurd HA.out (by simp [spec_l12Flush.j0])
  | succ kj2 =>
   have H := HA.out
   clear HA
   simp only [spec_l12Flush.j0] at H
   by_cases c10 : x15_2 = true
   · subst c10
     rw [if_pos rfl] at H
     obtain ⟨y249, hy249⟩ : ∃ y_ : List (S91), y_ = (([] : List (S91))) := ⟨_, rfl⟩
     replace H : (some y249) = some r := yy hy249 H
     have Ny249 := am hy249
     clear hy249
     obtain rfl := Option.some.inj H
     go_wp2_with (first | ((with_reducible refine gate_dst (N := 16) rfl ?_); refine Kd.R_lit k91 _ 91 ?hg (N := 16) ?hd (xs := ([] : List (S91))) (inner := []) (ok := fun _ => True) (okp := fun _ => True) ?hr ?hp (fun _ hk => hk) trivial (Below.refl _ _) (Nat.le_refl _) (by simp) ?_; (case hd => rfl); (case hg => rfl); (case hr => first | (go_simp; done) | (go_simp; rfl)); (case hp => exact (Reps.none _ _)); intro v250 w11 ho12 hb hg_ hnew_; clear hg_ hnew_; (first | rw [← Ny249.out] at ho12 | (simp only [Int.reduceToNat] at ho12; rw [← Ny249.out] at ho12)); have HO251 := am (Kd.R_lower ho12 (below_size (bg1 HB.out GE246.out))); replace BK246 := am (blk_below (pb BK246.out) hb); replace HB := am (below_step (bg1 HB.out GE246.out) hb); clear hb ho12))
     go_ret
     exact ⟨_, rq ⟨pr HO251.out, bg1 HB.out GE246.out⟩⟩
   replace c10 := Bool.eq_false_iff.mpr c10
   subst c10
   rw [if_neg (show ¬ (false = true) by decide)] at H
   replace H := Option.bind_eq_some_iff.mp H
   obtain ⟨t252, A130, H⟩ := H
   have A13 := am A130
   clear A130
   replace H := Option.bind_eq_some_iff.mp H
   obtain ⟨t253, A140, H⟩ := H
   have A14 := am A140
   clear A140
   by_cases c15 : (t253.length : Int) = 0
   · rw [if_pos c15] at H
     have c15b0 : ((t253.length : Int) == 0) = true := beq_iff_eq.mpr c15
     have c15b1 : ((t253.length : Int) != 0) = false := bne_eq_false_iff_eq.mpr c15
     clear c15
     obtain rfl := Option.some.inj H
     obtain ⟨hcz16_0, hcz16_1⟩ := b2 BK246.out
     obtain ⟨hfz16_0, hfz16_1⟩ := f2 BK246.out
     go_wp2_with (first | (refine gl 19 Try.func52 #[.agg #[.slice A0_0 l0_0.length c0_0, .slice A0_1 l0_1.length c0_1], .int .i64 a1] rfl ?_; (with_reducible refine (spec_l11Read.calls kj2 _ _ l0_0 _ _ l0_1 a1 t252 _ ?side1 ?side2 ?side3 ?side4 A13.out).mono ?_); (case side1 => exact pc (Kd.C_below HR0_0.out HB.out)); (case side2 => exact HC0_0.out); (case side3 => exact pc (Kd.C_below HR0_1.out HB.out)); (case side4 => exact HC0_1.out); rintro e w17 ⟨rfl, hb⟩; refine ⟨_, rfl, ?_⟩; replace BK246 := am (blk_below (pb BK246.out) hb); replace HB := am (below_step (bg1 HB.out GE246.out) hb); clear hb; obtain ⟨hcz18_0, hcz18_1⟩ := b2 BK246.out; obtain ⟨hfz18_0, hfz18_1⟩ := f2 BK246.out) | (refine gl 23 Try.func49 #[.agg #[.slice A0_0 l0_0.length c0_0, .slice A0_1 l0_1.length c0_1], .int .i64 2, .int .i64 a1, .int .i64 t252] rfl ?_; (with_reducible refine (spec_l12Write.calls kj2 _ _ l0_0 _ _ l0_1 2 a1 t252 t253 _ ?side1 ?side2 ?side3 ?side4 A14.out).mono ?_); (case side1 => exact pc (Kd.C_below HR0_0.out HB.out)); (case side2 => exact HC0_0.out); (case side3 => exact pc (Kd.C_below HR0_1.out HB.out)); (case side4 => exact HC0_1.out); rintro e w19 ⟨v254, rfl, ho0, hb⟩; refine ⟨_, rfl, ?_⟩; have HO255 := am (Kd.R_lower ho0 (below_size (bg1 HB.out GE246.out))); replace BK246 := am (blk_below (pb BK246.out) hb); replace HB := am (below_step (bg1 HB.out GE246.out) hb); clear hb ho0; obtain ⟨Ao20, co20, eo20⟩ := Kd.R_slice HO255.out; subst eo20))
     go_ret
     exact ⟨_, rq ⟨pr HO255.out, bg1 HB.out GE246.out⟩⟩
   rw [if_neg c15] at H
   have c15b0 : ((t253.length : Int) == 0) = false := beq_eq_false_iff_ne.mpr c15
   have c15b1 : ((t253.length : Int) != 0) = true := bne_iff_ne.mpr c15
   have c15b2 : ¬ (t253 = []) := fun h_ => c15 (by rw [h_]; rfl)
   obtain ⟨y256, hy256⟩ : ∃ y_ : List (S91), y_ = (([(⟨1, a1, t252, 0, (⟨0, 0, 0, 0⟩ : S30)⟩ : S91)] : List (S91))) := ⟨_, rfl⟩
   replace H : (if y256.length + t253.length < 2199023255552 then (some (y256 ++ t253)) else (none)) = some r := yy hy256 H
   have Ny256 := am hy256
   clear hy256
   by_cases c21 : y256.length + t253.length < 2199023255552
   rotate_left
   · rw [if_neg c21] at H
     exact absurd H (by simp)
   rw [if_pos c21] at H
   have LMc21 := am c21
   clear c21
   obtain ⟨y259, hy259⟩ : ∃ y_ : List (S91), y_ = (y256 ++ t253) := ⟨_, rfl⟩
   replace H : (some y259) = some r := yy hy259 H
   have Ny259 := am hy259
   clear hy259
   obtain rfl := Option.some.inj H
   obtain ⟨hcz22_0, hcz22_1⟩ := b2 BK246.out
   obtain ⟨hfz22_0, hfz22_1⟩ := f2 BK246.out
   go_wp2_with (first | (refine gl 19 Try.func52 #[.agg #[.slice A0_0 l0_0.length c0_0, .slice A0_1 l0_1.length c0_1], .int .i64 a1] rfl ?_; (with_reducible refine (spec_l11Read.calls kj2 _ _ l0_0 _ _ l0_1 a1 t252 _ ?side1 ?side2 ?side3 ?side4 A13.out).mono ?_); (case side1 => exact pc (Kd.C_below HR0_0.out HB.out)); (case side2 => exact HC0_0.out); (case side3 => exact pc (Kd.C_below HR0_1.out HB.out)); (case side4 => exact HC0_1.out); rintro e w23 ⟨rfl, hb⟩; refine ⟨_, rfl, ?_⟩; replace BK246 := am (blk_below (pb BK246.out) hb); replace HB := am (below_step (bg1 HB.out GE246.out) hb); clear hb; obtain ⟨hcz24_0, hcz24_1⟩ := b2 BK246.out; obtain ⟨hfz24_0, hfz24_1⟩ := f2 BK246.out) | (refine gl 23 Try.func49 #[.agg #[.slice A0_0 l0_0.length c0_0, .slice A0_1 l0_1.length c0_1], .int .i64 2, .int .i64 a1, .int .i64 t252] rfl ?_; (with_reducible refine (spec_l12Write.calls kj2 _ _ l0_0 _ _ l0_1 2 a1 t252 t253 _ ?side1 ?side2 ?side3 ?side4 A14.out).mono ?_); (case side1 => exact pc (Kd.C_below HR0_0.out HB.out)); (case side2 => exact HC0_0.out); (case side3 => exact pc (Kd.C_below HR0_1.out HB.out)); (case side4 => exact HC0_1.out); rintro e w25 ⟨v254, rfl, ho0, hb⟩; refine ⟨_, rfl, ?_⟩; have HO255 := am (Kd.R_lower ho0 (below_size (bg1 HB.out GE246.out))); replace BK246 := am (blk_below (pb BK246.out) hb); replace HB := am (below_step (bg1 HB.out GE246.out) hb); clear hb ho0; obtain ⟨Ao26, co26, eo26⟩ := Kd.R_slice HO255.out; subst eo26) | ((with_reducible refine gate_dst (N := 31) rfl ?_); refine Kd.R_lit k91 _ 91 ?hg (N := 31) ?hd (xs := ([(⟨1, a1, t252, 0, (⟨0, 0, 0, 0⟩ : S30)⟩ : S91)] : List (S91))) (inner := [.int .i64 1, .int .i64 a1, .int .i64 t252, .int .i64 0, .int .i64 0, .int .i64 0, .int .i64 0, .int .i64 0]) (ok := fun _ => True) (okp := fun _ => True) ?hr ?hp (fun _ hk => hk) trivial (Below.refl _ _) (Nat.le_refl _) (by simp) ?_; (case hd => rfl); (case hg => rfl); (case hr => first | (go_simp; done) | (go_simp; rfl)); (case hp => exact (Reps.c8 (show Kd.M k91 _ _ _ (⟨1, a1, t252, 0, (⟨0, 0, 0, 0⟩ : S30)⟩ : S91) [.int .i64 1, .int .i64 a1, .int .i64 t252, .int .i64 0, .int .i64 0, .int .i64 0, .int .i64 0, .int .i64 0] from (k91_mkM _ _ _ (⟨1, a1, t252, 0, (⟨0, 0, 0, 0⟩ : S30)⟩ : S91) )) (Reps.none _ _))); intro v257 w27 ho28 hb hg_ hnew_; clear hg_ hnew_; (first | rw [← Ny256.out] at ho28 | (simp only [Int.reduceToNat] at ho28; rw [← Ny256.out] at ho28)); have HO258 := am (Kd.R_lower (Kd.R_new' ho28 (Kd.R_lt (pr HO255.out))) (below_size (bg1 HB.out GE246.out))); replace HO255 := am (Kd.R_elder' (pr HO255.out) (Kd.R_base ho28) hb); replace BK246 := am (blk_below (pb BK246.out) hb); replace HB := am (below_step (bg1 HB.out GE246.out) hb); clear hb ho28) | ((with_reducible refine gate_builtin (b := .append) (xs := #[.tmp 31, .tmp 32]) rfl ?_); at_builtin; refine Kd.R_append_rows k91 (w0 := w) w.heap.size rfl (.tmp 31) (.tmp 32) 83 91 (.agg #[(.int .i64 0), (.int .i64 0), (.int .i64 0), (.int .i64 0), (.int .i64 0), (.int .i64 0), (.int .i64 0), (.int .i64 0)]) 64 rfl Try.underlying83 info91 rfl (by decide) (by omega) v257 y256 t253 _ _ _ (fun k_ => some k_ ≠ (.slice Ao26 t253.length co26 : Value).ownBlock) (fun _ => False) rfl rfl ?aO ?aR (fun _ _ h => h) (fun _ h => h.elim) ?aF ?aB ?aS ?aL ?_; (case aR => exact pc ((Kd.R_reads' HO255.out).2.2)); (case aB => exact (bg1 HB.out GE246.out)); (case aF => exact (fun k_ hk => Kd.fresh' (Kd.R_lt (pr HO255.out)) k_ hk)); (case aO => exact (pr (Kd.R_mono HO258.out (fun _ hk => hk.2)))); (case aS => exact (below_size (bg1 HB.out GE246.out))); (case aL => have := LMc21.out; omega); intro v260 w29 ho hb hg hat; rw [← Ny259.out] at ho; replace BK246 := am (blk_grown (g := gb246) (o := .cells #[.slice A0_0 l0_0.length c0_0, .slice A0_1 l0_1.length c0_1] 26 (0, 0)) (pb BK246.out) hg (Kd.R_ne HO258.out BK246.out (by decide))); replace HO255 := am (Kd.R_after (ok := (fun _ => True)) (pr HO255.out) hg hat); replace HB := am (hb); have HO261 := am (ho); clear HO258; clear ho hb hg hat))
   go_ret
   exact ⟨_, rq ⟨pr (Kd.R_mono HO261.out (fun _ hk => trivial)), bg1 HB.out GE246.out⟩⟩
end Go.Proofs.Ytcfpddgfhkaboaa.Rz
