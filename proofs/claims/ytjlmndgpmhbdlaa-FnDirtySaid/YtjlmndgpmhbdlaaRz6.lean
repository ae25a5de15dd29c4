-- printed by wip/pp/pp.py
import Derived.Test.YtjlmndgpmhbdlaaRz0
import Derived.Test.YtjlmndgpmhbdlaaRz1
import Derived.Test.YtjlmndgpmhbdlaaRz3
import Derived.Test.YtjlmndgpmhbdlaaRz4
import Derived.Test.YtjlmndgpmhbdlaaRz5
namespace Go.Proofs.Ytjlmndgpmhbdlaa.Rz
open Go.RowKit Go.Proofs.YtjlmndgpmhbdlaaW.PrintWords Go.Proofs.YtjlmndgpmhbdlaaW.PrintLast Go.Proofs.YtjlmndgpmhbdlaaW.PrintMore
attribute [local go_sem] max2_int min2_int max_two min_two max_three min_three max_four min_four
set_option linter.unusedVariables false
set_option linter.unusedSimpArgs false
def spec_l12Write.f (k : Nat) (l0_0 : List (S62)) (l0_1 : List Int) (a1 : Int) (a2 : Int) (a3 : Int) : Option ((List (S93))) := (spec_l3Next.f k l0_0).bind fun t221 => ((spec_l12Room.f k l0_0 l0_1).bind fun bt223 => (if bt223.2.2 = true then ((spec_RecOk.f a1 t221 a2 a3).bind fun t228 => (if t228 = true then (if bt223.1.length < 2199023255552 then (some (bt223.1 ++ [(⟨3, 0, 0, bt223.2.1, (⟨a1, t221, a2, a3⟩ : S32)⟩ : S93)])) else (none)) else (some (([] : List (S93)))))) else (some (([] : List (S93))))))
theorem spec_l12Write.mono : ∀ a0 a1 a2 a3 a4 k, LeO (spec_l12Write.f k a0 a1 a2 a3 a4) (spec_l12Write.f (k + 1) a0 a1 a2 a3 a4) := by
 intro a0 a1 a2 a3 a4 k
 unfold spec_l12Write.f
 with_reducible repeat' first | exact spec_l12Room.mono _ _ _ | exact spec_l3Next.mono _ _ | exact LeO.refl _ | exact LeO.none _ | refine LeO.ite ?_ ?_ | refine LeO.bind ?_ (fun _ => ?_)
set_option maxHeartbeats 8000000 in
set_option maxRecDepth 100000 in
theorem spec_l12Write.calls (k : Nat) (A0_0 : Option Addr) (c0_0 : Nat) (l0_0 : List (S62)) (A0_1 : Option Addr) (c0_1 : Nat) (l0_1 : List Int) (a1 : Int) (a2 : Int) (a3 : Int) (r : List (S93)) (w : World) (hr0_0 : Kd.C k62 w A0_0 l0_0.length l0_0) (hc0_0 : l0_0.length ≤ c0_0) (hr0_1 : Kd.C (Kd.int .i64) w A0_1 l0_1.length l0_1) (hc0_1 : l0_1.length ≤ c0_1) (h : spec_l12Write.f k l0_0 l0_1 a1 a2 a3 = some r) :
 Calls Try.prog 52 #[.agg #[.slice A0_0 l0_0.length c0_0, .slice A0_1 l0_1.length c0_1], .int .i64 a1, .int .i64 a2, .int .i64 a3] w fun e w' => ∃ v0_ : Value, e = .returned (v0_) ∧ Kd.R k93 93 w' w.heap.size (fun _ => True) v0_ r ∧ Below w.heap.size w w' := by
 have hu26 := Try.underlying26
 have hu32 := Try.underlying32
 have hu93 := Try.underlying93
 have HR0_0 := am hr0_0
 have HC0_0 := am hc0_0
 clear hr0_0 hc0_0
 have HR0_1 := am hr0_1
 have HC0_1 := am hc0_1
 clear hr0_1 hc0_1
 have HB := am (Below.refl w.heap.size w)
 have H : ((spec_l3Next.f k l0_0).bind fun t221 => ((spec_l12Room.f k l0_0 l0_1).bind fun bt223 => (if bt223.2.2 = true then ((spec_RecOk.f a1 t221 a2 a3).bind fun t228 => (if t228 = true then (if bt223.1.length < 2199023255552 then (some (bt223.1 ++ [(⟨3, 0, 0, bt223.2.1, (⟨a1, t221, a2, a3⟩ : S32)⟩ : S93)])) else (none)) else (some (([] : List (S93)))))) else (some (([] : List (S93))))))) = some r := h
 clear h
 replace H := Option.bind_eq_some_iff.mp H
 obtain ⟨t221, A50, H⟩ := H
 have A5 := am A50
 clear A50
 replace H := Option.bind_eq_some_iff.mp H
 obtain ⟨⟨t223, t226, t227⟩, A60, H⟩ := H
 have A6 := am A60
 clear A60
 by_cases c7 : t227 = true
 rotate_left
 · replace c7 := Bool.eq_false_iff.mpr c7
   subst c7
   rw [if_neg (show ¬ (false = true) by decide)] at H
   obtain ⟨y235, hy235⟩ : ∃ y_ : List (S93), y_ = (([] : List (S93))) := ⟨_, rfl⟩
   replace H : (some y235) = some r := by first | (rw [hy235]; with_reducible exact H) | (have H2_ := (Option.bind_some _ _).symm.trans H; rw [hy235]; with_reducible exact H2_) | (have H2_ := (Option.bind_some _ _).symm.trans H; with_reducible exact H2_) | with_reducible exact H | (rw [hy235]; exact H) | exact H
   have Ny235 := am hy235
   clear hy235
   obtain rfl := Option.some.inj H
   go_enter Try.func52, Try.ntmps52
   go_wp2_with (first | (refine bx 4 #[.slice A0_0 l0_0.length c0_0, .slice A0_1 l0_1.length c0_1] 26 rfl ?_; intro gb220 hg w35 hbox hb; have BK220 := am (hbox); have GW220 := am (ge hg (ph HB.out)); have GE220 := GW220; replace HB := am (below_step (ph HB.out) hb); clear hb hbox hg; obtain ⟨hcz36_0, hcz36_1⟩ := b2 BK220.out; obtain ⟨hfz36_0, hfz36_1⟩ := f2 BK220.out) | (refine gl 16 Try.func57 #[.slice A0_0 l0_0.length c0_0] rfl ?_; (with_reducible refine (spec_l3Next.calls k _ _ l0_0 t221 _ ?side1 ?side2 A5.out).mono ?_); (case side1 => exact pc (Kd.C_below HR0_0.out HB.out)); (case side2 => exact HC0_0.out); rintro e w37 ⟨rfl, hb⟩; refine ⟨_, rfl, ?_⟩; replace BK220 := am (blk_below (pb BK220.out) hb); replace HB := am (below_step (bg1 HB.out GE220.out) hb); (try clear hb); (try clear hb2); (try clear hk); (try clear hi)) | (refine bx 9 #[.int .i64 0, .int .i64 0, .int .i64 0, .int .i64 0] 32 rfl ?_; intro gb222 hg w38 hbox hb; have BK222 := am (hbox); have GW222 := am (ge hg (bg1 HB.out GE220.out)); have GE222 := GW222; replace HB := am (below_step (bg1 HB.out GE220.out) hb); have NB220_222 := am (nb hg (pb BK220.out)); have NB222_220 := am (Ne.symm NB220_222.out); replace BK220 := am (blk_below (pb BK220.out) hb); clear hb hbox hg; have hnb39 := NB222_220.out; have hnc39 := NB220_222.out; obtain ⟨hcz40_0, hcz40_1, hcz40_2, hcz40_3⟩ := b4 BK222.out; obtain ⟨hfz40_0, hfz40_1, hfz40_2, hfz40_3⟩ := f4 BK222.out; obtain ⟨hcz41_0, hcz41_1⟩ := b2 BK220.out; obtain ⟨hfz41_0, hfz41_1⟩ := f2 BK220.out) | (refine gl 22 Try.func58 #[.agg #[.slice A0_0 l0_0.length c0_0, .slice A0_1 l0_1.length c0_1]] rfl ?_; (with_reducible refine (spec_l12Room.calls k _ _ l0_0 _ _ l0_1 t223 t226 false _ ?side1 ?side2 ?side3 ?side4 A6.out).mono ?_); (case side1 => exact Kd.C_below HR0_0.out (bg2 HB.out GE220.out GE222.out)); (case side2 => exact HC0_0.out); (case side3 => exact Kd.C_below HR0_1.out (bg2 HB.out GE220.out GE222.out)); (case side4 => exact HC0_1.out); rintro e w42 ⟨v224, rfl, ho0, hb⟩; refine ⟨_, rfl, ?_⟩; have HO225 := am (Kd.R_lower ho0 (below_size (bg2 HB.out GE220.out GE222.out))); replace BK220 := am (blk_below (bf4 (pb BK220.out) NB220_222.out) hb); replace BK222 := am (blk_below (bp4 (pb BK222.out)) hb); replace HB := am (below_step (bg2 HB.out GE220.out GE222.out) hb); (try clear hb); (try clear hb2); (try clear hk); (try clear hi); (try clear ho0)) | ((with_reducible refine gate_dst (N := 33) rfl ?_); refine Kd.R_lit k93 _ 93 ?hg (N := 33) ?hd (xs := ([] : List (S93))) (inner := []) (ok := fun _ => True) (okp := fun _ => True) ?hr ?hp (fun _ hk => hk) trivial (Below.refl _ _) (Nat.le_refl _) (by simp) ?_; (case hd => rfl); (case hg => rfl); (case hr => first | (go_simp; done) | (go_simp; rfl)); (case hp => exact (Reps.none _ _)); intro v236 w43 ho44 hb hg_ hnew_; clear hg_ hnew_; (first | rw [← Ny235.out] at ho44 | (simp only [Int.reduceToNat] at ho44; rw [← Ny235.out] at ho44)); have HO237 := am (Kd.R_lower (Kd.R_new' ho44 (Kd.R_lt (pr HO225.out))) (below_size (bg2 HB.out GE220.out GE222.out))); replace HO225 := am (Kd.R_elder' (pr HO225.out) (Kd.R_base ho44) hb); replace BK220 := am (blk_below (pb BK220.out) hb); replace BK222 := am (blk_below (pb BK222.out) hb); replace HB := am (below_step (bg2 HB.out GE220.out GE222.out) hb); clear hb ho44))
   go_ret
   exact ⟨_, rq ⟨by (with_reducible repeat (first | apply Kd.R_alloc | apply Kd.R_drewN | apply Kd.R_drew)); exact Kd.R_mono HO237.out (fun _ hk => trivial), bg2 HB.out GE220.out GE222.out⟩⟩
 subst c7
 rw [if_pos rfl] at H
 replace H := Option.bind_eq_some_iff.mp H
 obtain ⟨t228, A80, H⟩ := H
 have A8 := am A80
 clear A80
 by_cases c9 : t228 = true
 rotate_left
 · replace c9 := Bool.eq_false_iff.mpr c9
   subst c9
   rw [if_neg (show ¬ (false = true) by decide)] at H
   obtain ⟨y232, hy232⟩ : ∃ y_ : List (S93), y_ = (([] : List (S93))) := ⟨_, rfl⟩
   replace H : (some y232) = some r := by first | (rw [hy232]; with_reducible exact H) | (have H2_ := (Option.bind_some _ _).symm.trans H; rw [hy232]; with_reducible exact H2_) | (have H2_ := (Option.bind_some _ _).symm.trans H; with_reducible exact H2_) | with_reducible exact H | (rw [hy232]; exact H) | exact H
   have Ny232 := am hy232
   clear hy232
   obtain rfl := Option.some.inj H
   go_enter Try.func52, Try.ntmps52
   go_wp2_with (first | (refine bx 4 #[.slice A0_0 l0_0.length c0_0, .slice A0_1 l0_1.length c0_1] 26 rfl ?_; intro gb220 hg w23 hbox hb; have BK220 := am (hbox); have GW220 := am (ge hg (ph HB.out)); have GE220 := GW220; replace HB := am (below_step (ph HB.out) hb); clear hb hbox hg; obtain ⟨hcz24_0, hcz24_1⟩ := b2 BK220.out; obtain ⟨hfz24_0, hfz24_1⟩ := f2 BK220.out) | (refine gl 16 Try.func57 #[.slice A0_0 l0_0.length c0_0] rfl ?_; (with_reducible refine (spec_l3Next.calls k _ _ l0_0 t221 _ ?side1 ?side2 A5.out).mono ?_); (case side1 => exact pc (Kd.C_below HR0_0.out HB.out)); (case side2 => exact HC0_0.out); rintro e w25 ⟨rfl, hb⟩; refine ⟨_, rfl, ?_⟩; replace BK220 := am (blk_below (pb BK220.out) hb); replace HB := am (below_step (bg1 HB.out GE220.out) hb); (try clear hb); (try clear hb2); (try clear hk); (try clear hi)) | (refine bx 9 #[.int .i64 0, .int .i64 0, .int .i64 0, .int .i64 0] 32 rfl ?_; intro gb222 hg w26 hbox hb; have BK222 := am (hbox); have GW222 := am (ge hg (bg1 HB.out GE220.out)); have GE222 := GW222; replace HB := am (below_step (bg1 HB.out GE220.out) hb); have NB220_222 := am (nb hg (pb BK220.out)); have NB222_220 := am (Ne.symm NB220_222.out); replace BK220 := am (blk_below (pb BK220.out) hb); clear hb hbox hg; have hnb27 := NB222_220.out; have hnc27 := NB220_222.out; obtain ⟨hcz28_0, hcz28_1, hcz28_2, hcz28_3⟩ := b4 BK222.out; obtain ⟨hfz28_0, hfz28_1, hfz28_2, hfz28_3⟩ := f4 BK222.out; obtain ⟨hcz29_0, hcz29_1⟩ := b2 BK220.out; obtain ⟨hfz29_0, hfz29_1⟩ := f2 BK220.out) | (refine gl 22 Try.func58 #[.agg #[.slice A0_0 l0_0.length c0_0, .slice A0_1 l0_1.length c0_1]] rfl ?_; (with_reducible refine (spec_l12Room.calls k _ _ l0_0 _ _ l0_1 t223 t226 true _ ?side1 ?side2 ?side3 ?side4 A6.out).mono ?_); (case side1 => exact Kd.C_below HR0_0.out (bg2 HB.out GE220.out GE222.out)); (case side2 => exact HC0_0.out); (case side3 => exact Kd.C_below HR0_1.out (bg2 HB.out GE220.out GE222.out)); (case side4 => exact HC0_1.out); rintro e w30 ⟨v224, rfl, ho0, hb⟩; refine ⟨_, rfl, ?_⟩; have HO225 := am (Kd.R_lower ho0 (below_size (bg2 HB.out GE220.out GE222.out))); replace BK220 := am (blk_below (bf4 (pb BK220.out) NB220_222.out) hb); replace BK222 := am (blk_below (bp4 (pb BK222.out)) hb); replace HB := am (below_step (bg2 HB.out GE220.out GE222.out) hb); (try clear hb); (try clear hb2); (try clear hk); (try clear hi); (try clear ho0); obtain ⟨hcz31_0, hcz31_1, hcz31_2, hcz31_3⟩ := b4 BK222.out; obtain ⟨hfz31_0, hfz31_1, hfz31_2, hfz31_3⟩ := f4 BK222.out) | (go_at_call 48; (with_reducible refine (spec_RecOk.calls a1 t221 a2 a3 false _ A8.out).mono ?_); rintro e w32 ⟨rfl, hb⟩; replace HO225 := am (Kd.R_below (pr HO225.out) hb); replace BK220 := am (blk_below (pb BK220.out) hb); replace BK222 := am (blk_below (pb BK222.out) hb); replace HB := am (below_step (bg2 HB.out GE220.out GE222.out) hb); (try clear hb); (try clear hb2); (try clear hk); (try clear hi)) | ((with_reducible refine gate_dst (N := 33) rfl ?_); refine Kd.R_lit k93 _ 93 ?hg (N := 33) ?hd (xs := ([] : List (S93))) (inner := []) (ok := fun _ => True) (okp := fun _ => True) ?hr ?hp (fun _ hk => hk) trivial (Below.refl _ _) (Nat.le_refl _) (by simp) ?_; (case hd => rfl); (case hg => rfl); (case hr => first | (go_simp; done) | (go_simp; rfl)); (case hp => exact (Reps.none _ _)); intro v233 w33 ho34 hb hg_ hnew_; clear hg_ hnew_; (first | rw [← Ny232.out] at ho34 | (simp only [Int.reduceToNat] at ho34; rw [← Ny232.out] at ho34)); have HO234 := am (Kd.R_lower (Kd.R_new' ho34 (Kd.R_lt (pr HO225.out))) (below_size (bg2 HB.out GE220.out GE222.out))); replace HO225 := am (Kd.R_elder' (pr HO225.out) (Kd.R_base ho34) hb); replace BK220 := am (blk_below (pb BK220.out) hb); replace BK222 := am (blk_below (pb BK222.out) hb); replace HB := am (below_step (bg2 HB.out GE220.out GE222.out) hb); clear hb ho34))
   go_ret
   exact ⟨_, rq ⟨by (with_reducible repeat (first | apply Kd.R_alloc | apply Kd.R_drewN | apply Kd.R_drew)); exact Kd.R_mono HO234.out (fun _ hk => trivial), bg2 HB.out GE220.out GE222.out⟩⟩
 subst c9
 rw [if_pos rfl] at H
 by_cases c10 : t223.length < 2199023255552
 rotate_left
 · rw [if_neg c10] at H
   exact absurd H (by simp)
 rw [if_pos c10] at H
 have LMc10 := am c10
 clear c10
 obtain ⟨y229, hy229⟩ : ∃ y_ : List (S93), y_ = (t223 ++ [(⟨3, 0, 0, t226, (⟨a1, t221, a2, a3⟩ : S32)⟩ : S93)]) := ⟨_, rfl⟩
 replace H : (some y229) = some r := by first | (rw [hy229]; with_reducible exact H) | (have H2_ := (Option.bind_some _ _).symm.trans H; rw [hy229]; with_reducible exact H2_) | (have H2_ := (Option.bind_some _ _).symm.trans H; with_reducible exact H2_) | with_reducible exact H | (rw [hy229]; exact H) | exact H
 have Ny229 := am hy229
 clear hy229
 obtain rfl := Option.some.inj H
 go_enter Try.func52, Try.ntmps52
 go_wp2_with (first | (refine bx 4 #[.slice A0_0 l0_0.length c0_0, .slice A0_1 l0_1.length c0_1] 26 rfl ?_; intro gb220 hg w11 hbox hb; have BK220 := am (hbox); have GW220 := am (ge hg (ph HB.out)); have GE220 := GW220; replace HB := am (below_step (ph HB.out) hb); clear hb hbox hg; obtain ⟨hcz12_0, hcz12_1⟩ := b2 BK220.out; obtain ⟨hfz12_0, hfz12_1⟩ := f2 BK220.out) | (refine gl 16 Try.func57 #[.slice A0_0 l0_0.length c0_0] rfl ?_; (with_reducible refine (spec_l3Next.calls k _ _ l0_0 t221 _ ?side1 ?side2 A5.out).mono ?_); (case side1 => exact pc (Kd.C_below HR0_0.out HB.out)); (case side2 => exact HC0_0.out); rintro e w13 ⟨rfl, hb⟩; refine ⟨_, rfl, ?_⟩; replace BK220 := am (blk_below (pb BK220.out) hb); replace HB := am (below_step (bg1 HB.out GE220.out) hb); (try clear hb); (try clear hb2); (try clear hk); (try clear hi)) | (refine bx 9 #[.int .i64 0, .int .i64 0, .int .i64 0, .int .i64 0] 32 rfl ?_; intro gb222 hg w14 hbox hb; have BK222 := am (hbox); have GW222 := am (ge hg (bg1 HB.out GE220.out)); have GE222 := GW222; replace HB := am (below_step (bg1 HB.out GE220.out) hb); have NB220_222 := am (nb hg (pb BK220.out)); have NB222_220 := am (Ne.symm NB220_222.out); replace BK220 := am (blk_below (pb BK220.out) hb); clear hb hbox hg; have hnb15 := NB222_220.out; have hnc15 := NB220_222.out; obtain ⟨hcz16_0, hcz16_1, hcz16_2, hcz16_3⟩ := b4 BK222.out; obtain ⟨hfz16_0, hfz16_1, hfz16_2, hfz16_3⟩ := f4 BK222.out; obtain ⟨hcz17_0, hcz17_1⟩ := b2 BK220.out; obtain ⟨hfz17_0, hfz17_1⟩ := f2 BK220.out) | (refine gl 22 Try.func58 #[.agg #[.slice A0_0 l0_0.length c0_0, .slice A0_1 l0_1.length c0_1]] rfl ?_; (with_reducible refine (spec_l12Room.calls k _ _ l0_0 _ _ l0_1 t223 t226 true _ ?side1 ?side2 ?side3 ?side4 A6.out).mono ?_); (case side1 => exact Kd.C_below HR0_0.out (bg2 HB.out GE220.out GE222.out)); (case side2 => exact HC0_0.out); (case side3 => exact Kd.C_below HR0_1.out (bg2 HB.out GE220.out GE222.out)); (case side4 => exact HC0_1.out); rintro e w18 ⟨v224, rfl, ho0, hb⟩; refine ⟨_, rfl, ?_⟩; have HO225 := am (Kd.R_lower ho0 (below_size (bg2 HB.out GE220.out GE222.out))); replace BK220 := am (blk_below (bf4 (pb BK220.out) NB220_222.out) hb); replace BK222 := am (blk_below (bp4 (pb BK222.out)) hb); replace HB := am (below_step (bg2 HB.out GE220.out GE222.out) hb); (try clear hb); (try clear hb2); (try clear hk); (try clear hi); (try clear ho0); obtain ⟨hcz19_0, hcz19_1, hcz19_2, hcz19_3⟩ := b4 BK222.out; obtain ⟨hfz19_0, hfz19_1, hfz19_2, hfz19_3⟩ := f4 BK222.out) | (go_at_call 48; (with_reducible refine (spec_RecOk.calls a1 t221 a2 a3 true _ A8.out).mono ?_); rintro e w20 ⟨rfl, hb⟩; replace HO225 := am (Kd.R_below (pr HO225.out) hb); replace BK220 := am (blk_below (pb BK220.out) hb); replace BK222 := am (blk_below (pb BK222.out) hb); replace HB := am (below_step (bg2 HB.out GE220.out GE222.out) hb); (try clear hb); (try clear hb2); (try clear hk); (try clear hi); obtain ⟨hcz21_0, hcz21_1, hcz21_2, hcz21_3⟩ := b4 BK222.out; obtain ⟨hfz21_0, hfz21_1, hfz21_2, hfz21_3⟩ := f4 BK222.out) | ((with_reducible refine gate_builtin (b := .append) (xs := #[.tmp 34, .tmp 38]) rfl ?_); at_builtin; refine Kd.R_append k93 (w0 := w) w.heap.size rfl (.tmp 34) (.tmp 38) 84 93 (.agg #[(.int .i64 0), (.int .i64 0), (.int .i64 0), (.int .i64 0), (.int .i64 0), (.int .i64 0), (.int .i64 0), (.int .i64 0)]) 64 rfl Try.underlying84 info93 rfl (by decide) (by omega) v224 t223 (⟨3, 0, 0, t226, (⟨a1, t221, a2, a3⟩ : S32)⟩ : S93) [.int .i64 3, .int .i64 0, .int .i64 0, .int .i64 t226, .int .i64 a1, .int .i64 t221, .int .i64 a2, .int .i64 a3] (fun _ => True) (fun _ => False) rfl rfl ?aP (fun _ hk => hk.elim) ?aF ?aO ?aB ?aS ?aL ?_; (case aP => exact k93_mkM _ _ _ (⟨3, 0, 0, t226, (⟨a1, t221, a2, a3⟩ : S32)⟩ : S93)); (case aB => exact (bg2 HB.out GE220.out GE222.out)); (case aF => exact (fun _ _ => trivial)); (case aO => exact (pr HO225.out)); (case aS => exact (below_size (bg2 HB.out GE220.out GE222.out))); (case aL => have := LMc10.out; omega); intro v230 w22 ho hb hg hat; rw [← Ny229.out] at ho; replace BK220 := am (blk_grown (g := gb220) (o := .cells #[.slice A0_0 l0_0.length c0_0, .slice A0_1 l0_1.length c0_1] 26 (0, 0)) (pb BK220.out) hg (Kd.R_ne HO225.out BK220.out (by decide))); replace BK222 := am (blk_grown (g := gb222) (o := .cells #[.int .i64 a1, .int .i64 t221, .int .i64 a2, .int .i64 a3] 32 (0, 0)) (pb BK222.out) hg (Kd.R_ne HO225.out BK222.out (by decide))); replace HB := am (hb); have HO231 := am (ho); clear HO225; clear ho hb hg hat))
 go_ret
 exact ⟨_, rq ⟨pr HO231.out, bg2 HB.out GE220.out GE222.out⟩⟩
def spec_l11Read.f (k : Nat) (l0_0 : List (S62)) (l0_1 : List Int) (a1 : Int) : Option (Int) := (spec_l3Last.f k l0_0 a1).bind fun bt239 => (if bt239.2.2.2.2 = true then (some bt239.2.2.2.1) else (if 0 ≤ (wrap64 (a1 - 1)) then (if (wrap64 (a1 - 1)) < (l0_1.length : Int) then (some (rd l0_1 (wrap64 (a1 - 1)))) else (none)) else (none)))
theorem spec_l11Read.mono : ∀ a0 a1 a2 k, LeO (spec_l11Read.f k a0 a1 a2) (spec_l11Read.f (k + 1) a0 a1 a2) := by
 intro a0 a1 a2 k
 unfold spec_l11Read.f
 with_reducible repeat' first | exact spec_l3Last.mono _ _ _ | exact LeO.refl _ | exact LeO.none _ | refine LeO.ite ?_ ?_ | refine LeO.bind ?_ (fun _ => ?_)
set_option maxHeartbeats 8000000 in
set_option maxRecDepth 100000 in
theorem spec_l11Read.calls (k : Nat) (A0_0 : Option Addr) (c0_0 : Nat) (l0_0 : List (S62)) (A0_1 : Option Addr) (c0_1 : Nat) (l0_1 : List Int) (a1 : Int) (r : Int) (w : World) (hr0_0 : Kd.C k62 w A0_0 l0_0.length l0_0) (hc0_0 : l0_0.length ≤ c0_0) (hr0_1 : Kd.C (Kd.int .i64) w A0_1 l0_1.length l0_1) (hc0_1 : l0_1.length ≤ c0_1) (h : spec_l11Read.f k l0_0 l0_1 a1 = some r) :
 Calls Try.prog 54 #[.agg #[.slice A0_0 l0_0.length c0_0, .slice A0_1 l0_1.length c0_1], .int .i64 a1] w fun e w' => e = .returned (.int .i64 r) ∧ Below w.heap.size w w' := by
 have hu26 := Try.underlying26
 have hu32 := Try.underlying32
 have HR0_0 := am hr0_0
 have HC0_0 := am hc0_0
 clear hr0_0 hc0_0
 have HR0_1 := am hr0_1
 have HC0_1 := am hc0_1
 clear hr0_1 hc0_1
 have HB := am (Below.refl w.heap.size w)
 have H : ((spec_l3Last.f k l0_0 a1).bind fun bt239 => (if bt239.2.2.2.2 = true then (some bt239.2.2.2.1) else (if 0 ≤ (wrap64 (a1 - 1)) then (if (wrap64 (a1 - 1)) < (l0_1.length : Int) then (some (rd l0_1 (wrap64 (a1 - 1)))) else (none)) else (none)))) = some r := h
 clear h
 replace H := Option.bind_eq_some_iff.mp H
 obtain ⟨⟨t239, t240, t241, t242, t243⟩, A30, H⟩ := H
 have A3 := am A30
 clear A30
 by_cases c4 : t243 = true
 · subst c4
   rw [if_pos rfl] at H
   obtain rfl := Option.some.inj H
   go_enter Try.func54, Try.ntmps54
   go_wp2_with (first | (refine bx 2 #[.slice A0_0 l0_0.length c0_0, .slice A0_1 l0_1.length c0_1] 26 rfl ?_; intro gb238 hg w5 hbox hb; have BK238 := am (hbox); have GW238 := am (ge hg (ph HB.out)); have GE238 := GW238; replace HB := am (below_step (ph HB.out) hb); clear hb hbox hg; obtain ⟨hcz6_0, hcz6_1⟩ := b2 BK238.out; obtain ⟨hfz6_0, hfz6_1⟩ := f2 BK238.out) | (refine gl 11 Try.func18 #[.slice A0_0 l0_0.length c0_0, .int .i64 a1] rfl ?_; (with_reducible refine (spec_l3Last.calls k _ _ l0_0 a1 t239 t240 t241 t242 true _ ?side1 ?side2 A3.out).mono ?_); (case side1 => exact pc (Kd.C_below HR0_0.out HB.out)); (case side2 => exact HC0_0.out); rintro e w7 ⟨rfl, hb⟩; refine ⟨_, rfl, ?_⟩; replace BK238 := am (blk_below (pb BK238.out) hb); replace HB := am (below_step (bg1 HB.out GE238.out) hb); (try clear hb); (try clear hb2); (try clear hk); (try clear hi)) | (refine bx 5 #[.int .i64 0, .int .i64 0, .int .i64 0, .int .i64 0] 32 rfl ?_; intro gb244 hg w8 hbox hb; have BK244 := am (hbox); have GW244 := am (ge hg (bg1 HB.out GE238.out)); have GE244 := GW244; replace HB := am (below_step (bg1 HB.out GE238.out) hb); have NB238_244 := am (nb hg (pb BK238.out)); have NB244_238 := am (Ne.symm NB238_244.out); replace BK238 := am (blk_below (pb BK238.out) hb); clear hb hbox hg; have hnb9 := NB244_238.out; have hnc9 := NB238_244.out; obtain ⟨hcz10_0, hcz10_1, hcz10_2, hcz10_3⟩ := b4 BK244.out; obtain ⟨hfz10_0, hfz10_1, hfz10_2, hfz10_3⟩ := f4 BK244.out))
   go_ret
   exact (rq (bg2 HB.out GE238.out GE244.out))
 replace c4 := Bool.eq_false_iff.mpr c4
 subst c4
 rw [if_neg (show ¬ (false = true) by decide)] at H
 obtain ⟨ji11, hji11⟩ : ∃ j_ : Int, (wrap64 (a1 - 1)) = j_ := ⟨_, rfl⟩
 replace H : (if 0 ≤ (ji11) then (if (ji11) < (l0_1.length : Int) then (some (rd l0_1 (ji11))) else (none)) else (none)) = some r := by first | (rw [hji11] at H; exact H) | (simp only [hji11] at H ⊢; exact H)
 (try rw [hji11] at A3)
 have hji11w : (IntKind.i64.wrap (a1 - 1)) = ji11 := (i64_w _).trans hji11
 by_cases c12 : 0 ≤ (ji11)
 rotate_left
 · rw [if_neg c12] at H
   exact absurd H (by simp)
 rw [if_pos c12] at H
 have c12b0 := decide_eq_true c12
 clear c12
 by_cases c13 : (ji11) < (l0_1.length : Int)
 rotate_left
 · rw [if_neg c13] at H
   exact absurd H (by simp)
 rw [if_pos c13] at H
 have c13b0 := decide_eq_true c13
 clear c13
 obtain rfl := Option.some.inj H
 go_enter Try.func54, Try.ntmps54
 go_wp2_with (first | (refine bx 2 #[.slice A0_0 l0_0.length c0_0, .slice A0_1 l0_1.length c0_1] 26 rfl ?_; intro gb238 hg w14 hbox hb; have BK238 := am (hbox); have GW238 := am (ge hg (ph HB.out)); have GE238 := GW238; replace HB := am (below_step (ph HB.out) hb); clear hb hbox hg; obtain ⟨hcz15_0, hcz15_1⟩ := b2 BK238.out; obtain ⟨hfz15_0, hfz15_1⟩ := f2 BK238.out) | (refine gl 11 Try.func18 #[.slice A0_0 l0_0.length c0_0, .int .i64 a1] rfl ?_; (with_reducible refine (spec_l3Last.calls k _ _ l0_0 a1 t239 t240 t241 t242 false _ ?side1 ?side2 A3.out).mono ?_); (case side1 => exact pc (Kd.C_below HR0_0.out HB.out)); (case side2 => exact HC0_0.out); rintro e w16 ⟨rfl, hb⟩; refine ⟨_, rfl, ?_⟩; replace BK238 := am (blk_below (pb BK238.out) hb); replace HB := am (below_step (bg1 HB.out GE238.out) hb); (try clear hb); (try clear hb2); (try clear hk); (try clear hi)) | (refine bx 5 #[.int .i64 0, .int .i64 0, .int .i64 0, .int .i64 0] 32 rfl ?_; intro gb244 hg w17 hbox hb; have BK244 := am (hbox); have GW244 := am (ge hg (bg1 HB.out GE238.out)); have GE244 := GW244; replace HB := am (below_step (bg1 HB.out GE238.out) hb); have NB238_244 := am (nb hg (pb BK238.out)); have NB244_238 := am (Ne.symm NB238_244.out); replace BK238 := am (blk_below (pb BK238.out) hb); clear hb hbox hg; have hnb18 := NB244_238.out; have hnc18 := NB238_244.out; obtain ⟨hcz19_0, hcz19_1, hcz19_2, hcz19_3⟩ := b4 BK244.out; obtain ⟨hfz19_0, hfz19_1, hfz19_2, hfz19_3⟩ := f4 BK244.out; obtain ⟨hcz20_0, hcz20_1⟩ := b2 BK238.out; obtain ⟨hfz20_0, hfz20_1⟩ := f2 BK238.out; have p245 : 0 ≤ ((ji11) : Int) := ofb; have q245 : (ji11) < (l0_1.length : Int) := ofb; obtain ⟨ad245, e245, hx245_0⟩ := Kd.at_int HR0_1.out (ji11) p245 q245; cases e245; have hn245_0 : ad245.block ≠ gb244 := Nat.ne_of_lt (Nat.lt_of_lt_of_le (by have := World.block_lt_of_cell? _ _ hx245_0; first | rwa [add_block] at this | exact this) GW244.out); have hn245_1 : ad245.block ≠ gb244 := Nat.ne_of_lt (Nat.lt_of_lt_of_le (by have := World.block_lt_of_cell? _ _ hx245_0; first | rwa [add_block] at this | exact this) GW244.out); have hn245_2 : ad245.block ≠ gb244 := Nat.ne_of_lt (Nat.lt_of_lt_of_le (by have := World.block_lt_of_cell? _ _ hx245_0; first | rwa [add_block] at this | exact this) GW244.out); have hn245_3 : ad245.block ≠ gb244 := Nat.ne_of_lt (Nat.lt_of_lt_of_le (by have := World.block_lt_of_cell? _ _ hx245_0; first | rwa [add_block] at this | exact this) GW244.out); replace hx245_0 := up HB.out hx245_0; replace hx245_0 := (cell_far (p := ⟨gb244, 0, none⟩) (by first | (rw [add_block]; exact hn245_0) | (show (Addr.add _ _).block ≠ _; rw [add_block]; exact hn245_0) | exact hn245_0) (.int .i64 t239)).trans hx245_0; replace hx245_0 := (cell_far (p := ⟨gb244, 1, none⟩) (by first | (rw [add_block]; exact hn245_1) | (show (Addr.add _ _).block ≠ _; rw [add_block]; exact hn245_1) | exact hn245_1) (.int .i64 t240)).trans hx245_0; replace hx245_0 := (cell_far (p := ⟨gb244, 2, none⟩) (by first | (rw [add_block]; exact hn245_2) | (show (Addr.add _ _).block ≠ _; rw [add_block]; exact hn245_2) | exact hn245_2) (.int .i64 t241)).trans hx245_0; replace hx245_0 := (cell_far (p := ⟨gb244, 3, none⟩) (by first | (rw [add_block]; exact hn245_3) | (show (Addr.add _ _).block ≠ _; rw [add_block]; exact hn245_3) | exact hn245_3) (.int .i64 t242)).trans hx245_0; clear hn245_0; clear hn245_1; clear hn245_2; clear hn245_3; replace p245 := eq_true p245; replace q245 := eq_true q245))
 go_ret
 exact ⟨by first | rfl | (simp [errW_none, errW_some] <;> rfl) | (simp only [← hji11]; first | rfl | (simp [errW_none, errW_some] <;> rfl)) | (simp [*, errW_none, errW_some] <;> rfl), bg2 HB.out GE238.out GE244.out⟩
def spec_l12Flush.j0 : Nat → Int → Bool → List (S62) → List Int → Option ((List (S93)))
 | 0, _, _, _, _ => none
 | k + 1, x1, x15, x247000, x247001 => if x15 = true then (some (([] : List (S93)))) else ((spec_l11Read.f k x247000 x247001 x1).bind fun t252 => ((spec_l12Write.f k x247000 x247001 2 x1 t252).bind fun t253 => (if (t253.length : Int) = 0 then (some t253) else ((some (([(⟨1, x1, t252, 0, (⟨0, 0, 0, 0⟩ : S32)⟩ : S93)] : List (S93)) : List (S93))).bind fun y256 => (if y256.length + t253.length < 2199023255552 then (some (y256 ++ t253)) else (none))))))
def spec_l12Flush.f (k : Nat) (l0_0 : List (S62)) (l0_1 : List Int) (a1 : Int) : Option ((List (S93))) := (spec_l6In.f a1 1 6).bind fun t247 => (if t247 = true then ((spec_l11Dirty.f k l0_0 l0_1 a1).bind fun t248 => (spec_l12Flush.j0 k a1 (!t248) l0_0 l0_1)) else (spec_l12Flush.j0 k a1 true l0_0 l0_1))
theorem spec_l12Flush.mono_l : ∀ k, (∀ y0 y1 y2 y3, LeO (spec_l12Flush.j0 k y0 y1 y2 y3) (spec_l12Flush.j0 (k + 1) y0 y1 y2 y3))
 | 0 => fun _ _ _ _ r h => by simp [spec_l12Flush.j0] at h
 | k + 1 => by
  have ih0 := spec_l12Flush.mono_l k
  · intro y0 y1 y2 y3
    unfold spec_l12Flush.j0
    with_reducible repeat' first | exact ih0 _ _ _ _ | exact spec_l11Dirty.mono _ _ _ _ | exact spec_l11Read.mono _ _ _ _ | exact spec_l12Write.mono _ _ _ _ _ _ | exact LeO.refl _ | exact LeO.none _ | refine LeO.ite ?_ ?_ | refine LeO.bind ?_ (fun _ => ?_)
theorem spec_l12Flush.mono : ∀ a0 a1 a2 k, LeO (spec_l12Flush.f k a0 a1 a2) (spec_l12Flush.f (k + 1) a0 a1 a2) := by
 intro a0 a1 a2 k
 have ih0 := spec_l12Flush.mono_l k
 unfold spec_l12Flush.f
 with_reducible repeat' first | exact ih0 _ _ _ _ | exact spec_l11Dirty.mono _ _ _ _ | exact spec_l11Read.mono _ _ _ _ | exact spec_l12Write.mono _ _ _ _ _ _ | exact LeO.refl _ | exact LeO.none _ | refine LeO.ite ?_ ?_ | refine LeO.bind ?_ (fun _ => ?_)
set_option maxHeartbeats 8000000 in
set_option maxRecDepth 100000 in
theorem spec_l12Flush.calls (k : Nat) (A0_0 : Option Addr) (c0_0 : Nat) (l0_0 : List (S62)) (A0_1 : Option Addr) (c0_1 : Nat) (l0_1 : List Int) (a1 : Int) (r : List (S93)) (w : World) (hr0_0 : Kd.C k62 w A0_0 l0_0.length l0_0) (hc0_0 : l0_0.length ≤ c0_0) (hr0_1 : Kd.C (Kd.int .i64) w A0_1 l0_1.length l0_1) (hc0_1 : l0_1.length ≤ c0_1) (h : spec_l12Flush.f k l0_0 l0_1 a1 = some r) :
 Calls Try.prog 50 #[.agg #[.slice A0_0 l0_0.length c0_0, .slice A0_1 l0_1.length c0_1], .int .i64 a1] w fun e w' => ∃ v0_ : Value, e = .returned (v0_) ∧ Kd.R k93 93 w' w.heap.size (fun _ => True) v0_ r ∧ Below w.heap.size w w' := by
 have hu26 := Try.underlying26
 have hu93 := Try.underlying93
 have HR0_0 := am hr0_0
 have HC0_0 := am hc0_0
 clear hr0_0 hc0_0
 have HR0_1 := am hr0_1
 have HC0_1 := am hc0_1
 clear hr0_1 hc0_1
 have HB := am (Below.refl w.heap.size w)
 have H : ((spec_l6In.f a1 1 6).bind fun t247 => (if t247 = true then ((spec_l11Dirty.f k l0_0 l0_1 a1).bind fun t248 => (spec_l12Flush.j0 k a1 (!t248) l0_0 l0_1)) else (spec_l12Flush.j0 k a1 true l0_0 l0_1))) = some r := h
 clear h
 have HC3 := am H
 clear H
 go_enter Try.func50, Try.ntmps50
 go_upto_region 1 with (first | (refine bx 2 #[.slice A0_0 l0_0.length c0_0, .slice A0_1 l0_1.length c0_1] 26 rfl ?_; intro gb246 hg w4 hbox hb; have BK246 := am (hbox); have GW246 := am (ge hg (ph HB.out)); have GE246 := GW246; replace HB := am (below_step (ph HB.out) hb); clear hb hbox hg))
 (try simp only [Act.put, List.setIfInBounds_toArray, List.set_cons_zero, List.set_cons_succ])
 go_cut [15] (fun v15 wc => ∃ (kq : Nat) (x15_2 : Bool), v15 = .bool x15_2 ∧ Aside0 (spec_l12Flush.j0 kq a1 x15_2 l0_0 l0_1 = some r) ∧ Aside0 (kq ≤ k) ∧ Aside0 (wc.heap[gb246]? = some (.cells #[(.slice A0_0 l0_0.length c0_0), (.slice A0_1 l0_1.length c0_1)] 26 (0, 0))) ∧ Aside0 (Below w.heap.size w wc))
 case first =>
  have H := HC3.out
  clear HC3
  replace H := Option.bind_eq_some_iff.mp H
  obtain ⟨t247, A50, H⟩ := H
  have A5 := am A50
  clear A50
  by_cases c6 : t247 = true
  rotate_left
  · replace c6 := Bool.eq_false_iff.mpr c6
    subst c6
    rw [if_neg (show ¬ (false = true) by decide)] at H
    have H' := am H
    clear H
    go_wp2_with (first | (refine gl 8 Try.func19 #[.int .i64 a1, .int .i64 1, .int .i64 6] rfl ?_; (with_reducible refine (spec_l6In.calls a1 1 6 false _ A5.out).mono ?_); rintro e w' ⟨rfl, ⟨nd, rfl⟩⟩; refine ⟨_, rfl, ?_⟩))
    go_meet
    case rel => exact ⟨_, (true), rf, H', ⟨by first | omega | exact Nat.le_refl _⟩, ⟨pb BK246.out⟩, ⟨bg1 HB.out GE246.out⟩⟩
  subst c6
  rw [if_pos rfl] at H
  replace H := Option.bind_eq_some_iff.mp H
  obtain ⟨t248, A70, H⟩ := H
  have A7 := am A70
  clear A70
  have H' := am H
  clear H
  go_wp2_with (first | (refine gl 8 Try.func19 #[.int .i64 a1, .int .i64 1, .int .i64 6] rfl ?_; (with_reducible refine (spec_l6In.calls a1 1 6 true _ A5.out).mono ?_); rintro e w' ⟨rfl, ⟨nd, rfl⟩⟩; refine ⟨_, rfl, ?_⟩; obtain ⟨hcz8_0, hcz8_1⟩ := b2 BK246.out; obtain ⟨hfz8_0, hfz8_1⟩ := f2 BK246.out) | (go_at_call 16; (with_reducible refine (spec_l11Dirty.calls k _ _ l0_0 _ _ l0_1 a1 t248 _ ?side1 ?side2 ?side3 ?side4 A7.out).mono ?_); (case side1 => repeat (first | exact (Kd.C_below HR0_0.out (bg1 HB.out GE246.out)) | (with_reducible refine Kd.C_alloc ?_ _) | (with_reducible refine Kd.C_drewN ?_ _) | (with_reducible refine Kd.C_drew ?_))); (case side2 => exact HC0_0.out); (case side3 => repeat (first | exact (Kd.C_below HR0_1.out (bg1 HB.out GE246.out)) | (with_reducible refine Kd.C_alloc ?_ _) | (with_reducible refine Kd.C_drewN ?_ _) | (with_reducible refine Kd.C_drew ?_))); (case side4 => exact HC0_1.out); rintro e w9 ⟨rfl, hb⟩; replace BK246 := am (blk_below (pb BK246.out) hb); replace HB := am (below_step (bg1 HB.out GE246.out) hb); (try clear hb); (try clear hb2); (try clear hk); (try clear hi)))
  go_meet
  case rel => exact ⟨_, (!t248), rf, H', ⟨by first | omega | exact Nat.le_refl _⟩, ⟨pb BK246.out⟩, ⟨bg1 HB.out GE246.out⟩⟩
 case rest =>
  clear HC3
  obtain ⟨kq, x15_2, rfl, HA, HJ2, BK246, HB⟩ := hcut
  cases kq with
  | zero => exact absurd HA.out (by simp [spec_l12Flush.j0])
  | succ kj2 =>
   have H := HA.out
   clear HA
   simp only [spec_l12Flush.j0] at H
   by_cases c10 : x15_2 = true
   · subst c10
     rw [if_pos rfl] at H
     obtain ⟨y249, hy249⟩ : ∃ y_ : List (S93), y_ = (([] : List (S93))) := ⟨_, rfl⟩
     replace H : (some y249) = some r := by first | (rw [hy249]; with_reducible exact H) | (have H2_ := (Option.bind_some _ _).symm.trans H; rw [hy249]; with_reducible exact H2_) | (have H2_ := (Option.bind_some _ _).symm.trans H; with_reducible exact H2_) | with_reducible exact H | (rw [hy249]; exact H) | exact H
     have Ny249 := am hy249
     clear hy249
     obtain rfl := Option.some.inj H
     go_wp2_with (first | ((with_reducible refine gate_dst (N := 16) rfl ?_); refine Kd.R_lit k93 _ 93 ?hg (N := 16) ?hd (xs := ([] : List (S93))) (inner := []) (ok := fun _ => True) (okp := fun _ => True) ?hr ?hp (fun _ hk => hk) trivial (Below.refl _ _) (Nat.le_refl _) (by simp) ?_; (case hd => rfl); (case hg => rfl); (case hr => first | (go_simp; done) | (go_simp; rfl)); (case hp => exact (Reps.none _ _)); intro v250 w11 ho12 hb hg_ hnew_; clear hg_ hnew_; (first | rw [← Ny249.out] at ho12 | (simp only [Int.reduceToNat] at ho12; rw [← Ny249.out] at ho12)); have HO251 := am (Kd.R_lower ho12 (below_size (bg1 HB.out GE246.out))); replace BK246 := am (blk_below (pb BK246.out) hb); replace HB := am (below_step (bg1 HB.out GE246.out) hb); clear hb ho12))
     go_ret
     exact ⟨_, rq ⟨pr HO251.out, bg1 HB.out GE246.out⟩⟩
   replace c10 := Bool.eq_false_iff.mpr c10
   subst c10
   rw [if_neg (show ¬ (false = true) by decide)] at H
   replace H := Option.bind_eq_some_iff.mp H
   obtain ⟨t252, A130, H⟩ := H
   have A13 := am A130
   clear A130
   replace H := Option.bind_eq_some_iff.mp H
   obtain ⟨t253, A140, H⟩ := H
   have A14 := am A140
   clear A140
   by_cases c15 : (t253.length : Int) = 0
   · rw [if_pos c15] at H
     have c15b0 : ((t253.length : Int) == 0) = true := beq_iff_eq.mpr c15
     have c15b1 : ((t253.length : Int) != 0) = false := bne_eq_false_iff_eq.mpr c15
     clear c15
     obtain rfl := Option.some.inj H
     obtain ⟨hcz16_0, hcz16_1⟩ := b2 BK246.out
     obtain ⟨hfz16_0, hfz16_1⟩ := f2 BK246.out
     go_wp2_with (first | (refine gl 19 Try.func54 #[.agg #[.slice A0_0 l0_0.length c0_0, .slice A0_1 l0_1.length c0_1], .int .i64 a1] rfl ?_; (with_reducible refine (spec_l11Read.calls kj2 _ _ l0_0 _ _ l0_1 a1 t252 _ ?side1 ?side2 ?side3 ?side4 A13.out).mono ?_); (case side1 => exact pc (Kd.C_below HR0_0.out HB.out)); (case side2 => exact HC0_0.out); (case side3 => exact pc (Kd.C_below HR0_1.out HB.out)); (case side4 => exact HC0_1.out); rintro e w17 ⟨rfl, hb⟩; refine ⟨_, rfl, ?_⟩; replace BK246 := am (blk_below (pb BK246.out) hb); replace HB := am (below_step (bg1 HB.out GE246.out) hb); (try clear hb); (try clear hb2); (try clear hk); (try clear hi); obtain ⟨hcz18_0, hcz18_1⟩ := b2 BK246.out; obtain ⟨hfz18_0, hfz18_1⟩ := f2 BK246.out) | (refine gl 23 Try.func52 #[.agg #[.slice A0_0 l0_0.length c0_0, .slice A0_1 l0_1.length c0_1], .int .i64 2, .int .i64 a1, .int .i64 t252] rfl ?_; (with_reducible refine (spec_l12Write.calls kj2 _ _ l0_0 _ _ l0_1 2 a1 t252 t253 _ ?side1 ?side2 ?side3 ?side4 A14.out).mono ?_); (case side1 => exact pc (Kd.C_below HR0_0.out HB.out)); (case side2 => exact HC0_0.out); (case side3 => exact pc (Kd.C_below HR0_1.out HB.out)); (case side4 => exact HC0_1.out); rintro e w19 ⟨v254, rfl, ho0, hb⟩; refine ⟨_, rfl, ?_⟩; have HO255 := am (Kd.R_lower ho0 (below_size (bg1 HB.out GE246.out))); replace BK246 := am (blk_below (pb BK246.out) hb); replace HB := am (below_step (bg1 HB.out GE246.out) hb); (try clear hb); (try clear hb2); (try clear hk); (try clear hi); (try clear ho0); obtain ⟨Ao20, co20, eo20⟩ := Kd.R_slice HO255.out; subst eo20))
     go_ret
     exact ⟨_, rq ⟨pr HO255.out, bg1 HB.out GE246.out⟩⟩
   rw [if_neg c15] at H
   have c15b0 : ((t253.length : Int) == 0) = false := beq_eq_false_iff_ne.mpr c15
   have c15b1 : ((t253.length : Int) != 0) = true := bne_iff_ne.mpr c15
   have c15b2 : ¬ (t253 = []) := fun h_ => c15 (by rw [h_]; rfl)
   obtain ⟨y256, hy256⟩ : ∃ y_ : List (S93), y_ = (([(⟨1, a1, t252, 0, (⟨0, 0, 0, 0⟩ : S32)⟩ : S93)] : List (S93))) := ⟨_, rfl⟩
   replace H : (if y256.length + t253.length < 2199023255552 then (some (y256 ++ t253)) else (none)) = some r := by first | (rw [hy256]; with_reducible exact H) | (have H2_ := (Option.bind_some _ _).symm.trans H; rw [hy256]; with_reducible exact H2_) | (have H2_ := (Option.bind_some _ _).symm.trans H; with_reducible exact H2_) | with_reducible exact H | (rw [hy256]; exact H) | exact H
   have Ny256 := am hy256
   clear hy256
   by_cases c21 : y256.length + t253.length < 2199023255552
   rotate_left
   · rw [if_neg c21] at H
     exact absurd H (by simp)
   rw [if_pos c21] at H
   have LMc21 := am c21
   clear c21
   obtain ⟨y259, hy259⟩ : ∃ y_ : List (S93), y_ = (y256 ++ t253) := ⟨_, rfl⟩
   replace H : (some y259) = some r := by first | (rw [hy259]; with_reducible exact H) | (have H2_ := (Option.bind_some _ _).symm.trans H; rw [hy259]; with_reducible exact H2_) | (have H2_ := (Option.bind_some _ _).symm.trans H; with_reducible exact H2_) | with_reducible exact H | (rw [hy259]; exact H) | exact H
   have Ny259 := am hy259
   clear hy259
   obtain rfl := Option.some.inj H
   obtain ⟨hcz22_0, hcz22_1⟩ := b2 BK246.out
   obtain ⟨hfz22_0, hfz22_1⟩ := f2 BK246.out
   go_wp2_with (first | (refine gl 19 Try.func54 #[.agg #[.slice A0_0 l0_0.length c0_0, .slice A0_1 l0_1.length c0_1], .int .i64 a1] rfl ?_; (with_reducible refine (spec_l11Read.calls kj2 _ _ l0_0 _ _ l0_1 a1 t252 _ ?side1 ?side2 ?side3 ?side4 A13.out).mono ?_); (case side1 => exact pc (Kd.C_below HR0_0.out HB.out)); (case side2 => exact HC0_0.out); (case side3 => exact pc (Kd.C_below HR0_1.out HB.out)); (case side4 => exact HC0_1.out); rintro e w23 ⟨rfl, hb⟩; refine ⟨_, rfl, ?_⟩; replace BK246 := am (blk_below (pb BK246.out) hb); replace HB := am (below_step (bg1 HB.out GE246.out) hb); (try clear hb); (try clear hb2); (try clear hk); (try clear hi); obtain ⟨hcz24_0, hcz24_1⟩ := b2 BK246.out; obtain ⟨hfz24_0, hfz24_1⟩ := f2 BK246.out) | (refine gl 23 Try.func52 #[.agg #[.slice A0_0 l0_0.length c0_0, .slice A0_1 l0_1.length c0_1], .int .i64 2, .int .i64 a1, .int .i64 t252] rfl ?_; (with_reducible refine (spec_l12Write.calls kj2 _ _ l0_0 _ _ l0_1 2 a1 t252 t253 _ ?side1 ?side2 ?side3 ?side4 A14.out).mono ?_); (case side1 => exact pc (Kd.C_below HR0_0.out HB.out)); (case side2 => exact HC0_0.out); (case side3 => exact pc (Kd.C_below HR0_1.out HB.out)); (case side4 => exact HC0_1.out); rintro e w25 ⟨v254, rfl, ho0, hb⟩; refine ⟨_, rfl, ?_⟩; have HO255 := am (Kd.R_lower ho0 (below_size (bg1 HB.out GE246.out))); replace BK246 := am (blk_below (pb BK246.out) hb); replace HB := am (below_step (bg1 HB.out GE246.out) hb); (try clear hb); (try clear hb2); (try clear hk); (try clear hi); (try clear ho0); obtain ⟨Ao26, co26, eo26⟩ := Kd.R_slice HO255.out; subst eo26) | ((with_reducible refine gate_dst (N := 31) rfl ?_); refine Kd.R_lit k93 _ 93 ?hg (N := 31) ?hd (xs := ([(⟨1, a1, t252, 0, (⟨0, 0, 0, 0⟩ : S32)⟩ : S93)] : List (S93))) (inner := [.int .i64 1, .int .i64 a1, .int .i64 t252, .int .i64 0, .int .i64 0, .int .i64 0, .int .i64 0, .int .i64 0]) (ok := fun _ => True) (okp := fun _ => True) ?hr ?hp (fun _ hk => hk) trivial (Below.refl _ _) (Nat.le_refl _) (by simp) ?_; (case hd => rfl); (case hg => rfl); (case hr => first | (go_simp; done) | (go_simp; rfl)); (case hp => exact (Reps.c8 (show Kd.M k93 _ _ _ (⟨1, a1, t252, 0, (⟨0, 0, 0, 0⟩ : S32)⟩ : S93) [.int .i64 1, .int .i64 a1, .int .i64 t252, .int .i64 0, .int .i64 0, .int .i64 0, .int .i64 0, .int .i64 0] from (k93_mkM _ _ _ (⟨1, a1, t252, 0, (⟨0, 0, 0, 0⟩ : S32)⟩ : S93) )) (Reps.none _ _))); intro v257 w27 ho28 hb hg_ hnew_; clear hg_ hnew_; (first | rw [← Ny256.out] at ho28 | (simp only [Int.reduceToNat] at ho28; rw [← Ny256.out] at ho28)); have HO258 := am (Kd.R_lower (Kd.R_new' ho28 (Kd.R_lt (pr HO255.out))) (below_size (bg1 HB.out GE246.out))); replace HO255 := am (Kd.R_elder' (pr HO255.out) (Kd.R_base ho28) hb); replace BK246 := am (blk_below (pb BK246.out) hb); replace HB := am (below_step (bg1 HB.out GE246.out) hb); clear hb ho28) | ((with_reducible refine gate_builtin (b := .append) (xs := #[.tmp 31, .tmp 32]) rfl ?_); at_builtin; refine Kd.R_append_rows k93 (w0 := w) w.heap.size rfl (.tmp 31) (.tmp 32) 84 93 (.agg #[(.int .i64 0), (.int .i64 0), (.int .i64 0), (.int .i64 0), (.int .i64 0), (.int .i64 0), (.int .i64 0), (.int .i64 0)]) 64 rfl Try.underlying84 info93 rfl (by decide) (by omega) v257 y256 t253 _ _ _ (fun k_ => some k_ ≠ (.slice Ao26 t253.length co26 : Value).ownBlock) (fun _ => False) rfl rfl ?aO ?aR (fun _ _ h => h) (fun _ h => h.elim) ?aF ?aB ?aS ?aL ?_; (case aR => repeat (first | exact (Kd.R_reads' HO255.out).2.2 | (with_reducible refine Kd.C_alloc ?_ _) | (with_reducible refine Kd.C_drewN ?_ _) | (with_reducible refine Kd.C_drew ?_))); (case aB => exact (bg1 HB.out GE246.out)); (case aF => exact (fun k_ hk => Kd.fresh' (Kd.R_lt (pr HO255.out)) k_ hk)); (case aO => exact (by (with_reducible repeat (first | apply Kd.R_alloc | apply Kd.R_drewN | apply Kd.R_drew)); exact Kd.R_mono HO258.out (fun _ hk => hk.2))); (case aS => exact (below_size (bg1 HB.out GE246.out))); (case aL => have := LMc21.out; omega); intro v260 w29 ho hb hg hat; rw [← Ny259.out] at ho; replace BK246 := am (blk_grown (g := gb246) (o := .cells #[.slice A0_0 l0_0.length c0_0, .slice A0_1 l0_1.length c0_1] 26 (0, 0)) (pb BK246.out) hg (Kd.R_ne HO258.out BK246.out (by decide))); replace HO255 := am (Kd.R_after (ok := (fun _ => True)) (pr HO255.out) hg hat); replace HB := am (hb); have HO261 := am (ho); clear HO258; clear ho hb hg hat))
   go_ret
   exact ⟨_, rq ⟨by (with_reducible repeat (first | apply Kd.R_alloc | apply Kd.R_drewN | apply Kd.R_drew)); exact Kd.R_mono HO261.out (fun _ hk => trivial), bg1 HB.out GE246.out⟩⟩
def spec_l21All.l0 : Nat → Int → List (S62) → List Int → Option ((List (S62)) × List Int)
 | 0, _, _, _ => none
 | k + 1, x3, x263000, x263001 => if x3 ≤ 6 then ((spec_l12Flush.f k x263000 x263001 x3).bind fun t264 => ((spec_l12To.f k x263000 x263001 t264 (t264.length : Int) false).bind fun bt267 => (spec_l21All.l0 k (wrap64 (x3 + 1)) bt267.1 bt267.2))) else (some (x263000, x263001))
def spec_l21All.f (k : Nat) (l0_0 : List (S62)) (l0_1 : List Int) : Option ((List (S62)) × List Int) := spec_l21All.l0 k 1 l0_0 l0_1
theorem spec_l21All.mono_l : ∀ k, (∀ y0 y1 y2, LeO (spec_l21All.l0 k y0 y1 y2) (spec_l21All.l0 (k + 1) y0 y1 y2))
 | 0 => fun _ _ _ r h => by simp [spec_l21All.l0] at h
 | k + 1 => by
  have ih0 := spec_l21All.mono_l k
  · intro y0 y1 y2
    unfold spec_l21All.l0
    with_reducible repeat' first | exact ih0 _ _ _ | exact spec_l12Flush.mono _ _ _ _ | exact spec_l12To.mono _ _ _ _ _ _ | exact LeO.refl _ | exact LeO.none _ | refine LeO.ite ?_ ?_ | refine LeO.bind ?_ (fun _ => ?_)
theorem spec_l21All.mono : ∀ a0 a1 k, LeO (spec_l21All.f k a0 a1) (spec_l21All.f (k + 1) a0 a1) := by
 intro a0 a1 k
 have ih0 := spec_l21All.mono_l k
 unfold spec_l21All.f
 with_reducible repeat' first | exact ih0 _ _ _ | exact spec_l12Flush.mono _ _ _ _ | exact spec_l12To.mono _ _ _ _ _ _ | exact LeO.refl _ | exact LeO.none _ | refine LeO.ite ?_ ?_ | refine LeO.bind ?_ (fun _ => ?_)
set_option maxHeartbeats 8000000 in
set_option maxRecDepth 100000 in
theorem spec_l21All.calls (k : Nat) (P0_0_ : Nat → Prop) (u9000_ : Value) (l0_0 : List (S62)) (P0_1_ : Nat → Prop) (u9001_ : Value) (l0_1 : List Int) (r1 : List (S62)) (r2 : List Int) (w0 w : World) (hB : Below w0.heap.size w0 w) (ho0_0 : Kd.S k62 62 w w0.heap.size P0_0_ u9000_ l0_0) (ho0_1 : Kd.R (Kd.int .i64) 3 w w0.heap.size P0_1_ u9001_ l0_1) (h : spec_l21All.f k l0_0 l0_1 = some (r1, r2)) :
 Calls Try.prog 44 #[.agg #[u9000_, u9001_]] w fun e w' => ∃ v0_ v1_ : Value, e = .returned (.agg #[v0_, v1_]) ∧ Kd.S k62 62 w' w0.heap.size (fun k_ => ((P0_0_ k_ ∨ P0_1_ k_) ∨ w.heap.size ≤ k_)) v0_ r1 ∧ Kd.R (Kd.int .i64) 3 w' w0.heap.size (fun k_ => ((P0_0_ k_ ∨ P0_1_ k_) ∨ w.heap.size ≤ k_)) v1_ r2 ∧ Below w0.heap.size w0 w' ∧ Kept w w' (fun k_ => P0_0_ k_ ∨ P0_1_ k_) := by
 have hu26 := Try.underlying26
 have HO0_0 := am (show Kd.S k62 62 w w0.heap.size (fun k_ => ((P0_0_ k_ ∨ P0_1_ k_) ∨ w.heap.size ≤ k_)) u9000_ l0_0 from Kd.S_mono ho0_0 (fun k_ hk => (.inl (.inl hk))))
 have HO0_1 := am (show Kd.R (Kd.int .i64) 3 w w0.heap.size (fun k_ => ((P0_0_ k_ ∨ P0_1_ k_) ∨ w.heap.size ≤ k_)) u9001_ l0_1 from Kd.R_mono ho0_1 (fun k_ hk => (.inl (.inr hk))))
 have HK := am (Kept.refl w (fun k_ => P0_0_ k_ ∨ P0_1_ k_))
 have HW0 := am hB.size
 have HB := am hB
 clear hB
 have H : (spec_l21All.l0 k 1 l0_0 l0_1) = some (r1, r2) := h
 clear h
 have H' := am H
 clear H
 obtain ⟨Ao2, co2, eo2⟩ := Kd.S_slice HO0_0.out
 subst eo2
 obtain ⟨Ao3, co3, eo3⟩ := Kd.R_slice HO0_1.out
 subst eo3
 go_enter Try.func44, Try.ntmps44
 go_wp2_with (first | (refine bx 1 #[.slice Ao2 l0_0.length co2, .slice Ao3 l0_1.length co3] 26 rfl ?_; intro gb262 hg w4 hbox hb; replace HO0_0 := am (Kd.S_below (ps HO0_0.out) hb); replace HO0_1 := am (Kd.R_below (pr HO0_1.out) hb); have BK262 := am (hbox); have GW262 := am (gw hg (pk HK.out)); replace HK := am (Kept.below (pk HK.out) hb); have GE262 := am (ge hg (ph HB.out)); replace HB := am (below_step (ph HB.out) hb); clear hb hbox hg) | (refine bx 2 #[.slice none 0 0, .slice none 0 0] 26 rfl ?_; intro gb263 hg w5 hbox hb; replace HO0_0 := am (Kd.S_below (ps HO0_0.out) hb); replace HO0_1 := am (Kd.R_below (pr HO0_1.out) hb); have BK263 := am (hbox); have GW263 := am (gw hg (kg1 HK.out (.inr GW262.out))); replace HK := am (Kept.below (kg1 HK.out (.inr GW262.out)) hb); have GE263 := am (ge hg (bg1 HB.out GE262.out)); replace HB := am (below_step (bg1 HB.out GE262.out) hb); have NB262_263 := am (nb hg (pb BK262.out)); have NB263_262 := am (Ne.symm NB262_263.out); replace BK262 := am (blk_below (pb BK262.out) hb); clear hb hbox hg))
 go_loopg [3] k (fun kq v3 w' => ∃ (x3_1 : Int) (x263000_1 : List (S62)) (x263001_1 : List Int) (u263000 : Value) (u263001 : Value), v3 = .int .i64 x3_1 ∧ Aside0 (spec_l21All.l0 kq x3_1 x263000_1 x263001_1 = some (r1, r2)) ∧ Aside0 (kq ≤ k) ∧ Aside0 (Kd.S k62 62 w' w0.heap.size (fun k_ => ((P0_0_ k_ ∨ P0_1_ k_) ∨ w.heap.size ≤ k_)) u263000 x263000_1) ∧ Aside0 (Kd.R (Kd.int .i64) 3 w' w0.heap.size (fun k_ => ((P0_0_ k_ ∨ P0_1_ k_) ∨ w.heap.size ≤ k_)) u263001 x263001_1) ∧ Aside0 (w'.heap[gb262]? = some (.cells #[u263000, u263001] 26 (0, 0))) ∧ Aside0 (w'.heap[gb263]? = some (.cells #[(.slice none 0 0), (.slice none 0 0)] 26 (0, 0))) ∧ Aside0 (Kept w w' (fun k_ => P0_0_ k_ ∨ P0_1_ k_)) ∧ Aside0 (Below w0.heap.size w0 w'))
 case atStart => exact ⟨(1), (l0_0), (l0_1), (.slice Ao2 l0_0.length co2), (.slice Ao3 l0_1.length co3), rf, H', ⟨Nat.le_refl _⟩, ⟨ps HO0_0.out⟩, ⟨pr HO0_1.out⟩, ⟨pb BK262.out⟩, ⟨pb BK263.out⟩, ⟨kg2 HK.out (.inr GW262.out) (.inr GW263.out)⟩, ⟨bg2 HB.out GE262.out GE263.out⟩⟩
 case round =>
  clear H'
  obtain ⟨x3_1, x263000_1, x263001_1, u263000, u263001, rfl, HA, HK1, HO_263000, HO_263001, BK262, BK263, HK, HB⟩ := hrel
  cases gk with
  | zero => exact absurd HA.out (by simp [spec_l21All.l0])
  | succ k1 =>
   have H := HA.out
   clear HA
   simp only [spec_l21All.l0] at H
   by_cases c6 : x3_1 ≤ 6
   rotate_left
   · rw [if_neg c6] at H
     have c6b0 := decide_eq_false c6
     clear c6
     simp only [Option.some.injEq, Prod.mk.injEq] at H
     obtain ⟨rfl, rfl⟩ := H
     have hnb21 := NB262_263.out
     have hnc21 := NB263_262.out
     obtain ⟨hcz22_0, hcz22_1⟩ := b2 BK262.out
     obtain ⟨hfz22_0, hfz22_1⟩ := f2 BK262.out
     obtain ⟨Ao23, co23, eo23⟩ := Kd.S_slice HO_263000.out
     subst eo23
     obtain ⟨hcz24_0, hcz24_1⟩ := b2 BK263.out
     obtain ⟨hfz24_0, hfz24_1⟩ := f2 BK263.out
     obtain ⟨Ao25, co25, eo25⟩ := Kd.R_slice HO_263001.out
     subst eo25
     go_wp2
     refine bodyPost_ret (results_cell_row rfl _ _ gb263 26 #[.slice Ao23 x263000_1.length co23, .slice Ao25 x263001_1.length co25] (0, 0) _ rfl (bp2 (pb BK263.out)) Try.underlying26 rfl (by kernel_rfl)) rfl ?_
     exact ⟨_, _, rq ⟨by (with_reducible repeat (first | apply Kd.S_alloc | apply Kd.S_drewN | apply Kd.S_drew)); exact Kd.S_mono (Kd.S_far (p := ⟨gb263, 1, none⟩) (Kd.S_far (p := ⟨gb263, 0, none⟩) (Kd.S_types HO_263000.out BK263.out (by decide)) (fun _ hk => hk.2) (.slice Ao23 x263000_1.length co23)) (fun _ hk => hk.2) (.slice Ao25 x263001_1.length co25)) (fun _ hk => hk.1), by (with_reducible repeat (first | apply Kd.R_alloc | apply Kd.R_drewN | apply Kd.R_drew)); exact Kd.R_mono (Kd.R_far (p := ⟨gb263, 1, none⟩) (Kd.R_far (p := ⟨gb263, 0, none⟩) (Kd.R_types HO_263001.out BK263.out (by decide)) (fun _ hk => hk.2) (.slice Ao23 x263000_1.length co23)) (fun _ hk => hk.2) (.slice Ao25 x263001_1.length co25)) (fun _ hk => hk.1), bg2 HB.out GE262.out GE263.out, kg2 HK.out (.inr GW262.out) (.inr GW263.out)⟩⟩
   rw [if_pos c6] at H
   have c6b0 := decide_eq_true c6
   clear c6
   replace H := Option.bind_eq_some_iff.mp H
   obtain ⟨t264, A70, H⟩ := H
   have A7 := am A70
   clear A70
   replace H := Option.bind_eq_some_iff.mp H
   obtain ⟨⟨t267, t270⟩, A80, H⟩ := H
   have A8 := am A80
   clear A80
   have H' := am H
   clear H
   have hnb9 := NB262_263.out
   have hnc9 := NB263_262.out
   obtain ⟨hcz10_0, hcz10_1⟩ := b2 BK262.out
   obtain ⟨hfz10_0, hfz10_1⟩ := f2 BK262.out
   obtain ⟨Ao11, co11, eo11⟩ := Kd.S_slice HO_263000.out
   subst eo11
   obtain ⟨Ao12, co12, eo12⟩ := Kd.R_slice HO_263001.out
   subst eo12
   go_wp2_with (first | (refine gl 11 Try.func50 #[.agg #[.slice Ao11 x263000_1.length co11, .slice Ao12 x263001_1.length co12], .int .i64 x3_1] rfl ?_; (with_reducible refine (spec_l12Flush.calls k1 _ _ x263000_1 _ _ x263001_1 x3_1 t264 _ ?side1 ?side2 ?side3 ?side4 A7.out).mono ?_); (case side1 => repeat (first | exact (Kd.S_reads' HO_263000.out).2.2 | (with_reducible refine Kd.C_alloc ?_ _) | (with_reducible refine Kd.C_drewN ?_ _) | (with_reducible refine Kd.C_drew ?_))); (case side2 => exact (Kd.S_reads' HO_263000.out).2.1); (case side3 => repeat (first | exact (Kd.R_reads' HO_263001.out).2.2 | (with_reducible refine Kd.C_alloc ?_ _) | (with_reducible refine Kd.C_drewN ?_ _) | (with_reducible refine Kd.C_drew ?_))); (case side4 => exact (Kd.R_reads' HO_263001.out).2.1); rintro e w13 ⟨v265, rfl, ho0, hb⟩; refine ⟨_, rfl, ?_⟩; replace HO_263000 := am (Kd.S_below (ps HO_263000.out) hb); replace HO_263001 := am (Kd.R_below (pr HO_263001.out) hb); have HO266 := am (Kd.R_lower (Kd.R_newM (M := fun k_ => ((P0_0_ k_ ∨ P0_1_ k_) ∨ w.heap.size ≤ k_)) ho0 (kg2 HK.out (.inr GW262.out) (.inr GW263.out)).1 (fun k_ h_ => .inr h_)) (below_size (bg2 HB.out GE262.out GE263.out))); replace BK262 := am (blk_below (pb BK262.out) hb); replace BK263 := am (blk_below (pb BK263.out) hb); replace HK := am (Kept.below (kg2 HK.out (.inr GW262.out) (.inr GW263.out)) hb); replace HB := am (below_step (bg2 HB.out GE262.out GE263.out) hb); (try clear hb); (try clear hb2); (try clear hk); (try clear hi); (try clear ho0); obtain ⟨hcz14_0, hcz14_1⟩ := b2 BK262.out; obtain ⟨hfz14_0, hfz14_1⟩ := f2 BK262.out; obtain ⟨Ao15, co15, eo15⟩ := Kd.R_slice HO266.out; subst eo15; obtain ⟨PXh16, hxa_, hxb_⟩ := Kd.S_hand HO_263000.out; have HXAh16 := am hxa_; have HXBh16 := am hxb_; clear hxa_ hxb_) | (refine gl 16 Try.func45 #[.agg #[.slice Ao11 x263000_1.length co11, .slice Ao12 x263001_1.length co12], .slice Ao15 t264.length co15, .int .i64 (t264.length : Int), .bool false] rfl ?_; (with_reducible refine (spec_l12To.calls k1 PXh16 (.slice Ao11 x263000_1.length co11) x263000_1 (fun k_ => some k_ = (.slice Ao12 x263001_1.length co12 : Value).ownBlock) (.slice Ao12 x263001_1.length co12) x263001_1 _ _ t264 (t264.length : Int) false t267 t270 w0 _ ?side1 ?side2 ?side3 ?side4 ?side5 A8.out).mono ?_); (case side1 => repeat (first | (with_reducible first | exact HB.out | apply below_alloc | apply pw_below_drewN | apply below_drew1 | refine below_set ?_ GE262.out | refine below_set ?_ GE263.out) | exact HB.out)); (case side2 => exact (ps HXAh16.out)); (case side3 => exact Kd.R_tight rfl HO_263001.out); (case side4 => exact Kd.C_kept_own ((Kd.R_apart' (Kd.R_awayP HO266.out (fun k_ h_ => (HXBh16.out k_ h_).2.2.2) (by decide)) (Kd.R_typed HO_263001.out) (by decide))) (fun k_ hk_ hs_ => Or.elim hs_ (fun e_ => (hk_.1.2) e_) (fun e_ => (hk_.2) e_))); (case side5 => exact (Kd.R_reads' HO266.out).2.1); rintro e w17 ⟨v268, v271, rfl, ho0, ho1, hb, hkp⟩; refine ⟨_, rfl, ?_⟩; replace BK262 := am (blk_kept (pb BK262.out) hkp (fun hs_ => Or.elim hs_ (fun e_ => (fun e_ => Kd.blk_awayP (fun k_ h_ => (HXBh16.out k_ h_).2.2.2) BK262.out (by decide) e_) e_) (fun e_ => (fun e_ => (Kd.R_ne HO_263001.out BK262.out (by decide)) e_) e_))); replace BK263 := am (blk_kept (pb BK263.out) hkp (fun hs_ => Or.elim hs_ (fun e_ => (fun e_ => Kd.blk_awayP (fun k_ h_ => (HXBh16.out k_ h_).2.2.2) BK263.out (by decide) e_) e_) (fun e_ => (fun e_ => (Kd.R_ne HO_263001.out BK263.out (by decide)) e_) e_))); replace HO266 := am (Kd.R_mono (ok' := fun k_ => ((P0_0_ k_ ∨ P0_1_ k_) ∨ w.heap.size ≤ k_)) (Kd.R_keptB ((Kd.R_apart' (Kd.R_awayP HO266.out (fun k_ h_ => (HXBh16.out k_ h_).2.2.2) (by decide)) (Kd.R_typed HO_263001.out) (by decide))) hkp (fun k_ hk_ hs_ => Or.elim hs_ (fun e_ => (hk_.1.2) e_) (fun e_ => (hk_.2) e_))) (fun k_ hk_ => hk_.1.1.1.1)); have HO269 := am (Kd.S_mono (ok' := fun k_ => ((P0_0_ k_ ∨ P0_1_ k_) ∨ w.heap.size ≤ k_)) ho0 (fun k_ hk_ => Or.elim hk_ (fun hs_ => Or.elim hs_ (fun hs_ => (HXBh16.out k_ hs_).1) (fun hs_ => (HO_263001.out.1 k_ (hs_).symm))) (fun hn_ => (.inr (Nat.le_trans (kg2 HK.out (.inr GW262.out) (.inr GW263.out)).1 hn_))))); have HO272 := am (Kd.R_mono (ok' := fun k_ => ((P0_0_ k_ ∨ P0_1_ k_) ∨ w.heap.size ≤ k_)) ho1 (fun k_ hk_ => Or.elim hk_ (fun hs_ => Or.elim hs_ (fun hs_ => (HXBh16.out k_ hs_).1) (fun hs_ => (HO_263001.out.1 k_ (hs_).symm))) (fun hn_ => (.inr (Nat.le_trans (kg2 HK.out (.inr GW262.out) (.inr GW263.out)).1 hn_))))); replace HK := am (Kept.then_ (S := (fun k_ => P0_0_ k_ ∨ P0_1_ k_)) (kg2 HK.out (.inr GW262.out) (.inr GW263.out)) hkp (fun k_ hs_ => Or.elim hs_ (fun e_ => (fun e_ => (HXBh16.out k_ e_).1) e_) (fun e_ => (fun e_ => (HO_263001.out.1 k_ e_.symm)) e_))); replace HB := am (hb); clear HO_263000; clear HO_263001; (try clear hb); (try clear hkp); (try clear ho0); (try clear ho1); obtain ⟨Ao18, co18, eo18⟩ := Kd.S_slice HO269.out; subst eo18; obtain ⟨hcz19_0, hcz19_1⟩ := b2 BK262.out; obtain ⟨hfz19_0, hfz19_1⟩ := f2 BK262.out; obtain ⟨Ao20, co20, eo20⟩ := Kd.R_slice HO272.out; subst eo20))
   go_roundg k1
   case measure => have := HK1.out; omega
   case rel => exact ⟨(wrap64 (x3_1 + 1)), (t267), (t270), (.slice Ao18 t267.length co18), (.slice Ao20 t270.length co20), rf, H', ⟨by have := HK1.out; omega⟩, ⟨by (with_reducible repeat (first | apply Kd.S_alloc | apply Kd.S_drewN | apply Kd.S_drew)); exact Kd.S_mono (Kd.S_far (p := ⟨gb262, 1, none⟩) (Kd.S_far (p := ⟨gb262, 0, none⟩) (Kd.S_types HO269.out BK262.out (by decide)) (fun _ hk => hk.2) (.slice Ao18 t267.length co18)) (fun _ hk => hk.2) (.slice Ao20 t270.length co20)) (fun _ hk => hk.1)⟩, ⟨by (with_reducible repeat (first | apply Kd.R_alloc | apply Kd.R_drewN | apply Kd.R_drew)); exact Kd.R_mono (Kd.R_far (p := ⟨gb262, 1, none⟩) (Kd.R_far (p := ⟨gb262, 0, none⟩) (Kd.R_types HO272.out BK262.out (by decide)) (fun _ hk => hk.2) (.slice Ao18 t267.length co18)) (fun _ hk => hk.2) (.slice Ao20 t270.length co20)) (fun _ hk => hk.1)⟩, ⟨bp2 (pb BK262.out)⟩, ⟨bf2 (pb BK263.out) NB263_262.out⟩, ⟨kg2 HK.out (.inr GW262.out) (.inr GW263.out)⟩, ⟨bg2 HB.out GE262.out GE263.out⟩⟩
end Go.Proofs.Ytjlmndgpmhbdlaa.Rz
