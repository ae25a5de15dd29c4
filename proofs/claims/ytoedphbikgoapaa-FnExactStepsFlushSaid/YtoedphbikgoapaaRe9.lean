-- printed by wip/pp/pp.py
import Derived.Test.YtoedphbikgoapaaRe0
import Derived.Test.YtoedphbikgoapaaRe4
import Derived.Test.YtoedphbikgoapaaRe7
import Derived.Test.YtoedphbikgoapaaRe8
namespace Go.Proofs.Ytoedphbikgoapaa.Re
open Go.RowKit Go.Proofs.YtoedphbikgoapaaW.PrintWords Go.Proofs.YtoedphbikgoapaaW.PrintLast Go.Proofs.YtoedphbikgoapaaW.PrintMore
attribute [local go_sem] max2_int min2_int max_two min_two max_three min_three max_four min_four
set_option linter.unusedVariables false
set_option linter.unusedSimpArgs false
def spec_l12Write.f (k : Nat) (l0_0 : List (S65)) (l0_1 : List Int) (a1 : Int) (a2 : Int) (a3 : Int) : Option ((List (S85))) := (spec_l3Next.f k l0_0).bind fun t280 => ((spec_l12Room.f k l0_0 l0_1).bind fun bt282 => (if bt282.2.2 = true then ((spec_RecOk.f a1 t280 a2 a3).bind fun t287 => (if t287 = true then (if bt282.1.length < 2199023255552 then (some (bt282.1 ++ [(⟨3, 0, 0, bt282.2.1, (⟨a1, t280, a2, a3⟩ : S30)⟩ : S85)])) else (none)) else (some (([] : List (S85)))))) else (some (([] : List (S85))))))
theorem spec_l12Write.mono : ∀ a0 a1 a2 a3 a4 k, LeO (spec_l12Write.f k a0 a1 a2 a3 a4) (spec_l12Write.f (k + 1) a0 a1 a2 a3 a4) := by
 intro a0 a1 a2 a3 a4 k
 unfold spec_l12Write.f
 repeat' first
  | (with_reducible exact spec_l12Room.mono _ _ _)
  | (with_reducible exact spec_l3Next.mono _ _)
  | (with_reducible exact LeO.refl _)
  | (with_reducible exact LeO.none _)
  | (with_reducible refine LeO.ite ?_ ?_)
  | (with_reducible refine LeO.bind ?_ (fun _ => ?_))
  | exact spec_l12Room.mono _ _ _
  | exact spec_l3Next.mono _ _
  | exact LeO.none _
  | refine LeO.ite ?_ ?_
  | refine LeO.bind ?_ (fun _ => ?_)
set_option maxHeartbeats 8000000 in
set_option maxRecDepth 100000 in
theorem spec_l12Write.calls (k : Nat) (A0_0 : Option Addr) (c0_0 : Nat) (l0_0 : List (S65)) (A0_1 : Option Addr) (c0_1 : Nat) (l0_1 : List Int) (a1 : Int) (a2 : Int) (a3 : Int) (r : List (S85)) (w : World) (hr0_0 : Kd.C k65 w A0_0 l0_0.length l0_0) (hc0_0 : l0_0.length ≤ c0_0) (hr0_1 : Kd.C (Kd.int .i64) w A0_1 l0_1.length l0_1) (hc0_1 : l0_1.length ≤ c0_1) (h : spec_l12Write.f k l0_0 l0_1 a1 a2 a3 = some r) :
 Calls Try.prog 61 #[.agg #[.slice A0_0 l0_0.length c0_0, .slice A0_1 l0_1.length c0_1], .int .i64 a1, .int .i64 a2, .int .i64 a3] w fun e w' => ∃ v0_ : Value, e = .returned (v0_) ∧ Kd.R k85 85 w' w.heap.size (fun _ => True) v0_ r ∧ Below w.heap.size w w' := by
 have hu41 := Try.underlying41
 have hu30 := Try.underlying30
 have hu85 := Try.underlying85
 have HR0_0 := am hr0_0
 have HC0_0 := am hc0_0
 clear hr0_0 hc0_0
 have HR0_1 := am hr0_1
 have HC0_1 := am hc0_1
 clear hr0_1 hc0_1
 have HB := am (Below.refl w.heap.size w)
 have H : ((spec_l3Next.f k l0_0).bind fun t280 => ((spec_l12Room.f k l0_0 l0_1).bind fun bt282 => (if bt282.2.2 = true then ((spec_RecOk.f a1 t280 a2 a3).bind fun t287 => (if t287 = true then (if bt282.1.length < 2199023255552 then (some (bt282.1 ++ [(⟨3, 0, 0, bt282.2.1, (⟨a1, t280, a2, a3⟩ : S30)⟩ : S85)])) else (none)) else (some (([] : List (S85)))))) else (some (([] : List (S85))))))) = some r := h
 clear h
 replace H := Option.bind_eq_some_iff.mp H
 obtain ⟨t280, A50, H⟩ := H
 replace H : ((spec_l12Room.f k l0_0 l0_1).bind fun bt282 => (if bt282.2.2 = true then ((spec_RecOk.f a1 t280 a2 a3).bind fun t287 => (if t287 = true then (if bt282.1.length < 2199023255552 then (some (bt282.1 ++ [(⟨3, 0, 0, bt282.2.1, (⟨a1, t280, a2, a3⟩ : S30)⟩ : S85)])) else (none)) else (some (([] : List (S85)))))) else (some (([] : List (S85)))))) = some r := H
 have A5 := am A50
 clear A50
 replace H := Option.bind_eq_some_iff.mp H
 obtain ⟨⟨t282, t285, t286⟩, A60, H⟩ := H
 replace H : (if t286 = true then ((spec_RecOk.f a1 t280 a2 a3).bind fun t287 => (if t287 = true then (if t282.length < 2199023255552 then (some (t282 ++ [(⟨3, 0, 0, t285, (⟨a1, t280, a2, a3⟩ : S30)⟩ : S85)])) else (none)) else (some (([] : List (S85)))))) else (some (([] : List (S85))))) = some r := H
 have A6 := am A60
 clear A60
 by_cases c7 : t286 = true
 rotate_left
 · replace c7 := Bool.eq_false_iff.mpr c7
   subst c7
   have H1 : (some (([] : List (S85)))) = some r := by rw [if_neg (show ¬ (false = true) by decide)] at H; exact H
   clear H
   have H := H1
   clear H1
   obtain ⟨y294, hy294⟩ : ∃ y_ : List (S85), y_ = (([] : List (S85))) := ⟨_, rfl⟩
   replace H : (some y294) = some r := by first | (rw [hy294]; with_reducible exact H) | (have H2_ := (Option.bind_some _ _).symm.trans H; rw [hy294]; with_reducible exact H2_) | (have H2_ := (Option.bind_some _ _).symm.trans H; with_reducible exact H2_) | with_reducible exact H | (rw [hy294]; exact H) | exact H
   have Ny294 := am hy294
   clear hy294
   obtain rfl := Option.some.inj H
   go_enter Try.func61, Try.ntmps61
   go_wp2_with (first | (refine bx 4 #[.slice A0_0 l0_0.length c0_0, .slice A0_1 l0_1.length c0_1] 41 rfl ?_; intro gb279 hg w35 hbox hb; have BK279 := am (hbox); have GW279 := am ((by rw [hg]; exact (below_size (ph HB.out)) : w.heap.size ≤ gb279)); have GE279 := GW279; replace HB := am (below_step (ph HB.out) hb); clear hb hbox hg; obtain ⟨hcz36_0, hcz36_1⟩ := b2 BK279.out; obtain ⟨hfz36_0, hfz36_1⟩ := f2 BK279.out) | (refine gl 16 Try.func84 #[.slice A0_0 l0_0.length c0_0] rfl ?_; (with_reducible refine (spec_l3Next.calls k _ _ l0_0 t280 _ ?side1 ?side2 A5.out).mono ?_); (case side1 => exact pc (Kd.C_below HR0_0.out HB.out)); (case side2 => exact HC0_0.out); rintro e w37 ⟨rfl, hb⟩; refine ⟨_, rfl, ?_⟩; replace BK279 := am (blk_below (pb BK279.out) hb); replace HB := am (below_step (bg1 HB.out GE279.out) hb); (try clear hb); (try clear hb2); (try clear hk); (try clear hi)) | (refine bx 9 #[.int .i64 0, .int .i64 0, .int .i64 0, .int .i64 0] 30 rfl ?_; intro gb281 hg w38 hbox hb; have BK281 := am (hbox); have GW281 := am ((by rw [hg]; exact (below_size (bg1 HB.out GE279.out)) : w.heap.size ≤ gb281)); have GE281 := GW281; replace HB := am (below_step (bg1 HB.out GE279.out) hb); have NB279_281 := am ((by rw [hg]; exact Nat.ne_of_lt (blk_lt (pb BK279.out)) : gb279 ≠ gb281)); have NB281_279 := am (Ne.symm NB279_281.out); replace BK279 := am (blk_below (pb BK279.out) hb); clear hb hbox hg; have hnb39 := NB281_279.out; have hnc39 := NB279_281.out; obtain ⟨hcz40_0, hcz40_1, hcz40_2, hcz40_3⟩ := b4 BK281.out; obtain ⟨hfz40_0, hfz40_1, hfz40_2, hfz40_3⟩ := f4 BK281.out; obtain ⟨hcz41_0, hcz41_1⟩ := b2 BK279.out; obtain ⟨hfz41_0, hfz41_1⟩ := f2 BK279.out) | (refine gl 22 Try.func85 #[.agg #[.slice A0_0 l0_0.length c0_0, .slice A0_1 l0_1.length c0_1]] rfl ?_; (with_reducible refine (spec_l12Room.calls k _ _ l0_0 _ _ l0_1 t282 t285 false _ ?side1 ?side2 ?side3 ?side4 A6.out).mono ?_); (case side1 => exact Kd.C_below HR0_0.out (bg2 HB.out GE279.out GE281.out)); (case side2 => exact HC0_0.out); (case side3 => exact Kd.C_below HR0_1.out (bg2 HB.out GE279.out GE281.out)); (case side4 => exact HC0_1.out); rintro e w42 ⟨v283, rfl, ho0, hb⟩; refine ⟨_, rfl, ?_⟩; have HO284 := am (Kd.R_lower ho0 (below_size (bg2 HB.out GE279.out GE281.out))); replace BK279 := am (blk_below (g := gb279) (o := .cells #[.slice A0_0 l0_0.length c0_0, .slice A0_1 l0_1.length c0_1] 41 (0, 0)) (by (with_reducible repeat (first | refine blk_drewN ?_ _ | refine blk_drew ?_ | refine blk_alloc ?_ _)); refine blk_far ?_ NB279_281.out _; (with_reducible repeat (first | refine blk_drewN ?_ _ | refine blk_drew ?_ | refine blk_alloc ?_ _)); refine blk_far ?_ NB279_281.out _; (with_reducible repeat (first | refine blk_drewN ?_ _ | refine blk_drew ?_ | refine blk_alloc ?_ _)); refine blk_far ?_ NB279_281.out _; (with_reducible repeat (first | refine blk_drewN ?_ _ | refine blk_drew ?_ | refine blk_alloc ?_ _)); refine blk_far ?_ NB279_281.out _; (with_reducible repeat (first | refine blk_drewN ?_ _ | refine blk_drew ?_ | refine blk_alloc ?_ _)); exact BK279.out) hb); replace BK281 := am (blk_below (g := gb281) (o := .cells #[.int .i64 a1, .int .i64 t280, .int .i64 a2, .int .i64 a3] 30 (0, 0)) (by (with_reducible repeat (first | refine blk_drewN ?_ _ | refine blk_drew ?_ | refine blk_alloc ?_ _)); refine blk_put (cs := #[.int .i64 a1, .int .i64 t280, .int .i64 a2, .int .i64 0]) ?_ 3 _ rfl; (with_reducible repeat (first | refine blk_drewN ?_ _ | refine blk_drew ?_ | refine blk_alloc ?_ _)); refine blk_put (cs := #[.int .i64 a1, .int .i64 t280, .int .i64 0, .int .i64 0]) ?_ 2 _ rfl; (with_reducible repeat (first | refine blk_drewN ?_ _ | refine blk_drew ?_ | refine blk_alloc ?_ _)); refine blk_put (cs := #[.int .i64 a1, .int .i64 0, .int .i64 0, .int .i64 0]) ?_ 1 _ rfl; (with_reducible repeat (first | refine blk_drewN ?_ _ | refine blk_drew ?_ | refine blk_alloc ?_ _)); refine blk_put (cs := #[.int .i64 0, .int .i64 0, .int .i64 0, .int .i64 0]) ?_ 0 _ rfl; (with_reducible repeat (first | refine blk_drewN ?_ _ | refine blk_drew ?_ | refine blk_alloc ?_ _)); exact BK281.out) hb); replace HB := am (below_step (bg2 HB.out GE279.out GE281.out) hb); (try clear hb); (try clear hb2); (try clear hk); (try clear hi); (try clear ho0)) | ((with_reducible refine gate_dst (N := 33) rfl ?_); refine Kd.R_lit k85 _ 85 ?hg (N := 33) ?hd (xs := ([] : List (S85))) (inner := []) (ok := fun _ => True) (okp := fun _ => True) ?hr ?hp (fun _ hk => hk) trivial (Below.refl _ _) (Nat.le_refl _) (by simp) ?_; (case hd => rfl); (case hg => rfl); (case hr => first | (go_simp; done) | (go_simp; rfl)); (case hp => exact (Reps.none _ _)); intro v295 w43 ho44 hb hg_ hnew_; clear hg_ hnew_; (first | rw [← Ny294.out] at ho44 | (simp only [Int.reduceToNat] at ho44; rw [← Ny294.out] at ho44)); have HO296 := am (Kd.R_lower (Kd.R_new' ho44 (Kd.R_lt (pr HO284.out))) (below_size (bg2 HB.out GE279.out GE281.out))); replace HO284 := am (Kd.R_elder' (pr HO284.out) (Kd.R_base ho44) hb); replace BK279 := am (blk_below (pb BK279.out) hb); replace BK281 := am (blk_below (pb BK281.out) hb); replace HB := am (below_step (bg2 HB.out GE279.out GE281.out) hb); clear hb ho44))
   go_ret
   exact ⟨_, rq ⟨by (with_reducible repeat (first | apply Kd.R_alloc | apply Kd.R_drewN | apply Kd.R_drew)); exact Kd.R_mono HO296.out (fun _ hk => trivial), bg2 HB.out GE279.out GE281.out⟩⟩
 subst c7
 have H1 : ((spec_RecOk.f a1 t280 a2 a3).bind fun t287 => (if t287 = true then (if t282.length < 2199023255552 then (some (t282 ++ [(⟨3, 0, 0, t285, (⟨a1, t280, a2, a3⟩ : S30)⟩ : S85)])) else (none)) else (some (([] : List (S85)))))) = some r := by rw [if_pos rfl] at H; exact H
 clear H
 have H := H1
 clear H1
 replace H := Option.bind_eq_some_iff.mp H
 obtain ⟨t287, A80, H⟩ := H
 replace H : (if t287 = true then (if t282.length < 2199023255552 then (some (t282 ++ [(⟨3, 0, 0, t285, (⟨a1, t280, a2, a3⟩ : S30)⟩ : S85)])) else (none)) else (some (([] : List (S85))))) = some r := H
 have A8 := am A80
 clear A80
 by_cases c9 : t287 = true
 rotate_left
 · replace c9 := Bool.eq_false_iff.mpr c9
   subst c9
   have H1 : (some (([] : List (S85)))) = some r := by rw [if_neg (show ¬ (false = true) by decide)] at H; exact H
   clear H
   have H := H1
   clear H1
   obtain ⟨y291, hy291⟩ : ∃ y_ : List (S85), y_ = (([] : List (S85))) := ⟨_, rfl⟩
   replace H : (some y291) = some r := by first | (rw [hy291]; with_reducible exact H) | (have H2_ := (Option.bind_some _ _).symm.trans H; rw [hy291]; with_reducible exact H2_) | (have H2_ := (Option.bind_some _ _).symm.trans H; with_reducible exact H2_) | with_reducible exact H | (rw [hy291]; exact H) | exact H
   have Ny291 := am hy291
   clear hy291
   obtain rfl := Option.some.inj H
   go_enter Try.func61, Try.ntmps61
   go_wp2_with (first | (refine bx 4 #[.slice A0_0 l0_0.length c0_0, .slice A0_1 l0_1.length c0_1] 41 rfl ?_; intro gb279 hg w23 hbox hb; have BK279 := am (hbox); have GW279 := am ((by rw [hg]; exact (below_size (ph HB.out)) : w.heap.size ≤ gb279)); have GE279 := GW279; replace HB := am (below_step (ph HB.out) hb); clear hb hbox hg; obtain ⟨hcz24_0, hcz24_1⟩ := b2 BK279.out; obtain ⟨hfz24_0, hfz24_1⟩ := f2 BK279.out) | (refine gl 16 Try.func84 #[.slice A0_0 l0_0.length c0_0] rfl ?_; (with_reducible refine (spec_l3Next.calls k _ _ l0_0 t280 _ ?side1 ?side2 A5.out).mono ?_); (case side1 => exact pc (Kd.C_below HR0_0.out HB.out)); (case side2 => exact HC0_0.out); rintro e w25 ⟨rfl, hb⟩; refine ⟨_, rfl, ?_⟩; replace BK279 := am (blk_below (pb BK279.out) hb); replace HB := am (below_step (bg1 HB.out GE279.out) hb); (try clear hb); (try clear hb2); (try clear hk); (try clear hi)) | (refine bx 9 #[.int .i64 0, .int .i64 0, .int .i64 0, .int .i64 0] 30 rfl ?_; intro gb281 hg w26 hbox hb; have BK281 := am (hbox); have GW281 := am ((by rw [hg]; exact (below_size (bg1 HB.out GE279.out)) : w.heap.size ≤ gb281)); have GE281 := GW281; replace HB := am (below_step (bg1 HB.out GE279.out) hb); have NB279_281 := am ((by rw [hg]; exact Nat.ne_of_lt (blk_lt (pb BK279.out)) : gb279 ≠ gb281)); have NB281_279 := am (Ne.symm NB279_281.out); replace BK279 := am (blk_below (pb BK279.out) hb); clear hb hbox hg; have hnb27 := NB281_279.out; have hnc27 := NB279_281.out; obtain ⟨hcz28_0, hcz28_1, hcz28_2, hcz28_3⟩ := b4 BK281.out; obtain ⟨hfz28_0, hfz28_1, hfz28_2, hfz28_3⟩ := f4 BK281.out; obtain ⟨hcz29_0, hcz29_1⟩ := b2 BK279.out; obtain ⟨hfz29_0, hfz29_1⟩ := f2 BK279.out) | (refine gl 22 Try.func85 #[.agg #[.slice A0_0 l0_0.length c0_0, .slice A0_1 l0_1.length c0_1]] rfl ?_; (with_reducible refine (spec_l12Room.calls k _ _ l0_0 _ _ l0_1 t282 t285 true _ ?side1 ?side2 ?side3 ?side4 A6.out).mono ?_); (case side1 => exact Kd.C_below HR0_0.out (bg2 HB.out GE279.out GE281.out)); (case side2 => exact HC0_0.out); (case side3 => exact Kd.C_below HR0_1.out (bg2 HB.out GE279.out GE281.out)); (case side4 => exact HC0_1.out); rintro e w30 ⟨v283, rfl, ho0, hb⟩; refine ⟨_, rfl, ?_⟩; have HO284 := am (Kd.R_lower ho0 (below_size (bg2 HB.out GE279.out GE281.out))); replace BK279 := am (blk_below (g := gb279) (o := .cells #[.slice A0_0 l0_0.length c0_0, .slice A0_1 l0_1.length c0_1] 41 (0, 0)) (by (with_reducible repeat (first | refine blk_drewN ?_ _ | refine blk_drew ?_ | refine blk_alloc ?_ _)); refine blk_far ?_ NB279_281.out _; (with_reducible repeat (first | refine blk_drewN ?_ _ | refine blk_drew ?_ | refine blk_alloc ?_ _)); refine blk_far ?_ NB279_281.out _; (with_reducible repeat (first | refine blk_drewN ?_ _ | refine blk_drew ?_ | refine blk_alloc ?_ _)); refine blk_far ?_ NB279_281.out _; (with_reducible repeat (first | refine blk_drewN ?_ _ | refine blk_drew ?_ | refine blk_alloc ?_ _)); refine blk_far ?_ NB279_281.out _; (with_reducible repeat (first | refine blk_drewN ?_ _ | refine blk_drew ?_ | refine blk_alloc ?_ _)); exact BK279.out) hb); replace BK281 := am (blk_below (g := gb281) (o := .cells #[.int .i64 a1, .int .i64 t280, .int .i64 a2, .int .i64 a3] 30 (0, 0)) (by (with_reducible repeat (first | refine blk_drewN ?_ _ | refine blk_drew ?_ | refine blk_alloc ?_ _)); refine blk_put (cs := #[.int .i64 a1, .int .i64 t280, .int .i64 a2, .int .i64 0]) ?_ 3 _ rfl; (with_reducible repeat (first | refine blk_drewN ?_ _ | refine blk_drew ?_ | refine blk_alloc ?_ _)); refine blk_put (cs := #[.int .i64 a1, .int .i64 t280, .int .i64 0, .int .i64 0]) ?_ 2 _ rfl; (with_reducible repeat (first | refine blk_drewN ?_ _ | refine blk_drew ?_ | refine blk_alloc ?_ _)); refine blk_put (cs := #[.int .i64 a1, .int .i64 0, .int .i64 0, .int .i64 0]) ?_ 1 _ rfl; (with_reducible repeat (first | refine blk_drewN ?_ _ | refine blk_drew ?_ | refine blk_alloc ?_ _)); refine blk_put (cs := #[.int .i64 0, .int .i64 0, .int .i64 0, .int .i64 0]) ?_ 0 _ rfl; (with_reducible repeat (first | refine blk_drewN ?_ _ | refine blk_drew ?_ | refine blk_alloc ?_ _)); exact BK281.out) hb); replace HB := am (below_step (bg2 HB.out GE279.out GE281.out) hb); (try clear hb); (try clear hb2); (try clear hk); (try clear hi); (try clear ho0); obtain ⟨hcz31_0, hcz31_1, hcz31_2, hcz31_3⟩ := b4 BK281.out; obtain ⟨hfz31_0, hfz31_1, hfz31_2, hfz31_3⟩ := f4 BK281.out) | (go_at_call 40; (with_reducible refine (spec_RecOk.calls a1 t280 a2 a3 false _ A8.out).mono ?_); rintro e w32 ⟨rfl, hb⟩; replace HO284 := am (Kd.R_below (pr HO284.out) hb); replace BK279 := am (blk_below (pb BK279.out) hb); replace BK281 := am (blk_below (pb BK281.out) hb); replace HB := am (below_step (bg2 HB.out GE279.out GE281.out) hb); (try clear hb); (try clear hb2); (try clear hk); (try clear hi)) | ((with_reducible refine gate_dst (N := 33) rfl ?_); refine Kd.R_lit k85 _ 85 ?hg (N := 33) ?hd (xs := ([] : List (S85))) (inner := []) (ok := fun _ => True) (okp := fun _ => True) ?hr ?hp (fun _ hk => hk) trivial (Below.refl _ _) (Nat.le_refl _) (by simp) ?_; (case hd => rfl); (case hg => rfl); (case hr => first | (go_simp; done) | (go_simp; rfl)); (case hp => exact (Reps.none _ _)); intro v292 w33 ho34 hb hg_ hnew_; clear hg_ hnew_; (first | rw [← Ny291.out] at ho34 | (simp only [Int.reduceToNat] at ho34; rw [← Ny291.out] at ho34)); have HO293 := am (Kd.R_lower (Kd.R_new' ho34 (Kd.R_lt (pr HO284.out))) (below_size (bg2 HB.out GE279.out GE281.out))); replace HO284 := am (Kd.R_elder' (pr HO284.out) (Kd.R_base ho34) hb); replace BK279 := am (blk_below (pb BK279.out) hb); replace BK281 := am (blk_below (pb BK281.out) hb); replace HB := am (below_step (bg2 HB.out GE279.out GE281.out) hb); clear hb ho34))
   go_ret
   exact ⟨_, rq ⟨by (with_reducible repeat (first | apply Kd.R_alloc | apply Kd.R_drewN | apply Kd.R_drew)); exact Kd.R_mono HO293.out (fun _ hk => trivial), bg2 HB.out GE279.out GE281.out⟩⟩
 subst c9
 have H1 : (if t282.length < 2199023255552 then (some (t282 ++ [(⟨3, 0, 0, t285, (⟨a1, t280, a2, a3⟩ : S30)⟩ : S85)])) else (none)) = some r := by rw [if_pos rfl] at H; exact H
 clear H
 have H := H1
 clear H1
 by_cases c10 : t282.length < 2199023255552
 rotate_left
 · rw [if_neg c10] at H
   exact absurd H (by simp)
 rw [if_pos c10] at H
 have LMc10 := am c10
 clear c10
 obtain ⟨y288, hy288⟩ : ∃ y_ : List (S85), y_ = (t282 ++ [(⟨3, 0, 0, t285, (⟨a1, t280, a2, a3⟩ : S30)⟩ : S85)]) := ⟨_, rfl⟩
 replace H : (some y288) = some r := by first | (rw [hy288]; with_reducible exact H) | (have H2_ := (Option.bind_some _ _).symm.trans H; rw [hy288]; with_reducible exact H2_) | (have H2_ := (Option.bind_some _ _).symm.trans H; with_reducible exact H2_) | with_reducible exact H | (rw [hy288]; exact H) | exact H
 have Ny288 := am hy288
 clear hy288
 obtain rfl := Option.some.inj H
 go_enter Try.func61, Try.ntmps61
 go_wp2_with (first | (refine bx 4 #[.slice A0_0 l0_0.length c0_0, .slice A0_1 l0_1.length c0_1] 41 rfl ?_; intro gb279 hg w11 hbox hb; have BK279 := am (hbox); have GW279 := am ((by rw [hg]; exact (below_size (ph HB.out)) : w.heap.size ≤ gb279)); have GE279 := GW279; replace HB := am (below_step (ph HB.out) hb); clear hb hbox hg; obtain ⟨hcz12_0, hcz12_1⟩ := b2 BK279.out; obtain ⟨hfz12_0, hfz12_1⟩ := f2 BK279.out) | (refine gl 16 Try.func84 #[.slice A0_0 l0_0.length c0_0] rfl ?_; (with_reducible refine (spec_l3Next.calls k _ _ l0_0 t280 _ ?side1 ?side2 A5.out).mono ?_); (case side1 => exact pc (Kd.C_below HR0_0.out HB.out)); (case side2 => exact HC0_0.out); rintro e w13 ⟨rfl, hb⟩; refine ⟨_, rfl, ?_⟩; replace BK279 := am (blk_below (pb BK279.out) hb); replace HB := am (below_step (bg1 HB.out GE279.out) hb); (try clear hb); (try clear hb2); (try clear hk); (try clear hi)) | (refine bx 9 #[.int .i64 0, .int .i64 0, .int .i64 0, .int .i64 0] 30 rfl ?_; intro gb281 hg w14 hbox hb; have BK281 := am (hbox); have GW281 := am ((by rw [hg]; exact (below_size (bg1 HB.out GE279.out)) : w.heap.size ≤ gb281)); have GE281 := GW281; replace HB := am (below_step (bg1 HB.out GE279.out) hb); have NB279_281 := am ((by rw [hg]; exact Nat.ne_of_lt (blk_lt (pb BK279.out)) : gb279 ≠ gb281)); have NB281_279 := am (Ne.symm NB279_281.out); replace BK279 := am (blk_below (pb BK279.out) hb); clear hb hbox hg; have hnb15 := NB281_279.out; have hnc15 := NB279_281.out; obtain ⟨hcz16_0, hcz16_1, hcz16_2, hcz16_3⟩ := b4 BK281.out; obtain ⟨hfz16_0, hfz16_1, hfz16_2, hfz16_3⟩ := f4 BK281.out; obtain ⟨hcz17_0, hcz17_1⟩ := b2 BK279.out; obtain ⟨hfz17_0, hfz17_1⟩ := f2 BK279.out) | (refine gl 22 Try.func85 #[.agg #[.slice A0_0 l0_0.length c0_0, .slice A0_1 l0_1.length c0_1]] rfl ?_; (with_reducible refine (spec_l12Room.calls k _ _ l0_0 _ _ l0_1 t282 t285 true _ ?side1 ?side2 ?side3 ?side4 A6.out).mono ?_); (case side1 => exact Kd.C_below HR0_0.out (bg2 HB.out GE279.out GE281.out)); (case side2 => exact HC0_0.out); (case side3 => exact Kd.C_below HR0_1.out (bg2 HB.out GE279.out GE281.out)); (case side4 => exact HC0_1.out); rintro e w18 ⟨v283, rfl, ho0, hb⟩; refine ⟨_, rfl, ?_⟩; have HO284 := am (Kd.R_lower ho0 (below_size (bg2 HB.out GE279.out GE281.out))); replace BK279 := am (blk_below (g := gb279) (o := .cells #[.slice A0_0 l0_0.length c0_0, .slice A0_1 l0_1.length c0_1] 41 (0, 0)) (by (with_reducible repeat (first | refine blk_drewN ?_ _ | refine blk_drew ?_ | refine blk_alloc ?_ _)); refine blk_far ?_ NB279_281.out _; (with_reducible repeat (first | refine blk_drewN ?_ _ | refine blk_drew ?_ | refine blk_alloc ?_ _)); refine blk_far ?_ NB279_281.out _; (with_reducible repeat (first | refine blk_drewN ?_ _ | refine blk_drew ?_ | refine blk_alloc ?_ _)); refine blk_far ?_ NB279_281.out _; (with_reducible repeat (first | refine blk_drewN ?_ _ | refine blk_drew ?_ | refine blk_alloc ?_ _)); refine blk_far ?_ NB279_281.out _; (with_reducible repeat (first | refine blk_drewN ?_ _ | refine blk_drew ?_ | refine blk_alloc ?_ _)); exact BK279.out) hb); replace BK281 := am (blk_below (g := gb281) (o := .cells #[.int .i64 a1, .int .i64 t280, .int .i64 a2, .int .i64 a3] 30 (0, 0)) (by (with_reducible repeat (first | refine blk_drewN ?_ _ | refine blk_drew ?_ | refine blk_alloc ?_ _)); refine blk_put (cs := #[.int .i64 a1, .int .i64 t280, .int .i64 a2, .int .i64 0]) ?_ 3 _ rfl; (with_reducible repeat (first | refine blk_drewN ?_ _ | refine blk_drew ?_ | refine blk_alloc ?_ _)); refine blk_put (cs := #[.int .i64 a1, .int .i64 t280, .int .i64 0, .int .i64 0]) ?_ 2 _ rfl; (with_reducible repeat (first | refine blk_drewN ?_ _ | refine blk_drew ?_ | refine blk_alloc ?_ _)); refine blk_put (cs := #[.int .i64 a1, .int .i64 0, .int .i64 0, .int .i64 0]) ?_ 1 _ rfl; (with_reducible repeat (first | refine blk_drewN ?_ _ | refine blk_drew ?_ | refine blk_alloc ?_ _)); refine blk_put (cs := #[.int .i64 0, .int .i64 0, .int .i64 0, .int .i64 0]) ?_ 0 _ rfl; (with_reducible repeat (first | refine blk_drewN ?_ _ | refine blk_drew ?_ | refine blk_alloc ?_ _)); exact BK281.out) hb); replace HB := am (below_step (bg2 HB.out GE279.out GE281.out) hb); (try clear hb); (try clear hb2); (try clear hk); (try clear hi); (try clear ho0); obtain ⟨hcz19_0, hcz19_1, hcz19_2, hcz19_3⟩ := b4 BK281.out; obtain ⟨hfz19_0, hfz19_1, hfz19_2, hfz19_3⟩ := f4 BK281.out) | (go_at_call 40; (with_reducible refine (spec_RecOk.calls a1 t280 a2 a3 true _ A8.out).mono ?_); rintro e w20 ⟨rfl, hb⟩; replace HO284 := am (Kd.R_below (pr HO284.out) hb); replace BK279 := am (blk_below (pb BK279.out) hb); replace BK281 := am (blk_below (pb BK281.out) hb); replace HB := am (below_step (bg2 HB.out GE279.out GE281.out) hb); (try clear hb); (try clear hb2); (try clear hk); (try clear hi); obtain ⟨hcz21_0, hcz21_1, hcz21_2, hcz21_3⟩ := b4 BK281.out; obtain ⟨hfz21_0, hfz21_1, hfz21_2, hfz21_3⟩ := f4 BK281.out) | ((with_reducible refine gate_builtin (b := .append) (xs := #[.tmp 34, .tmp 38]) rfl ?_); at_builtin; refine Kd.R_append k85 (w0 := w) w.heap.size rfl (.tmp 34) (.tmp 38) 48 85 (.agg #[(.int .i64 0), (.int .i64 0), (.int .i64 0), (.int .i64 0), (.int .i64 0), (.int .i64 0), (.int .i64 0), (.int .i64 0)]) 64 rfl Try.underlying48 info85 rfl (by decide) (by omega) v283 t282 (⟨3, 0, 0, t285, (⟨a1, t280, a2, a3⟩ : S30)⟩ : S85) [.int .i64 3, .int .i64 0, .int .i64 0, .int .i64 t285, .int .i64 a1, .int .i64 t280, .int .i64 a2, .int .i64 a3] (fun _ => True) (fun _ => False) rfl rfl ?aP (fun _ hk => hk.elim) ?aF ?aO ?aB ?aS ?aL ?_; (case aP => exact k85_mkM _ _ _ (⟨3, 0, 0, t285, (⟨a1, t280, a2, a3⟩ : S30)⟩ : S85)); (case aB => exact (bg2 HB.out GE279.out GE281.out)); (case aF => exact (fun _ _ => trivial)); (case aO => exact (pr HO284.out)); (case aS => exact (below_size (bg2 HB.out GE279.out GE281.out))); (case aL => have := LMc10.out; omega); intro v289 w22 ho hb hg hat; rw [← Ny288.out] at ho; replace BK279 := am (blk_grown (g := gb279) (o := .cells #[.slice A0_0 l0_0.length c0_0, .slice A0_1 l0_1.length c0_1] 41 (0, 0)) (pb BK279.out) hg (Kd.R_ne HO284.out BK279.out (by decide))); replace BK281 := am (blk_grown (g := gb281) (o := .cells #[.int .i64 a1, .int .i64 t280, .int .i64 a2, .int .i64 a3] 30 (0, 0)) (pb BK281.out) hg (Kd.R_ne HO284.out BK281.out (by decide))); replace HB := am (hb); have HO290 := am (ho); clear HO284; clear ho hb hg hat))
 go_ret
 exact ⟨_, rq ⟨pr HO290.out, bg2 HB.out GE279.out GE281.out⟩⟩
def spec_l12Flush.j0 : Nat → Int → Bool → List (S65) → List Int → Option ((List (S85)))
 | 0, _, _, _, _ => none
 | k + 1, x1, x15, x298000, x298001 => if x15 = true then (some (([] : List (S85)))) else ((spec_l11Read.f k x298000 x298001 x1).bind fun t303 => ((spec_l12Write.f k x298000 x298001 2 x1 t303).bind fun t304 => (if (t304.length : Int) = 0 then (some t304) else ((some (([(⟨1, x1, t303, 0, (⟨0, 0, 0, 0⟩ : S30)⟩ : S85)] : List (S85)) : List (S85))).bind fun y307 => (if y307.length + t304.length < 2199023255552 then (some (y307 ++ t304)) else (none))))))
def spec_l12Flush.f (k : Nat) (l0_0 : List (S65)) (l0_1 : List Int) (a1 : Int) : Option ((List (S85))) := (spec_l6In.f a1 1 6).bind fun t298 => (if t298 = true then ((spec_l11Dirty.f k l0_0 l0_1 a1).bind fun t299 => (spec_l12Flush.j0 k a1 (!t299) l0_0 l0_1)) else (spec_l12Flush.j0 k a1 true l0_0 l0_1))
theorem spec_l12Flush.mono_l : ∀ k, (∀ y0 y1 y2 y3, LeO (spec_l12Flush.j0 k y0 y1 y2 y3) (spec_l12Flush.j0 (k + 1) y0 y1 y2 y3))
 | 0 => fun _ _ _ _ r h => by simp [spec_l12Flush.j0] at h
 | k + 1 => by
  have ih0 := spec_l12Flush.mono_l k
  · intro y0 y1 y2 y3
    unfold spec_l12Flush.j0
    repeat' first
    | (with_reducible exact ih0 _ _ _ _)
    | (with_reducible exact spec_l11Dirty.mono _ _ _ _)
    | (with_reducible exact spec_l11Read.mono _ _ _ _)
    | (with_reducible exact spec_l12Write.mono _ _ _ _ _ _)
    | (with_reducible exact LeO.refl _)
    | (with_reducible exact LeO.none _)
    | (with_reducible refine LeO.ite ?_ ?_)
    | (with_reducible refine LeO.bind ?_ (fun _ => ?_))
    | exact ih0 _ _ _ _
    | exact spec_l11Dirty.mono _ _ _ _
    | exact spec_l11Read.mono _ _ _ _
    | exact spec_l12Write.mono _ _ _ _ _ _
    | exact LeO.none _
    | refine LeO.ite ?_ ?_
    | refine LeO.bind ?_ (fun _ => ?_)
theorem spec_l12Flush.mono : ∀ a0 a1 a2 k, LeO (spec_l12Flush.f k a0 a1 a2) (spec_l12Flush.f (k + 1) a0 a1 a2) := by
 intro a0 a1 a2 k
 have ih0 := spec_l12Flush.mono_l k
 unfold spec_l12Flush.f
 repeat' first
  | (with_reducible exact ih0 _ _ _ _)
  | (with_reducible exact spec_l11Dirty.mono _ _ _ _)
  | (with_reducible exact spec_l11Read.mono _ _ _ _)
  | (with_reducible exact spec_l12Write.mono _ _ _ _ _ _)
  | (with_reducible exact LeO.refl _)
  | (with_reducible exact LeO.none _)
  | (with_reducible refine LeO.ite ?_ ?_)
  | (with_reducible refine LeO.bind ?_ (fun _ => ?_))
  | exact ih0 _ _ _ _
  | exact spec_l11Dirty.mono _ _ _ _
  | exact spec_l11Read.mono _ _ _ _
  | exact spec_l12Write.mono _ _ _ _ _ _
  | exact LeO.none _
  | refine LeO.ite ?_ ?_
  | refine LeO.bind ?_ (fun _ => ?_)
set_option maxHeartbeats 8000000 in
set_option maxRecDepth 100000 in
theorem spec_l12Flush.calls (k : Nat) (A0_0 : Option Addr) (c0_0 : Nat) (l0_0 : List (S65)) (A0_1 : Option Addr) (c0_1 : Nat) (l0_1 : List Int) (a1 : Int) (r : List (S85)) (w : World) (hr0_0 : Kd.C k65 w A0_0 l0_0.length l0_0) (hc0_0 : l0_0.length ≤ c0_0) (hr0_1 : Kd.C (Kd.int .i64) w A0_1 l0_1.length l0_1) (hc0_1 : l0_1.length ≤ c0_1) (h : spec_l12Flush.f k l0_0 l0_1 a1 = some r) :
 Calls Try.prog 67 #[.agg #[.slice A0_0 l0_0.length c0_0, .slice A0_1 l0_1.length c0_1], .int .i64 a1] w fun e w' => ∃ v0_ : Value, e = .returned (v0_) ∧ Kd.R k85 85 w' w.heap.size (fun _ => True) v0_ r ∧ Below w.heap.size w w' := by
 have hu41 := Try.underlying41
 have hu85 := Try.underlying85
 have HR0_0 := am hr0_0
 have HC0_0 := am hc0_0
 clear hr0_0 hc0_0
 have HR0_1 := am hr0_1
 have HC0_1 := am hc0_1
 clear hr0_1 hc0_1
 have HB := am (Below.refl w.heap.size w)
 have H : ((spec_l6In.f a1 1 6).bind fun t298 => (if t298 = true then ((spec_l11Dirty.f k l0_0 l0_1 a1).bind fun t299 => (spec_l12Flush.j0 k a1 (!t299) l0_0 l0_1)) else (spec_l12Flush.j0 k a1 true l0_0 l0_1))) = some r := h
 clear h
 have HC3 := am H
 clear H
 go_enter Try.func67, Try.ntmps67
 go_upto_region 1 with (first | (refine bx 2 #[.slice A0_0 l0_0.length c0_0, .slice A0_1 l0_1.length c0_1] 41 rfl ?_; intro gb297 hg w4 hbox hb; have BK297 := am (hbox); have GW297 := am ((by rw [hg]; exact (below_size (ph HB.out)) : w.heap.size ≤ gb297)); have GE297 := GW297; replace HB := am (below_step (ph HB.out) hb); clear hb hbox hg))
 (try simp only [Act.put, List.setIfInBounds_toArray, List.set_cons_zero, List.set_cons_succ])
 go_cut [15] (fun v15 wc => ∃ (kq : Nat) (x15_2 : Bool), v15 = .bool x15_2 ∧ Aside0 (spec_l12Flush.j0 kq a1 x15_2 l0_0 l0_1 = some r) ∧ Aside0 (kq ≤ k) ∧ Aside0 (wc.heap[gb297]? = some (.cells #[(.slice A0_0 l0_0.length c0_0), (.slice A0_1 l0_1.length c0_1)] 41 (0, 0))) ∧ Aside0 (Below w.heap.size w wc))
 case first =>
  have H := HC3.out
  clear HC3
  replace H := Option.bind_eq_some_iff.mp H
  obtain ⟨t298, A50, H⟩ := H
  replace H : (if t298 = true then ((spec_l11Dirty.f k l0_0 l0_1 a1).bind fun t299 => (spec_l12Flush.j0 k a1 (!t299) l0_0 l0_1)) else (spec_l12Flush.j0 k a1 true l0_0 l0_1)) = some r := H
  have A5 := am A50
  clear A50
  by_cases c6 : t298 = true
  rotate_left
  · replace c6 := Bool.eq_false_iff.mpr c6
    subst c6
    have H1 : (spec_l12Flush.j0 k a1 true l0_0 l0_1) = some r := by rw [if_neg (show ¬ (false = true) by decide)] at H; exact H
    clear H
    have H := H1
    clear H1
    have H' := am H
    clear H
    go_wp2_with (first | (refine gl 8 Try.func39 #[.int .i64 a1, .int .i64 1, .int .i64 6] rfl ?_; (with_reducible refine (spec_l6In.calls a1 1 6 false _ A5.out).mono ?_); rintro e w' ⟨rfl, ⟨nd, rfl⟩⟩; refine ⟨_, rfl, ?_⟩))
    go_meet
    case rel => exact ⟨_, (true), rf, H', ⟨by first | omega | exact Nat.le_refl _⟩, ⟨pb BK297.out⟩, ⟨bg1 HB.out GE297.out⟩⟩
  subst c6
  have H1 : ((spec_l11Dirty.f k l0_0 l0_1 a1).bind fun t299 => (spec_l12Flush.j0 k a1 (!t299) l0_0 l0_1)) = some r := by rw [if_pos rfl] at H; exact H
  clear H
  have H := H1
  clear H1
  replace H := Option.bind_eq_some_iff.mp H
  obtain ⟨t299, A70, H⟩ := H
  replace H : (spec_l12Flush.j0 k a1 (!t299) l0_0 l0_1) = some r := H
  have A7 := am A70
  clear A70
  have H' := am H
  clear H
  go_wp2_with (first | (refine gl 8 Try.func39 #[.int .i64 a1, .int .i64 1, .int .i64 6] rfl ?_; (with_reducible refine (spec_l6In.calls a1 1 6 true _ A5.out).mono ?_); rintro e w' ⟨rfl, ⟨nd, rfl⟩⟩; refine ⟨_, rfl, ?_⟩; obtain ⟨hcz8_0, hcz8_1⟩ := b2 BK297.out; obtain ⟨hfz8_0, hfz8_1⟩ := f2 BK297.out) | (go_at_call 55; (with_reducible refine (spec_l11Dirty.calls k _ _ l0_0 _ _ l0_1 a1 t299 _ ?side1 ?side2 ?side3 ?side4 A7.out).mono ?_); (case side1 => repeat (first | exact (Kd.C_below HR0_0.out (bg1 HB.out GE297.out)) | (with_reducible refine Kd.C_alloc ?_ _) | (with_reducible refine Kd.C_drewN ?_ _) | (with_reducible refine Kd.C_drew ?_))); (case side2 => exact HC0_0.out); (case side3 => repeat (first | exact (Kd.C_below HR0_1.out (bg1 HB.out GE297.out)) | (with_reducible refine Kd.C_alloc ?_ _) | (with_reducible refine Kd.C_drewN ?_ _) | (with_reducible refine Kd.C_drew ?_))); (case side4 => exact HC0_1.out); rintro e w9 ⟨rfl, hb⟩; replace BK297 := am (blk_below (pb BK297.out) hb); replace HB := am (below_step (bg1 HB.out GE297.out) hb); (try clear hb); (try clear hb2); (try clear hk); (try clear hi)))
  go_meet
  case rel => exact ⟨_, (!t299), rf, H', ⟨by first | omega | exact Nat.le_refl _⟩, ⟨pb BK297.out⟩, ⟨bg1 HB.out GE297.out⟩⟩
 case rest =>
  clear HC3
  obtain ⟨kq, x15_2, rfl, HA, HJ2, BK297, HB⟩ := hcut
  cases kq with
  | zero => exact absurd HA.out (by simp [spec_l12Flush.j0])
  | succ kj2 =>
   have H := HA.out
   clear HA
   simp only [spec_l12Flush.j0] at H
   by_cases c10 : x15_2 = true
   · subst c10
     have H1 : (some (([] : List (S85)))) = some r := by rw [if_pos rfl] at H; exact H
     clear H
     have H := H1
     clear H1
     obtain ⟨y300, hy300⟩ : ∃ y_ : List (S85), y_ = (([] : List (S85))) := ⟨_, rfl⟩
     replace H : (some y300) = some r := by first | (rw [hy300]; with_reducible exact H) | (have H2_ := (Option.bind_some _ _).symm.trans H; rw [hy300]; with_reducible exact H2_) | (have H2_ := (Option.bind_some _ _).symm.trans H; with_reducible exact H2_) | with_reducible exact H | (rw [hy300]; exact H) | exact H
     have Ny300 := am hy300
     clear hy300
     obtain rfl := Option.some.inj H
     go_wp2_with (first | ((with_reducible refine gate_dst (N := 16) rfl ?_); refine Kd.R_lit k85 _ 85 ?hg (N := 16) ?hd (xs := ([] : List (S85))) (inner := []) (ok := fun _ => True) (okp := fun _ => True) ?hr ?hp (fun _ hk => hk) trivial (Below.refl _ _) (Nat.le_refl _) (by simp) ?_; (case hd => rfl); (case hg => rfl); (case hr => first | (go_simp; done) | (go_simp; rfl)); (case hp => exact (Reps.none _ _)); intro v301 w11 ho12 hb hg_ hnew_; clear hg_ hnew_; (first | rw [← Ny300.out] at ho12 | (simp only [Int.reduceToNat] at ho12; rw [← Ny300.out] at ho12)); have HO302 := am (Kd.R_lower ho12 (below_size (bg1 HB.out GE297.out))); replace BK297 := am (blk_below (pb BK297.out) hb); replace HB := am (below_step (bg1 HB.out GE297.out) hb); clear hb ho12))
     go_ret
     exact ⟨_, rq ⟨pr HO302.out, bg1 HB.out GE297.out⟩⟩
   replace c10 := Bool.eq_false_iff.mpr c10
   subst c10
   have H1 : ((spec_l11Read.f kj2 l0_0 l0_1 a1).bind fun t303 => ((spec_l12Write.f kj2 l0_0 l0_1 2 a1 t303).bind fun t304 => (if (t304.length : Int) = 0 then (some t304) else ((some (([(⟨1, a1, t303, 0, (⟨0, 0, 0, 0⟩ : S30)⟩ : S85)] : List (S85)) : List (S85))).bind fun y307 => (if y307.length + t304.length < 2199023255552 then (some (y307 ++ t304)) else (none)))))) = some r := by rw [if_neg (show ¬ (false = true) by decide)] at H; exact H
   clear H
   have H := H1
   clear H1
   replace H := Option.bind_eq_some_iff.mp H
   obtain ⟨t303, A130, H⟩ := H
   replace H : ((spec_l12Write.f kj2 l0_0 l0_1 2 a1 t303).bind fun t304 => (if (t304.length : Int) = 0 then (some t304) else ((some (([(⟨1, a1, t303, 0, (⟨0, 0, 0, 0⟩ : S30)⟩ : S85)] : List (S85)) : List (S85))).bind fun y307 => (if y307.length + t304.length < 2199023255552 then (some (y307 ++ t304)) else (none))))) = some r := H
   have A13 := am A130
   clear A130
   replace H := Option.bind_eq_some_iff.mp H
   obtain ⟨t304, A140, H⟩ := H
   replace H : (if (t304.length : Int) = 0 then (some t304) else ((some (([(⟨1, a1, t303, 0, (⟨0, 0, 0, 0⟩ : S30)⟩ : S85)] : List (S85)) : List (S85))).bind fun y307 => (if y307.length + t304.length < 2199023255552 then (some (y307 ++ t304)) else (none)))) = some r := H
   have A14 := am A140
   clear A140
   by_cases c15 : (t304.length : Int) = 0
   · rw [if_pos c15] at H
     have c15b0 : ((t304.length : Int) == 0) = true := beq_iff_eq.mpr c15
     have c15b1 : ((t304.length : Int) != 0) = false := bne_eq_false_iff_eq.mpr c15
     clear c15
     obtain rfl := Option.some.inj H
     obtain ⟨hcz16_0, hcz16_1⟩ := b2 BK297.out
     obtain ⟨hfz16_0, hfz16_1⟩ := f2 BK297.out
     go_wp2_with (first | (refine gl 19 Try.func60 #[.agg #[.slice A0_0 l0_0.length c0_0, .slice A0_1 l0_1.length c0_1], .int .i64 a1] rfl ?_; (with_reducible refine (spec_l11Read.calls kj2 _ _ l0_0 _ _ l0_1 a1 t303 _ ?side1 ?side2 ?side3 ?side4 A13.out).mono ?_); (case side1 => exact pc (Kd.C_below HR0_0.out HB.out)); (case side2 => exact HC0_0.out); (case side3 => exact pc (Kd.C_below HR0_1.out HB.out)); (case side4 => exact HC0_1.out); rintro e w17 ⟨rfl, hb⟩; refine ⟨_, rfl, ?_⟩; replace BK297 := am (blk_below (pb BK297.out) hb); replace HB := am (below_step (bg1 HB.out GE297.out) hb); (try clear hb); (try clear hb2); (try clear hk); (try clear hi); obtain ⟨hcz18_0, hcz18_1⟩ := b2 BK297.out; obtain ⟨hfz18_0, hfz18_1⟩ := f2 BK297.out) | (refine gl 23 Try.func61 #[.agg #[.slice A0_0 l0_0.length c0_0, .slice A0_1 l0_1.length c0_1], .int .i64 2, .int .i64 a1, .int .i64 t303] rfl ?_; (with_reducible refine (spec_l12Write.calls kj2 _ _ l0_0 _ _ l0_1 2 a1 t303 t304 _ ?side1 ?side2 ?side3 ?side4 A14.out).mono ?_); (case side1 => exact pc (Kd.C_below HR0_0.out HB.out)); (case side2 => exact HC0_0.out); (case side3 => exact pc (Kd.C_below HR0_1.out HB.out)); (case side4 => exact HC0_1.out); rintro e w19 ⟨v305, rfl, ho0, hb⟩; refine ⟨_, rfl, ?_⟩; have HO306 := am (Kd.R_lower ho0 (below_size (bg1 HB.out GE297.out))); replace BK297 := am (blk_below (pb BK297.out) hb); replace HB := am (below_step (bg1 HB.out GE297.out) hb); (try clear hb); (try clear hb2); (try clear hk); (try clear hi); (try clear ho0); obtain ⟨Ao20, co20, eo20⟩ := Kd.R_slice HO306.out; subst eo20))
     go_ret
     exact ⟨_, rq ⟨pr HO306.out, bg1 HB.out GE297.out⟩⟩
   rw [if_neg c15] at H
   have c15b0 : ((t304.length : Int) == 0) = false := beq_eq_false_iff_ne.mpr c15
   have c15b1 : ((t304.length : Int) != 0) = true := bne_iff_ne.mpr c15
   have c15b2 : ¬ (t304 = []) := fun h_ => c15 (by rw [h_]; rfl)
   obtain ⟨y307, hy307⟩ : ∃ y_ : List (S85), y_ = (([(⟨1, a1, t303, 0, (⟨0, 0, 0, 0⟩ : S30)⟩ : S85)] : List (S85))) := ⟨_, rfl⟩
   replace H : (if y307.length + t304.length < 2199023255552 then (some (y307 ++ t304)) else (none)) = some r := by first | (rw [hy307]; with_reducible exact H) | (have H2_ := (Option.bind_some _ _).symm.trans H; rw [hy307]; with_reducible exact H2_) | (have H2_ := (Option.bind_some _ _).symm.trans H; with_reducible exact H2_) | with_reducible exact H | (rw [hy307]; exact H) | exact H
   have Ny307 := am hy307
   clear hy307
   by_cases c21 : y307.length + t304.length < 2199023255552
   rotate_left
   · rw [if_neg c21] at H
     exact absurd H (by simp)
   rw [if_pos c21] at H
   have LMc21 := am c21
   clear c21
   obtain ⟨y310, hy310⟩ : ∃ y_ : List (S85), y_ = (y307 ++ t304) := ⟨_, rfl⟩
   replace H : (some y310) = some r := by first | (rw [hy310]; with_reducible exact H) | (have H2_ := (Option.bind_some _ _).symm.trans H; rw [hy310]; with_reducible exact H2_) | (have H2_ := (Option.bind_some _ _).symm.trans H; with_reducible exact H2_) | with_reducible exact H | (rw [hy310]; exact H) | exact H
   have Ny310 := am hy310
   clear hy310
   obtain rfl := Option.some.inj H
   obtain ⟨hcz22_0, hcz22_1⟩ := b2 BK297.out
   obtain ⟨hfz22_0, hfz22_1⟩ := f2 BK297.out
   go_wp2_with (first | (refine gl 19 Try.func60 #[.agg #[.slice A0_0 l0_0.length c0_0, .slice A0_1 l0_1.length c0_1], .int .i64 a1] rfl ?_; (with_reducible refine (spec_l11Read.calls kj2 _ _ l0_0 _ _ l0_1 a1 t303 _ ?side1 ?side2 ?side3 ?side4 A13.out).mono ?_); (case side1 => exact pc (Kd.C_below HR0_0.out HB.out)); (case side2 => exact HC0_0.out); (case side3 => exact pc (Kd.C_below HR0_1.out HB.out)); (case side4 => exact HC0_1.out); rintro e w23 ⟨rfl, hb⟩; refine ⟨_, rfl, ?_⟩; replace BK297 := am (blk_below (pb BK297.out) hb); replace HB := am (below_step (bg1 HB.out GE297.out) hb); (try clear hb); (try clear hb2); (try clear hk); (try clear hi); obtain ⟨hcz24_0, hcz24_1⟩ := b2 BK297.out; obtain ⟨hfz24_0, hfz24_1⟩ := f2 BK297.out) | (refine gl 23 Try.func61 #[.agg #[.slice A0_0 l0_0.length c0_0, .slice A0_1 l0_1.length c0_1], .int .i64 2, .int .i64 a1, .int .i64 t303] rfl ?_; (with_reducible refine (spec_l12Write.calls kj2 _ _ l0_0 _ _ l0_1 2 a1 t303 t304 _ ?side1 ?side2 ?side3 ?side4 A14.out).mono ?_); (case side1 => exact pc (Kd.C_below HR0_0.out HB.out)); (case side2 => exact HC0_0.out); (case side3 => exact pc (Kd.C_below HR0_1.out HB.out)); (case side4 => exact HC0_1.out); rintro e w25 ⟨v305, rfl, ho0, hb⟩; refine ⟨_, rfl, ?_⟩; have HO306 := am (Kd.R_lower ho0 (below_size (bg1 HB.out GE297.out))); replace BK297 := am (blk_below (pb BK297.out) hb); replace HB := am (below_step (bg1 HB.out GE297.out) hb); (try clear hb); (try clear hb2); (try clear hk); (try clear hi); (try clear ho0); obtain ⟨Ao26, co26, eo26⟩ := Kd.R_slice HO306.out; subst eo26) | ((with_reducible refine gate_dst (N := 31) rfl ?_); refine Kd.R_lit k85 _ 85 ?hg (N := 31) ?hd (xs := ([(⟨1, a1, t303, 0, (⟨0, 0, 0, 0⟩ : S30)⟩ : S85)] : List (S85))) (inner := [.int .i64 1, .int .i64 a1, .int .i64 t303, .int .i64 0, .int .i64 0, .int .i64 0, .int .i64 0, .int .i64 0]) (ok := fun _ => True) (okp := fun _ => True) ?hr ?hp (fun _ hk => hk) trivial (Below.refl _ _) (Nat.le_refl _) (by simp) ?_; (case hd => rfl); (case hg => rfl); (case hr => first | (go_simp; done) | (go_simp; rfl)); (case hp => exact (Reps.c8 (show Kd.M k85 _ _ _ (⟨1, a1, t303, 0, (⟨0, 0, 0, 0⟩ : S30)⟩ : S85) [.int .i64 1, .int .i64 a1, .int .i64 t303, .int .i64 0, .int .i64 0, .int .i64 0, .int .i64 0, .int .i64 0] from (k85_mkM _ _ _ (⟨1, a1, t303, 0, (⟨0, 0, 0, 0⟩ : S30)⟩ : S85) )) (Reps.none _ _))); intro v308 w27 ho28 hb hg_ hnew_; clear hg_ hnew_; (first | rw [← Ny307.out] at ho28 | (simp only [Int.reduceToNat] at ho28; rw [← Ny307.out] at ho28)); have HO309 := am (Kd.R_lower (Kd.R_new' ho28 (Kd.R_lt (pr HO306.out))) (below_size (bg1 HB.out GE297.out))); replace HO306 := am (Kd.R_elder' (pr HO306.out) (Kd.R_base ho28) hb); replace BK297 := am (blk_below (pb BK297.out) hb); replace HB := am (below_step (bg1 HB.out GE297.out) hb); clear hb ho28) | ((with_reducible refine gate_builtin (b := .append) (xs := #[.tmp 31, .tmp 32]) rfl ?_); at_builtin; refine Kd.R_append_rows k85 (w0 := w) w.heap.size rfl (.tmp 31) (.tmp 32) 48 85 (.agg #[(.int .i64 0), (.int .i64 0), (.int .i64 0), (.int .i64 0), (.int .i64 0), (.int .i64 0), (.int .i64 0), (.int .i64 0)]) 64 rfl Try.underlying48 info85 rfl (by decide) (by omega) v308 y307 t304 _ _ _ (fun k_ => some k_ ≠ (.slice Ao26 t304.length co26 : Value).ownBlock) (fun _ => False) rfl rfl ?aO ?aR (fun _ _ h => h) (fun _ h => h.elim) ?aF ?aB ?aS ?aL ?_; (case aR => repeat (first | exact (Kd.R_reads' HO306.out).2.2 | (with_reducible refine Kd.C_alloc ?_ _) | (with_reducible refine Kd.C_drewN ?_ _) | (with_reducible refine Kd.C_drew ?_))); (case aB => exact (bg1 HB.out GE297.out)); (case aF => exact (fun k_ hk => Kd.fresh' (Kd.R_lt (pr HO306.out)) k_ hk)); (case aO => exact (by (with_reducible repeat (first | apply Kd.R_alloc | apply Kd.R_drewN | apply Kd.R_drew)); exact Kd.R_mono HO309.out (fun _ hk => hk.2))); (case aS => exact (below_size (bg1 HB.out GE297.out))); (case aL => have := LMc21.out; omega); intro v311 w29 ho hb hg hat; rw [← Ny310.out] at ho; replace BK297 := am (blk_grown (g := gb297) (o := .cells #[.slice A0_0 l0_0.length c0_0, .slice A0_1 l0_1.length c0_1] 41 (0, 0)) (pb BK297.out) hg (Kd.R_ne HO309.out BK297.out (by decide))); replace HO306 := am (Kd.R_after (ok := (fun _ => True)) (pr HO306.out) hg hat); replace HB := am (hb); have HO312 := am (ho); clear HO309; clear ho hb hg hat))
   go_ret
   exact ⟨_, rq ⟨by (with_reducible repeat (first | apply Kd.R_alloc | apply Kd.R_drewN | apply Kd.R_drew)); exact Kd.R_mono HO312.out (fun _ hk => trivial), bg1 HB.out GE297.out⟩⟩
def spec_StepsFlush.f (k : Nat) (l0_0 : List (S65)) (l0_1 : List Int) (a1 : Int) : Option ((List (S85))) := (spec_StoreOk.f k l0_0 l0_1).bind fun t314 => (if t314 = true then ((spec_l12Flush.f k l0_0 l0_1 a1).bind fun t315 => (some t315)) else (some (([] : List (S85)))))
theorem spec_StepsFlush.mono : ∀ a0 a1 a2 k, LeO (spec_StepsFlush.f k a0 a1 a2) (spec_StepsFlush.f (k + 1) a0 a1 a2) := by
 intro a0 a1 a2 k
 unfold spec_StepsFlush.f
 repeat' first
  | (with_reducible exact spec_StoreOk.mono _ _ _)
  | (with_reducible exact spec_l12Flush.mono _ _ _ _)
  | (with_reducible exact LeO.refl _)
  | (with_reducible exact LeO.none _)
  | (with_reducible refine LeO.ite ?_ ?_)
  | (with_reducible refine LeO.bind ?_ (fun _ => ?_))
  | exact spec_StoreOk.mono _ _ _
  | exact spec_l12Flush.mono _ _ _ _
  | exact LeO.none _
  | refine LeO.ite ?_ ?_
  | refine LeO.bind ?_ (fun _ => ?_)
set_option maxHeartbeats 8000000 in
set_option maxRecDepth 100000 in
theorem spec_StepsFlush.calls (k : Nat) (A0_0 : Option Addr) (c0_0 : Nat) (l0_0 : List (S65)) (A0_1 : Option Addr) (c0_1 : Nat) (l0_1 : List Int) (a1 : Int) (r : List (S85)) (w : World) (hr0_0 : Kd.C k65 w A0_0 l0_0.length l0_0) (hc0_0 : l0_0.length ≤ c0_0) (hr0_1 : Kd.C (Kd.int .i64) w A0_1 l0_1.length l0_1) (hc0_1 : l0_1.length ≤ c0_1) (h : spec_StepsFlush.f k l0_0 l0_1 a1 = some r) :
 Calls Try.prog 35 #[.agg #[.slice A0_0 l0_0.length c0_0, .slice A0_1 l0_1.length c0_1], .int .i64 a1] w fun e w' => ∃ v0_ : Value, e = .returned (v0_) ∧ Kd.R k85 85 w' w.heap.size (fun _ => True) v0_ r ∧ Below w.heap.size w w' := by
 have hu41 := Try.underlying41
 have HR0_0 := am hr0_0
 have HC0_0 := am hc0_0
 clear hr0_0 hc0_0
 have HR0_1 := am hr0_1
 have HC0_1 := am hc0_1
 clear hr0_1 hc0_1
 have HB := am (Below.refl w.heap.size w)
 have H : ((spec_StoreOk.f k l0_0 l0_1).bind fun t314 => (if t314 = true then ((spec_l12Flush.f k l0_0 l0_1 a1).bind fun t315 => (some t315)) else (some (([] : List (S85)))))) = some r := h
 clear h
 replace H := Option.bind_eq_some_iff.mp H
 obtain ⟨t314, A30, H⟩ := H
 replace H : (if t314 = true then ((spec_l12Flush.f k l0_0 l0_1 a1).bind fun t315 => (some t315)) else (some (([] : List (S85))))) = some r := H
 have A3 := am A30
 clear A30
 by_cases c4 : t314 = true
 rotate_left
 · replace c4 := Bool.eq_false_iff.mpr c4
   subst c4
   have H1 : (some (([] : List (S85)))) = some r := by rw [if_neg (show ¬ (false = true) by decide)] at H; exact H
   clear H
   have H := H1
   clear H1
   obtain ⟨y318, hy318⟩ : ∃ y_ : List (S85), y_ = (([] : List (S85))) := ⟨_, rfl⟩
   replace H : (some y318) = some r := by first | (rw [hy318]; with_reducible exact H) | (have H2_ := (Option.bind_some _ _).symm.trans H; rw [hy318]; with_reducible exact H2_) | (have H2_ := (Option.bind_some _ _).symm.trans H; with_reducible exact H2_) | with_reducible exact H | (rw [hy318]; exact H) | exact H
   have Ny318 := am hy318
   clear hy318
   obtain rfl := Option.some.inj H
   go_enter Try.func35, Try.ntmps35
   go_wp2_with (first | (refine bx 2 #[.slice A0_0 l0_0.length c0_0, .slice A0_1 l0_1.length c0_1] 41 rfl ?_; intro gb313 hg w11 hbox hb; have BK313 := am (hbox); have GW313 := am ((by rw [hg]; exact (below_size (ph HB.out)) : w.heap.size ≤ gb313)); have GE313 := GW313; replace HB := am (below_step (ph HB.out) hb); clear hb hbox hg; obtain ⟨hcz12_0, hcz12_1⟩ := b2 BK313.out; obtain ⟨hfz12_0, hfz12_1⟩ := f2 BK313.out) | (refine gl 6 Try.func54 #[.agg #[.slice A0_0 l0_0.length c0_0, .slice A0_1 l0_1.length c0_1]] rfl ?_; (with_reducible refine (spec_StoreOk.calls k _ _ l0_0 _ _ l0_1 false _ ?side1 ?side2 ?side3 ?side4 A3.out).mono ?_); (case side1 => exact pc (Kd.C_below HR0_0.out HB.out)); (case side2 => exact HC0_0.out); (case side3 => exact pc (Kd.C_below HR0_1.out HB.out)); (case side4 => exact HC0_1.out); rintro e w13 ⟨rfl, hb⟩; refine ⟨_, rfl, ?_⟩; replace BK313 := am (blk_below (pb BK313.out) hb); replace HB := am (below_step (bg1 HB.out GE313.out) hb); (try clear hb); (try clear hb2); (try clear hk); (try clear hi)) | ((with_reducible refine gate_dst (N := 8) rfl ?_); refine Kd.R_lit k85 _ 85 ?hg (N := 8) ?hd (xs := ([] : List (S85))) (inner := []) (ok := fun _ => True) (okp := fun _ => True) ?hr ?hp (fun _ hk => hk) trivial (Below.refl _ _) (Nat.le_refl _) (by simp) ?_; (case hd => rfl); (case hg => rfl); (case hr => first | (go_simp; done) | (go_simp; rfl)); (case hp => exact (Reps.none _ _)); intro v319 w14 ho15 hb hg_ hnew_; clear hg_ hnew_; (first | rw [← Ny318.out] at ho15 | (simp only [Int.reduceToNat] at ho15; rw [← Ny318.out] at ho15)); have HO320 := am (Kd.R_lower ho15 (below_size (bg1 HB.out GE313.out))); replace BK313 := am (blk_below (pb BK313.out) hb); replace HB := am (below_step (bg1 HB.out GE313.out) hb); clear hb ho15))
   go_ret
   exact ⟨_, rq ⟨pr HO320.out, bg1 HB.out GE313.out⟩⟩
 subst c4
 have H1 : ((spec_l12Flush.f k l0_0 l0_1 a1).bind fun t315 => (some t315)) = some r := by rw [if_pos rfl] at H; exact H
 clear H
 have H := H1
 clear H1
 replace H := Option.bind_eq_some_iff.mp H
 obtain ⟨t315, A50, H⟩ := H
 replace H : (some t315) = some r := H
 have A5 := am A50
 clear A50
 obtain rfl := Option.some.inj H
 go_enter Try.func35, Try.ntmps35
 go_wp2_with (first | (refine bx 2 #[.slice A0_0 l0_0.length c0_0, .slice A0_1 l0_1.length c0_1] 41 rfl ?_; intro gb313 hg w6 hbox hb; have BK313 := am (hbox); have GW313 := am ((by rw [hg]; exact (below_size (ph HB.out)) : w.heap.size ≤ gb313)); have GE313 := GW313; replace HB := am (below_step (ph HB.out) hb); clear hb hbox hg; obtain ⟨hcz7_0, hcz7_1⟩ := b2 BK313.out; obtain ⟨hfz7_0, hfz7_1⟩ := f2 BK313.out) | (refine gl 6 Try.func54 #[.agg #[.slice A0_0 l0_0.length c0_0, .slice A0_1 l0_1.length c0_1]] rfl ?_; (with_reducible refine (spec_StoreOk.calls k _ _ l0_0 _ _ l0_1 true _ ?side1 ?side2 ?side3 ?side4 A3.out).mono ?_); (case side1 => exact pc (Kd.C_below HR0_0.out HB.out)); (case side2 => exact HC0_0.out); (case side3 => exact pc (Kd.C_below HR0_1.out HB.out)); (case side4 => exact HC0_1.out); rintro e w8 ⟨rfl, hb⟩; refine ⟨_, rfl, ?_⟩; replace BK313 := am (blk_below (pb BK313.out) hb); replace HB := am (below_step (bg1 HB.out GE313.out) hb); (try clear hb); (try clear hb2); (try clear hk); (try clear hi); obtain ⟨hcz9_0, hcz9_1⟩ := b2 BK313.out; obtain ⟨hfz9_0, hfz9_1⟩ := f2 BK313.out) | (refine gl 11 Try.func67 #[.agg #[.slice A0_0 l0_0.length c0_0, .slice A0_1 l0_1.length c0_1], .int .i64 a1] rfl ?_; (with_reducible refine (spec_l12Flush.calls k _ _ l0_0 _ _ l0_1 a1 t315 _ ?side1 ?side2 ?side3 ?side4 A5.out).mono ?_); (case side1 => exact pc (Kd.C_below HR0_0.out HB.out)); (case side2 => exact HC0_0.out); (case side3 => exact pc (Kd.C_below HR0_1.out HB.out)); (case side4 => exact HC0_1.out); rintro e w10 ⟨v316, rfl, ho0, hb⟩; refine ⟨_, rfl, ?_⟩; have HO317 := am (Kd.R_lower ho0 (below_size (bg1 HB.out GE313.out))); replace BK313 := am (blk_below (pb BK313.out) hb); replace HB := am (below_step (bg1 HB.out GE313.out) hb); (try clear hb); (try clear hb2); (try clear hk); (try clear hi); (try clear ho0)))
 go_ret
 exact ⟨_, rq ⟨pr HO317.out, bg1 HB.out GE313.out⟩⟩
def impl_valOk.f (a0 : Int) : Option (Bool) := if a0 ≥ 0 then (some (decide (a0 ≤ 9))) else (some false)
set_option maxHeartbeats 8000000 in
set_option maxRecDepth 100000 in
theorem impl_valOk.calls (a0 : Int) (r : Bool) (w : World) (h : impl_valOk.f a0 = some r) :
 Calls Try.prog 77 #[.int .i64 a0] w fun e w' => e = .returned (.bool r) ∧ Drawn0 w w' := by
 have H : (if a0 ≥ 0 then (some (decide (a0 ≤ 9))) else (some false)) = some r := h
 clear h
 by_cases c2 : a0 ≥ 0
 · rw [if_pos c2] at H
   have c2b0 := decide_eq_true c2
   clear c2
   obtain rfl := Option.some.inj H
   go_enter Try.func77, Try.ntmps77
   go_wp2
   go_ret
   exact ⟨by first | rfl | (simp; done) | (simp [*]; done), by repeat (first | exact Drawn0.refl _ | apply Drawn0.step)⟩
 rw [if_neg c2] at H
 have c2b0 := decide_eq_false c2
 clear c2
 obtain rfl := Option.some.inj H
 go_enter Try.func77, Try.ntmps77
 go_wp2
 go_ret
 exact ⟨by first | rfl | (simp; done) | (simp [*]; done), by repeat (first | exact Drawn0.refl _ | apply Drawn0.step)⟩
mutual
def impl_blockShape.j0 : Nat → Bool → List (S71) → Int → Option (Bool)
 | 0, _, _, _ => none
 | k + 1, x19, x322000, x322001 => if x19 = true then (some false) else (impl_blockShape.l0 k false x322000 (x322000.length : Int) 0)
def impl_blockShape.l0 : Nat → Bool → List (S71) → Int → Int → Option (Bool)
 | 0, _, _, _, _ => none
 | k + 1, x3, x21, x22, x23 => if x23 < x22 then (if 0 ≤ x23 then (if x23 < (x21.length : Int) then (if x3 = true then (if ((rd_T71 x21 x23).f0) = 0 then (impl_blockShape.l0 k (((rd_T71 x21 x23).f0) == 0) x21 x22 (wrap64 (x23 + 1))) else (some false)) else (impl_blockShape.l0 k (((rd_T71 x21 x23).f0) == 0) x21 x22 (wrap64 (x23 + 1)))) else (none)) else (none)) else (some true)
end
def impl_blockShape.f (k : Nat) (l0_0 : List (S71)) (a0_1 : Int) : Option (Bool) := if (l0_0.length : Int) = 4 then (if a0_1 < 0 then (impl_blockShape.j0 k true l0_0 a0_1) else (impl_blockShape.j0 k (decide (a0_1 > 200)) l0_0 a0_1)) else (impl_blockShape.j0 k true l0_0 a0_1)
theorem impl_blockShape.mono_l : ∀ k, (∀ y0 y1 y2, LeO (impl_blockShape.j0 k y0 y1 y2) (impl_blockShape.j0 (k + 1) y0 y1 y2)) ∧ (∀ y0 y1 y2 y3, LeO (impl_blockShape.l0 k y0 y1 y2 y3) (impl_blockShape.l0 (k + 1) y0 y1 y2 y3))
 | 0 => ⟨fun _ _ _ r h => by simp [impl_blockShape.j0] at h, fun _ _ _ _ r h => by simp [impl_blockShape.l0] at h⟩
 | k + 1 => by
  obtain ⟨ih0, ih1⟩ := impl_blockShape.mono_l k
  refine ⟨?_, ?_⟩
  · intro y0 y1 y2
    unfold impl_blockShape.j0
    repeat' first
    | (with_reducible exact ih0 _ _ _)
    | (with_reducible exact ih1 _ _ _ _)
    | (with_reducible exact LeO.refl _)
    | (with_reducible exact LeO.none _)
    | (with_reducible refine LeO.ite ?_ ?_)
    | (with_reducible refine LeO.bind ?_ (fun _ => ?_))
    | exact ih0 _ _ _
    | exact ih1 _ _ _ _
    | exact LeO.none _
    | refine LeO.ite ?_ ?_
    | refine LeO.bind ?_ (fun _ => ?_)
  · intro y0 y1 y2 y3
    unfold impl_blockShape.l0
    repeat' first
    | (with_reducible exact ih0 _ _ _)
    | (with_reducible exact ih1 _ _ _ _)
    | (with_reducible exact LeO.refl _)
    | (with_reducible exact LeO.none _)
    | (with_reducible refine LeO.ite ?_ ?_)
    | (with_reducible refine LeO.bind ?_ (fun _ => ?_))
    | exact ih0 _ _ _
    | exact ih1 _ _ _ _
    | exact LeO.none _
    | refine LeO.ite ?_ ?_
    | refine LeO.bind ?_ (fun _ => ?_)
theorem impl_blockShape.mono : ∀ a0 a1 k, LeO (impl_blockShape.f k a0 a1) (impl_blockShape.f (k + 1) a0 a1) := by
 intro a0 a1 k
 obtain ⟨ih0, ih1⟩ := impl_blockShape.mono_l k
 unfold impl_blockShape.f
 repeat' first
  | (with_reducible exact ih0 _ _ _)
  | (with_reducible exact ih1 _ _ _ _)
  | (with_reducible exact LeO.refl _)
  | (with_reducible exact LeO.none _)
  | (with_reducible refine LeO.ite ?_ ?_)
  | (with_reducible refine LeO.bind ?_ (fun _ => ?_))
  | exact ih0 _ _ _
  | exact ih1 _ _ _ _
  | exact LeO.none _
  | refine LeO.ite ?_ ?_
  | refine LeO.bind ?_ (fun _ => ?_)
set_option maxHeartbeats 8000000 in
set_option maxRecDepth 100000 in
theorem impl_blockShape.calls (k : Nat) (A0_0 : Option Addr) (c0_0 : Nat) (l0_0 : List (S71)) (a0_1 : Int) (r : Bool) (w : World) (hr0_0 : Kd.C k71 w A0_0 l0_0.length l0_0) (hc0_0 : l0_0.length ≤ c0_0) (h : impl_blockShape.f k l0_0 a0_1 = some r) :
 Calls Try.prog 74 #[.agg #[.slice A0_0 l0_0.length c0_0, .int .i64 a0_1]] w fun e w' => e = .returned (.bool r) ∧ Below w.heap.size w w' := by
 have hu65 := Try.underlying65
 have hu71 := Try.underlying71
 have HR0_0 := am hr0_0
 have HC0_0 := am hc0_0
 clear hr0_0 hc0_0
 have HB := am (Below.refl w.heap.size w)
 have H : (if (l0_0.length : Int) = 4 then (if a0_1 < 0 then (impl_blockShape.j0 k true l0_0 a0_1) else (impl_blockShape.j0 k (decide (a0_1 > 200)) l0_0 a0_1)) else (impl_blockShape.j0 k true l0_0 a0_1)) = some r := h
 clear h
 have HC2 := am H
 clear H
 go_enter Try.func74, Try.ntmps74
 go_upto_region 1 with (first | (refine bx 1 #[.slice A0_0 l0_0.length c0_0, .int .i64 a0_1] 65 rfl ?_; intro gb321 hg w3 hbox hb; have BK321 := am (hbox); have GW321 := am ((by rw [hg]; exact (below_size (ph HB.out)) : w.heap.size ≤ gb321)); have GE321 := GW321; replace HB := am (below_step (ph HB.out) hb); clear hb hbox hg))
 (try simp only [Act.put, List.setIfInBounds_toArray, List.set_cons_zero, List.set_cons_succ])
 go_cut [19] (fun v19 wc => ∃ (kq : Nat) (x19_1 : Bool), v19 = .bool x19_1 ∧ Aside0 (impl_blockShape.j0 kq x19_1 l0_0 a0_1 = some r) ∧ Aside0 (kq ≤ k) ∧ Aside0 (wc.heap[gb321]? = some (.cells #[(.slice A0_0 l0_0.length c0_0), .int .i64 a0_1] 65 (0, 0))) ∧ Aside0 (Below w.heap.size w wc))
 case first =>
  have H := HC2.out
  clear HC2
  by_cases c4 : (l0_0.length : Int) = 4
  rotate_left
  · rw [if_neg c4] at H
    have c4b0 : ((l0_0.length : Int) == 4) = false := beq_eq_false_iff_ne.mpr c4
    have c4b1 : ((l0_0.length : Int) != 4) = true := bne_iff_ne.mpr c4
    (first | rw [c4b0] | (simp only [i64_w, i32_w]; rw [c4b0]) | skip)
    have H' := am H
    clear H
    obtain ⟨hcz8_0, hcz8_1⟩ := b2 BK321.out
    obtain ⟨hfz8_0, hfz8_1⟩ := f2 BK321.out
    go_wp2
    go_meet
    case rel => exact ⟨_, (true), rf, H', ⟨by first | omega | exact Nat.le_refl _⟩, ⟨pb BK321.out⟩, ⟨bg1 HB.out GE321.out⟩⟩
  rw [if_pos c4] at H
  have c4b0 : ((l0_0.length : Int) == 4) = true := beq_iff_eq.mpr c4
  have c4b1 : ((l0_0.length : Int) != 4) = false := bne_eq_false_iff_eq.mpr c4
  clear c4
  (first | rw [c4b0] | (simp only [i64_w, i32_w]; rw [c4b0]) | skip)
  by_cases c5 : a0_1 < 0
  · rw [if_pos c5] at H
    have c5b0 := decide_eq_true c5
    clear c5
    have H' := am H
    clear H
    obtain ⟨hcz6_0, hcz6_1⟩ := b2 BK321.out
    obtain ⟨hfz6_0, hfz6_1⟩ := f2 BK321.out
    go_wp2
    go_meet
    case rel => exact ⟨_, (true), rf, H', ⟨by first | omega | exact Nat.le_refl _⟩, ⟨pb BK321.out⟩, ⟨bg1 HB.out GE321.out⟩⟩
  rw [if_neg c5] at H
  have c5b0 := decide_eq_false c5
  clear c5
  have H' := am H
  clear H
  obtain ⟨hcz7_0, hcz7_1⟩ := b2 BK321.out
  obtain ⟨hfz7_0, hfz7_1⟩ := f2 BK321.out
  go_wp2
  go_meet
  case rel => exact ⟨_, (decide (a0_1 > 200)), rf, H', ⟨by first | omega | exact Nat.le_refl _⟩, ⟨pb BK321.out⟩, ⟨bg1 HB.out GE321.out⟩⟩
 case rest =>
  clear HC2
  obtain ⟨kq, x19_1, rfl, HA, HJ1, BK321, HB⟩ := hcut
  cases kq with
  | zero => exact absurd HA.out (by simp [impl_blockShape.j0])
  | succ kj1 =>
   have H := HA.out
   clear HA
   simp only [impl_blockShape.j0] at H
   by_cases c9 : x19_1 = true
   · subst c9
     have H1 : (some false) = some r := by rw [if_pos rfl] at H; exact H
     clear H
     have H := H1
     clear H1
     obtain rfl := Option.some.inj H
     go_wp2
     go_ret
     exact (rq (bg1 HB.out GE321.out))
   replace c9 := Bool.eq_false_iff.mpr c9
   subst c9
   have H1 : (impl_blockShape.l0 kj1 false l0_0 (l0_0.length : Int) 0) = some r := by rw [if_neg (show ¬ (false = true) by decide)] at H; exact H
   clear H
   have H := H1
   clear H1
   have H' := am H
   clear H
   obtain ⟨hcz10_0, hcz10_1⟩ := b2 BK321.out
   obtain ⟨hfz10_0, hfz10_1⟩ := f2 BK321.out
   go_wp2
   go_loopg [3, 23] kj1 (fun kq v3 v23 w' => ∃ (x3_2 : Bool) (x23_2 : Int), v3 = .bool x3_2 ∧ v23 = .int .i64 x23_2 ∧ Aside0 (impl_blockShape.l0 kq x3_2 l0_0 (l0_0.length : Int) x23_2 = some r) ∧ Aside0 (kq ≤ kj1) ∧ Aside0 (w'.heap[gb321]? = some (.cells #[(.slice A0_0 l0_0.length c0_0), .int .i64 a0_1] 65 (0, 0))) ∧ Aside0 (Below w.heap.size w w'))
   case atStart => exact ⟨(false), (0), rf, rf, H', ⟨Nat.le_refl _⟩, ⟨pb BK321.out⟩, ⟨bg1 HB.out GE321.out⟩⟩
   case round =>
    clear H'
    obtain ⟨x3_2, x23_2, rfl, rfl, HA, HK2, BK321, HB⟩ := hrel
    cases gk with
    | zero => exact absurd HA.out (by simp [impl_blockShape.l0])
    | succ k2 =>
     have H := HA.out
     clear HA
     simp only [impl_blockShape.l0] at H
     by_cases c11 : x23_2 < (l0_0.length : Int)
     rotate_left
     · rw [if_neg c11] at H
       have c11b0 := decide_eq_false c11
       clear c11
       obtain rfl := Option.some.inj H
       go_wp2
       go_ret
       exact (rq (bg1 HB.out GE321.out))
     rw [if_pos c11] at H
     have c11b0 := decide_eq_true c11
     clear c11
     by_cases c12 : 0 ≤ x23_2
     rotate_left
     · rw [if_neg c12] at H
       exact absurd H (by simp)
     rw [if_pos c12] at H
     have c12b0 := decide_eq_true c12
     clear c12
     by_cases c13 : x23_2 < (l0_0.length : Int)
     rotate_left
     · rw [if_neg c13] at H
       exact absurd H (by simp)
     rw [if_pos c13] at H
     have c13b0 := decide_eq_true c13
     clear c13
     by_cases c14 : x3_2 = true
     rotate_left
     · replace c14 := Bool.eq_false_iff.mpr c14
       subst c14
       have H1 : (impl_blockShape.l0 k2 (((rd_T71 l0_0 x23_2).f0) == 0) l0_0 (l0_0.length : Int) (wrap64 (x23_2 + 1))) = some r := by rw [if_neg (show ¬ (false = true) by decide)] at H; exact H
       clear H
       have H := H1
       clear H1
       have H' := am H
       clear H
       have p322 : 0 ≤ (x23_2 : Int) := ofb
       have q322 : x23_2 < (l0_0.length : Int) := ofb
       obtain ⟨ad322, e322, hx322_0, hx322_1, hx322_2, hx322_3, hx322_4⟩ := at_T71 HR0_0.out x23_2 p322 q322
       cases e322
       replace hx322_0 := up HB.out hx322_0
       replace hx322_1 := up HB.out hx322_1
       replace hx322_2 := up HB.out hx322_2
       replace hx322_3 := up HB.out hx322_3
       replace hx322_4 := up HB.out hx322_4
       replace p322 := eq_true p322
       replace q322 := eq_true q322
       go_wp2_with (first | (refine bx 5 #[.int .i64 0, .int .i64 0, .int .i64 0, .int .i64 0, .int .i64 0] 71 rfl ?_; intro gb323 hg w22 hbox hb; have BK323 := am (hbox); have GW323 := am ((by rw [hg]; exact (below_size (bg1 HB.out GE321.out)) : w.heap.size ≤ gb323)); have GE323 := GW323; replace HB := am (below_step (bg1 HB.out GE321.out) hb); have NB321_323 := am ((by rw [hg]; exact Nat.ne_of_lt (blk_lt (pb BK321.out)) : gb321 ≠ gb323)); have NB323_321 := am (Ne.symm NB321_323.out); replace BK321 := am (blk_below (pb BK321.out) hb); clear hb hbox hg; have hnb23 := NB323_321.out; have hnc23 := NB321_323.out; obtain ⟨hcz24_0, hcz24_1, hcz24_2, hcz24_3, hcz24_4⟩ := b5 BK323.out; obtain ⟨hfz24_0, hfz24_1, hfz24_2, hfz24_3, hfz24_4⟩ := f5 BK323.out))
       go_roundg k2
       case measure => have := HJ1.out; have := HK2.out; omega
       case rel => exact ⟨((((rd_T71 l0_0 x23_2).f0) == 0)), (wrap64 (x23_2 + 1)), rf, rf, H', ⟨by have := HJ1.out; have := HK2.out; omega⟩, ⟨by (with_reducible repeat (first | refine blk_drewN ?_ _ | refine blk_drew ?_ | refine blk_alloc ?_ _)); refine blk_far ?_ NB321_323.out _; (with_reducible repeat (first | refine blk_drewN ?_ _ | refine blk_drew ?_ | refine blk_alloc ?_ _)); refine blk_far ?_ NB321_323.out _; (with_reducible repeat (first | refine blk_drewN ?_ _ | refine blk_drew ?_ | refine blk_alloc ?_ _)); refine blk_far ?_ NB321_323.out _; (with_reducible repeat (first | refine blk_drewN ?_ _ | refine blk_drew ?_ | refine blk_alloc ?_ _)); refine blk_far ?_ NB321_323.out _; (with_reducible repeat (first | refine blk_drewN ?_ _ | refine blk_drew ?_ | refine blk_alloc ?_ _)); refine blk_far ?_ NB321_323.out _; (with_reducible repeat (first | refine blk_drewN ?_ _ | refine blk_drew ?_ | refine blk_alloc ?_ _)); exact BK321.out⟩, ⟨bg2 HB.out GE321.out GE323.out⟩⟩
     subst c14
     have H1 : (if ((rd_T71 l0_0 x23_2).f0) = 0 then (impl_blockShape.l0 k2 (((rd_T71 l0_0 x23_2).f0) == 0) l0_0 (l0_0.length : Int) (wrap64 (x23_2 + 1))) else (some false)) = some r := by rw [if_pos rfl] at H; exact H
     clear H
     have H := H1
     clear H1
     by_cases c15 : ((rd_T71 l0_0 x23_2).f0) = 0
     rotate_left
     · rw [if_neg c15] at H
       have c15b0 : (((rd_T71 l0_0 x23_2).f0) == 0) = false := beq_eq_false_iff_ne.mpr c15
       have c15b1 : (((rd_T71 l0_0 x23_2).f0) != 0) = true := bne_iff_ne.mpr c15
       obtain rfl := Option.some.inj H
       have p322 : 0 ≤ (x23_2 : Int) := ofb
       have q322 : x23_2 < (l0_0.length : Int) := ofb
       obtain ⟨ad322, e322, hx322_0, hx322_1, hx322_2, hx322_3, hx322_4⟩ := at_T71 HR0_0.out x23_2 p322 q322
       cases e322
       replace hx322_0 := up HB.out hx322_0
       replace hx322_1 := up HB.out hx322_1
       replace hx322_2 := up HB.out hx322_2
       replace hx322_3 := up HB.out hx322_3
       replace hx322_4 := up HB.out hx322_4
       replace p322 := eq_true p322
       replace q322 := eq_true q322
       go_wp2_with (first | (refine bx 5 #[.int .i64 0, .int .i64 0, .int .i64 0, .int .i64 0, .int .i64 0] 71 rfl ?_; intro gb323 hg w19 hbox hb; have BK323 := am (hbox); have GW323 := am ((by rw [hg]; exact (below_size (bg1 HB.out GE321.out)) : w.heap.size ≤ gb323)); have GE323 := GW323; replace HB := am (below_step (bg1 HB.out GE321.out) hb); have NB321_323 := am ((by rw [hg]; exact Nat.ne_of_lt (blk_lt (pb BK321.out)) : gb321 ≠ gb323)); have NB323_321 := am (Ne.symm NB321_323.out); replace BK321 := am (blk_below (pb BK321.out) hb); clear hb hbox hg; have hnb20 := NB323_321.out; have hnc20 := NB321_323.out; obtain ⟨hcz21_0, hcz21_1, hcz21_2, hcz21_3, hcz21_4⟩ := b5 BK323.out; obtain ⟨hfz21_0, hfz21_1, hfz21_2, hfz21_3, hfz21_4⟩ := f5 BK323.out))
       go_ret
       exact (rq (bg2 HB.out GE321.out GE323.out))
     rw [if_pos c15] at H
     have c15b0 : (((rd_T71 l0_0 x23_2).f0) == 0) = true := beq_iff_eq.mpr c15
     have c15b1 : (((rd_T71 l0_0 x23_2).f0) != 0) = false := bne_eq_false_iff_eq.mpr c15
     clear c15
     have H' := am H
     clear H
     have p322 : 0 ≤ (x23_2 : Int) := ofb
     have q322 : x23_2 < (l0_0.length : Int) := ofb
     obtain ⟨ad322, e322, hx322_0, hx322_1, hx322_2, hx322_3, hx322_4⟩ := at_T71 HR0_0.out x23_2 p322 q322
     cases e322
     replace hx322_0 := up HB.out hx322_0
     replace hx322_1 := up HB.out hx322_1
     replace hx322_2 := up HB.out hx322_2
     replace hx322_3 := up HB.out hx322_3
     replace hx322_4 := up HB.out hx322_4
     replace p322 := eq_true p322
     replace q322 := eq_true q322
     go_wp2_with (first | (refine bx 5 #[.int .i64 0, .int .i64 0, .int .i64 0, .int .i64 0, .int .i64 0] 71 rfl ?_; intro gb323 hg w16 hbox hb; have BK323 := am (hbox); have GW323 := am ((by rw [hg]; exact (below_size (bg1 HB.out GE321.out)) : w.heap.size ≤ gb323)); have GE323 := GW323; replace HB := am (below_step (bg1 HB.out GE321.out) hb); have NB321_323 := am ((by rw [hg]; exact Nat.ne_of_lt (blk_lt (pb BK321.out)) : gb321 ≠ gb323)); have NB323_321 := am (Ne.symm NB321_323.out); replace BK321 := am (blk_below (pb BK321.out) hb); clear hb hbox hg; have hnb17 := NB323_321.out; have hnc17 := NB321_323.out; obtain ⟨hcz18_0, hcz18_1, hcz18_2, hcz18_3, hcz18_4⟩ := b5 BK323.out; obtain ⟨hfz18_0, hfz18_1, hfz18_2, hfz18_3, hfz18_4⟩ := f5 BK323.out))
     go_roundg k2
     case measure => have := HJ1.out; have := HK2.out; omega
     case rel => exact ⟨((((rd_T71 l0_0 x23_2).f0) == 0)), (wrap64 (x23_2 + 1)), rf, rf, H', ⟨by have := HJ1.out; have := HK2.out; omega⟩, ⟨by (with_reducible repeat (first | refine blk_drewN ?_ _ | refine blk_drew ?_ | refine blk_alloc ?_ _)); refine blk_far ?_ NB321_323.out _; (with_reducible repeat (first | refine blk_drewN ?_ _ | refine blk_drew ?_ | refine blk_alloc ?_ _)); refine blk_far ?_ NB321_323.out _; (with_reducible repeat (first | refine blk_drewN ?_ _ | refine blk_drew ?_ | refine blk_alloc ?_ _)); refine blk_far ?_ NB321_323.out _; (with_reducible repeat (first | refine blk_drewN ?_ _ | refine blk_drew ?_ | refine blk_alloc ?_ _)); refine blk_far ?_ NB321_323.out _; (with_reducible repeat (first | refine blk_drewN ?_ _ | refine blk_drew ?_ | refine blk_alloc ?_ _)); refine blk_far ?_ NB321_323.out _; (with_reducible repeat (first | refine blk_drewN ?_ _ | refine blk_drew ?_ | refine blk_alloc ?_ _)); exact BK321.out⟩, ⟨bg2 HB.out GE321.out GE323.out⟩⟩
def impl_addrOk.f (a0 : Int) : Option (Bool) := if a0 ≥ 1 then (some (decide (a0 ≤ 6))) else (some false)
set_option maxHeartbeats 8000000 in
set_option maxRecDepth 100000 in
theorem impl_addrOk.calls (a0 : Int) (r : Bool) (w : World) (h : impl_addrOk.f a0 = some r) :
 Calls Try.prog 65 #[.int .i64 a0] w fun e w' => e = .returned (.bool r) ∧ Drawn0 w w' := by
 have H : (if a0 ≥ 1 then (some (decide (a0 ≤ 6))) else (some false)) = some r := h
 clear h
 by_cases c2 : a0 ≥ 1
 · rw [if_pos c2] at H
   have c2b0 := decide_eq_true c2
   clear c2
   obtain rfl := Option.some.inj H
   go_enter Try.func65, Try.ntmps65
   go_wp2
   go_ret
   exact ⟨by first | rfl | (simp; done) | (simp [*]; done), by repeat (first | exact Drawn0.refl _ | apply Drawn0.step)⟩
 rw [if_neg c2] at H
 have c2b0 := decide_eq_false c2
 clear c2
 obtain rfl := Option.some.inj H
 go_enter Try.func65, Try.ntmps65
 go_wp2
 go_ret
 exact ⟨by first | rfl | (simp; done) | (simp [*]; done), by repeat (first | exact Drawn0.refl _ | apply Drawn0.step)⟩
def impl_RecOk.f (a0_0 : Int) (a0_1 : Int) (a0_2 : Int) (a0_3 : Int) : Option (Bool) := some (recOkB a0_0 a0_1 a0_2 a0_3)
theorem ret_bool {a b : Bool} (h : a = b) : Ending.returned (.bool a) = .returned (.bool b) := by rw [h]
def entryV (a b c d : Int) : Value := if a = 1 then .iface 115 (.agg #[.int .i64 a, .int .i64 b, .int .i64 c, .int .i64 d]) else if a = 2 then .iface 116 (.agg #[.int .i64 a, .int .i64 b, .int .i64 c, .int .i64 d]) else .nilIface
set_option maxHeartbeats 1000000 in
set_option maxRecDepth 100000 in
theorem entryOf_any (a b c d : Int) (w : World) :
 Calls Try.prog 76 #[.agg #[.int .i64 a, .int .i64 b, .int .i64 c, .int .i64 d]] w fun e w' => e = .returned (entryV a b c d) ∧ w' = w.alloc (.cells #[.int .i64 a, .int .i64 b, .int .i64 c, .int .i64 d] 30) := by
 have hu := Try.underlying30
 have hu2 := Try.underlying95
 by_cases c1 : a = 1
 · subst c1
   go_enter Try.func76, Try.ntmps76
   go_wp2
   go_ret
   exact ⟨rfl, rfl⟩
 by_cases c2 : a = 2
 · subst c2
   go_enter Try.func76, Try.ntmps76
   go_wp2
   go_ret
   exact ⟨rfl, rfl⟩
 have b1 : (a == 1) = false := by simpa using c1
 have b2 : (a == 2) = false := by simpa using c2
 have HV := am (show entryV a b c d = .nilIface by unfold entryV; rw [if_neg c1, if_neg c2])
 clear c1 c2
 go_enter Try.func76, Try.ntmps76
 go_wp2
 go_ret
 rw [HV.out]
 exact ⟨rfl, rfl⟩
def addrB (a : Int) : Bool := decide (1 ≤ a ∧ a ≤ 6)
def valB (a : Int) : Bool := decide (0 ≤ a ∧ a ≤ 9)
theorem addrOk_any (a : Int) (w : World) : Calls Try.prog 65 #[.int .i64 a] w fun e w' => e = .returned (.bool (addrB a)) ∧ w = w' := by
 go_enter Try.func65, Try.ntmps65
 go_wp2
 all_goals (go_ret; exact ⟨ret_bool (by unfold addrB; simp; try omega), rfl⟩)
theorem valOk_any (a : Int) (w : World) : Calls Try.prog 77 #[.int .i64 a] w fun e w' => e = .returned (.bool (valB a)) ∧ w = w' := by
 go_enter Try.func77, Try.ntmps77
 go_wp2
 all_goals (go_ret; exact ⟨ret_bool (by unfold valB; simp; try omega), rfl⟩)
theorem recOk_parts (a b c d : Int) : recOkB a b c d = ((decide (a = 1) || decide (a = 2)) && (decide (1 ≤ b) && (decide (b ≤ 600) && (addrB c && valB d)))) := by
 unfold recOkB addrB valB
 rw [Bool.eq_iff_iff]
 simp only [decide_eq_true_eq, Bool.and_eq_true, Bool.or_eq_true]
 constructor <;> rintro ⟨h0, h1, h2, h3, h4⟩ <;> omega
set_option maxHeartbeats 2000000 in
set_option maxRecDepth 100000 in
theorem impl_RecOk.calls (a0_0 : Int) (a0_1 : Int) (a0_2 : Int) (a0_3 : Int) (r : Bool) (w : World) (h : impl_RecOk.f a0_0 a0_1 a0_2 a0_3 = some r) :
 Calls Try.prog 46 #[.agg #[.int .i64 a0_0, .int .i64 a0_1, .int .i64 a0_2, .int .i64 a0_3]] w fun e w' => e = .returned (.bool r) ∧ Below w.heap.size w w' := by
 obtain rfl := Option.some.inj h
 clear h
 have hu := Try.underlying30
 have hu2 := Try.underlying95
 have hb2 : ∀ A B : Obj, Below w.heap.size w ((w.alloc A).alloc B) := fun A B => ((Below.refl _ w).alloc (Nat.le_refl _) A).alloc (by simp) B
 have HE := am hb2
 clear hb2
 have HP := am (recOk_parts a0_0 a0_1 a0_2 a0_3)
 rcases (show (a0_0 = 1 ∨ a0_0 = 2) ∨ (¬ a0_0 = 1 ∧ ¬ a0_0 = 2) by omega) with (c0 | c0) | ⟨c1, c2⟩
 · subst c0
   go_enter Try.func46, Try.ntmps46
   go_wp2_with (first | (go_at_call 76; refine (entryOf_any _ _ _ _ _).mono ?_; rintro e w' ⟨rfl, rfl⟩; simp only [entryV]) | (go_at_call 65; refine (addrOk_any _ _).mono ?_; rintro e w' ⟨rfl, rfl⟩) | (go_at_call 77; refine (valOk_any _ _).mono ?_; rintro e w' ⟨rfl, rfl⟩))
   all_goals go_ret
   all_goals exact ⟨ret_bool (by rw [HP.out]; simp [*]; try (intros; omega)), HE.out _ _⟩
 · subst c0
   go_enter Try.func46, Try.ntmps46
   go_wp2_with (first | (go_at_call 76; refine (entryOf_any _ _ _ _ _).mono ?_; rintro e w' ⟨rfl, rfl⟩; simp only [entryV]) | (go_at_call 65; refine (addrOk_any _ _).mono ?_; rintro e w' ⟨rfl, rfl⟩) | (go_at_call 77; refine (valOk_any _ _).mono ?_; rintro e w' ⟨rfl, rfl⟩))
   all_goals go_ret
   all_goals exact ⟨ret_bool (by rw [HP.out]; simp [*]; try (intros; omega)), HE.out _ _⟩
 · have HV := am (show entryV a0_0 a0_1 a0_2 a0_3 = .nilIface by unfold entryV; rw [if_neg c1, if_neg c2])
   have HF := am (show recOkB a0_0 a0_1 a0_2 a0_3 = false by rw [HP.out]; simp [c1, c2])
   clear c1 c2 HP
   go_enter Try.func46, Try.ntmps46
   go_wp2_with (go_at_call 76; refine (entryOf_any _ _ _ _ _).mono ?_; rintro e w' ⟨rfl, rfl⟩; rw [HV.out])
   all_goals go_ret
   all_goals exact ⟨ret_bool (by rw [HF.out]), HE.out _ _⟩
end Go.Proofs.Ytoedphbikgoapaa.Re
namespace Go.Proofs.Ytoedphbikgoapaa.Re
open Go.RowKit Go.Proofs.YtoedphbikgoapaaW.PrintWords Go.Proofs.YtoedphbikgoapaaW.PrintLast Go.Proofs.YtoedphbikgoapaaW.PrintMore
attribute [local go_sem] max2_int min2_int max_two min_two max_three min_three max_four min_four
set_option linter.unusedVariables false
set_option linter.unusedSimpArgs false
attribute [local go_sem high] eqA30
def impl_pageShape.f (a0_0 : Int) (a0_1 : Int) (a0_2 : Int) (a0_3 : Int) (a0_4 : Int) : Option (Bool) := if a0_0 = 1 then ((impl_RecOk.f a0_1 a0_2 a0_3 a0_4).bind fun t325 => (some t325)) else (if a0_0 = 0 then (some (a0_1 == 0 && (a0_2 == 0 && (a0_3 == 0 && (a0_4 == 0))))) else (if a0_0 = 2 then (some (a0_1 == 0 && (a0_2 == 0 && (a0_3 == 0 && (a0_4 == 0))))) else (some false)))
set_option maxHeartbeats 8000000 in
set_option maxRecDepth 100000 in
theorem impl_pageShape.calls (a0_0 : Int) (a0_1 : Int) (a0_2 : Int) (a0_3 : Int) (a0_4 : Int) (r : Bool) (w : World) (h : impl_pageShape.f a0_0 a0_1 a0_2 a0_3 a0_4 = some r) :
 Calls Try.prog 75 #[.agg #[.int .i64 a0_0, .int .i64 a0_1, .int .i64 a0_2, .int .i64 a0_3, .int .i64 a0_4]] w fun e w' => e = .returned (.bool r) ∧ Below w.heap.size w w' := by
 have hu71 := Try.underlying71
 have hu30 := Try.underlying30
 have HB := am (Below.refl w.heap.size w)
 have H : (if a0_0 = 1 then ((impl_RecOk.f a0_1 a0_2 a0_3 a0_4).bind fun t325 => (some t325)) else (if a0_0 = 0 then (some (a0_1 == 0 && (a0_2 == 0 && (a0_3 == 0 && (a0_4 == 0))))) else (if a0_0 = 2 then (some (a0_1 == 0 && (a0_2 == 0 && (a0_3 == 0 && (a0_4 == 0))))) else (some false)))) = some r := h
 clear h
 by_cases c2 : a0_0 = 1
 · rw [if_pos c2] at H
   have c2b0 : (a0_0 == 1) = true := beq_iff_eq.mpr c2
   have c2b1 : (a0_0 != 1) = false := bne_eq_false_iff_eq.mpr c2
   clear c2
   replace H := Option.bind_eq_some_iff.mp H
   obtain ⟨t325, A30, H⟩ := H
   replace H : (some t325) = some r := H
   have A3 := am A30
   clear A30
   obtain rfl := Option.some.inj H
   go_enter Try.func75, Try.ntmps75
   go_wp2_with (first | (refine bx 1 #[.int .i64 a0_0, .int .i64 a0_1, .int .i64 a0_2, .int .i64 a0_3, .int .i64 a0_4] 71 rfl ?_; intro gb324 hg w4 hbox hb; have BK324 := am (hbox); have GW324 := am ((by rw [hg]; exact (below_size (ph HB.out)) : w.heap.size ≤ gb324)); have GE324 := GW324; replace HB := am (below_step (ph HB.out) hb); clear hb hbox hg; obtain ⟨hcz5_0, hcz5_1, hcz5_2, hcz5_3, hcz5_4⟩ := b5 BK324.out; obtain ⟨hfz5_0, hfz5_1, hfz5_2, hfz5_3, hfz5_4⟩ := f5 BK324.out) | (refine gl 9 Try.func46 #[.agg #[.int .i64 a0_1, .int .i64 a0_2, .int .i64 a0_3, .int .i64 a0_4]] rfl ?_; (with_reducible refine (impl_RecOk.calls a0_1 a0_2 a0_3 a0_4 t325 _ A3.out).mono ?_); rintro e w6 ⟨rfl, hb⟩; refine ⟨_, rfl, ?_⟩; replace BK324 := am (blk_below (pb BK324.out) hb); replace HB := am (below_step (bg1 HB.out GE324.out) hb); (try clear hb); (try clear hb2); (try clear hk); (try clear hi)))
   go_ret
   exact (rq (bg1 HB.out GE324.out))
 rw [if_neg c2] at H
 have c2b0 : (a0_0 == 1) = false := beq_eq_false_iff_ne.mpr c2
 have c2b1 : (a0_0 != 1) = true := bne_iff_ne.mpr c2
 by_cases c7 : a0_0 = 0
 · rw [if_pos c7] at H
   have c7b0 : (a0_0 == 0) = true := beq_iff_eq.mpr c7
   have c7b1 : (a0_0 != 0) = false := bne_eq_false_iff_eq.mpr c7
   clear c7
   obtain rfl := Option.some.inj H
   go_enter Try.func75, Try.ntmps75
   go_wp2_with (first | (refine bx 1 #[.int .i64 a0_0, .int .i64 a0_1, .int .i64 a0_2, .int .i64 a0_3, .int .i64 a0_4] 71 rfl ?_; intro gb324 hg w8 hbox hb; have BK324 := am (hbox); have GW324 := am ((by rw [hg]; exact (below_size (ph HB.out)) : w.heap.size ≤ gb324)); have GE324 := GW324; replace HB := am (below_step (ph HB.out) hb); clear hb hbox hg; obtain ⟨hcz9_0, hcz9_1, hcz9_2, hcz9_3, hcz9_4⟩ := b5 BK324.out; obtain ⟨hfz9_0, hfz9_1, hfz9_2, hfz9_3, hfz9_4⟩ := f5 BK324.out))
   go_ret
   exact (rq (bg1 HB.out GE324.out))
 rw [if_neg c7] at H
 have c7b0 : (a0_0 == 0) = false := beq_eq_false_iff_ne.mpr c7
 have c7b1 : (a0_0 != 0) = true := bne_iff_ne.mpr c7
 by_cases c10 : a0_0 = 2
 rotate_left
 · rw [if_neg c10] at H
   have c10b0 : (a0_0 == 2) = false := beq_eq_false_iff_ne.mpr c10
   have c10b1 : (a0_0 != 2) = true := bne_iff_ne.mpr c10
   obtain rfl := Option.some.inj H
   go_enter Try.func75, Try.ntmps75
   go_wp2_with (first | (refine bx 1 #[.int .i64 a0_0, .int .i64 a0_1, .int .i64 a0_2, .int .i64 a0_3, .int .i64 a0_4] 71 rfl ?_; intro gb324 hg w13 hbox hb; have BK324 := am (hbox); have GW324 := am ((by rw [hg]; exact (below_size (ph HB.out)) : w.heap.size ≤ gb324)); have GE324 := GW324; replace HB := am (below_step (ph HB.out) hb); clear hb hbox hg; obtain ⟨hcz14_0, hcz14_1, hcz14_2, hcz14_3, hcz14_4⟩ := b5 BK324.out; obtain ⟨hfz14_0, hfz14_1, hfz14_2, hfz14_3, hfz14_4⟩ := f5 BK324.out))
   go_ret
   exact (rq (bg1 HB.out GE324.out))
 rw [if_pos c10] at H
 have c10b0 : (a0_0 == 2) = true := beq_iff_eq.mpr c10
 have c10b1 : (a0_0 != 2) = false := bne_eq_false_iff_eq.mpr c10
 clear c10
 obtain rfl := Option.some.inj H
 go_enter Try.func75, Try.ntmps75
 go_wp2_with (first | (refine bx 1 #[.int .i64 a0_0, .int .i64 a0_1, .int .i64 a0_2, .int .i64 a0_3, .int .i64 a0_4] 71 rfl ?_; intro gb324 hg w11 hbox hb; have BK324 := am (hbox); have GW324 := am ((by rw [hg]; exact (below_size (ph HB.out)) : w.heap.size ≤ gb324)); have GE324 := GW324; replace HB := am (below_step (ph HB.out) hb); clear hb hbox hg; obtain ⟨hcz12_0, hcz12_1, hcz12_2, hcz12_3, hcz12_4⟩ := b5 BK324.out; obtain ⟨hfz12_0, hfz12_1, hfz12_2, hfz12_3, hfz12_4⟩ := f5 BK324.out))
 go_ret
 exact (rq (bg1 HB.out GE324.out))
end Go.Proofs.Ytoedphbikgoapaa.Re
