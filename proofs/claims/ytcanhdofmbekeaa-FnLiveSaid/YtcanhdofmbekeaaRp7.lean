-- printed by wip/pp/pp.py
import Derived.Test.YtcanhdofmbekeaaRp0
import Derived.Test.YtcanhdofmbekeaaRp2
import Derived.Test.YtcanhdofmbekeaaRp6
namespace Go.Proofs.Ytcanhdofmbekeaa.Rp
open Go.RowKit Go.Proofs.YtcanhdofmbekeaaW.PrintWords Go.Proofs.YtcanhdofmbekeaaW.PrintLast Go.Proofs.YtcanhdofmbekeaaW.PrintMore
attribute [local go_sem] max2_int min2_int max_two min_two max_three min_three max_four min_four
set_option linter.unusedVariables false
set_option linter.unusedSimpArgs false
def spec_l12Write.f (k : Nat) (l0_0 : List (S35)) (l0_1 : List Int) (a1 : Int) (a2 : Int) (a3 : Int) : Option ((List (S81))) := (spec_l3Next.f k l0_0).bind fun t253 => ((spec_l12Room.f k l0_0 l0_1).bind fun bt255 => (if bt255.2.2 = true then ((spec_RecOk.f a1 t253 a2 a3).bind fun t260 => (if t260 = true then (if bt255.1.length < 2199023255552 then (some (bt255.1 ++ [(⟨3, 0, 0, bt255.2.1, (⟨a1, t253, a2, a3⟩ : S30)⟩ : S81)])) else (none)) else (some (([] : List (S81)))))) else (some (([] : List (S81))))))
theorem spec_l12Write.mono : ∀ a0 a1 a2 a3 a4 k, LeO (spec_l12Write.f k a0 a1 a2 a3 a4) (spec_l12Write.f (k + 1) a0 a1 a2 a3 a4) := by
 intro a0 a1 a2 a3 a4 k
 unfold spec_l12Write.f
 repeat' first
  | (with_reducible exact spec_l12Room.mono _ _ _)
  | (with_reducible exact spec_l3Next.mono _ _)
  | (with_reducible exact LeO.refl _)
  | (with_reducible exact LeO.none _)
  | (with_reducible refine LeO.ite ?_ ?_)
  | (with_reducible refine LeO.bind ?_ (fun _ => ?_))
  | exact spec_l12Room.mono _ _ _
  | exact spec_l3Next.mono _ _
  | exact LeO.none _
  | refine LeO.ite ?_ ?_
  | refine LeO.bind ?_ (fun _ => ?_)
set_option maxHeartbeats 8000000 in
set_option maxRecDepth 100000 in
theorem spec_l12Write.calls (k : Nat) (A0_0 : Option Addr) (c0_0 : Nat) (l0_0 : List (S35)) (A0_1 : Option Addr) (c0_1 : Nat) (l0_1 : List Int) (a1 : Int) (a2 : Int) (a3 : Int) (r : List (S81)) (w : World) (hr0_0 : Kd.C k35 w A0_0 l0_0.length l0_0) (hc0_0 : l0_0.length ≤ c0_0) (hr0_1 : Kd.C (Kd.int .i64) w A0_1 l0_1.length l0_1) (hc0_1 : l0_1.length ≤ c0_1) (h : spec_l12Write.f k l0_0 l0_1 a1 a2 a3 = some r) :
 Calls Try.prog 38 #[.agg #[.slice A0_0 l0_0.length c0_0, .slice A0_1 l0_1.length c0_1], .int .i64 a1, .int .i64 a2, .int .i64 a3] w fun e w' => ∃ v0_ : Value, e = .returned (v0_) ∧ Kd.R k81 81 w' w.heap.size (fun _ => True) v0_ r ∧ Below w.heap.size w w' := by
 have hu57 := Try.underlying57
 have hu30 := Try.underlying30
 have hu81 := Try.underlying81
 have HR0_0 := am hr0_0
 have HC0_0 := am hc0_0
 clear hr0_0 hc0_0
 have HR0_1 := am hr0_1
 have HC0_1 := am hc0_1
 clear hr0_1 hc0_1
 have HB := am (Below.refl w.heap.size w)
 have H : ((spec_l3Next.f k l0_0).bind fun t253 => ((spec_l12Room.f k l0_0 l0_1).bind fun bt255 => (if bt255.2.2 = true then ((spec_RecOk.f a1 t253 a2 a3).bind fun t260 => (if t260 = true then (if bt255.1.length < 2199023255552 then (some (bt255.1 ++ [(⟨3, 0, 0, bt255.2.1, (⟨a1, t253, a2, a3⟩ : S30)⟩ : S81)])) else (none)) else (some (([] : List (S81)))))) else (some (([] : List (S81))))))) = some r := h
 clear h
 replace H := Option.bind_eq_some_iff.mp H
 obtain ⟨t253, A50, H⟩ := H
 replace H : ((spec_l12Room.f k l0_0 l0_1).bind fun bt255 => (if bt255.2.2 = true then ((spec_RecOk.f a1 t253 a2 a3).bind fun t260 => (if t260 = true then (if bt255.1.length < 2199023255552 then (some (bt255.1 ++ [(⟨3, 0, 0, bt255.2.1, (⟨a1, t253, a2, a3⟩ : S30)⟩ : S81)])) else (none)) else (some (([] : List (S81)))))) else (some (([] : List (S81)))))) = some r := H
 have A5 := am A50
 clear A50
 replace H := Option.bind_eq_some_iff.mp H
 obtain ⟨⟨t255, t258, t259⟩, A60, H⟩ := H
 replace H : (if t259 = true then ((spec_RecOk.f a1 t253 a2 a3).bind fun t260 => (if t260 = true then (if t255.length < 2199023255552 then (some (t255 ++ [(⟨3, 0, 0, t258, (⟨a1, t253, a2, a3⟩ : S30)⟩ : S81)])) else (none)) else (some (([] : List (S81)))))) else (some (([] : List (S81))))) = some r := H
 have A6 := am A60
 clear A60
 by_cases c7 : t259 = true
 rotate_left
 · replace c7 := Bool.eq_false_iff.mpr c7
   subst c7
   have H1 : (some (([] : List (S81)))) = some r := by rw [if_neg (show ¬ (false = true) by decide)] at H; exact H
   clear H
   have H := H1
   clear H1
   obtain ⟨y267, hy267⟩ : ∃ y_ : List (S81), y_ = (([] : List (S81))) := ⟨_, rfl⟩
   replace H : (some y267) = some r := by first | (rw [hy267]; with_reducible exact H) | (have H2_ := (Option.bind_some _ _).symm.trans H; rw [hy267]; with_reducible exact H2_) | (have H2_ := (Option.bind_some _ _).symm.trans H; with_reducible exact H2_) | with_reducible exact H | (rw [hy267]; exact H) | exact H
   have Ny267 := am hy267
   clear hy267
   obtain rfl := Option.some.inj H
   go_enter Try.func38, Try.ntmps38
   go_wp2_with (first | (refine bx 4 #[.slice A0_0 l0_0.length c0_0, .slice A0_1 l0_1.length c0_1] 57 rfl ?_; intro gb252 hg w35 hbox hb; have BK252 := am (hbox); have GW252 := am ((by rw [hg]; exact (below_size (ph HB.out)) : w.heap.size ≤ gb252)); have GE252 := GW252; replace HB := am (below_step (ph HB.out) hb); clear hb hbox hg; obtain ⟨hcz36_0, hcz36_1⟩ := b2 BK252.out; obtain ⟨hfz36_0, hfz36_1⟩ := f2 BK252.out) | (refine gl 16 Try.func44 #[.slice A0_0 l0_0.length c0_0] rfl ?_; (with_reducible refine (spec_l3Next.calls k _ _ l0_0 t253 _ ?side1 ?side2 A5.out).mono ?_); (case side1 => exact pc (Kd.C_below HR0_0.out HB.out)); (case side2 => exact HC0_0.out); rintro e w37 ⟨rfl, hb⟩; refine ⟨_, rfl, ?_⟩; replace BK252 := am (blk_below (pb BK252.out) hb); replace HB := am (below_step (bg1 HB.out GE252.out) hb); (try clear hb); (try clear hb2); (try clear hk); (try clear hi)) | (refine bx 9 #[.int .i64 0, .int .i64 0, .int .i64 0, .int .i64 0] 30 rfl ?_; intro gb254 hg w38 hbox hb; have BK254 := am (hbox); have GW254 := am ((by rw [hg]; exact (below_size (bg1 HB.out GE252.out)) : w.heap.size ≤ gb254)); have GE254 := GW254; replace HB := am (below_step (bg1 HB.out GE252.out) hb); have NB252_254 := am ((by rw [hg]; exact Nat.ne_of_lt (blk_lt (pb BK252.out)) : gb252 ≠ gb254)); have NB254_252 := am (Ne.symm NB252_254.out); replace BK252 := am (blk_below (pb BK252.out) hb); clear hb hbox hg; have hnb39 := NB254_252.out; have hnc39 := NB252_254.out; obtain ⟨hcz40_0, hcz40_1, hcz40_2, hcz40_3⟩ := b4 BK254.out; obtain ⟨hfz40_0, hfz40_1, hfz40_2, hfz40_3⟩ := f4 BK254.out; obtain ⟨hcz41_0, hcz41_1⟩ := b2 BK252.out; obtain ⟨hfz41_0, hfz41_1⟩ := f2 BK252.out) | (refine gl 22 Try.func45 #[.agg #[.slice A0_0 l0_0.length c0_0, .slice A0_1 l0_1.length c0_1]] rfl ?_; (with_reducible refine (spec_l12Room.calls k _ _ l0_0 _ _ l0_1 t255 t258 false _ ?side1 ?side2 ?side3 ?side4 A6.out).mono ?_); (case side1 => exact Kd.C_below HR0_0.out (bg2 HB.out GE252.out GE254.out)); (case side2 => exact HC0_0.out); (case side3 => exact Kd.C_below HR0_1.out (bg2 HB.out GE252.out GE254.out)); (case side4 => exact HC0_1.out); rintro e w42 ⟨v256, rfl, ho0, hb⟩; refine ⟨_, rfl, ?_⟩; have HO257 := am (Kd.R_lower ho0 (below_size (bg2 HB.out GE252.out GE254.out))); replace BK252 := am (blk_below (g := gb252) (o := .cells #[.slice A0_0 l0_0.length c0_0, .slice A0_1 l0_1.length c0_1] 57 (0, 0)) (by (with_reducible repeat (first | refine blk_drewN ?_ _ | refine blk_drew ?_ | refine blk_alloc ?_ _)); refine blk_far ?_ NB252_254.out _; (with_reducible repeat (first | refine blk_drewN ?_ _ | refine blk_drew ?_ | refine blk_alloc ?_ _)); refine blk_far ?_ NB252_254.out _; (with_reducible repeat (first | refine blk_drewN ?_ _ | refine blk_drew ?_ | refine blk_alloc ?_ _)); refine blk_far ?_ NB252_254.out _; (with_reducible repeat (first | refine blk_drewN ?_ _ | refine blk_drew ?_ | refine blk_alloc ?_ _)); refine blk_far ?_ NB252_254.out _; (with_reducible repeat (first | refine blk_drewN ?_ _ | refine blk_drew ?_ | refine blk_alloc ?_ _)); exact BK252.out) hb); replace BK254 := am (blk_below (g := gb254) (o := .cells #[.int .i64 a1, .int .i64 t253, .int .i64 a2, .int .i64 a3] 30 (0, 0)) (by (with_reducible repeat (first | refine blk_drewN ?_ _ | refine blk_drew ?_ | refine blk_alloc ?_ _)); refine blk_put (cs := #[.int .i64 a1, .int .i64 t253, .int .i64 a2, .int .i64 0]) ?_ 3 _ rfl; (with_reducible repeat (first | refine blk_drewN ?_ _ | refine blk_drew ?_ | refine blk_alloc ?_ _)); refine blk_put (cs := #[.int .i64 a1, .int .i64 t253, .int .i64 0, .int .i64 0]) ?_ 2 _ rfl; (with_reducible repeat (first | refine blk_drewN ?_ _ | refine blk_drew ?_ | refine blk_alloc ?_ _)); refine blk_put (cs := #[.int .i64 a1, .int .i64 0, .int .i64 0, .int .i64 0]) ?_ 1 _ rfl; (with_reducible repeat (first | refine blk_drewN ?_ _ | refine blk_drew ?_ | refine blk_alloc ?_ _)); refine blk_put (cs := #[.int .i64 0, .int .i64 0, .int .i64 0, .int .i64 0]) ?_ 0 _ rfl; (with_reducible repeat (first | refine blk_drewN ?_ _ | refine blk_drew ?_ | refine blk_alloc ?_ _)); exact BK254.out) hb); replace HB := am (below_step (bg2 HB.out GE252.out GE254.out) hb); (try clear hb); (try clear hb2); (try clear hk); (try clear hi); (try clear ho0)) | ((with_reducible refine gate_dst (N := 33) rfl ?_); refine Kd.R_lit k81 _ 81 ?hg (N := 33) ?hd (xs := ([] : List (S81))) (inner := []) (ok := fun _ => True) (okp := fun _ => True) ?hr ?hp (fun _ hk => hk) trivial (Below.refl _ _) (Nat.le_refl _) (by simp) ?_; (case hd => rfl); (case hg => rfl); (case hr => first | (go_simp; done) | (go_simp; rfl)); (case hp => exact (Reps.none _ _)); intro v268 w43 ho44 hb hg_ hnew_; clear hg_ hnew_; (first | rw [← Ny267.out] at ho44 | (simp only [Int.reduceToNat] at ho44; rw [← Ny267.out] at ho44)); have HO269 := am (Kd.R_lower (Kd.R_new' ho44 (Kd.R_lt (pr HO257.out))) (below_size (bg2 HB.out GE252.out GE254.out))); replace HO257 := am (Kd.R_elder' (pr HO257.out) (Kd.R_base ho44) hb); replace BK252 := am (blk_below (pb BK252.out) hb); replace BK254 := am (blk_below (pb BK254.out) hb); replace HB := am (below_step (bg2 HB.out GE252.out GE254.out) hb); clear hb ho44))
   go_ret
   exact ⟨_, rq ⟨by (with_reducible repeat (first | apply Kd.R_alloc | apply Kd.R_drewN | apply Kd.R_drew)); exact Kd.R_mono HO269.out (fun _ hk => trivial), bg2 HB.out GE252.out GE254.out⟩⟩
 subst c7
 have H1 : ((spec_RecOk.f a1 t253 a2 a3).bind fun t260 => (if t260 = true then (if t255.length < 2199023255552 then (some (t255 ++ [(⟨3, 0, 0, t258, (⟨a1, t253, a2, a3⟩ : S30)⟩ : S81)])) else (none)) else (some (([] : List (S81)))))) = some r := by rw [if_pos rfl] at H; exact H
 clear H
 have H := H1
 clear H1
 replace H := Option.bind_eq_some_iff.mp H
 obtain ⟨t260, A80, H⟩ := H
 replace H : (if t260 = true then (if t255.length < 2199023255552 then (some (t255 ++ [(⟨3, 0, 0, t258, (⟨a1, t253, a2, a3⟩ : S30)⟩ : S81)])) else (none)) else (some (([] : List (S81))))) = some r := H
 have A8 := am A80
 clear A80
 by_cases c9 : t260 = true
 rotate_left
 · replace c9 := Bool.eq_false_iff.mpr c9
   subst c9
   have H1 : (some (([] : List (S81)))) = some r := by rw [if_neg (show ¬ (false = true) by decide)] at H; exact H
   clear H
   have H := H1
   clear H1
   obtain ⟨y264, hy264⟩ : ∃ y_ : List (S81), y_ = (([] : List (S81))) := ⟨_, rfl⟩
   replace H : (some y264) = some r := by first | (rw [hy264]; with_reducible exact H) | (have H2_ := (Option.bind_some _ _).symm.trans H; rw [hy264]; with_reducible exact H2_) | (have H2_ := (Option.bind_some _ _).symm.trans H; with_reducible exact H2_) | with_reducible exact H | (rw [hy264]; exact H) | exact H
   have Ny264 := am hy264
   clear hy264
   obtain rfl := Option.some.inj H
   go_enter Try.func38, Try.ntmps38
   go_wp2_with (first | (refine bx 4 #[.slice A0_0 l0_0.length c0_0, .slice A0_1 l0_1.length c0_1] 57 rfl ?_; intro gb252 hg w23 hbox hb; have BK252 := am (hbox); have GW252 := am ((by rw [hg]; exact (below_size (ph HB.out)) : w.heap.size ≤ gb252)); have GE252 := GW252; replace HB := am (below_step (ph HB.out) hb); clear hb hbox hg; obtain ⟨hcz24_0, hcz24_1⟩ := b2 BK252.out; obtain ⟨hfz24_0, hfz24_1⟩ := f2 BK252.out) | (refine gl 16 Try.func44 #[.slice A0_0 l0_0.length c0_0] rfl ?_; (with_reducible refine (spec_l3Next.calls k _ _ l0_0 t253 _ ?side1 ?side2 A5.out).mono ?_); (case side1 => exact pc (Kd.C_below HR0_0.out HB.out)); (case side2 => exact HC0_0.out); rintro e w25 ⟨rfl, hb⟩; refine ⟨_, rfl, ?_⟩; replace BK252 := am (blk_below (pb BK252.out) hb); replace HB := am (below_step (bg1 HB.out GE252.out) hb); (try clear hb); (try clear hb2); (try clear hk); (try clear hi)) | (refine bx 9 #[.int .i64 0, .int .i64 0, .int .i64 0, .int .i64 0] 30 rfl ?_; intro gb254 hg w26 hbox hb; have BK254 := am (hbox); have GW254 := am ((by rw [hg]; exact (below_size (bg1 HB.out GE252.out)) : w.heap.size ≤ gb254)); have GE254 := GW254; replace HB := am (below_step (bg1 HB.out GE252.out) hb); have NB252_254 := am ((by rw [hg]; exact Nat.ne_of_lt (blk_lt (pb BK252.out)) : gb252 ≠ gb254)); have NB254_252 := am (Ne.symm NB252_254.out); replace BK252 := am (blk_below (pb BK252.out) hb); clear hb hbox hg; have hnb27 := NB254_252.out; have hnc27 := NB252_254.out; obtain ⟨hcz28_0, hcz28_1, hcz28_2, hcz28_3⟩ := b4 BK254.out; obtain ⟨hfz28_0, hfz28_1, hfz28_2, hfz28_3⟩ := f4 BK254.out; obtain ⟨hcz29_0, hcz29_1⟩ := b2 BK252.out; obtain ⟨hfz29_0, hfz29_1⟩ := f2 BK252.out) | (refine gl 22 Try.func45 #[.agg #[.slice A0_0 l0_0.length c0_0, .slice A0_1 l0_1.length c0_1]] rfl ?_; (with_reducible refine (spec_l12Room.calls k _ _ l0_0 _ _ l0_1 t255 t258 true _ ?side1 ?side2 ?side3 ?side4 A6.out).mono ?_); (case side1 => exact Kd.C_below HR0_0.out (bg2 HB.out GE252.out GE254.out)); (case side2 => exact HC0_0.out); (case side3 => exact Kd.C_below HR0_1.out (bg2 HB.out GE252.out GE254.out)); (case side4 => exact HC0_1.out); rintro e w30 ⟨v256, rfl, ho0, hb⟩; refine ⟨_, rfl, ?_⟩; have HO257 := am (Kd.R_lower ho0 (below_size (bg2 HB.out GE252.out GE254.out))); replace BK252 := am (blk_below (g := gb252) (o := .cells #[.slice A0_0 l0_0.length c0_0, .slice A0_1 l0_1.length c0_1] 57 (0, 0)) (by (with_reducible repeat (first | refine blk_drewN ?_ _ | refine blk_drew ?_ | refine blk_alloc ?_ _)); refine blk_far ?_ NB252_254.out _; (with_reducible repeat (first | refine blk_drewN ?_ _ | refine blk_drew ?_ | refine blk_alloc ?_ _)); refine blk_far ?_ NB252_254.out _; (with_reducible repeat (first | refine blk_drewN ?_ _ | refine blk_drew ?_ | refine blk_alloc ?_ _)); refine blk_far ?_ NB252_254.out _; (with_reducible repeat (first | refine blk_drewN ?_ _ | refine blk_drew ?_ | refine blk_alloc ?_ _)); refine blk_far ?_ NB252_254.out _; (with_reducible repeat (first | refine blk_drewN ?_ _ | refine blk_drew ?_ | refine blk_alloc ?_ _)); exact BK252.out) hb); replace BK254 := am (blk_below (g := gb254) (o := .cells #[.int .i64 a1, .int .i64 t253, .int .i64 a2, .int .i64 a3] 30 (0, 0)) (by (with_reducible repeat (first | refine blk_drewN ?_ _ | refine blk_drew ?_ | refine blk_alloc ?_ _)); refine blk_put (cs := #[.int .i64 a1, .int .i64 t253, .int .i64 a2, .int .i64 0]) ?_ 3 _ rfl; (with_reducible repeat (first | refine blk_drewN ?_ _ | refine blk_drew ?_ | refine blk_alloc ?_ _)); refine blk_put (cs := #[.int .i64 a1, .int .i64 t253, .int .i64 0, .int .i64 0]) ?_ 2 _ rfl; (with_reducible repeat (first | refine blk_drewN ?_ _ | refine blk_drew ?_ | refine blk_alloc ?_ _)); refine blk_put (cs := #[.int .i64 a1, .int .i64 0, .int .i64 0, .int .i64 0]) ?_ 1 _ rfl; (with_reducible repeat (first | refine blk_drewN ?_ _ | refine blk_drew ?_ | refine blk_alloc ?_ _)); refine blk_put (cs := #[.int .i64 0, .int .i64 0, .int .i64 0, .int .i64 0]) ?_ 0 _ rfl; (with_reducible repeat (first | refine blk_drewN ?_ _ | refine blk_drew ?_ | refine blk_alloc ?_ _)); exact BK254.out) hb); replace HB := am (below_step (bg2 HB.out GE252.out GE254.out) hb); (try clear hb); (try clear hb2); (try clear hk); (try clear hi); (try clear ho0); obtain ⟨hcz31_0, hcz31_1, hcz31_2, hcz31_3⟩ := b4 BK254.out; obtain ⟨hfz31_0, hfz31_1, hfz31_2, hfz31_3⟩ := f4 BK254.out) | (go_at_call 24; (with_reducible refine (spec_RecOk.calls a1 t253 a2 a3 false _ A8.out).mono ?_); rintro e w32 ⟨rfl, hb⟩; replace HO257 := am (Kd.R_below (pr HO257.out) hb); replace BK252 := am (blk_below (pb BK252.out) hb); replace BK254 := am (blk_below (pb BK254.out) hb); replace HB := am (below_step (bg2 HB.out GE252.out GE254.out) hb); (try clear hb); (try clear hb2); (try clear hk); (try clear hi)) | ((with_reducible refine gate_dst (N := 33) rfl ?_); refine Kd.R_lit k81 _ 81 ?hg (N := 33) ?hd (xs := ([] : List (S81))) (inner := []) (ok := fun _ => True) (okp := fun _ => True) ?hr ?hp (fun _ hk => hk) trivial (Below.refl _ _) (Nat.le_refl _) (by simp) ?_; (case hd => rfl); (case hg => rfl); (case hr => first | (go_simp; done) | (go_simp; rfl)); (case hp => exact (Reps.none _ _)); intro v265 w33 ho34 hb hg_ hnew_; clear hg_ hnew_; (first | rw [← Ny264.out] at ho34 | (simp only [Int.reduceToNat] at ho34; rw [← Ny264.out] at ho34)); have HO266 := am (Kd.R_lower (Kd.R_new' ho34 (Kd.R_lt (pr HO257.out))) (below_size (bg2 HB.out GE252.out GE254.out))); replace HO257 := am (Kd.R_elder' (pr HO257.out) (Kd.R_base ho34) hb); replace BK252 := am (blk_below (pb BK252.out) hb); replace BK254 := am (blk_below (pb BK254.out) hb); replace HB := am (below_step (bg2 HB.out GE252.out GE254.out) hb); clear hb ho34))
   go_ret
   exact ⟨_, rq ⟨by (with_reducible repeat (first | apply Kd.R_alloc | apply Kd.R_drewN | apply Kd.R_drew)); exact Kd.R_mono HO266.out (fun _ hk => trivial), bg2 HB.out GE252.out GE254.out⟩⟩
 subst c9
 have H1 : (if t255.length < 2199023255552 then (some (t255 ++ [(⟨3, 0, 0, t258, (⟨a1, t253, a2, a3⟩ : S30)⟩ : S81)])) else (none)) = some r := by rw [if_pos rfl] at H; exact H
 clear H
 have H := H1
 clear H1
 by_cases c10 : t255.length < 2199023255552
 rotate_left
 · rw [if_neg c10] at H
   exact absurd H (by simp)
 rw [if_pos c10] at H
 have LMc10 := am c10
 clear c10
 obtain ⟨y261, hy261⟩ : ∃ y_ : List (S81), y_ = (t255 ++ [(⟨3, 0, 0, t258, (⟨a1, t253, a2, a3⟩ : S30)⟩ : S81)]) := ⟨_, rfl⟩
 replace H : (some y261) = some r := by first | (rw [hy261]; with_reducible exact H) | (have H2_ := (Option.bind_some _ _).symm.trans H; rw [hy261]; with_reducible exact H2_) | (have H2_ := (Option.bind_some _ _).symm.trans H; with_reducible exact H2_) | with_reducible exact H | (rw [hy261]; exact H) | exact H
 have Ny261 := am hy261
 clear hy261
 obtain rfl := Option.some.inj H
 go_enter Try.func38, Try.ntmps38
 go_wp2_with (first | (refine bx 4 #[.slice A0_0 l0_0.length c0_0, .slice A0_1 l0_1.length c0_1] 57 rfl ?_; intro gb252 hg w11 hbox hb; have BK252 := am (hbox); have GW252 := am ((by rw [hg]; exact (below_size (ph HB.out)) : w.heap.size ≤ gb252)); have GE252 := GW252; replace HB := am (below_step (ph HB.out) hb); clear hb hbox hg; obtain ⟨hcz12_0, hcz12_1⟩ := b2 BK252.out; obtain ⟨hfz12_0, hfz12_1⟩ := f2 BK252.out) | (refine gl 16 Try.func44 #[.slice A0_0 l0_0.length c0_0] rfl ?_; (with_reducible refine (spec_l3Next.calls k _ _ l0_0 t253 _ ?side1 ?side2 A5.out).mono ?_); (case side1 => exact pc (Kd.C_below HR0_0.out HB.out)); (case side2 => exact HC0_0.out); rintro e w13 ⟨rfl, hb⟩; refine ⟨_, rfl, ?_⟩; replace BK252 := am (blk_below (pb BK252.out) hb); replace HB := am (below_step (bg1 HB.out GE252.out) hb); (try clear hb); (try clear hb2); (try clear hk); (try clear hi)) | (refine bx 9 #[.int .i64 0, .int .i64 0, .int .i64 0, .int .i64 0] 30 rfl ?_; intro gb254 hg w14 hbox hb; have BK254 := am (hbox); have GW254 := am ((by rw [hg]; exact (below_size (bg1 HB.out GE252.out)) : w.heap.size ≤ gb254)); have GE254 := GW254; replace HB := am (below_step (bg1 HB.out GE252.out) hb); have NB252_254 := am ((by rw [hg]; exact Nat.ne_of_lt (blk_lt (pb BK252.out)) : gb252 ≠ gb254)); have NB254_252 := am (Ne.symm NB252_254.out); replace BK252 := am (blk_below (pb BK252.out) hb); clear hb hbox hg; have hnb15 := NB254_252.out; have hnc15 := NB252_254.out; obtain ⟨hcz16_0, hcz16_1, hcz16_2, hcz16_3⟩ := b4 BK254.out; obtain ⟨hfz16_0, hfz16_1, hfz16_2, hfz16_3⟩ := f4 BK254.out; obtain ⟨hcz17_0, hcz17_1⟩ := b2 BK252.out; obtain ⟨hfz17_0, hfz17_1⟩ := f2 BK252.out) | (refine gl 22 Try.func45 #[.agg #[.slice A0_0 l0_0.length c0_0, .slice A0_1 l0_1.length c0_1]] rfl ?_; (with_reducible refine (spec_l12Room.calls k _ _ l0_0 _ _ l0_1 t255 t258 true _ ?side1 ?side2 ?side3 ?side4 A6.out).mono ?_); (case side1 => exact Kd.C_below HR0_0.out (bg2 HB.out GE252.out GE254.out)); (case side2 => exact HC0_0.out); (case side3 => exact Kd.C_below HR0_1.out (bg2 HB.out GE252.out GE254.out)); (case side4 => exact HC0_1.out); rintro e w18 ⟨v256, rfl, ho0, hb⟩; refine ⟨_, rfl, ?_⟩; have HO257 := am (Kd.R_lower ho0 (below_size (bg2 HB.out GE252.out GE254.out))); replace BK252 := am (blk_below (g := gb252) (o := .cells #[.slice A0_0 l0_0.length c0_0, .slice A0_1 l0_1.length c0_1] 57 (0, 0)) (by (with_reducible repeat (first | refine blk_drewN ?_ _ | refine blk_drew ?_ | refine blk_alloc ?_ _)); refine blk_far ?_ NB252_254.out _; (with_reducible repeat (first | refine blk_drewN ?_ _ | refine blk_drew ?_ | refine blk_alloc ?_ _)); refine blk_far ?_ NB252_254.out _; (with_reducible repeat (first | refine blk_drewN ?_ _ | refine blk_drew ?_ | refine blk_alloc ?_ _)); refine blk_far ?_ NB252_254.out _; (with_reducible repeat (first | refine blk_drewN ?_ _ | refine blk_drew ?_ | refine blk_alloc ?_ _)); refine blk_far ?_ NB252_254.out _; (with_reducible repeat (first | refine blk_drewN ?_ _ | refine blk_drew ?_ | refine blk_alloc ?_ _)); exact BK252.out) hb); replace BK254 := am (blk_below (g := gb254) (o := .cells #[.int .i64 a1, .int .i64 t253, .int .i64 a2, .int .i64 a3] 30 (0, 0)) (by (with_reducible repeat (first | refine blk_drewN ?_ _ | refine blk_drew ?_ | refine blk_alloc ?_ _)); refine blk_put (cs := #[.int .i64 a1, .int .i64 t253, .int .i64 a2, .int .i64 0]) ?_ 3 _ rfl; (with_reducible repeat (first | refine blk_drewN ?_ _ | refine blk_drew ?_ | refine blk_alloc ?_ _)); refine blk_put (cs := #[.int .i64 a1, .int .i64 t253, .int .i64 0, .int .i64 0]) ?_ 2 _ rfl; (with_reducible repeat (first | refine blk_drewN ?_ _ | refine blk_drew ?_ | refine blk_alloc ?_ _)); refine blk_put (cs := #[.int .i64 a1, .int .i64 0, .int .i64 0, .int .i64 0]) ?_ 1 _ rfl; (with_reducible repeat (first | refine blk_drewN ?_ _ | refine blk_drew ?_ | refine blk_alloc ?_ _)); refine blk_put (cs := #[.int .i64 0, .int .i64 0, .int .i64 0, .int .i64 0]) ?_ 0 _ rfl; (with_reducible repeat (first | refine blk_drewN ?_ _ | refine blk_drew ?_ | refine blk_alloc ?_ _)); exact BK254.out) hb); replace HB := am (below_step (bg2 HB.out GE252.out GE254.out) hb); (try clear hb); (try clear hb2); (try clear hk); (try clear hi); (try clear ho0); obtain ⟨hcz19_0, hcz19_1, hcz19_2, hcz19_3⟩ := b4 BK254.out; obtain ⟨hfz19_0, hfz19_1, hfz19_2, hfz19_3⟩ := f4 BK254.out) | (go_at_call 24; (with_reducible refine (spec_RecOk.calls a1 t253 a2 a3 true _ A8.out).mono ?_); rintro e w20 ⟨rfl, hb⟩; replace HO257 := am (Kd.R_below (pr HO257.out) hb); replace BK252 := am (blk_below (pb BK252.out) hb); replace BK254 := am (blk_below (pb BK254.out) hb); replace HB := am (below_step (bg2 HB.out GE252.out GE254.out) hb); (try clear hb); (try clear hb2); (try clear hk); (try clear hi); obtain ⟨hcz21_0, hcz21_1, hcz21_2, hcz21_3⟩ := b4 BK254.out; obtain ⟨hfz21_0, hfz21_1, hfz21_2, hfz21_3⟩ := f4 BK254.out) | ((with_reducible refine gate_builtin (b := .append) (xs := #[.tmp 34, .tmp 38]) rfl ?_); at_builtin; refine Kd.R_append k81 (w0 := w) w.heap.size rfl (.tmp 34) (.tmp 38) 73 81 (.agg #[(.int .i64 0), (.int .i64 0), (.int .i64 0), (.int .i64 0), (.int .i64 0), (.int .i64 0), (.int .i64 0), (.int .i64 0)]) 64 rfl Try.underlying73 info81 rfl (by decide) (by omega) v256 t255 (⟨3, 0, 0, t258, (⟨a1, t253, a2, a3⟩ : S30)⟩ : S81) [.int .i64 3, .int .i64 0, .int .i64 0, .int .i64 t258, .int .i64 a1, .int .i64 t253, .int .i64 a2, .int .i64 a3] (fun _ => True) (fun _ => False) rfl rfl ?aP (fun _ hk => hk.elim) ?aF ?aO ?aB ?aS ?aL ?_; (case aP => exact k81_mkM _ _ _ (⟨3, 0, 0, t258, (⟨a1, t253, a2, a3⟩ : S30)⟩ : S81)); (case aB => exact (bg2 HB.out GE252.out GE254.out)); (case aF => exact (fun _ _ => trivial)); (case aO => exact (pr HO257.out)); (case aS => exact (below_size (bg2 HB.out GE252.out GE254.out))); (case aL => have := LMc10.out; omega); intro v262 w22 ho hb hg hat; rw [← Ny261.out] at ho; replace BK252 := am (blk_grown (g := gb252) (o := .cells #[.slice A0_0 l0_0.length c0_0, .slice A0_1 l0_1.length c0_1] 57 (0, 0)) (pb BK252.out) hg (Kd.R_ne HO257.out BK252.out (by decide))); replace BK254 := am (blk_grown (g := gb254) (o := .cells #[.int .i64 a1, .int .i64 t253, .int .i64 a2, .int .i64 a3] 30 (0, 0)) (pb BK254.out) hg (Kd.R_ne HO257.out BK254.out (by decide))); replace HB := am (hb); have HO263 := am (ho); clear HO257; clear ho hb hg hat))
 go_ret
 exact ⟨_, rq ⟨pr HO263.out, bg2 HB.out GE252.out GE254.out⟩⟩
def spec_l11Dirty.f (k : Nat) (l0_0 : List (S35)) (l0_1 : List Int) (a1 : Int) : Option (Bool) := (spec_l3Last.f k l0_0 a1).bind fun bt271 => (if bt271.2.2.2.2 = true then (some (bt271.1 == 1)) else (some false))
theorem spec_l11Dirty.mono : ∀ a0 a1 a2 k, LeO (spec_l11Dirty.f k a0 a1 a2) (spec_l11Dirty.f (k + 1) a0 a1 a2) := by
 intro a0 a1 a2 k
 unfold spec_l11Dirty.f
 repeat' first
  | (with_reducible exact spec_l3Last.mono _ _ _)
  | (with_reducible exact LeO.refl _)
  | (with_reducible exact LeO.none _)
  | (with_reducible refine LeO.ite ?_ ?_)
  | (with_reducible refine LeO.bind ?_ (fun _ => ?_))
  | exact spec_l3Last.mono _ _ _
  | exact LeO.none _
  | refine LeO.ite ?_ ?_
  | refine LeO.bind ?_ (fun _ => ?_)
set_option maxHeartbeats 8000000 in
set_option maxRecDepth 100000 in
theorem spec_l11Dirty.calls (k : Nat) (A0_0 : Option Addr) (c0_0 : Nat) (l0_0 : List (S35)) (A0_1 : Option Addr) (c0_1 : Nat) (l0_1 : List Int) (a1 : Int) (r : Bool) (w : World) (hr0_0 : Kd.C k35 w A0_0 l0_0.length l0_0) (hc0_0 : l0_0.length ≤ c0_0) (hr0_1 : Kd.C (Kd.int .i64) w A0_1 l0_1.length l0_1) (hc0_1 : l0_1.length ≤ c0_1) (h : spec_l11Dirty.f k l0_0 l0_1 a1 = some r) :
 Calls Try.prog 40 #[.agg #[.slice A0_0 l0_0.length c0_0, .slice A0_1 l0_1.length c0_1], .int .i64 a1] w fun e w' => e = .returned (.bool r) ∧ Below w.heap.size w w' := by
 have hu57 := Try.underlying57
 have hu30 := Try.underlying30
 have HR0_0 := am hr0_0
 have HC0_0 := am hc0_0
 clear hr0_0 hc0_0
 have HR0_1 := am hr0_1
 have HC0_1 := am hc0_1
 clear hr0_1 hc0_1
 have HB := am (Below.refl w.heap.size w)
 have H : ((spec_l3Last.f k l0_0 a1).bind fun bt271 => (if bt271.2.2.2.2 = true then (some (bt271.1 == 1)) else (some false))) = some r := h
 clear h
 replace H := Option.bind_eq_some_iff.mp H
 obtain ⟨⟨t271, t272, t273, t274, t275⟩, A30, H⟩ := H
 replace H : (if t275 = true then (some (t271 == 1)) else (some false)) = some r := H
 have A3 := am A30
 clear A30
 by_cases c4 : t275 = true
 · subst c4
   have H1 : (some (t271 == 1)) = some r := by rw [if_pos rfl] at H; exact H
   clear H
   have H := H1
   clear H1
   obtain rfl := Option.some.inj H
   go_enter Try.func40, Try.ntmps40
   go_wp2_with (first | (refine bx 2 #[.slice A0_0 l0_0.length c0_0, .slice A0_1 l0_1.length c0_1] 57 rfl ?_; intro gb270 hg w5 hbox hb; have BK270 := am (hbox); have GW270 := am ((by rw [hg]; exact (below_size (ph HB.out)) : w.heap.size ≤ gb270)); have GE270 := GW270; replace HB := am (below_step (ph HB.out) hb); clear hb hbox hg; obtain ⟨hcz6_0, hcz6_1⟩ := b2 BK270.out; obtain ⟨hfz6_0, hfz6_1⟩ := f2 BK270.out) | (refine gl 11 Try.func23 #[.slice A0_0 l0_0.length c0_0, .int .i64 a1] rfl ?_; (with_reducible refine (spec_l3Last.calls k _ _ l0_0 a1 t271 t272 t273 t274 true _ ?side1 ?side2 A3.out).mono ?_); (case side1 => exact pc (Kd.C_below HR0_0.out HB.out)); (case side2 => exact HC0_0.out); rintro e w7 ⟨rfl, hb⟩; refine ⟨_, rfl, ?_⟩; replace BK270 := am (blk_below (pb BK270.out) hb); replace HB := am (below_step (bg1 HB.out GE270.out) hb); (try clear hb); (try clear hb2); (try clear hk); (try clear hi)) | (refine bx 5 #[.int .i64 0, .int .i64 0, .int .i64 0, .int .i64 0] 30 rfl ?_; intro gb276 hg w8 hbox hb; have BK276 := am (hbox); have GW276 := am ((by rw [hg]; exact (below_size (bg1 HB.out GE270.out)) : w.heap.size ≤ gb276)); have GE276 := GW276; replace HB := am (below_step (bg1 HB.out GE270.out) hb); have NB270_276 := am ((by rw [hg]; exact Nat.ne_of_lt (blk_lt (pb BK270.out)) : gb270 ≠ gb276)); have NB276_270 := am (Ne.symm NB270_276.out); replace BK270 := am (blk_below (pb BK270.out) hb); clear hb hbox hg; have hnb9 := NB276_270.out; have hnc9 := NB270_276.out; obtain ⟨hcz10_0, hcz10_1, hcz10_2, hcz10_3⟩ := b4 BK276.out; obtain ⟨hfz10_0, hfz10_1, hfz10_2, hfz10_3⟩ := f4 BK276.out))
   go_ret
   exact (rq (bg2 HB.out GE270.out GE276.out))
 replace c4 := Bool.eq_false_iff.mpr c4
 subst c4
 have H1 : (some false) = some r := by rw [if_neg (show ¬ (false = true) by decide)] at H; exact H
 clear H
 have H := H1
 clear H1
 obtain rfl := Option.some.inj H
 go_enter Try.func40, Try.ntmps40
 go_wp2_with (first | (refine bx 2 #[.slice A0_0 l0_0.length c0_0, .slice A0_1 l0_1.length c0_1] 57 rfl ?_; intro gb270 hg w11 hbox hb; have BK270 := am (hbox); have GW270 := am ((by rw [hg]; exact (below_size (ph HB.out)) : w.heap.size ≤ gb270)); have GE270 := GW270; replace HB := am (below_step (ph HB.out) hb); clear hb hbox hg; obtain ⟨hcz12_0, hcz12_1⟩ := b2 BK270.out; obtain ⟨hfz12_0, hfz12_1⟩ := f2 BK270.out) | (refine gl 11 Try.func23 #[.slice A0_0 l0_0.length c0_0, .int .i64 a1] rfl ?_; (with_reducible refine (spec_l3Last.calls k _ _ l0_0 a1 t271 t272 t273 t274 false _ ?side1 ?side2 A3.out).mono ?_); (case side1 => exact pc (Kd.C_below HR0_0.out HB.out)); (case side2 => exact HC0_0.out); rintro e w13 ⟨rfl, hb⟩; refine ⟨_, rfl, ?_⟩; replace BK270 := am (blk_below (pb BK270.out) hb); replace HB := am (below_step (bg1 HB.out GE270.out) hb); (try clear hb); (try clear hb2); (try clear hk); (try clear hi)) | (refine bx 5 #[.int .i64 0, .int .i64 0, .int .i64 0, .int .i64 0] 30 rfl ?_; intro gb276 hg w14 hbox hb; have BK276 := am (hbox); have GW276 := am ((by rw [hg]; exact (below_size (bg1 HB.out GE270.out)) : w.heap.size ≤ gb276)); have GE276 := GW276; replace HB := am (below_step (bg1 HB.out GE270.out) hb); have NB270_276 := am ((by rw [hg]; exact Nat.ne_of_lt (blk_lt (pb BK270.out)) : gb270 ≠ gb276)); have NB276_270 := am (Ne.symm NB270_276.out); replace BK270 := am (blk_below (pb BK270.out) hb); clear hb hbox hg; have hnb15 := NB276_270.out; have hnc15 := NB270_276.out; obtain ⟨hcz16_0, hcz16_1, hcz16_2, hcz16_3⟩ := b4 BK276.out; obtain ⟨hfz16_0, hfz16_1, hfz16_2, hfz16_3⟩ := f4 BK276.out))
 go_ret
 exact (rq (bg2 HB.out GE270.out GE276.out))
def spec_l11Read.f (k : Nat) (l0_0 : List (S35)) (l0_1 : List Int) (a1 : Int) : Option (Int) := (spec_l3Last.f k l0_0 a1).bind fun bt278 => (if bt278.2.2.2.2 = true then (some bt278.2.2.2.1) else (if 0 ≤ (wrap64 (a1 - 1)) then (if (wrap64 (a1 - 1)) < (l0_1.length : Int) then (some (rd l0_1 (wrap64 (a1 - 1)))) else (none)) else (none)))
theorem spec_l11Read.mono : ∀ a0 a1 a2 k, LeO (spec_l11Read.f k a0 a1 a2) (spec_l11Read.f (k + 1) a0 a1 a2) := by
 intro a0 a1 a2 k
 unfold spec_l11Read.f
 repeat' first
  | (with_reducible exact spec_l3Last.mono _ _ _)
  | (with_reducible exact LeO.refl _)
  | (with_reducible exact LeO.none _)
  | (with_reducible refine LeO.ite ?_ ?_)
  | (with_reducible refine LeO.bind ?_ (fun _ => ?_))
  | exact spec_l3Last.mono _ _ _
  | exact LeO.none _
  | refine LeO.ite ?_ ?_
  | refine LeO.bind ?_ (fun _ => ?_)
set_option maxHeartbeats 8000000 in
set_option maxRecDepth 100000 in
theorem spec_l11Read.calls (k : Nat) (A0_0 : Option Addr) (c0_0 : Nat) (l0_0 : List (S35)) (A0_1 : Option Addr) (c0_1 : Nat) (l0_1 : List Int) (a1 : Int) (r : Int) (w : World) (hr0_0 : Kd.C k35 w A0_0 l0_0.length l0_0) (hc0_0 : l0_0.length ≤ c0_0) (hr0_1 : Kd.C (Kd.int .i64) w A0_1 l0_1.length l0_1) (hc0_1 : l0_1.length ≤ c0_1) (h : spec_l11Read.f k l0_0 l0_1 a1 = some r) :
 Calls Try.prog 41 #[.agg #[.slice A0_0 l0_0.length c0_0, .slice A0_1 l0_1.length c0_1], .int .i64 a1] w fun e w' => e = .returned (.int .i64 r) ∧ Below w.heap.size w w' := by
 have hu57 := Try.underlying57
 have hu30 := Try.underlying30
 have HR0_0 := am hr0_0
 have HC0_0 := am hc0_0
 clear hr0_0 hc0_0
 have HR0_1 := am hr0_1
 have HC0_1 := am hc0_1
 clear hr0_1 hc0_1
 have HB := am (Below.refl w.heap.size w)
 have H : ((spec_l3Last.f k l0_0 a1).bind fun bt278 => (if bt278.2.2.2.2 = true then (some bt278.2.2.2.1) else (if 0 ≤ (wrap64 (a1 - 1)) then (if (wrap64 (a1 - 1)) < (l0_1.length : Int) then (some (rd l0_1 (wrap64 (a1 - 1)))) else (none)) else (none)))) = some r := h
 clear h
 replace H := Option.bind_eq_some_iff.mp H
 obtain ⟨⟨t278, t279, t280, t281, t282⟩, A30, H⟩ := H
 replace H : (if t282 = true then (some t281) else (if 0 ≤ (wrap64 (a1 - 1)) then (if (wrap64 (a1 - 1)) < (l0_1.length : Int) then (some (rd l0_1 (wrap64 (a1 - 1)))) else (none)) else (none))) = some r := H
 have A3 := am A30
 clear A30
 by_cases c4 : t282 = true
 · subst c4
   have H1 : (some t281) = some r := by rw [if_pos rfl] at H; exact H
   clear H
   have H := H1
   clear H1
   obtain rfl := Option.some.inj H
   go_enter Try.func41, Try.ntmps41
   go_wp2_with (first | (refine bx 2 #[.slice A0_0 l0_0.length c0_0, .slice A0_1 l0_1.length c0_1] 57 rfl ?_; intro gb277 hg w5 hbox hb; have BK277 := am (hbox); have GW277 := am ((by rw [hg]; exact (below_size (ph HB.out)) : w.heap.size ≤ gb277)); have GE277 := GW277; replace HB := am (below_step (ph HB.out) hb); clear hb hbox hg; obtain ⟨hcz6_0, hcz6_1⟩ := b2 BK277.out; obtain ⟨hfz6_0, hfz6_1⟩ := f2 BK277.out) | (refine gl 11 Try.func23 #[.slice A0_0 l0_0.length c0_0, .int .i64 a1] rfl ?_; (with_reducible refine (spec_l3Last.calls k _ _ l0_0 a1 t278 t279 t280 t281 true _ ?side1 ?side2 A3.out).mono ?_); (case side1 => exact pc (Kd.C_below HR0_0.out HB.out)); (case side2 => exact HC0_0.out); rintro e w7 ⟨rfl, hb⟩; refine ⟨_, rfl, ?_⟩; replace BK277 := am (blk_below (pb BK277.out) hb); replace HB := am (below_step (bg1 HB.out GE277.out) hb); (try clear hb); (try clear hb2); (try clear hk); (try clear hi)) | (refine bx 5 #[.int .i64 0, .int .i64 0, .int .i64 0, .int .i64 0] 30 rfl ?_; intro gb283 hg w8 hbox hb; have BK283 := am (hbox); have GW283 := am ((by rw [hg]; exact (below_size (bg1 HB.out GE277.out)) : w.heap.size ≤ gb283)); have GE283 := GW283; replace HB := am (below_step (bg1 HB.out GE277.out) hb); have NB277_283 := am ((by rw [hg]; exact Nat.ne_of_lt (blk_lt (pb BK277.out)) : gb277 ≠ gb283)); have NB283_277 := am (Ne.symm NB277_283.out); replace BK277 := am (blk_below (pb BK277.out) hb); clear hb hbox hg; have hnb9 := NB283_277.out; have hnc9 := NB277_283.out; obtain ⟨hcz10_0, hcz10_1, hcz10_2, hcz10_3⟩ := b4 BK283.out; obtain ⟨hfz10_0, hfz10_1, hfz10_2, hfz10_3⟩ := f4 BK283.out))
   go_ret
   exact (rq (bg2 HB.out GE277.out GE283.out))
 replace c4 := Bool.eq_false_iff.mpr c4
 subst c4
 have H1 : (if 0 ≤ (wrap64 (a1 - 1)) then (if (wrap64 (a1 - 1)) < (l0_1.length : Int) then (some (rd l0_1 (wrap64 (a1 - 1)))) else (none)) else (none)) = some r := by rw [if_neg (show ¬ (false = true) by decide)] at H; exact H
 clear H
 have H := H1
 clear H1
 obtain ⟨ji11, hji11⟩ : ∃ j_ : Int, (wrap64 (a1 - 1)) = j_ := ⟨_, rfl⟩
 replace H : (if 0 ≤ (ji11) then (if (ji11) < (l0_1.length : Int) then (some (rd l0_1 (ji11))) else (none)) else (none)) = some r := by first | (rw [hji11] at H; exact H) | (simp only [hji11] at H ⊢; exact H)
 (try rw [hji11] at A3)
 have hji11w : (IntKind.i64.wrap (a1 - 1)) = ji11 := (i64_w _).trans hji11
 by_cases c12 : 0 ≤ (ji11)
 rotate_left
 · rw [if_neg c12] at H
   exact absurd H (by simp)
 rw [if_pos c12] at H
 have c12b0 := decide_eq_true c12
 clear c12
 by_cases c13 : (ji11) < (l0_1.length : Int)
 rotate_left
 · rw [if_neg c13] at H
   exact absurd H (by simp)
 rw [if_pos c13] at H
 have c13b0 := decide_eq_true c13
 clear c13
 obtain rfl := Option.some.inj H
 go_enter Try.func41, Try.ntmps41
 go_wp2_with (first | (refine bx 2 #[.slice A0_0 l0_0.length c0_0, .slice A0_1 l0_1.length c0_1] 57 rfl ?_; intro gb277 hg w14 hbox hb; have BK277 := am (hbox); have GW277 := am ((by rw [hg]; exact (below_size (ph HB.out)) : w.heap.size ≤ gb277)); have GE277 := GW277; replace HB := am (below_step (ph HB.out) hb); clear hb hbox hg; obtain ⟨hcz15_0, hcz15_1⟩ := b2 BK277.out; obtain ⟨hfz15_0, hfz15_1⟩ := f2 BK277.out) | (refine gl 11 Try.func23 #[.slice A0_0 l0_0.length c0_0, .int .i64 a1] rfl ?_; (with_reducible refine (spec_l3Last.calls k _ _ l0_0 a1 t278 t279 t280 t281 false _ ?side1 ?side2 A3.out).mono ?_); (case side1 => exact pc (Kd.C_below HR0_0.out HB.out)); (case side2 => exact HC0_0.out); rintro e w16 ⟨rfl, hb⟩; refine ⟨_, rfl, ?_⟩; replace BK277 := am (blk_below (pb BK277.out) hb); replace HB := am (below_step (bg1 HB.out GE277.out) hb); (try clear hb); (try clear hb2); (try clear hk); (try clear hi)) | (refine bx 5 #[.int .i64 0, .int .i64 0, .int .i64 0, .int .i64 0] 30 rfl ?_; intro gb283 hg w17 hbox hb; have BK283 := am (hbox); have GW283 := am ((by rw [hg]; exact (below_size (bg1 HB.out GE277.out)) : w.heap.size ≤ gb283)); have GE283 := GW283; replace HB := am (below_step (bg1 HB.out GE277.out) hb); have NB277_283 := am ((by rw [hg]; exact Nat.ne_of_lt (blk_lt (pb BK277.out)) : gb277 ≠ gb283)); have NB283_277 := am (Ne.symm NB277_283.out); replace BK277 := am (blk_below (pb BK277.out) hb); clear hb hbox hg; have hnb18 := NB283_277.out; have hnc18 := NB277_283.out; obtain ⟨hcz19_0, hcz19_1, hcz19_2, hcz19_3⟩ := b4 BK283.out; obtain ⟨hfz19_0, hfz19_1, hfz19_2, hfz19_3⟩ := f4 BK283.out; obtain ⟨hcz20_0, hcz20_1⟩ := b2 BK277.out; obtain ⟨hfz20_0, hfz20_1⟩ := f2 BK277.out; have p284 : 0 ≤ ((ji11) : Int) := ofb; have q284 : (ji11) < (l0_1.length : Int) := ofb; obtain ⟨ad284, e284, hx284_0⟩ := Kd.at_int HR0_1.out (ji11) p284 q284; cases e284; have hn284_0 : ad284.block ≠ gb283 := Nat.ne_of_lt (Nat.lt_of_lt_of_le (by have := World.block_lt_of_cell? _ _ hx284_0; first | rwa [add_block] at this | exact this) GW283.out); have hn284_1 : ad284.block ≠ gb283 := Nat.ne_of_lt (Nat.lt_of_lt_of_le (by have := World.block_lt_of_cell? _ _ hx284_0; first | rwa [add_block] at this | exact this) GW283.out); have hn284_2 : ad284.block ≠ gb283 := Nat.ne_of_lt (Nat.lt_of_lt_of_le (by have := World.block_lt_of_cell? _ _ hx284_0; first | rwa [add_block] at this | exact this) GW283.out); have hn284_3 : ad284.block ≠ gb283 := Nat.ne_of_lt (Nat.lt_of_lt_of_le (by have := World.block_lt_of_cell? _ _ hx284_0; first | rwa [add_block] at this | exact this) GW283.out); replace hx284_0 := up HB.out hx284_0; replace hx284_0 := (cell_far (p := ⟨gb283, 0, none⟩) (by first | (rw [add_block]; exact hn284_0) | (show (Addr.add _ _).block ≠ _; rw [add_block]; exact hn284_0) | exact hn284_0) (.int .i64 t278)).trans hx284_0; replace hx284_0 := (cell_far (p := ⟨gb283, 1, none⟩) (by first | (rw [add_block]; exact hn284_1) | (show (Addr.add _ _).block ≠ _; rw [add_block]; exact hn284_1) | exact hn284_1) (.int .i64 t279)).trans hx284_0; replace hx284_0 := (cell_far (p := ⟨gb283, 2, none⟩) (by first | (rw [add_block]; exact hn284_2) | (show (Addr.add _ _).block ≠ _; rw [add_block]; exact hn284_2) | exact hn284_2) (.int .i64 t280)).trans hx284_0; replace hx284_0 := (cell_far (p := ⟨gb283, 3, none⟩) (by first | (rw [add_block]; exact hn284_3) | (show (Addr.add _ _).block ≠ _; rw [add_block]; exact hn284_3) | exact hn284_3) (.int .i64 t281)).trans hx284_0; clear hn284_0; clear hn284_1; clear hn284_2; clear hn284_3; replace p284 := eq_true p284; replace q284 := eq_true q284))
 go_ret
 exact ⟨by first | rfl | (simp [errW_none, errW_some] <;> rfl) | (simp only [← hji11]; first | rfl | (simp [errW_none, errW_some] <;> rfl)) | (simp [*, errW_none, errW_some] <;> rfl), bg2 HB.out GE277.out GE283.out⟩
def spec_l12Flush.j0 : Nat → Int → Bool → List (S35) → List Int → Option ((List (S81)))
 | 0, _, _, _, _ => none
 | k + 1, x1, x15, x286000, x286001 => if x15 = true then (some (([] : List (S81)))) else ((spec_l11Read.f k x286000 x286001 x1).bind fun t291 => ((spec_l12Write.f k x286000 x286001 2 x1 t291).bind fun t292 => (if (t292.length : Int) = 0 then (some t292) else ((some (([(⟨1, x1, t291, 0, (⟨0, 0, 0, 0⟩ : S30)⟩ : S81)] : List (S81)) : List (S81))).bind fun y295 => (if y295.length + t292.length < 2199023255552 then (some (y295 ++ t292)) else (none))))))
def spec_l12Flush.f (k : Nat) (l0_0 : List (S35)) (l0_1 : List Int) (a1 : Int) : Option ((List (S81))) := (spec_l6In.f a1 1 6).bind fun t286 => (if t286 = true then ((spec_l11Dirty.f k l0_0 l0_1 a1).bind fun t287 => (spec_l12Flush.j0 k a1 (!t287) l0_0 l0_1)) else (spec_l12Flush.j0 k a1 true l0_0 l0_1))
theorem spec_l12Flush.mono_l : ∀ k, (∀ y0 y1 y2 y3, LeO (spec_l12Flush.j0 k y0 y1 y2 y3) (spec_l12Flush.j0 (k + 1) y0 y1 y2 y3))
 | 0 => fun _ _ _ _ r h => by simp [spec_l12Flush.j0] at h
 | k + 1 => by
  have ih0 := spec_l12Flush.mono_l k
  · intro y0 y1 y2 y3
    unfold spec_l12Flush.j0
    repeat' first
    | (with_reducible exact ih0 _ _ _ _)
    | (with_reducible exact spec_l11Dirty.mono _ _ _ _)
    | (with_reducible exact spec_l11Read.mono _ _ _ _)
    | (with_reducible exact spec_l12Write.mono _ _ _ _ _ _)
    | (with_reducible exact LeO.refl _)
    | (with_reducible exact LeO.none _)
    | (with_reducible refine LeO.ite ?_ ?_)
    | (with_reducible refine LeO.bind ?_ (fun _ => ?_))
    | exact ih0 _ _ _ _
    | exact spec_l11Dirty.mono _ _ _ _
    | exact spec_l11Read.mono _ _ _ _
    | exact spec_l12Write.mono _ _ _ _ _ _
    | exact LeO.none _
    | refine LeO.ite ?_ ?_
    | refine LeO.bind ?_ (fun _ => ?_)
theorem spec_l12Flush.mono : ∀ a0 a1 a2 k, LeO (spec_l12Flush.f k a0 a1 a2) (spec_l12Flush.f (k + 1) a0 a1 a2) := by
 intro a0 a1 a2 k
 have ih0 := spec_l12Flush.mono_l k
 unfold spec_l12Flush.f
 repeat' first
  | (with_reducible exact ih0 _ _ _ _)
  | (with_reducible exact spec_l11Dirty.mono _ _ _ _)
  | (with_reducible exact spec_l11Read.mono _ _ _ _)
  | (with_reducible exact spec_l12Write.mono _ _ _ _ _ _)
  | (with_reducible exact LeO.refl _)
  | (with_reducible exact LeO.none _)
  | (with_reducible refine LeO.ite ?_ ?_)
  | (with_reducible refine LeO.bind ?_ (fun _ => ?_))
  | exact ih0 _ _ _ _
  | exact spec_l11Dirty.mono _ _ _ _
  | exact spec_l11Read.mono _ _ _ _
  | exact spec_l12Write.mono _ _ _ _ _ _
  | exact LeO.none _
  | refine LeO.ite ?_ ?_
  | refine LeO.bind ?_ (fun _ => ?_)
set_option maxHeartbeats 8000000 in
set_option maxRecDepth 100000 in
theorem spec_l12Flush.calls (k : Nat) (A0_0 : Option Addr) (c0_0 : Nat) (l0_0 : List (S35)) (A0_1 : Option Addr) (c0_1 : Nat) (l0_1 : List Int) (a1 : Int) (r : List (S81)) (w : World) (hr0_0 : Kd.C k35 w A0_0 l0_0.length l0_0) (hc0_0 : l0_0.length ≤ c0_0) (hr0_1 : Kd.C (Kd.int .i64) w A0_1 l0_1.length l0_1) (hc0_1 : l0_1.length ≤ c0_1) (h : spec_l12Flush.f k l0_0 l0_1 a1 = some r) :
 Calls Try.prog 36 #[.agg #[.slice A0_0 l0_0.length c0_0, .slice A0_1 l0_1.length c0_1], .int .i64 a1] w fun e w' => ∃ v0_ : Value, e = .returned (v0_) ∧ Kd.R k81 81 w' w.heap.size (fun _ => True) v0_ r ∧ Below w.heap.size w w' := by
 have hu57 := Try.underlying57
 have hu81 := Try.underlying81
 have HR0_0 := am hr0_0
 have HC0_0 := am hc0_0
 clear hr0_0 hc0_0
 have HR0_1 := am hr0_1
 have HC0_1 := am hc0_1
 clear hr0_1 hc0_1
 have HB := am (Below.refl w.heap.size w)
 have H : ((spec_l6In.f a1 1 6).bind fun t286 => (if t286 = true then ((spec_l11Dirty.f k l0_0 l0_1 a1).bind fun t287 => (spec_l12Flush.j0 k a1 (!t287) l0_0 l0_1)) else (spec_l12Flush.j0 k a1 true l0_0 l0_1))) = some r := h
 clear h
 have HC3 := am H
 clear H
 go_enter Try.func36, Try.ntmps36
 go_upto_region 1 with (first | (refine bx 2 #[.slice A0_0 l0_0.length c0_0, .slice A0_1 l0_1.length c0_1] 57 rfl ?_; intro gb285 hg w4 hbox hb; have BK285 := am (hbox); have GW285 := am ((by rw [hg]; exact (below_size (ph HB.out)) : w.heap.size ≤ gb285)); have GE285 := GW285; replace HB := am (below_step (ph HB.out) hb); clear hb hbox hg))
 (try simp only [Act.put, List.setIfInBounds_toArray, List.set_cons_zero, List.set_cons_succ])
 go_cut [15] (fun v15 wc => ∃ (kq : Nat) (x15_2 : Bool), v15 = .bool x15_2 ∧ Aside0 (spec_l12Flush.j0 kq a1 x15_2 l0_0 l0_1 = some r) ∧ Aside0 (kq ≤ k) ∧ Aside0 (wc.heap[gb285]? = some (.cells #[(.slice A0_0 l0_0.length c0_0), (.slice A0_1 l0_1.length c0_1)] 57 (0, 0))) ∧ Aside0 (Below w.heap.size w wc))
 case first =>
  have H := HC3.out
  clear HC3
  replace H := Option.bind_eq_some_iff.mp H
  obtain ⟨t286, A50, H⟩ := H
  replace H : (if t286 = true then ((spec_l11Dirty.f k l0_0 l0_1 a1).bind fun t287 => (spec_l12Flush.j0 k a1 (!t287) l0_0 l0_1)) else (spec_l12Flush.j0 k a1 true l0_0 l0_1)) = some r := H
  have A5 := am A50
  clear A50
  by_cases c6 : t286 = true
  rotate_left
  · replace c6 := Bool.eq_false_iff.mpr c6
    subst c6
    have H1 : (spec_l12Flush.j0 k a1 true l0_0 l0_1) = some r := by rw [if_neg (show ¬ (false = true) by decide)] at H; exact H
    clear H
    have H := H1
    clear H1
    have H' := am H
    clear H
    go_wp2_with (first | (refine gl 8 Try.func14 #[.int .i64 a1, .int .i64 1, .int .i64 6] rfl ?_; (with_reducible refine (spec_l6In.calls a1 1 6 false _ A5.out).mono ?_); rintro e w' ⟨rfl, ⟨nd, rfl⟩⟩; refine ⟨_, rfl, ?_⟩))
    go_meet
    case rel => exact ⟨_, (true), rf, H', ⟨by first | omega | exact Nat.le_refl _⟩, ⟨pb BK285.out⟩, ⟨bg1 HB.out GE285.out⟩⟩
  subst c6
  have H1 : ((spec_l11Dirty.f k l0_0 l0_1 a1).bind fun t287 => (spec_l12Flush.j0 k a1 (!t287) l0_0 l0_1)) = some r := by rw [if_pos rfl] at H; exact H
  clear H
  have H := H1
  clear H1
  replace H := Option.bind_eq_some_iff.mp H
  obtain ⟨t287, A70, H⟩ := H
  replace H : (spec_l12Flush.j0 k a1 (!t287) l0_0 l0_1) = some r := H
  have A7 := am A70
  clear A70
  have H' := am H
  clear H
  go_wp2_with (first | (refine gl 8 Try.func14 #[.int .i64 a1, .int .i64 1, .int .i64 6] rfl ?_; (with_reducible refine (spec_l6In.calls a1 1 6 true _ A5.out).mono ?_); rintro e w' ⟨rfl, ⟨nd, rfl⟩⟩; refine ⟨_, rfl, ?_⟩; obtain ⟨hcz8_0, hcz8_1⟩ := b2 BK285.out; obtain ⟨hfz8_0, hfz8_1⟩ := f2 BK285.out) | (go_at_call 40; (with_reducible refine (spec_l11Dirty.calls k _ _ l0_0 _ _ l0_1 a1 t287 _ ?side1 ?side2 ?side3 ?side4 A7.out).mono ?_); (case side1 => repeat (first | exact (Kd.C_below HR0_0.out (bg1 HB.out GE285.out)) | (with_reducible refine Kd.C_alloc ?_ _) | (with_reducible refine Kd.C_drewN ?_ _) | (with_reducible refine Kd.C_drew ?_))); (case side2 => exact HC0_0.out); (case side3 => repeat (first | exact (Kd.C_below HR0_1.out (bg1 HB.out GE285.out)) | (with_reducible refine Kd.C_alloc ?_ _) | (with_reducible refine Kd.C_drewN ?_ _) | (with_reducible refine Kd.C_drew ?_))); (case side4 => exact HC0_1.out); rintro e w9 ⟨rfl, hb⟩; replace BK285 := am (blk_below (pb BK285.out) hb); replace HB := am (below_step (bg1 HB.out GE285.out) hb); (try clear hb); (try clear hb2); (try clear hk); (try clear hi)))
  go_meet
  case rel => exact ⟨_, (!t287), rf, H', ⟨by first | omega | exact Nat.le_refl _⟩, ⟨pb BK285.out⟩, ⟨bg1 HB.out GE285.out⟩⟩
 case rest =>
  clear HC3
  obtain ⟨kq, x15_2, rfl, HA, HJ2, BK285, HB⟩ := hcut
  cases kq with
  | zero => exact absurd HA.out (by simp [spec_l12Flush.j0])
  | succ kj2 =>
   have H := HA.out
   clear HA
   simp only [spec_l12Flush.j0] at H
   by_cases c10 : x15_2 = true
   · subst c10
     have H1 : (some (([] : List (S81)))) = some r := by rw [if_pos rfl] at H; exact H
     clear H
     have H := H1
     clear H1
     obtain ⟨y288, hy288⟩ : ∃ y_ : List (S81), y_ = (([] : List (S81))) := ⟨_, rfl⟩
     replace H : (some y288) = some r := by first | (rw [hy288]; with_reducible exact H) | (have H2_ := (Option.bind_some _ _).symm.trans H; rw [hy288]; with_reducible exact H2_) | (have H2_ := (Option.bind_some _ _).symm.trans H; with_reducible exact H2_) | with_reducible exact H | (rw [hy288]; exact H) | exact H
     have Ny288 := am hy288
     clear hy288
     obtain rfl := Option.some.inj H
     go_wp2_with (first | ((with_reducible refine gate_dst (N := 16) rfl ?_); refine Kd.R_lit k81 _ 81 ?hg (N := 16) ?hd (xs := ([] : List (S81))) (inner := []) (ok := fun _ => True) (okp := fun _ => True) ?hr ?hp (fun _ hk => hk) trivial (Below.refl _ _) (Nat.le_refl _) (by simp) ?_; (case hd => rfl); (case hg => rfl); (case hr => first | (go_simp; done) | (go_simp; rfl)); (case hp => exact (Reps.none _ _)); intro v289 w11 ho12 hb hg_ hnew_; clear hg_ hnew_; (first | rw [← Ny288.out] at ho12 | (simp only [Int.reduceToNat] at ho12; rw [← Ny288.out] at ho12)); have HO290 := am (Kd.R_lower ho12 (below_size (bg1 HB.out GE285.out))); replace BK285 := am (blk_below (pb BK285.out) hb); replace HB := am (below_step (bg1 HB.out GE285.out) hb); clear hb ho12))
     go_ret
     exact ⟨_, rq ⟨pr HO290.out, bg1 HB.out GE285.out⟩⟩
   replace c10 := Bool.eq_false_iff.mpr c10
   subst c10
   have H1 : ((spec_l11Read.f kj2 l0_0 l0_1 a1).bind fun t291 => ((spec_l12Write.f kj2 l0_0 l0_1 2 a1 t291).bind fun t292 => (if (t292.length : Int) = 0 then (some t292) else ((some (([(⟨1, a1, t291, 0, (⟨0, 0, 0, 0⟩ : S30)⟩ : S81)] : List (S81)) : List (S81))).bind fun y295 => (if y295.length + t292.length < 2199023255552 then (some (y295 ++ t292)) else (none)))))) = some r := by rw [if_neg (show ¬ (false = true) by decide)] at H; exact H
   clear H
   have H := H1
   clear H1
   replace H := Option.bind_eq_some_iff.mp H
   obtain ⟨t291, A130, H⟩ := H
   replace H : ((spec_l12Write.f kj2 l0_0 l0_1 2 a1 t291).bind fun t292 => (if (t292.length : Int) = 0 then (some t292) else ((some (([(⟨1, a1, t291, 0, (⟨0, 0, 0, 0⟩ : S30)⟩ : S81)] : List (S81)) : List (S81))).bind fun y295 => (if y295.length + t292.length < 2199023255552 then (some (y295 ++ t292)) else (none))))) = some r := H
   have A13 := am A130
   clear A130
   replace H := Option.bind_eq_some_iff.mp H
   obtain ⟨t292, A140, H⟩ := H
   replace H : (if (t292.length : Int) = 0 then (some t292) else ((some (([(⟨1, a1, t291, 0, (⟨0, 0, 0, 0⟩ : S30)⟩ : S81)] : List (S81)) : List (S81))).bind fun y295 => (if y295.length + t292.length < 2199023255552 then (some (y295 ++ t292)) else (none)))) = some r := H
   have A14 := am A140
   clear A140
   by_cases c15 : (t292.length : Int) = 0
   · rw [if_pos c15] at H
     have c15b0 : ((t292.length : Int) == 0) = true := beq_iff_eq.mpr c15
     have c15b1 : ((t292.length : Int) != 0) = false := bne_eq_false_iff_eq.mpr c15
     clear c15
     obtain rfl := Option.some.inj H
     obtain ⟨hcz16_0, hcz16_1⟩ := b2 BK285.out
     obtain ⟨hfz16_0, hfz16_1⟩ := f2 BK285.out
     go_wp2_with (first | (refine gl 19 Try.func41 #[.agg #[.slice A0_0 l0_0.length c0_0, .slice A0_1 l0_1.length c0_1], .int .i64 a1] rfl ?_; (with_reducible refine (spec_l11Read.calls kj2 _ _ l0_0 _ _ l0_1 a1 t291 _ ?side1 ?side2 ?side3 ?side4 A13.out).mono ?_); (case side1 => exact pc (Kd.C_below HR0_0.out HB.out)); (case side2 => exact HC0_0.out); (case side3 => exact pc (Kd.C_below HR0_1.out HB.out)); (case side4 => exact HC0_1.out); rintro e w17 ⟨rfl, hb⟩; refine ⟨_, rfl, ?_⟩; replace BK285 := am (blk_below (pb BK285.out) hb); replace HB := am (below_step (bg1 HB.out GE285.out) hb); (try clear hb); (try clear hb2); (try clear hk); (try clear hi); obtain ⟨hcz18_0, hcz18_1⟩ := b2 BK285.out; obtain ⟨hfz18_0, hfz18_1⟩ := f2 BK285.out) | (refine gl 23 Try.func38 #[.agg #[.slice A0_0 l0_0.length c0_0, .slice A0_1 l0_1.length c0_1], .int .i64 2, .int .i64 a1, .int .i64 t291] rfl ?_; (with_reducible refine (spec_l12Write.calls kj2 _ _ l0_0 _ _ l0_1 2 a1 t291 t292 _ ?side1 ?side2 ?side3 ?side4 A14.out).mono ?_); (case side1 => exact pc (Kd.C_below HR0_0.out HB.out)); (case side2 => exact HC0_0.out); (case side3 => exact pc (Kd.C_below HR0_1.out HB.out)); (case side4 => exact HC0_1.out); rintro e w19 ⟨v293, rfl, ho0, hb⟩; refine ⟨_, rfl, ?_⟩; have HO294 := am (Kd.R_lower ho0 (below_size (bg1 HB.out GE285.out))); replace BK285 := am (blk_below (pb BK285.out) hb); replace HB := am (below_step (bg1 HB.out GE285.out) hb); (try clear hb); (try clear hb2); (try clear hk); (try clear hi); (try clear ho0); obtain ⟨Ao20, co20, eo20⟩ := Kd.R_slice HO294.out; subst eo20))
     go_ret
     exact ⟨_, rq ⟨pr HO294.out, bg1 HB.out GE285.out⟩⟩
   rw [if_neg c15] at H
   have c15b0 : ((t292.length : Int) == 0) = false := beq_eq_false_iff_ne.mpr c15
   have c15b1 : ((t292.length : Int) != 0) = true := bne_iff_ne.mpr c15
   have c15b2 : ¬ (t292 = []) := fun h_ => c15 (by rw [h_]; rfl)
   obtain ⟨y295, hy295⟩ : ∃ y_ : List (S81), y_ = (([(⟨1, a1, t291, 0, (⟨0, 0, 0, 0⟩ : S30)⟩ : S81)] : List (S81))) := ⟨_, rfl⟩
   replace H : (if y295.length + t292.length < 2199023255552 then (some (y295 ++ t292)) else (none)) = some r := by first | (rw [hy295]; with_reducible exact H) | (have H2_ := (Option.bind_some _ _).symm.trans H; rw [hy295]; with_reducible exact H2_) | (have H2_ := (Option.bind_some _ _).symm.trans H; with_reducible exact H2_) | with_reducible exact H | (rw [hy295]; exact H) | exact H
   have Ny295 := am hy295
   clear hy295
   by_cases c21 : y295.length + t292.length < 2199023255552
   rotate_left
   · rw [if_neg c21] at H
     exact absurd H (by simp)
   rw [if_pos c21] at H
   have LMc21 := am c21
   clear c21
   obtain ⟨y298, hy298⟩ : ∃ y_ : List (S81), y_ = (y295 ++ t292) := ⟨_, rfl⟩
   replace H : (some y298) = some r := by first | (rw [hy298]; with_reducible exact H) | (have H2_ := (Option.bind_some _ _).symm.trans H; rw [hy298]; with_reducible exact H2_) | (have H2_ := (Option.bind_some _ _).symm.trans H; with_reducible exact H2_) | with_reducible exact H | (rw [hy298]; exact H) | exact H
   have Ny298 := am hy298
   clear hy298
   obtain rfl := Option.some.inj H
   obtain ⟨hcz22_0, hcz22_1⟩ := b2 BK285.out
   obtain ⟨hfz22_0, hfz22_1⟩ := f2 BK285.out
   go_wp2_with (first | (refine gl 19 Try.func41 #[.agg #[.slice A0_0 l0_0.length c0_0, .slice A0_1 l0_1.length c0_1], .int .i64 a1] rfl ?_; (with_reducible refine (spec_l11Read.calls kj2 _ _ l0_0 _ _ l0_1 a1 t291 _ ?side1 ?side2 ?side3 ?side4 A13.out).mono ?_); (case side1 => exact pc (Kd.C_below HR0_0.out HB.out)); (case side2 => exact HC0_0.out); (case side3 => exact pc (Kd.C_below HR0_1.out HB.out)); (case side4 => exact HC0_1.out); rintro e w23 ⟨rfl, hb⟩; refine ⟨_, rfl, ?_⟩; replace BK285 := am (blk_below (pb BK285.out) hb); replace HB := am (below_step (bg1 HB.out GE285.out) hb); (try clear hb); (try clear hb2); (try clear hk); (try clear hi); obtain ⟨hcz24_0, hcz24_1⟩ := b2 BK285.out; obtain ⟨hfz24_0, hfz24_1⟩ := f2 BK285.out) | (refine gl 23 Try.func38 #[.agg #[.slice A0_0 l0_0.length c0_0, .slice A0_1 l0_1.length c0_1], .int .i64 2, .int .i64 a1, .int .i64 t291] rfl ?_; (with_reducible refine (spec_l12Write.calls kj2 _ _ l0_0 _ _ l0_1 2 a1 t291 t292 _ ?side1 ?side2 ?side3 ?side4 A14.out).mono ?_); (case side1 => exact pc (Kd.C_below HR0_0.out HB.out)); (case side2 => exact HC0_0.out); (case side3 => exact pc (Kd.C_below HR0_1.out HB.out)); (case side4 => exact HC0_1.out); rintro e w25 ⟨v293, rfl, ho0, hb⟩; refine ⟨_, rfl, ?_⟩; have HO294 := am (Kd.R_lower ho0 (below_size (bg1 HB.out GE285.out))); replace BK285 := am (blk_below (pb BK285.out) hb); replace HB := am (below_step (bg1 HB.out GE285.out) hb); (try clear hb); (try clear hb2); (try clear hk); (try clear hi); (try clear ho0); obtain ⟨Ao26, co26, eo26⟩ := Kd.R_slice HO294.out; subst eo26) | ((with_reducible refine gate_dst (N := 31) rfl ?_); refine Kd.R_lit k81 _ 81 ?hg (N := 31) ?hd (xs := ([(⟨1, a1, t291, 0, (⟨0, 0, 0, 0⟩ : S30)⟩ : S81)] : List (S81))) (inner := [.int .i64 1, .int .i64 a1, .int .i64 t291, .int .i64 0, .int .i64 0, .int .i64 0, .int .i64 0, .int .i64 0]) (ok := fun _ => True) (okp := fun _ => True) ?hr ?hp (fun _ hk => hk) trivial (Below.refl _ _) (Nat.le_refl _) (by simp) ?_; (case hd => rfl); (case hg => rfl); (case hr => first | (go_simp; done) | (go_simp; rfl)); (case hp => exact (Reps.c8 (show Kd.M k81 _ _ _ (⟨1, a1, t291, 0, (⟨0, 0, 0, 0⟩ : S30)⟩ : S81) [.int .i64 1, .int .i64 a1, .int .i64 t291, .int .i64 0, .int .i64 0, .int .i64 0, .int .i64 0, .int .i64 0] from (k81_mkM _ _ _ (⟨1, a1, t291, 0, (⟨0, 0, 0, 0⟩ : S30)⟩ : S81) )) (Reps.none _ _))); intro v296 w27 ho28 hb hg_ hnew_; clear hg_ hnew_; (first | rw [← Ny295.out] at ho28 | (simp only [Int.reduceToNat] at ho28; rw [← Ny295.out] at ho28)); have HO297 := am (Kd.R_lower (Kd.R_new' ho28 (Kd.R_lt (pr HO294.out))) (below_size (bg1 HB.out GE285.out))); replace HO294 := am (Kd.R_elder' (pr HO294.out) (Kd.R_base ho28) hb); replace BK285 := am (blk_below (pb BK285.out) hb); replace HB := am (below_step (bg1 HB.out GE285.out) hb); clear hb ho28) | ((with_reducible refine gate_builtin (b := .append) (xs := #[.tmp 31, .tmp 32]) rfl ?_); at_builtin; refine Kd.R_append_rows k81 (w0 := w) w.heap.size rfl (.tmp 31) (.tmp 32) 73 81 (.agg #[(.int .i64 0), (.int .i64 0), (.int .i64 0), (.int .i64 0), (.int .i64 0), (.int .i64 0), (.int .i64 0), (.int .i64 0)]) 64 rfl Try.underlying73 info81 rfl (by decide) (by omega) v296 y295 t292 _ _ _ (fun k_ => some k_ ≠ (.slice Ao26 t292.length co26 : Value).ownBlock) (fun _ => False) rfl rfl ?aO ?aR (fun _ _ h => h) (fun _ h => h.elim) ?aF ?aB ?aS ?aL ?_; (case aR => repeat (first | exact (Kd.R_reads' HO294.out).2.2 | (with_reducible refine Kd.C_alloc ?_ _) | (with_reducible refine Kd.C_drewN ?_ _) | (with_reducible refine Kd.C_drew ?_))); (case aB => exact (bg1 HB.out GE285.out)); (case aF => exact (fun k_ hk => Kd.fresh' (Kd.R_lt (pr HO294.out)) k_ hk)); (case aO => exact (by (with_reducible repeat (first | apply Kd.R_alloc | apply Kd.R_drewN | apply Kd.R_drew)); exact Kd.R_mono HO297.out (fun _ hk => hk.2))); (case aS => exact (below_size (bg1 HB.out GE285.out))); (case aL => have := LMc21.out; omega); intro v299 w29 ho hb hg hat; rw [← Ny298.out] at ho; replace BK285 := am (blk_grown (g := gb285) (o := .cells #[.slice A0_0 l0_0.length c0_0, .slice A0_1 l0_1.length c0_1] 57 (0, 0)) (pb BK285.out) hg (Kd.R_ne HO297.out BK285.out (by decide))); replace HO294 := am (Kd.R_after (ok := (fun _ => True)) (pr HO294.out) hg hat); replace HB := am (hb); have HO300 := am (ho); clear HO297; clear ho hb hg hat))
   go_ret
   exact ⟨_, rq ⟨by (with_reducible repeat (first | apply Kd.R_alloc | apply Kd.R_drewN | apply Kd.R_drew)); exact Kd.R_mono HO300.out (fun _ hk => trivial), bg1 HB.out GE285.out⟩⟩
end Go.Proofs.Ytcanhdofmbekeaa.Rp
