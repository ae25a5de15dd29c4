-- printed by wip/pp/pp.py
import Derived.Test.YteijhllkpahbhaaRk0
import Derived.Test.YteijhllkpahbhaaRk6
import Derived.Test.YteijhllkpahbhaaRk7
namespace Go.Proofs.Yteijhllkpahbhaa.Rk
open Go.RowKit Go.Proofs.YteijhllkpahbhaaW.PrintWords Go.Proofs.YteijhllkpahbhaaW.PrintLast Go.Proofs.YteijhllkpahbhaaW.PrintMore
attribute [local go_sem] max2_int min2_int max_two min_two max_three min_three max_four min_four
set_option linter.unusedVariables false
set_option linter.unusedSimpArgs false
def spec_l12Write.f (k : Nat) (l0_0 : List (S28)) (l0_1 : List Int) (a1 : Int) (a2 : Int) (a3 : Int) : Option ((List (S98))) := (spec_l3Next.f k l0_0).bind fun t259 => ((spec_l12Room.f k l0_0 l0_1).bind fun bt261 => (if bt261.2.2 = true then ((spec_RecOk.f a1 t259 a2 a3).bind fun t266 => (if t266 = true then (if bt261.1.length < 2199023255552 then (some (bt261.1 ++ [(⟨3, 0, 0, bt261.2.1, (⟨a1, t259, a2, a3⟩ : S30)⟩ : S98)])) else (none)) else (some (([] : List (S98)))))) else (some (([] : List (S98))))))
theorem spec_l12Write.mono : ∀ a0 a1 a2 a3 a4 k, LeO (spec_l12Write.f k a0 a1 a2 a3 a4) (spec_l12Write.f (k + 1) a0 a1 a2 a3 a4) := by
 intro a0 a1 a2 a3 a4 k
 unfold spec_l12Write.f
 repeat' first
  | (with_reducible exact spec_l12Room.mono _ _ _)
  | (with_reducible exact spec_l3Next.mono _ _)
  | (with_reducible exact LeO.refl _)
  | (with_reducible exact LeO.none _)
  | (with_reducible refine LeO.ite ?_ ?_)
  | (with_reducible refine LeO.bind ?_ (fun _ => ?_))
  | exact spec_l12Room.mono _ _ _
  | exact spec_l3Next.mono _ _
  | exact LeO.none _
  | refine LeO.ite ?_ ?_
  | refine LeO.bind ?_ (fun _ => ?_)
set_option maxHeartbeats 8000000 in
set_option maxRecDepth 100000 in
theorem spec_l12Write.calls (k : Nat) (A0_0 : Option Addr) (c0_0 : Nat) (l0_0 : List (S28)) (A0_1 : Option Addr) (c0_1 : Nat) (l0_1 : List Int) (a1 : Int) (a2 : Int) (a3 : Int) (r : List (S98)) (w : World) (hr0_0 : Kd.C k28 w A0_0 l0_0.length l0_0) (hc0_0 : l0_0.length ≤ c0_0) (hr0_1 : Kd.C (Kd.int .i64) w A0_1 l0_1.length l0_1) (hc0_1 : l0_1.length ≤ c0_1) (h : spec_l12Write.f k l0_0 l0_1 a1 a2 a3 = some r) :
 Calls Try.prog 58 #[.agg #[.slice A0_0 l0_0.length c0_0, .slice A0_1 l0_1.length c0_1], .int .i64 a1, .int .i64 a2, .int .i64 a3] w fun e w' => ∃ v0_ : Value, e = .returned (v0_) ∧ Kd.R k98 98 w' w.heap.size (fun _ => True) v0_ r ∧ Below w.heap.size w w' := by
 have hu70 := Try.underlying70
 have hu30 := Try.underlying30
 have hu98 := Try.underlying98
 have HR0_0 := am hr0_0
 have HC0_0 := am hc0_0
 clear hr0_0 hc0_0
 have HR0_1 := am hr0_1
 have HC0_1 := am hc0_1
 clear hr0_1 hc0_1
 have HB := am (Below.refl w.heap.size w)
 have H : ((spec_l3Next.f k l0_0).bind fun t259 => ((spec_l12Room.f k l0_0 l0_1).bind fun bt261 => (if bt261.2.2 = true then ((spec_RecOk.f a1 t259 a2 a3).bind fun t266 => (if t266 = true then (if bt261.1.length < 2199023255552 then (some (bt261.1 ++ [(⟨3, 0, 0, bt261.2.1, (⟨a1, t259, a2, a3⟩ : S30)⟩ : S98)])) else (none)) else (some (([] : List (S98)))))) else (some (([] : List (S98))))))) = some r := h
 clear h
 replace H := Option.bind_eq_some_iff.mp H
 obtain ⟨t259, A50, H⟩ := H
 replace H : ((spec_l12Room.f k l0_0 l0_1).bind fun bt261 => (if bt261.2.2 = true then ((spec_RecOk.f a1 t259 a2 a3).bind fun t266 => (if t266 = true then (if bt261.1.length < 2199023255552 then (some (bt261.1 ++ [(⟨3, 0, 0, bt261.2.1, (⟨a1, t259, a2, a3⟩ : S30)⟩ : S98)])) else (none)) else (some (([] : List (S98)))))) else (some (([] : List (S98)))))) = some r := H
 have A5 := am A50
 clear A50
 replace H := Option.bind_eq_some_iff.mp H
 obtain ⟨⟨t261, t264, t265⟩, A60, H⟩ := H
 replace H : (if t265 = true then ((spec_RecOk.f a1 t259 a2 a3).bind fun t266 => (if t266 = true then (if t261.length < 2199023255552 then (some (t261 ++ [(⟨3, 0, 0, t264, (⟨a1, t259, a2, a3⟩ : S30)⟩ : S98)])) else (none)) else (some (([] : List (S98)))))) else (some (([] : List (S98))))) = some r := H
 have A6 := am A60
 clear A60
 by_cases c7 : t265 = true
 rotate_left
 · replace c7 := Bool.eq_false_iff.mpr c7
   subst c7
   have H1 : (some (([] : List (S98)))) = some r := by rw [if_neg (show ¬ (false = true) by decide)] at H; exact H
   clear H
   have H := H1
   clear H1
   obtain ⟨y273, hy273⟩ : ∃ y_ : List (S98), y_ = (([] : List (S98))) := ⟨_, rfl⟩
   replace H : (some y273) = some r := by first | (rw [hy273]; with_reducible exact H) | (have H2_ := (Option.bind_some _ _).symm.trans H; rw [hy273]; with_reducible exact H2_) | (have H2_ := (Option.bind_some _ _).symm.trans H; with_reducible exact H2_) | with_reducible exact H | (rw [hy273]; exact H) | exact H
   have Ny273 := am hy273
   clear hy273
   obtain rfl := Option.some.inj H
   go_enter Try.func58, Try.ntmps58
   go_wp2_with (first | (refine bx 4 #[.slice A0_0 l0_0.length c0_0, .slice A0_1 l0_1.length c0_1] 70 rfl ?_; intro gb258 hg w35 hbox hb; have BK258 := am (hbox); have GW258 := am ((by rw [hg]; exact (below_size (ph HB.out)) : w.heap.size ≤ gb258)); have GE258 := GW258; replace HB := am (below_step (ph HB.out) hb); clear hb hbox hg; obtain ⟨hcz36_0, hcz36_1⟩ := b2 BK258.out; obtain ⟨hfz36_0, hfz36_1⟩ := f2 BK258.out) | (refine gl 16 Try.func34 #[.slice A0_0 l0_0.length c0_0] rfl ?_; (with_reducible refine (spec_l3Next.calls k _ _ l0_0 t259 _ ?side1 ?side2 A5.out).mono ?_); (case side1 => exact pc (Kd.C_below HR0_0.out HB.out)); (case side2 => exact HC0_0.out); rintro e w37 ⟨rfl, hb⟩; refine ⟨_, rfl, ?_⟩; replace BK258 := am (blk_below (pb BK258.out) hb); replace HB := am (below_step (bg1 HB.out GE258.out) hb); (try clear hb); (try clear hb2); (try clear hk); (try clear hi)) | (refine bx 9 #[.int .i64 0, .int .i64 0, .int .i64 0, .int .i64 0] 30 rfl ?_; intro gb260 hg w38 hbox hb; have BK260 := am (hbox); have GW260 := am ((by rw [hg]; exact (below_size (bg1 HB.out GE258.out)) : w.heap.size ≤ gb260)); have GE260 := GW260; replace HB := am (below_step (bg1 HB.out GE258.out) hb); have NB258_260 := am ((by rw [hg]; exact Nat.ne_of_lt (blk_lt (pb BK258.out)) : gb258 ≠ gb260)); have NB260_258 := am (Ne.symm NB258_260.out); replace BK258 := am (blk_below (pb BK258.out) hb); clear hb hbox hg; have hnb39 := NB260_258.out; have hnc39 := NB258_260.out; obtain ⟨hcz40_0, hcz40_1, hcz40_2, hcz40_3⟩ := b4 BK260.out; obtain ⟨hfz40_0, hfz40_1, hfz40_2, hfz40_3⟩ := f4 BK260.out; obtain ⟨hcz41_0, hcz41_1⟩ := b2 BK258.out; obtain ⟨hfz41_0, hfz41_1⟩ := f2 BK258.out) | (refine gl 22 Try.func64 #[.agg #[.slice A0_0 l0_0.length c0_0, .slice A0_1 l0_1.length c0_1]] rfl ?_; (with_reducible refine (spec_l12Room.calls k _ _ l0_0 _ _ l0_1 t261 t264 false _ ?side1 ?side2 ?side3 ?side4 A6.out).mono ?_); (case side1 => exact Kd.C_below HR0_0.out (bg2 HB.out GE258.out GE260.out)); (case side2 => exact HC0_0.out); (case side3 => exact Kd.C_below HR0_1.out (bg2 HB.out GE258.out GE260.out)); (case side4 => exact HC0_1.out); rintro e w42 ⟨v262, rfl, ho0, hb⟩; refine ⟨_, rfl, ?_⟩; have HO263 := am (Kd.R_lower ho0 (below_size (bg2 HB.out GE258.out GE260.out))); replace BK258 := am (blk_below (g := gb258) (o := .cells #[.slice A0_0 l0_0.length c0_0, .slice A0_1 l0_1.length c0_1] 70 (0, 0)) (by (with_reducible repeat (first | refine blk_drewN ?_ _ | refine blk_drew ?_ | refine blk_alloc ?_ _)); refine blk_far ?_ NB258_260.out _; (with_reducible repeat (first | refine blk_drewN ?_ _ | refine blk_drew ?_ | refine blk_alloc ?_ _)); refine blk_far ?_ NB258_260.out _; (with_reducible repeat (first | refine blk_drewN ?_ _ | refine blk_drew ?_ | refine blk_alloc ?_ _)); refine blk_far ?_ NB258_260.out _; (with_reducible repeat (first | refine blk_drewN ?_ _ | refine blk_drew ?_ | refine blk_alloc ?_ _)); refine blk_far ?_ NB258_260.out _; (with_reducible repeat (first | refine blk_drewN ?_ _ | refine blk_drew ?_ | refine blk_alloc ?_ _)); exact BK258.out) hb); replace BK260 := am (blk_below (g := gb260) (o := .cells #[.int .i64 a1, .int .i64 t259, .int .i64 a2, .int .i64 a3] 30 (0, 0)) (by (with_reducible repeat (first | refine blk_drewN ?_ _ | refine blk_drew ?_ | refine blk_alloc ?_ _)); refine blk_put (cs := #[.int .i64 a1, .int .i64 t259, .int .i64 a2, .int .i64 0]) ?_ 3 _ rfl; (with_reducible repeat (first | refine blk_drewN ?_ _ | refine blk_drew ?_ | refine blk_alloc ?_ _)); refine blk_put (cs := #[.int .i64 a1, .int .i64 t259, .int .i64 0, .int .i64 0]) ?_ 2 _ rfl; (with_reducible repeat (first | refine blk_drewN ?_ _ | refine blk_drew ?_ | refine blk_alloc ?_ _)); refine blk_put (cs := #[.int .i64 a1, .int .i64 0, .int .i64 0, .int .i64 0]) ?_ 1 _ rfl; (with_reducible repeat (first | refine blk_drewN ?_ _ | refine blk_drew ?_ | refine blk_alloc ?_ _)); refine blk_put (cs := #[.int .i64 0, .int .i64 0, .int .i64 0, .int .i64 0]) ?_ 0 _ rfl; (with_reducible repeat (first | refine blk_drewN ?_ _ | refine blk_drew ?_ | refine blk_alloc ?_ _)); exact BK260.out) hb); replace HB := am (below_step (bg2 HB.out GE258.out GE260.out) hb); (try clear hb); (try clear hb2); (try clear hk); (try clear hi); (try clear ho0)) | ((with_reducible refine gate_dst (N := 33) rfl ?_); refine Kd.R_lit k98 _ 98 ?hg (N := 33) ?hd (xs := ([] : List (S98))) (inner := []) (ok := fun _ => True) (okp := fun _ => True) ?hr ?hp (fun _ hk => hk) trivial (Below.refl _ _) (Nat.le_refl _) (by simp) ?_; (case hd => rfl); (case hg => rfl); (case hr => first | (go_simp; done) | (go_simp; rfl)); (case hp => exact (Reps.none _ _)); intro v274 w43 ho44 hb hg_ hnew_; clear hg_ hnew_; (first | rw [← Ny273.out] at ho44 | (simp only [Int.reduceToNat] at ho44; rw [← Ny273.out] at ho44)); have HO275 := am (Kd.R_lower (Kd.R_new' ho44 (Kd.R_lt (pr HO263.out))) (below_size (bg2 HB.out GE258.out GE260.out))); replace HO263 := am (Kd.R_elder' (pr HO263.out) (Kd.R_base ho44) hb); replace BK258 := am (blk_below (pb BK258.out) hb); replace BK260 := am (blk_below (pb BK260.out) hb); replace HB := am (below_step (bg2 HB.out GE258.out GE260.out) hb); clear hb ho44))
   go_ret
   exact ⟨_, rq ⟨by (with_reducible repeat (first | apply Kd.R_alloc | apply Kd.R_drewN | apply Kd.R_drew)); exact Kd.R_mono HO275.out (fun _ hk => trivial), bg2 HB.out GE258.out GE260.out⟩⟩
 subst c7
 have H1 : ((spec_RecOk.f a1 t259 a2 a3).bind fun t266 => (if t266 = true then (if t261.length < 2199023255552 then (some (t261 ++ [(⟨3, 0, 0, t264, (⟨a1, t259, a2, a3⟩ : S30)⟩ : S98)])) else (none)) else (some (([] : List (S98)))))) = some r := by rw [if_pos rfl] at H; exact H
 clear H
 have H := H1
 clear H1
 replace H := Option.bind_eq_some_iff.mp H
 obtain ⟨t266, A80, H⟩ := H
 replace H : (if t266 = true then (if t261.length < 2199023255552 then (some (t261 ++ [(⟨3, 0, 0, t264, (⟨a1, t259, a2, a3⟩ : S30)⟩ : S98)])) else (none)) else (some (([] : List (S98))))) = some r := H
 have A8 := am A80
 clear A80
 by_cases c9 : t266 = true
 rotate_left
 · replace c9 := Bool.eq_false_iff.mpr c9
   subst c9
   have H1 : (some (([] : List (S98)))) = some r := by rw [if_neg (show ¬ (false = true) by decide)] at H; exact H
   clear H
   have H := H1
   clear H1
   obtain ⟨y270, hy270⟩ : ∃ y_ : List (S98), y_ = (([] : List (S98))) := ⟨_, rfl⟩
   replace H : (some y270) = some r := by first | (rw [hy270]; with_reducible exact H) | (have H2_ := (Option.bind_some _ _).symm.trans H; rw [hy270]; with_reducible exact H2_) | (have H2_ := (Option.bind_some _ _).symm.trans H; with_reducible exact H2_) | with_reducible exact H | (rw [hy270]; exact H) | exact H
   have Ny270 := am hy270
   clear hy270
   obtain rfl := Option.some.inj H
   go_enter Try.func58, Try.ntmps58
   go_wp2_with (first | (refine bx 4 #[.slice A0_0 l0_0.length c0_0, .slice A0_1 l0_1.length c0_1] 70 rfl ?_; intro gb258 hg w23 hbox hb; have BK258 := am (hbox); have GW258 := am ((by rw [hg]; exact (below_size (ph HB.out)) : w.heap.size ≤ gb258)); have GE258 := GW258; replace HB := am (below_step (ph HB.out) hb); clear hb hbox hg; obtain ⟨hcz24_0, hcz24_1⟩ := b2 BK258.out; obtain ⟨hfz24_0, hfz24_1⟩ := f2 BK258.out) | (refine gl 16 Try.func34 #[.slice A0_0 l0_0.length c0_0] rfl ?_; (with_reducible refine (spec_l3Next.calls k _ _ l0_0 t259 _ ?side1 ?side2 A5.out).mono ?_); (case side1 => exact pc (Kd.C_below HR0_0.out HB.out)); (case side2 => exact HC0_0.out); rintro e w25 ⟨rfl, hb⟩; refine ⟨_, rfl, ?_⟩; replace BK258 := am (blk_below (pb BK258.out) hb); replace HB := am (below_step (bg1 HB.out GE258.out) hb); (try clear hb); (try clear hb2); (try clear hk); (try clear hi)) | (refine bx 9 #[.int .i64 0, .int .i64 0, .int .i64 0, .int .i64 0] 30 rfl ?_; intro gb260 hg w26 hbox hb; have BK260 := am (hbox); have GW260 := am ((by rw [hg]; exact (below_size (bg1 HB.out GE258.out)) : w.heap.size ≤ gb260)); have GE260 := GW260; replace HB := am (below_step (bg1 HB.out GE258.out) hb); have NB258_260 := am ((by rw [hg]; exact Nat.ne_of_lt (blk_lt (pb BK258.out)) : gb258 ≠ gb260)); have NB260_258 := am (Ne.symm NB258_260.out); replace BK258 := am (blk_below (pb BK258.out) hb); clear hb hbox hg; have hnb27 := NB260_258.out; have hnc27 := NB258_260.out; obtain ⟨hcz28_0, hcz28_1, hcz28_2, hcz28_3⟩ := b4 BK260.out; obtain ⟨hfz28_0, hfz28_1, hfz28_2, hfz28_3⟩ := f4 BK260.out; obtain ⟨hcz29_0, hcz29_1⟩ := b2 BK258.out; obtain ⟨hfz29_0, hfz29_1⟩ := f2 BK258.out) | (refine gl 22 Try.func64 #[.agg #[.slice A0_0 l0_0.length c0_0, .slice A0_1 l0_1.length c0_1]] rfl ?_; (with_reducible refine (spec_l12Room.calls k _ _ l0_0 _ _ l0_1 t261 t264 true _ ?side1 ?side2 ?side3 ?side4 A6.out).mono ?_); (case side1 => exact Kd.C_below HR0_0.out (bg2 HB.out GE258.out GE260.out)); (case side2 => exact HC0_0.out); (case side3 => exact Kd.C_below HR0_1.out (bg2 HB.out GE258.out GE260.out)); (case side4 => exact HC0_1.out); rintro e w30 ⟨v262, rfl, ho0, hb⟩; refine ⟨_, rfl, ?_⟩; have HO263 := am (Kd.R_lower ho0 (below_size (bg2 HB.out GE258.out GE260.out))); replace BK258 := am (blk_below (g := gb258) (o := .cells #[.slice A0_0 l0_0.length c0_0, .slice A0_1 l0_1.length c0_1] 70 (0, 0)) (by (with_reducible repeat (first | refine blk_drewN ?_ _ | refine blk_drew ?_ | refine blk_alloc ?_ _)); refine blk_far ?_ NB258_260.out _; (with_reducible repeat (first | refine blk_drewN ?_ _ | refine blk_drew ?_ | refine blk_alloc ?_ _)); refine blk_far ?_ NB258_260.out _; (with_reducible repeat (first | refine blk_drewN ?_ _ | refine blk_drew ?_ | refine blk_alloc ?_ _)); refine blk_far ?_ NB258_260.out _; (with_reducible repeat (first | refine blk_drewN ?_ _ | refine blk_drew ?_ | refine blk_alloc ?_ _)); refine blk_far ?_ NB258_260.out _; (with_reducible repeat (first | refine blk_drewN ?_ _ | refine blk_drew ?_ | refine blk_alloc ?_ _)); exact BK258.out) hb); replace BK260 := am (blk_below (g := gb260) (o := .cells #[.int .i64 a1, .int .i64 t259, .int .i64 a2, .int .i64 a3] 30 (0, 0)) (by (with_reducible repeat (first | refine blk_drewN ?_ _ | refine blk_drew ?_ | refine blk_alloc ?_ _)); refine blk_put (cs := #[.int .i64 a1, .int .i64 t259, .int .i64 a2, .int .i64 0]) ?_ 3 _ rfl; (with_reducible repeat (first | refine blk_drewN ?_ _ | refine blk_drew ?_ | refine blk_alloc ?_ _)); refine blk_put (cs := #[.int .i64 a1, .int .i64 t259, .int .i64 0, .int .i64 0]) ?_ 2 _ rfl; (with_reducible repeat (first | refine blk_drewN ?_ _ | refine blk_drew ?_ | refine blk_alloc ?_ _)); refine blk_put (cs := #[.int .i64 a1, .int .i64 0, .int .i64 0, .int .i64 0]) ?_ 1 _ rfl; (with_reducible repeat (first | refine blk_drewN ?_ _ | refine blk_drew ?_ | refine blk_alloc ?_ _)); refine blk_put (cs := #[.int .i64 0, .int .i64 0, .int .i64 0, .int .i64 0]) ?_ 0 _ rfl; (with_reducible repeat (first | refine blk_drewN ?_ _ | refine blk_drew ?_ | refine blk_alloc ?_ _)); exact BK260.out) hb); replace HB := am (below_step (bg2 HB.out GE258.out GE260.out) hb); (try clear hb); (try clear hb2); (try clear hk); (try clear hi); (try clear ho0); obtain ⟨hcz31_0, hcz31_1, hcz31_2, hcz31_3⟩ := b4 BK260.out; obtain ⟨hfz31_0, hfz31_1, hfz31_2, hfz31_3⟩ := f4 BK260.out) | (go_at_call 43; (with_reducible refine (spec_RecOk.calls a1 t259 a2 a3 false _ A8.out).mono ?_); rintro e w32 ⟨rfl, hb⟩; replace HO263 := am (Kd.R_below (pr HO263.out) hb); replace BK258 := am (blk_below (pb BK258.out) hb); replace BK260 := am (blk_below (pb BK260.out) hb); replace HB := am (below_step (bg2 HB.out GE258.out GE260.out) hb); (try clear hb); (try clear hb2); (try clear hk); (try clear hi)) | ((with_reducible refine gate_dst (N := 33) rfl ?_); refine Kd.R_lit k98 _ 98 ?hg (N := 33) ?hd (xs := ([] : List (S98))) (inner := []) (ok := fun _ => True) (okp := fun _ => True) ?hr ?hp (fun _ hk => hk) trivial (Below.refl _ _) (Nat.le_refl _) (by simp) ?_; (case hd => rfl); (case hg => rfl); (case hr => first | (go_simp; done) | (go_simp; rfl)); (case hp => exact (Reps.none _ _)); intro v271 w33 ho34 hb hg_ hnew_; clear hg_ hnew_; (first | rw [← Ny270.out] at ho34 | (simp only [Int.reduceToNat] at ho34; rw [← Ny270.out] at ho34)); have HO272 := am (Kd.R_lower (Kd.R_new' ho34 (Kd.R_lt (pr HO263.out))) (below_size (bg2 HB.out GE258.out GE260.out))); replace HO263 := am (Kd.R_elder' (pr HO263.out) (Kd.R_base ho34) hb); replace BK258 := am (blk_below (pb BK258.out) hb); replace BK260 := am (blk_below (pb BK260.out) hb); replace HB := am (below_step (bg2 HB.out GE258.out GE260.out) hb); clear hb ho34))
   go_ret
   exact ⟨_, rq ⟨by (with_reducible repeat (first | apply Kd.R_alloc | apply Kd.R_drewN | apply Kd.R_drew)); exact Kd.R_mono HO272.out (fun _ hk => trivial), bg2 HB.out GE258.out GE260.out⟩⟩
 subst c9
 have H1 : (if t261.length < 2199023255552 then (some (t261 ++ [(⟨3, 0, 0, t264, (⟨a1, t259, a2, a3⟩ : S30)⟩ : S98)])) else (none)) = some r := by rw [if_pos rfl] at H; exact H
 clear H
 have H := H1
 clear H1
 by_cases c10 : t261.length < 2199023255552
 rotate_left
 · rw [if_neg c10] at H
   exact absurd H (by simp)
 rw [if_pos c10] at H
 have LMc10 := am c10
 clear c10
 obtain ⟨y267, hy267⟩ : ∃ y_ : List (S98), y_ = (t261 ++ [(⟨3, 0, 0, t264, (⟨a1, t259, a2, a3⟩ : S30)⟩ : S98)]) := ⟨_, rfl⟩
 replace H : (some y267) = some r := by first | (rw [hy267]; with_reducible exact H) | (have H2_ := (Option.bind_some _ _).symm.trans H; rw [hy267]; with_reducible exact H2_) | (have H2_ := (Option.bind_some _ _).symm.trans H; with_reducible exact H2_) | with_reducible exact H | (rw [hy267]; exact H) | exact H
 have Ny267 := am hy267
 clear hy267
 obtain rfl := Option.some.inj H
 go_enter Try.func58, Try.ntmps58
 go_wp2_with (first | (refine bx 4 #[.slice A0_0 l0_0.length c0_0, .slice A0_1 l0_1.length c0_1] 70 rfl ?_; intro gb258 hg w11 hbox hb; have BK258 := am (hbox); have GW258 := am ((by rw [hg]; exact (below_size (ph HB.out)) : w.heap.size ≤ gb258)); have GE258 := GW258; replace HB := am (below_step (ph HB.out) hb); clear hb hbox hg; obtain ⟨hcz12_0, hcz12_1⟩ := b2 BK258.out; obtain ⟨hfz12_0, hfz12_1⟩ := f2 BK258.out) | (refine gl 16 Try.func34 #[.slice A0_0 l0_0.length c0_0] rfl ?_; (with_reducible refine (spec_l3Next.calls k _ _ l0_0 t259 _ ?side1 ?side2 A5.out).mono ?_); (case side1 => exact pc (Kd.C_below HR0_0.out HB.out)); (case side2 => exact HC0_0.out); rintro e w13 ⟨rfl, hb⟩; refine ⟨_, rfl, ?_⟩; replace BK258 := am (blk_below (pb BK258.out) hb); replace HB := am (below_step (bg1 HB.out GE258.out) hb); (try clear hb); (try clear hb2); (try clear hk); (try clear hi)) | (refine bx 9 #[.int .i64 0, .int .i64 0, .int .i64 0, .int .i64 0] 30 rfl ?_; intro gb260 hg w14 hbox hb; have BK260 := am (hbox); have GW260 := am ((by rw [hg]; exact (below_size (bg1 HB.out GE258.out)) : w.heap.size ≤ gb260)); have GE260 := GW260; replace HB := am (below_step (bg1 HB.out GE258.out) hb); have NB258_260 := am ((by rw [hg]; exact Nat.ne_of_lt (blk_lt (pb BK258.out)) : gb258 ≠ gb260)); have NB260_258 := am (Ne.symm NB258_260.out); replace BK258 := am (blk_below (pb BK258.out) hb); clear hb hbox hg; have hnb15 := NB260_258.out; have hnc15 := NB258_260.out; obtain ⟨hcz16_0, hcz16_1, hcz16_2, hcz16_3⟩ := b4 BK260.out; obtain ⟨hfz16_0, hfz16_1, hfz16_2, hfz16_3⟩ := f4 BK260.out; obtain ⟨hcz17_0, hcz17_1⟩ := b2 BK258.out; obtain ⟨hfz17_0, hfz17_1⟩ := f2 BK258.out) | (refine gl 22 Try.func64 #[.agg #[.slice A0_0 l0_0.length c0_0, .slice A0_1 l0_1.length c0_1]] rfl ?_; (with_reducible refine (spec_l12Room.calls k _ _ l0_0 _ _ l0_1 t261 t264 true _ ?side1 ?side2 ?side3 ?side4 A6.out).mono ?_); (case side1 => exact Kd.C_below HR0_0.out (bg2 HB.out GE258.out GE260.out)); (case side2 => exact HC0_0.out); (case side3 => exact Kd.C_below HR0_1.out (bg2 HB.out GE258.out GE260.out)); (case side4 => exact HC0_1.out); rintro e w18 ⟨v262, rfl, ho0, hb⟩; refine ⟨_, rfl, ?_⟩; have HO263 := am (Kd.R_lower ho0 (below_size (bg2 HB.out GE258.out GE260.out))); replace BK258 := am (blk_below (g := gb258) (o := .cells #[.slice A0_0 l0_0.length c0_0, .slice A0_1 l0_1.length c0_1] 70 (0, 0)) (by (with_reducible repeat (first | refine blk_drewN ?_ _ | refine blk_drew ?_ | refine blk_alloc ?_ _)); refine blk_far ?_ NB258_260.out _; (with_reducible repeat (first | refine blk_drewN ?_ _ | refine blk_drew ?_ | refine blk_alloc ?_ _)); refine blk_far ?_ NB258_260.out _; (with_reducible repeat (first | refine blk_drewN ?_ _ | refine blk_drew ?_ | refine blk_alloc ?_ _)); refine blk_far ?_ NB258_260.out _; (with_reducible repeat (first | refine blk_drewN ?_ _ | refine blk_drew ?_ | refine blk_alloc ?_ _)); refine blk_far ?_ NB258_260.out _; (with_reducible repeat (first | refine blk_drewN ?_ _ | refine blk_drew ?_ | refine blk_alloc ?_ _)); exact BK258.out) hb); replace BK260 := am (blk_below (g := gb260) (o := .cells #[.int .i64 a1, .int .i64 t259, .int .i64 a2, .int .i64 a3] 30 (0, 0)) (by (with_reducible repeat (first | refine blk_drewN ?_ _ | refine blk_drew ?_ | refine blk_alloc ?_ _)); refine blk_put (cs := #[.int .i64 a1, .int .i64 t259, .int .i64 a2, .int .i64 0]) ?_ 3 _ rfl; (with_reducible repeat (first | refine blk_drewN ?_ _ | refine blk_drew ?_ | refine blk_alloc ?_ _)); refine blk_put (cs := #[.int .i64 a1, .int .i64 t259, .int .i64 0, .int .i64 0]) ?_ 2 _ rfl; (with_reducible repeat (first | refine blk_drewN ?_ _ | refine blk_drew ?_ | refine blk_alloc ?_ _)); refine blk_put (cs := #[.int .i64 a1, .int .i64 0, .int .i64 0, .int .i64 0]) ?_ 1 _ rfl; (with_reducible repeat (first | refine blk_drewN ?_ _ | refine blk_drew ?_ | refine blk_alloc ?_ _)); refine blk_put (cs := #[.int .i64 0, .int .i64 0, .int .i64 0, .int .i64 0]) ?_ 0 _ rfl; (with_reducible repeat (first | refine blk_drewN ?_ _ | refine blk_drew ?_ | refine blk_alloc ?_ _)); exact BK260.out) hb); replace HB := am (below_step (bg2 HB.out GE258.out GE260.out) hb); (try clear hb); (try clear hb2); (try clear hk); (try clear hi); (try clear ho0); obtain ⟨hcz19_0, hcz19_1, hcz19_2, hcz19_3⟩ := b4 BK260.out; obtain ⟨hfz19_0, hfz19_1, hfz19_2, hfz19_3⟩ := f4 BK260.out) | (go_at_call 43; (with_reducible refine (spec_RecOk.calls a1 t259 a2 a3 true _ A8.out).mono ?_); rintro e w20 ⟨rfl, hb⟩; replace HO263 := am (Kd.R_below (pr HO263.out) hb); replace BK258 := am (blk_below (pb BK258.out) hb); replace BK260 := am (blk_below (pb BK260.out) hb); replace HB := am (below_step (bg2 HB.out GE258.out GE260.out) hb); (try clear hb); (try clear hb2); (try clear hk); (try clear hi); obtain ⟨hcz21_0, hcz21_1, hcz21_2, hcz21_3⟩ := b4 BK260.out; obtain ⟨hfz21_0, hfz21_1, hfz21_2, hfz21_3⟩ := f4 BK260.out) | ((with_reducible refine gate_builtin (b := .append) (xs := #[.tmp 34, .tmp 38]) rfl ?_); at_builtin; refine Kd.R_append k98 (w0 := w) w.heap.size rfl (.tmp 34) (.tmp 38) 93 98 (.agg #[(.int .i64 0), (.int .i64 0), (.int .i64 0), (.int .i64 0), (.int .i64 0), (.int .i64 0), (.int .i64 0), (.int .i64 0)]) 64 rfl Try.underlying93 info98 rfl (by decide) (by omega) v262 t261 (⟨3, 0, 0, t264, (⟨a1, t259, a2, a3⟩ : S30)⟩ : S98) [.int .i64 3, .int .i64 0, .int .i64 0, .int .i64 t264, .int .i64 a1, .int .i64 t259, .int .i64 a2, .int .i64 a3] (fun _ => True) (fun _ => False) rfl rfl ?aP (fun _ hk => hk.elim) ?aF ?aO ?aB ?aS ?aL ?_; (case aP => exact k98_mkM _ _ _ (⟨3, 0, 0, t264, (⟨a1, t259, a2, a3⟩ : S30)⟩ : S98)); (case aB => exact (bg2 HB.out GE258.out GE260.out)); (case aF => exact (fun _ _ => trivial)); (case aO => exact (pr HO263.out)); (case aS => exact (below_size (bg2 HB.out GE258.out GE260.out))); (case aL => have := LMc10.out; omega); intro v268 w22 ho hb hg hat; rw [← Ny267.out] at ho; replace BK258 := am (blk_grown (g := gb258) (o := .cells #[.slice A0_0 l0_0.length c0_0, .slice A0_1 l0_1.length c0_1] 70 (0, 0)) (pb BK258.out) hg (Kd.R_ne HO263.out BK258.out (by decide))); replace BK260 := am (blk_grown (g := gb260) (o := .cells #[.int .i64 a1, .int .i64 t259, .int .i64 a2, .int .i64 a3] 30 (0, 0)) (pb BK260.out) hg (Kd.R_ne HO263.out BK260.out (by decide))); replace HB := am (hb); have HO269 := am (ho); clear HO263; clear ho hb hg hat))
 go_ret
 exact ⟨_, rq ⟨pr HO269.out, bg2 HB.out GE258.out GE260.out⟩⟩
def spec_l11Dirty.f (k : Nat) (l0_0 : List (S28)) (l0_1 : List Int) (a1 : Int) : Option (Bool) := (spec_l3Last.f k l0_0 a1).bind fun bt277 => (if bt277.2.2.2.2 = true then (some (bt277.1 == 1)) else (some false))
theorem spec_l11Dirty.mono : ∀ a0 a1 a2 k, LeO (spec_l11Dirty.f k a0 a1 a2) (spec_l11Dirty.f (k + 1) a0 a1 a2) := by
 intro a0 a1 a2 k
 unfold spec_l11Dirty.f
 repeat' first
  | (with_reducible exact spec_l3Last.mono _ _ _)
  | (with_reducible exact LeO.refl _)
  | (with_reducible exact LeO.none _)
  | (with_reducible refine LeO.ite ?_ ?_)
  | (with_reducible refine LeO.bind ?_ (fun _ => ?_))
  | exact spec_l3Last.mono _ _ _
  | exact LeO.none _
  | refine LeO.ite ?_ ?_
  | refine LeO.bind ?_ (fun _ => ?_)
set_option maxHeartbeats 8000000 in
set_option maxRecDepth 100000 in
theorem spec_l11Dirty.calls (k : Nat) (A0_0 : Option Addr) (c0_0 : Nat) (l0_0 : List (S28)) (A0_1 : Option Addr) (c0_1 : Nat) (l0_1 : List Int) (a1 : Int) (r : Bool) (w : World) (hr0_0 : Kd.C k28 w A0_0 l0_0.length l0_0) (hc0_0 : l0_0.length ≤ c0_0) (hr0_1 : Kd.C (Kd.int .i64) w A0_1 l0_1.length l0_1) (hc0_1 : l0_1.length ≤ c0_1) (h : spec_l11Dirty.f k l0_0 l0_1 a1 = some r) :
 Calls Try.prog 60 #[.agg #[.slice A0_0 l0_0.length c0_0, .slice A0_1 l0_1.length c0_1], .int .i64 a1] w fun e w' => e = .returned (.bool r) ∧ Below w.heap.size w w' := by
 have hu70 := Try.underlying70
 have hu30 := Try.underlying30
 have HR0_0 := am hr0_0
 have HC0_0 := am hc0_0
 clear hr0_0 hc0_0
 have HR0_1 := am hr0_1
 have HC0_1 := am hc0_1
 clear hr0_1 hc0_1
 have HB := am (Below.refl w.heap.size w)
 have H : ((spec_l3Last.f k l0_0 a1).bind fun bt277 => (if bt277.2.2.2.2 = true then (some (bt277.1 == 1)) else (some false))) = some r := h
 clear h
 replace H := Option.bind_eq_some_iff.mp H
 obtain ⟨⟨t277, t278, t279, t280, t281⟩, A30, H⟩ := H
 replace H : (if t281 = true then (some (t277 == 1)) else (some false)) = some r := H
 have A3 := am A30
 clear A30
 by_cases c4 : t281 = true
 · subst c4
   have H1 : (some (t277 == 1)) = some r := by rw [if_pos rfl] at H; exact H
   clear H
   have H := H1
   clear H1
   obtain rfl := Option.some.inj H
   go_enter Try.func60, Try.ntmps60
   go_wp2_with (first | (refine bx 2 #[.slice A0_0 l0_0.length c0_0, .slice A0_1 l0_1.length c0_1] 70 rfl ?_; intro gb276 hg w5 hbox hb; have BK276 := am (hbox); have GW276 := am ((by rw [hg]; exact (below_size (ph HB.out)) : w.heap.size ≤ gb276)); have GE276 := GW276; replace HB := am (below_step (ph HB.out) hb); clear hb hbox hg; obtain ⟨hcz6_0, hcz6_1⟩ := b2 BK276.out; obtain ⟨hfz6_0, hfz6_1⟩ := f2 BK276.out) | (refine gl 11 Try.func39 #[.slice A0_0 l0_0.length c0_0, .int .i64 a1] rfl ?_; (with_reducible refine (spec_l3Last.calls k _ _ l0_0 a1 t277 t278 t279 t280 true _ ?side1 ?side2 A3.out).mono ?_); (case side1 => exact pc (Kd.C_below HR0_0.out HB.out)); (case side2 => exact HC0_0.out); rintro e w7 ⟨rfl, hb⟩; refine ⟨_, rfl, ?_⟩; replace BK276 := am (blk_below (pb BK276.out) hb); replace HB := am (below_step (bg1 HB.out GE276.out) hb); (try clear hb); (try clear hb2); (try clear hk); (try clear hi)) | (refine bx 5 #[.int .i64 0, .int .i64 0, .int .i64 0, .int .i64 0] 30 rfl ?_; intro gb282 hg w8 hbox hb; have BK282 := am (hbox); have GW282 := am ((by rw [hg]; exact (below_size (bg1 HB.out GE276.out)) : w.heap.size ≤ gb282)); have GE282 := GW282; replace HB := am (below_step (bg1 HB.out GE276.out) hb); have NB276_282 := am ((by rw [hg]; exact Nat.ne_of_lt (blk_lt (pb BK276.out)) : gb276 ≠ gb282)); have NB282_276 := am (Ne.symm NB276_282.out); replace BK276 := am (blk_below (pb BK276.out) hb); clear hb hbox hg; have hnb9 := NB282_276.out; have hnc9 := NB276_282.out; obtain ⟨hcz10_0, hcz10_1, hcz10_2, hcz10_3⟩ := b4 BK282.out; obtain ⟨hfz10_0, hfz10_1, hfz10_2, hfz10_3⟩ := f4 BK282.out))
   go_ret
   exact (rq (bg2 HB.out GE276.out GE282.out))
 replace c4 := Bool.eq_false_iff.mpr c4
 subst c4
 have H1 : (some false) = some r := by rw [if_neg (show ¬ (false = true) by decide)] at H; exact H
 clear H
 have H := H1
 clear H1
 obtain rfl := Option.some.inj H
 go_enter Try.func60, Try.ntmps60
 go_wp2_with (first | (refine bx 2 #[.slice A0_0 l0_0.length c0_0, .slice A0_1 l0_1.length c0_1] 70 rfl ?_; intro gb276 hg w11 hbox hb; have BK276 := am (hbox); have GW276 := am ((by rw [hg]; exact (below_size (ph HB.out)) : w.heap.size ≤ gb276)); have GE276 := GW276; replace HB := am (below_step (ph HB.out) hb); clear hb hbox hg; obtain ⟨hcz12_0, hcz12_1⟩ := b2 BK276.out; obtain ⟨hfz12_0, hfz12_1⟩ := f2 BK276.out) | (refine gl 11 Try.func39 #[.slice A0_0 l0_0.length c0_0, .int .i64 a1] rfl ?_; (with_reducible refine (spec_l3Last.calls k _ _ l0_0 a1 t277 t278 t279 t280 false _ ?side1 ?side2 A3.out).mono ?_); (case side1 => exact pc (Kd.C_below HR0_0.out HB.out)); (case side2 => exact HC0_0.out); rintro e w13 ⟨rfl, hb⟩; refine ⟨_, rfl, ?_⟩; replace BK276 := am (blk_below (pb BK276.out) hb); replace HB := am (below_step (bg1 HB.out GE276.out) hb); (try clear hb); (try clear hb2); (try clear hk); (try clear hi)) | (refine bx 5 #[.int .i64 0, .int .i64 0, .int .i64 0, .int .i64 0] 30 rfl ?_; intro gb282 hg w14 hbox hb; have BK282 := am (hbox); have GW282 := am ((by rw [hg]; exact (below_size (bg1 HB.out GE276.out)) : w.heap.size ≤ gb282)); have GE282 := GW282; replace HB := am (below_step (bg1 HB.out GE276.out) hb); have NB276_282 := am ((by rw [hg]; exact Nat.ne_of_lt (blk_lt (pb BK276.out)) : gb276 ≠ gb282)); have NB282_276 := am (Ne.symm NB276_282.out); replace BK276 := am (blk_below (pb BK276.out) hb); clear hb hbox hg; have hnb15 := NB282_276.out; have hnc15 := NB276_282.out; obtain ⟨hcz16_0, hcz16_1, hcz16_2, hcz16_3⟩ := b4 BK282.out; obtain ⟨hfz16_0, hfz16_1, hfz16_2, hfz16_3⟩ := f4 BK282.out))
 go_ret
 exact (rq (bg2 HB.out GE276.out GE282.out))
def spec_l11Read.f (k : Nat) (l0_0 : List (S28)) (l0_1 : List Int) (a1 : Int) : Option (Int) := (spec_l3Last.f k l0_0 a1).bind fun bt284 => (if bt284.2.2.2.2 = true then (some bt284.2.2.2.1) else (if 0 ≤ (wrap64 (a1 - 1)) then (if (wrap64 (a1 - 1)) < (l0_1.length : Int) then (some (rd l0_1 (wrap64 (a1 - 1)))) else (none)) else (none)))
theorem spec_l11Read.mono : ∀ a0 a1 a2 k, LeO (spec_l11Read.f k a0 a1 a2) (spec_l11Read.f (k + 1) a0 a1 a2) := by
 intro a0 a1 a2 k
 unfold spec_l11Read.f
 repeat' first
  | (with_reducible exact spec_l3Last.mono _ _ _)
  | (with_reducible exact LeO.refl _)
  | (with_reducible exact LeO.none _)
  | (with_reducible refine LeO.ite ?_ ?_)
  | (with_reducible refine LeO.bind ?_ (fun _ => ?_))
  | exact spec_l3Last.mono _ _ _
  | exact LeO.none _
  | refine LeO.ite ?_ ?_
  | refine LeO.bind ?_ (fun _ => ?_)
set_option maxHeartbeats 8000000 in
set_option maxRecDepth 100000 in
theorem spec_l11Read.calls (k : Nat) (A0_0 : Option Addr) (c0_0 : Nat) (l0_0 : List (S28)) (A0_1 : Option Addr) (c0_1 : Nat) (l0_1 : List Int) (a1 : Int) (r : Int) (w : World) (hr0_0 : Kd.C k28 w A0_0 l0_0.length l0_0) (hc0_0 : l0_0.length ≤ c0_0) (hr0_1 : Kd.C (Kd.int .i64) w A0_1 l0_1.length l0_1) (hc0_1 : l0_1.length ≤ c0_1) (h : spec_l11Read.f k l0_0 l0_1 a1 = some r) :
 Calls Try.prog 61 #[.agg #[.slice A0_0 l0_0.length c0_0, .slice A0_1 l0_1.length c0_1], .int .i64 a1] w fun e w' => e = .returned (.int .i64 r) ∧ Below w.heap.size w w' := by
 have hu70 := Try.underlying70
 have hu30 := Try.underlying30
 have HR0_0 := am hr0_0
 have HC0_0 := am hc0_0
 clear hr0_0 hc0_0
 have HR0_1 := am hr0_1
 have HC0_1 := am hc0_1
 clear hr0_1 hc0_1
 have HB := am (Below.refl w.heap.size w)
 have H : ((spec_l3Last.f k l0_0 a1).bind fun bt284 => (if bt284.2.2.2.2 = true then (some bt284.2.2.2.1) else (if 0 ≤ (wrap64 (a1 - 1)) then (if (wrap64 (a1 - 1)) < (l0_1.length : Int) then (some (rd l0_1 (wrap64 (a1 - 1)))) else (none)) else (none)))) = some r := h
 clear h
 replace H := Option.bind_eq_some_iff.mp H
 obtain ⟨⟨t284, t285, t286, t287, t288⟩, A30, H⟩ := H
 replace H : (if t288 = true then (some t287) else (if 0 ≤ (wrap64 (a1 - 1)) then (if (wrap64 (a1 - 1)) < (l0_1.length : Int) then (some (rd l0_1 (wrap64 (a1 - 1)))) else (none)) else (none))) = some r := H
 have A3 := am A30
 clear A30
 by_cases c4 : t288 = true
 · subst c4
   have H1 : (some t287) = some r := by rw [if_pos rfl] at H; exact H
   clear H
   have H := H1
   clear H1
   obtain rfl := Option.some.inj H
   go_enter Try.func61, Try.ntmps61
   go_wp2_with (first | (refine bx 2 #[.slice A0_0 l0_0.length c0_0, .slice A0_1 l0_1.length c0_1] 70 rfl ?_; intro gb283 hg w5 hbox hb; have BK283 := am (hbox); have GW283 := am ((by rw [hg]; exact (below_size (ph HB.out)) : w.heap.size ≤ gb283)); have GE283 := GW283; replace HB := am (below_step (ph HB.out) hb); clear hb hbox hg; obtain ⟨hcz6_0, hcz6_1⟩ := b2 BK283.out; obtain ⟨hfz6_0, hfz6_1⟩ := f2 BK283.out) | (refine gl 11 Try.func39 #[.slice A0_0 l0_0.length c0_0, .int .i64 a1] rfl ?_; (with_reducible refine (spec_l3Last.calls k _ _ l0_0 a1 t284 t285 t286 t287 true _ ?side1 ?side2 A3.out).mono ?_); (case side1 => exact pc (Kd.C_below HR0_0.out HB.out)); (case side2 => exact HC0_0.out); rintro e w7 ⟨rfl, hb⟩; refine ⟨_, rfl, ?_⟩; replace BK283 := am (blk_below (pb BK283.out) hb); replace HB := am (below_step (bg1 HB.out GE283.out) hb); (try clear hb); (try clear hb2); (try clear hk); (try clear hi)) | (refine bx 5 #[.int .i64 0, .int .i64 0, .int .i64 0, .int .i64 0] 30 rfl ?_; intro gb289 hg w8 hbox hb; have BK289 := am (hbox); have GW289 := am ((by rw [hg]; exact (below_size (bg1 HB.out GE283.out)) : w.heap.size ≤ gb289)); have GE289 := GW289; replace HB := am (below_step (bg1 HB.out GE283.out) hb); have NB283_289 := am ((by rw [hg]; exact Nat.ne_of_lt (blk_lt (pb BK283.out)) : gb283 ≠ gb289)); have NB289_283 := am (Ne.symm NB283_289.out); replace BK283 := am (blk_below (pb BK283.out) hb); clear hb hbox hg; have hnb9 := NB289_283.out; have hnc9 := NB283_289.out; obtain ⟨hcz10_0, hcz10_1, hcz10_2, hcz10_3⟩ := b4 BK289.out; obtain ⟨hfz10_0, hfz10_1, hfz10_2, hfz10_3⟩ := f4 BK289.out))
   go_ret
   exact (rq (bg2 HB.out GE283.out GE289.out))
 replace c4 := Bool.eq_false_iff.mpr c4
 subst c4
 have H1 : (if 0 ≤ (wrap64 (a1 - 1)) then (if (wrap64 (a1 - 1)) < (l0_1.length : Int) then (some (rd l0_1 (wrap64 (a1 - 1)))) else (none)) else (none)) = some r := by rw [if_neg (show ¬ (false = true) by decide)] at H; exact H
 clear H
 have H := H1
 clear H1
 obtain ⟨ji11, hji11⟩ : ∃ j_ : Int, (wrap64 (a1 - 1)) = j_ := ⟨_, rfl⟩
 replace H : (if 0 ≤ (ji11) then (if (ji11) < (l0_1.length : Int) then (some (rd l0_1 (ji11))) else (none)) else (none)) = some r := by first | (rw [hji11] at H; exact H) | (simp only [hji11] at H ⊢; exact H)
 (try rw [hji11] at A3)
 have hji11w : (IntKind.i64.wrap (a1 - 1)) = ji11 := (i64_w _).trans hji11
 by_cases c12 : 0 ≤ (ji11)
 rotate_left
 · rw [if_neg c12] at H
   exact absurd H (by simp)
 rw [if_pos c12] at H
 have c12b0 := decide_eq_true c12
 clear c12
 by_cases c13 : (ji11) < (l0_1.length : Int)
 rotate_left
 · rw [if_neg c13] at H
   exact absurd H (by simp)
 rw [if_pos c13] at H
 have c13b0 := decide_eq_true c13
 clear c13
 obtain rfl := Option.some.inj H
 go_enter Try.func61, Try.ntmps61
 go_wp2_with (first | (refine bx 2 #[.slice A0_0 l0_0.length c0_0, .slice A0_1 l0_1.length c0_1] 70 rfl ?_; intro gb283 hg w14 hbox hb; have BK283 := am (hbox); have GW283 := am ((by rw [hg]; exact (below_size (ph HB.out)) : w.heap.size ≤ gb283)); have GE283 := GW283; replace HB := am (below_step (ph HB.out) hb); clear hb hbox hg; obtain ⟨hcz15_0, hcz15_1⟩ := b2 BK283.out; obtain ⟨hfz15_0, hfz15_1⟩ := f2 BK283.out) | (refine gl 11 Try.func39 #[.slice A0_0 l0_0.length c0_0, .int .i64 a1] rfl ?_; (with_reducible refine (spec_l3Last.calls k _ _ l0_0 a1 t284 t285 t286 t287 false _ ?side1 ?side2 A3.out).mono ?_); (case side1 => exact pc (Kd.C_below HR0_0.out HB.out)); (case side2 => exact HC0_0.out); rintro e w16 ⟨rfl, hb⟩; refine ⟨_, rfl, ?_⟩; replace BK283 := am (blk_below (pb BK283.out) hb); replace HB := am (below_step (bg1 HB.out GE283.out) hb); (try clear hb); (try clear hb2); (try clear hk); (try clear hi)) | (refine bx 5 #[.int .i64 0, .int .i64 0, .int .i64 0, .int .i64 0] 30 rfl ?_; intro gb289 hg w17 hbox hb; have BK289 := am (hbox); have GW289 := am ((by rw [hg]; exact (below_size (bg1 HB.out GE283.out)) : w.heap.size ≤ gb289)); have GE289 := GW289; replace HB := am (below_step (bg1 HB.out GE283.out) hb); have NB283_289 := am ((by rw [hg]; exact Nat.ne_of_lt (blk_lt (pb BK283.out)) : gb283 ≠ gb289)); have NB289_283 := am (Ne.symm NB283_289.out); replace BK283 := am (blk_below (pb BK283.out) hb); clear hb hbox hg; have hnb18 := NB289_283.out; have hnc18 := NB283_289.out; obtain ⟨hcz19_0, hcz19_1, hcz19_2, hcz19_3⟩ := b4 BK289.out; obtain ⟨hfz19_0, hfz19_1, hfz19_2, hfz19_3⟩ := f4 BK289.out; obtain ⟨hcz20_0, hcz20_1⟩ := b2 BK283.out; obtain ⟨hfz20_0, hfz20_1⟩ := f2 BK283.out; have p290 : 0 ≤ ((ji11) : Int) := ofb; have q290 : (ji11) < (l0_1.length : Int) := ofb; obtain ⟨ad290, e290, hx290_0⟩ := Kd.at_int HR0_1.out (ji11) p290 q290; cases e290; have hn290_0 : ad290.block ≠ gb289 := Nat.ne_of_lt (Nat.lt_of_lt_of_le (by have := World.block_lt_of_cell? _ _ hx290_0; first | rwa [add_block] at this | exact this) GW289.out); have hn290_1 : ad290.block ≠ gb289 := Nat.ne_of_lt (Nat.lt_of_lt_of_le (by have := World.block_lt_of_cell? _ _ hx290_0; first | rwa [add_block] at this | exact this) GW289.out); have hn290_2 : ad290.block ≠ gb289 := Nat.ne_of_lt (Nat.lt_of_lt_of_le (by have := World.block_lt_of_cell? _ _ hx290_0; first | rwa [add_block] at this | exact this) GW289.out); have hn290_3 : ad290.block ≠ gb289 := Nat.ne_of_lt (Nat.lt_of_lt_of_le (by have := World.block_lt_of_cell? _ _ hx290_0; first | rwa [add_block] at this | exact this) GW289.out); replace hx290_0 := up HB.out hx290_0; replace hx290_0 := (cell_far (p := ⟨gb289, 0, none⟩) (by first | (rw [add_block]; exact hn290_0) | (show (Addr.add _ _).block ≠ _; rw [add_block]; exact hn290_0) | exact hn290_0) (.int .i64 t284)).trans hx290_0; replace hx290_0 := (cell_far (p := ⟨gb289, 1, none⟩) (by first | (rw [add_block]; exact hn290_1) | (show (Addr.add _ _).block ≠ _; rw [add_block]; exact hn290_1) | exact hn290_1) (.int .i64 t285)).trans hx290_0; replace hx290_0 := (cell_far (p := ⟨gb289, 2, none⟩) (by first | (rw [add_block]; exact hn290_2) | (show (Addr.add _ _).block ≠ _; rw [add_block]; exact hn290_2) | exact hn290_2) (.int .i64 t286)).trans hx290_0; replace hx290_0 := (cell_far (p := ⟨gb289, 3, none⟩) (by first | (rw [add_block]; exact hn290_3) | (show (Addr.add _ _).block ≠ _; rw [add_block]; exact hn290_3) | exact hn290_3) (.int .i64 t287)).trans hx290_0; clear hn290_0; clear hn290_1; clear hn290_2; clear hn290_3; replace p290 := eq_true p290; replace q290 := eq_true q290))
 go_ret
 exact ⟨by first | rfl | (simp [errW_none, errW_some] <;> rfl) | (simp only [← hji11]; first | rfl | (simp [errW_none, errW_some] <;> rfl)) | (simp [*, errW_none, errW_some] <;> rfl), bg2 HB.out GE283.out GE289.out⟩
def spec_l12Flush.j0 : Nat → Int → Bool → List (S28) → List Int → Option ((List (S98)))
 | 0, _, _, _, _ => none
 | k + 1, x1, x15, x292000, x292001 => if x15 = true then (some (([] : List (S98)))) else ((spec_l11Read.f k x292000 x292001 x1).bind fun t297 => ((spec_l12Write.f k x292000 x292001 2 x1 t297).bind fun t298 => (if (t298.length : Int) = 0 then (some t298) else ((some (([(⟨1, x1, t297, 0, (⟨0, 0, 0, 0⟩ : S30)⟩ : S98)] : List (S98)) : List (S98))).bind fun y301 => (if y301.length + t298.length < 2199023255552 then (some (y301 ++ t298)) else (none))))))
def spec_l12Flush.f (k : Nat) (l0_0 : List (S28)) (l0_1 : List Int) (a1 : Int) : Option ((List (S98))) := (spec_l6In.f a1 1 6).bind fun t292 => (if t292 = true then ((spec_l11Dirty.f k l0_0 l0_1 a1).bind fun t293 => (spec_l12Flush.j0 k a1 (!t293) l0_0 l0_1)) else (spec_l12Flush.j0 k a1 true l0_0 l0_1))
theorem spec_l12Flush.mono_l : ∀ k, (∀ y0 y1 y2 y3, LeO (spec_l12Flush.j0 k y0 y1 y2 y3) (spec_l12Flush.j0 (k + 1) y0 y1 y2 y3))
 | 0 => fun _ _ _ _ r h => by simp [spec_l12Flush.j0] at h
 | k + 1 => by
  have ih0 := spec_l12Flush.mono_l k
  · intro y0 y1 y2 y3
    unfold spec_l12Flush.j0
    repeat' first
    | (with_reducible exact ih0 _ _ _ _)
    | (with_reducible exact spec_l11Dirty.mono _ _ _ _)
    | (with_reducible exact spec_l11Read.mono _ _ _ _)
    | (with_reducible exact spec_l12Write.mono _ _ _ _ _ _)
    | (with_reducible exact LeO.refl _)
    | (with_reducible exact LeO.none _)
    | (with_reducible refine LeO.ite ?_ ?_)
    | (with_reducible refine LeO.bind ?_ (fun _ => ?_))
    | exact ih0 _ _ _ _
    | exact spec_l11Dirty.mono _ _ _ _
    | exact spec_l11Read.mono _ _ _ _
    | exact spec_l12Write.mono _ _ _ _ _ _
    | exact LeO.none _
    | refine LeO.ite ?_ ?_
    | refine LeO.bind ?_ (fun _ => ?_)
theorem spec_l12Flush.mono : ∀ a0 a1 a2 k, LeO (spec_l12Flush.f k a0 a1 a2) (spec_l12Flush.f (k + 1) a0 a1 a2) := by
 intro a0 a1 a2 k
 have ih0 := spec_l12Flush.mono_l k
 unfold spec_l12Flush.f
 repeat' first
  | (with_reducible exact ih0 _ _ _ _)
  | (with_reducible exact spec_l11Dirty.mono _ _ _ _)
  | (with_reducible exact spec_l11Read.mono _ _ _ _)
  | (with_reducible exact spec_l12Write.mono _ _ _ _ _ _)
  | (with_reducible exact LeO.refl _)
  | (with_reducible exact LeO.none _)
  | (with_reducible refine LeO.ite ?_ ?_)
  | (with_reducible refine LeO.bind ?_ (fun _ => ?_))
  | exact ih0 _ _ _ _
  | exact spec_l11Dirty.mono _ _ _ _
  | exact spec_l11Read.mono _ _ _ _
  | exact spec_l12Write.mono _ _ _ _ _ _
  | exact LeO.none _
  | refine LeO.ite ?_ ?_
  | refine LeO.bind ?_ (fun _ => ?_)
set_option maxHeartbeats 8000000 in
set_option maxRecDepth 100000 in
theorem spec_l12Flush.calls (k : Nat) (A0_0 : Option Addr) (c0_0 : Nat) (l0_0 : List (S28)) (A0_1 : Option Addr) (c0_1 : Nat) (l0_1 : List Int) (a1 : Int) (r : List (S98)) (w : World) (hr0_0 : Kd.C k28 w A0_0 l0_0.length l0_0) (hc0_0 : l0_0.length ≤ c0_0) (hr0_1 : Kd.C (Kd.int .i64) w A0_1 l0_1.length l0_1) (hc0_1 : l0_1.length ≤ c0_1) (h : spec_l12Flush.f k l0_0 l0_1 a1 = some r) :
 Calls Try.prog 56 #[.agg #[.slice A0_0 l0_0.length c0_0, .slice A0_1 l0_1.length c0_1], .int .i64 a1] w fun e w' => ∃ v0_ : Value, e = .returned (v0_) ∧ Kd.R k98 98 w' w.heap.size (fun _ => True) v0_ r ∧ Below w.heap.size w w' := by
 have hu70 := Try.underlying70
 have hu98 := Try.underlying98
 have HR0_0 := am hr0_0
 have HC0_0 := am hc0_0
 clear hr0_0 hc0_0
 have HR0_1 := am hr0_1
 have HC0_1 := am hc0_1
 clear hr0_1 hc0_1
 have HB := am (Below.refl w.heap.size w)
 have H : ((spec_l6In.f a1 1 6).bind fun t292 => (if t292 = true then ((spec_l11Dirty.f k l0_0 l0_1 a1).bind fun t293 => (spec_l12Flush.j0 k a1 (!t293) l0_0 l0_1)) else (spec_l12Flush.j0 k a1 true l0_0 l0_1))) = some r := h
 clear h
 have HC3 := am H
 clear H
 go_enter Try.func56, Try.ntmps56
 go_upto_region 1 with (first | (refine bx 2 #[.slice A0_0 l0_0.length c0_0, .slice A0_1 l0_1.length c0_1] 70 rfl ?_; intro gb291 hg w4 hbox hb; have BK291 := am (hbox); have GW291 := am ((by rw [hg]; exact (below_size (ph HB.out)) : w.heap.size ≤ gb291)); have GE291 := GW291; replace HB := am (below_step (ph HB.out) hb); clear hb hbox hg))
 (try simp only [Act.put, List.setIfInBounds_toArray, List.set_cons_zero, List.set_cons_succ])
 go_cut [15] (fun v15 wc => ∃ (kq : Nat) (x15_2 : Bool), v15 = .bool x15_2 ∧ Aside0 (spec_l12Flush.j0 kq a1 x15_2 l0_0 l0_1 = some r) ∧ Aside0 (kq ≤ k) ∧ Aside0 (wc.heap[gb291]? = some (.cells #[(.slice A0_0 l0_0.length c0_0), (.slice A0_1 l0_1.length c0_1)] 70 (0, 0))) ∧ Aside0 (Below w.heap.size w wc))
 case first =>
  have H := HC3.out
  clear HC3
  replace H := Option.bind_eq_some_iff.mp H
  obtain ⟨t292, A50, H⟩ := H
  replace H : (if t292 = true then ((spec_l11Dirty.f k l0_0 l0_1 a1).bind fun t293 => (spec_l12Flush.j0 k a1 (!t293) l0_0 l0_1)) else (spec_l12Flush.j0 k a1 true l0_0 l0_1)) = some r := H
  have A5 := am A50
  clear A50
  by_cases c6 : t292 = true
  rotate_left
  · replace c6 := Bool.eq_false_iff.mpr c6
    subst c6
    have H1 : (spec_l12Flush.j0 k a1 true l0_0 l0_1) = some r := by rw [if_neg (show ¬ (false = true) by decide)] at H; exact H
    clear H
    have H := H1
    clear H1
    have H' := am H
    clear H
    go_wp2_with (first | (refine gl 8 Try.func28 #[.int .i64 a1, .int .i64 1, .int .i64 6] rfl ?_; (with_reducible refine (spec_l6In.calls a1 1 6 false _ A5.out).mono ?_); rintro e w' ⟨rfl, ⟨nd, rfl⟩⟩; refine ⟨_, rfl, ?_⟩))
    go_meet
    case rel => exact ⟨_, (true), rf, H', ⟨by first | omega | exact Nat.le_refl _⟩, ⟨pb BK291.out⟩, ⟨bg1 HB.out GE291.out⟩⟩
  subst c6
  have H1 : ((spec_l11Dirty.f k l0_0 l0_1 a1).bind fun t293 => (spec_l12Flush.j0 k a1 (!t293) l0_0 l0_1)) = some r := by rw [if_pos rfl] at H; exact H
  clear H
  have H := H1
  clear H1
  replace H := Option.bind_eq_some_iff.mp H
  obtain ⟨t293, A70, H⟩ := H
  replace H : (spec_l12Flush.j0 k a1 (!t293) l0_0 l0_1) = some r := H
  have A7 := am A70
  clear A70
  have H' := am H
  clear H
  go_wp2_with (first | (refine gl 8 Try.func28 #[.int .i64 a1, .int .i64 1, .int .i64 6] rfl ?_; (with_reducible refine (spec_l6In.calls a1 1 6 true _ A5.out).mono ?_); rintro e w' ⟨rfl, ⟨nd, rfl⟩⟩; refine ⟨_, rfl, ?_⟩; obtain ⟨hcz8_0, hcz8_1⟩ := b2 BK291.out; obtain ⟨hfz8_0, hfz8_1⟩ := f2 BK291.out) | (go_at_call 60; (with_reducible refine (spec_l11Dirty.calls k _ _ l0_0 _ _ l0_1 a1 t293 _ ?side1 ?side2 ?side3 ?side4 A7.out).mono ?_); (case side1 => repeat (first | exact (Kd.C_below HR0_0.out (bg1 HB.out GE291.out)) | (with_reducible refine Kd.C_alloc ?_ _) | (with_reducible refine Kd.C_drewN ?_ _) | (with_reducible refine Kd.C_drew ?_))); (case side2 => exact HC0_0.out); (case side3 => repeat (first | exact (Kd.C_below HR0_1.out (bg1 HB.out GE291.out)) | (with_reducible refine Kd.C_alloc ?_ _) | (with_reducible refine Kd.C_drewN ?_ _) | (with_reducible refine Kd.C_drew ?_))); (case side4 => exact HC0_1.out); rintro e w9 ⟨rfl, hb⟩; replace BK291 := am (blk_below (pb BK291.out) hb); replace HB := am (below_step (bg1 HB.out GE291.out) hb); (try clear hb); (try clear hb2); (try clear hk); (try clear hi)))
  go_meet
  case rel => exact ⟨_, (!t293), rf, H', ⟨by first | omega | exact Nat.le_refl _⟩, ⟨pb BK291.out⟩, ⟨bg1 HB.out GE291.out⟩⟩
 case rest =>
  clear HC3
  obtain ⟨kq, x15_2, rfl, HA, HJ2, BK291, HB⟩ := hcut
  cases kq with
  | zero => exact absurd HA.out (by simp [spec_l12Flush.j0])
  | succ kj2 =>
   have H := HA.out
   clear HA
   simp only [spec_l12Flush.j0] at H
   by_cases c10 : x15_2 = true
   · subst c10
     have H1 : (some (([] : List (S98)))) = some r := by rw [if_pos rfl] at H; exact H
     clear H
     have H := H1
     clear H1
     obtain ⟨y294, hy294⟩ : ∃ y_ : List (S98), y_ = (([] : List (S98))) := ⟨_, rfl⟩
     replace H : (some y294) = some r := by first | (rw [hy294]; with_reducible exact H) | (have H2_ := (Option.bind_some _ _).symm.trans H; rw [hy294]; with_reducible exact H2_) | (have H2_ := (Option.bind_some _ _).symm.trans H; with_reducible exact H2_) | with_reducible exact H | (rw [hy294]; exact H) | exact H
     have Ny294 := am hy294
     clear hy294
     obtain rfl := Option.some.inj H
     go_wp2_with (first | ((with_reducible refine gate_dst (N := 16) rfl ?_); refine Kd.R_lit k98 _ 98 ?hg (N := 16) ?hd (xs := ([] : List (S98))) (inner := []) (ok := fun _ => True) (okp := fun _ => True) ?hr ?hp (fun _ hk => hk) trivial (Below.refl _ _) (Nat.le_refl _) (by simp) ?_; (case hd => rfl); (case hg => rfl); (case hr => first | (go_simp; done) | (go_simp; rfl)); (case hp => exact (Reps.none _ _)); intro v295 w11 ho12 hb hg_ hnew_; clear hg_ hnew_; (first | rw [← Ny294.out] at ho12 | (simp only [Int.reduceToNat] at ho12; rw [← Ny294.out] at ho12)); have HO296 := am (Kd.R_lower ho12 (below_size (bg1 HB.out GE291.out))); replace BK291 := am (blk_below (pb BK291.out) hb); replace HB := am (below_step (bg1 HB.out GE291.out) hb); clear hb ho12))
     go_ret
     exact ⟨_, rq ⟨pr HO296.out, bg1 HB.out GE291.out⟩⟩
   replace c10 := Bool.eq_false_iff.mpr c10
   subst c10
   have H1 : ((spec_l11Read.f kj2 l0_0 l0_1 a1).bind fun t297 => ((spec_l12Write.f kj2 l0_0 l0_1 2 a1 t297).bind fun t298 => (if (t298.length : Int) = 0 then (some t298) else ((some (([(⟨1, a1, t297, 0, (⟨0, 0, 0, 0⟩ : S30)⟩ : S98)] : List (S98)) : List (S98))).bind fun y301 => (if y301.length + t298.length < 2199023255552 then (some (y301 ++ t298)) else (none)))))) = some r := by rw [if_neg (show ¬ (false = true) by decide)] at H; exact H
   clear H
   have H := H1
   clear H1
   replace H := Option.bind_eq_some_iff.mp H
   obtain ⟨t297, A130, H⟩ := H
   replace H : ((spec_l12Write.f kj2 l0_0 l0_1 2 a1 t297).bind fun t298 => (if (t298.length : Int) = 0 then (some t298) else ((some (([(⟨1, a1, t297, 0, (⟨0, 0, 0, 0⟩ : S30)⟩ : S98)] : List (S98)) : List (S98))).bind fun y301 => (if y301.length + t298.length < 2199023255552 then (some (y301 ++ t298)) else (none))))) = some r := H
   have A13 := am A130
   clear A130
   replace H := Option.bind_eq_some_iff.mp H
   obtain ⟨t298, A140, H⟩ := H
   replace H : (if (t298.length : Int) = 0 then (some t298) else ((some (([(⟨1, a1, t297, 0, (⟨0, 0, 0, 0⟩ : S30)⟩ : S98)] : List (S98)) : List (S98))).bind fun y301 => (if y301.length + t298.length < 2199023255552 then (some (y301 ++ t298)) else (none)))) = some r := H
   have A14 := am A140
   clear A140
   by_cases c15 : (t298.length : Int) = 0
   · rw [if_pos c15] at H
     have c15b0 : ((t298.length : Int) == 0) = true := beq_iff_eq.mpr c15
     have c15b1 : ((t298.length : Int) != 0) = false := bne_eq_false_iff_eq.mpr c15
     clear c15
     obtain rfl := Option.some.inj H
     obtain ⟨hcz16_0, hcz16_1⟩ := b2 BK291.out
     obtain ⟨hfz16_0, hfz16_1⟩ := f2 BK291.out
     go_wp2_with (first | (refine gl 19 Try.func61 #[.agg #[.slice A0_0 l0_0.length c0_0, .slice A0_1 l0_1.length c0_1], .int .i64 a1] rfl ?_; (with_reducible refine (spec_l11Read.calls kj2 _ _ l0_0 _ _ l0_1 a1 t297 _ ?side1 ?side2 ?side3 ?side4 A13.out).mono ?_); (case side1 => exact pc (Kd.C_below HR0_0.out HB.out)); (case side2 => exact HC0_0.out); (case side3 => exact pc (Kd.C_below HR0_1.out HB.out)); (case side4 => exact HC0_1.out); rintro e w17 ⟨rfl, hb⟩; refine ⟨_, rfl, ?_⟩; replace BK291 := am (blk_below (pb BK291.out) hb); replace HB := am (below_step (bg1 HB.out GE291.out) hb); (try clear hb); (try clear hb2); (try clear hk); (try clear hi); obtain ⟨hcz18_0, hcz18_1⟩ := b2 BK291.out; obtain ⟨hfz18_0, hfz18_1⟩ := f2 BK291.out) | (refine gl 23 Try.func58 #[.agg #[.slice A0_0 l0_0.length c0_0, .slice A0_1 l0_1.length c0_1], .int .i64 2, .int .i64 a1, .int .i64 t297] rfl ?_; (with_reducible refine (spec_l12Write.calls kj2 _ _ l0_0 _ _ l0_1 2 a1 t297 t298 _ ?side1 ?side2 ?side3 ?side4 A14.out).mono ?_); (case side1 => exact pc (Kd.C_below HR0_0.out HB.out)); (case side2 => exact HC0_0.out); (case side3 => exact pc (Kd.C_below HR0_1.out HB.out)); (case side4 => exact HC0_1.out); rintro e w19 ⟨v299, rfl, ho0, hb⟩; refine ⟨_, rfl, ?_⟩; have HO300 := am (Kd.R_lower ho0 (below_size (bg1 HB.out GE291.out))); replace BK291 := am (blk_below (pb BK291.out) hb); replace HB := am (below_step (bg1 HB.out GE291.out) hb); (try clear hb); (try clear hb2); (try clear hk); (try clear hi); (try clear ho0); obtain ⟨Ao20, co20, eo20⟩ := Kd.R_slice HO300.out; subst eo20))
     go_ret
     exact ⟨_, rq ⟨pr HO300.out, bg1 HB.out GE291.out⟩⟩
   rw [if_neg c15] at H
   have c15b0 : ((t298.length : Int) == 0) = false := beq_eq_false_iff_ne.mpr c15
   have c15b1 : ((t298.length : Int) != 0) = true := bne_iff_ne.mpr c15
   have c15b2 : ¬ (t298 = []) := fun h_ => c15 (by rw [h_]; rfl)
   obtain ⟨y301, hy301⟩ : ∃ y_ : List (S98), y_ = (([(⟨1, a1, t297, 0, (⟨0, 0, 0, 0⟩ : S30)⟩ : S98)] : List (S98))) := ⟨_, rfl⟩
   replace H : (if y301.length + t298.length < 2199023255552 then (some (y301 ++ t298)) else (none)) = some r := by first | (rw [hy301]; with_reducible exact H) | (have H2_ := (Option.bind_some _ _).symm.trans H; rw [hy301]; with_reducible exact H2_) | (have H2_ := (Option.bind_some _ _).symm.trans H; with_reducible exact H2_) | with_reducible exact H | (rw [hy301]; exact H) | exact H
   have Ny301 := am hy301
   clear hy301
   by_cases c21 : y301.length + t298.length < 2199023255552
   rotate_left
   · rw [if_neg c21] at H
     exact absurd H (by simp)
   rw [if_pos c21] at H
   have LMc21 := am c21
   clear c21
   obtain ⟨y304, hy304⟩ : ∃ y_ : List (S98), y_ = (y301 ++ t298) := ⟨_, rfl⟩
   replace H : (some y304) = some r := by first | (rw [hy304]; with_reducible exact H) | (have H2_ := (Option.bind_some _ _).symm.trans H; rw [hy304]; with_reducible exact H2_) | (have H2_ := (Option.bind_some _ _).symm.trans H; with_reducible exact H2_) | with_reducible exact H | (rw [hy304]; exact H) | exact H
   have Ny304 := am hy304
   clear hy304
   obtain rfl := Option.some.inj H
   obtain ⟨hcz22_0, hcz22_1⟩ := b2 BK291.out
   obtain ⟨hfz22_0, hfz22_1⟩ := f2 BK291.out
   go_wp2_with (first | (refine gl 19 Try.func61 #[.agg #[.slice A0_0 l0_0.length c0_0, .slice A0_1 l0_1.length c0_1], .int .i64 a1] rfl ?_; (with_reducible refine (spec_l11Read.calls kj2 _ _ l0_0 _ _ l0_1 a1 t297 _ ?side1 ?side2 ?side3 ?side4 A13.out).mono ?_); (case side1 => exact pc (Kd.C_below HR0_0.out HB.out)); (case side2 => exact HC0_0.out); (case side3 => exact pc (Kd.C_below HR0_1.out HB.out)); (case side4 => exact HC0_1.out); rintro e w23 ⟨rfl, hb⟩; refine ⟨_, rfl, ?_⟩; replace BK291 := am (blk_below (pb BK291.out) hb); replace HB := am (below_step (bg1 HB.out GE291.out) hb); (try clear hb); (try clear hb2); (try clear hk); (try clear hi); obtain ⟨hcz24_0, hcz24_1⟩ := b2 BK291.out; obtain ⟨hfz24_0, hfz24_1⟩ := f2 BK291.out) | (refine gl 23 Try.func58 #[.agg #[.slice A0_0 l0_0.length c0_0, .slice A0_1 l0_1.length c0_1], .int .i64 2, .int .i64 a1, .int .i64 t297] rfl ?_; (with_reducible refine (spec_l12Write.calls kj2 _ _ l0_0 _ _ l0_1 2 a1 t297 t298 _ ?side1 ?side2 ?side3 ?side4 A14.out).mono ?_); (case side1 => exact pc (Kd.C_below HR0_0.out HB.out)); (case side2 => exact HC0_0.out); (case side3 => exact pc (Kd.C_below HR0_1.out HB.out)); (case side4 => exact HC0_1.out); rintro e w25 ⟨v299, rfl, ho0, hb⟩; refine ⟨_, rfl, ?_⟩; have HO300 := am (Kd.R_lower ho0 (below_size (bg1 HB.out GE291.out))); replace BK291 := am (blk_below (pb BK291.out) hb); replace HB := am (below_step (bg1 HB.out GE291.out) hb); (try clear hb); (try clear hb2); (try clear hk); (try clear hi); (try clear ho0); obtain ⟨Ao26, co26, eo26⟩ := Kd.R_slice HO300.out; subst eo26) | ((with_reducible refine gate_dst (N := 31) rfl ?_); refine Kd.R_lit k98 _ 98 ?hg (N := 31) ?hd (xs := ([(⟨1, a1, t297, 0, (⟨0, 0, 0, 0⟩ : S30)⟩ : S98)] : List (S98))) (inner := [.int .i64 1, .int .i64 a1, .int .i64 t297, .int .i64 0, .int .i64 0, .int .i64 0, .int .i64 0, .int .i64 0]) (ok := fun _ => True) (okp := fun _ => True) ?hr ?hp (fun _ hk => hk) trivial (Below.refl _ _) (Nat.le_refl _) (by simp) ?_; (case hd => rfl); (case hg => rfl); (case hr => first | (go_simp; done) | (go_simp; rfl)); (case hp => exact (Reps.c8 (show Kd.M k98 _ _ _ (⟨1, a1, t297, 0, (⟨0, 0, 0, 0⟩ : S30)⟩ : S98) [.int .i64 1, .int .i64 a1, .int .i64 t297, .int .i64 0, .int .i64 0, .int .i64 0, .int .i64 0, .int .i64 0] from (k98_mkM _ _ _ (⟨1, a1, t297, 0, (⟨0, 0, 0, 0⟩ : S30)⟩ : S98) )) (Reps.none _ _))); intro v302 w27 ho28 hb hg_ hnew_; clear hg_ hnew_; (first | rw [← Ny301.out] at ho28 | (simp only [Int.reduceToNat] at ho28; rw [← Ny301.out] at ho28)); have HO303 := am (Kd.R_lower (Kd.R_new' ho28 (Kd.R_lt (pr HO300.out))) (below_size (bg1 HB.out GE291.out))); replace HO300 := am (Kd.R_elder' (pr HO300.out) (Kd.R_base ho28) hb); replace BK291 := am (blk_below (pb BK291.out) hb); replace HB := am (below_step (bg1 HB.out GE291.out) hb); clear hb ho28) | ((with_reducible refine gate_builtin (b := .append) (xs := #[.tmp 31, .tmp 32]) rfl ?_); at_builtin; refine Kd.R_append_rows k98 (w0 := w) w.heap.size rfl (.tmp 31) (.tmp 32) 93 98 (.agg #[(.int .i64 0), (.int .i64 0), (.int .i64 0), (.int .i64 0), (.int .i64 0), (.int .i64 0), (.int .i64 0), (.int .i64 0)]) 64 rfl Try.underlying93 info98 rfl (by decide) (by omega) v302 y301 t298 _ _ _ (fun k_ => some k_ ≠ (.slice Ao26 t298.length co26 : Value).ownBlock) (fun _ => False) rfl rfl ?aO ?aR (fun _ _ h => h) (fun _ h => h.elim) ?aF ?aB ?aS ?aL ?_; (case aR => repeat (first | exact (Kd.R_reads' HO300.out).2.2 | (with_reducible refine Kd.C_alloc ?_ _) | (with_reducible refine Kd.C_drewN ?_ _) | (with_reducible refine Kd.C_drew ?_))); (case aB => exact (bg1 HB.out GE291.out)); (case aF => exact (fun k_ hk => Kd.fresh' (Kd.R_lt (pr HO300.out)) k_ hk)); (case aO => exact (by (with_reducible repeat (first | apply Kd.R_alloc | apply Kd.R_drewN | apply Kd.R_drew)); exact Kd.R_mono HO303.out (fun _ hk => hk.2))); (case aS => exact (below_size (bg1 HB.out GE291.out))); (case aL => have := LMc21.out; omega); intro v305 w29 ho hb hg hat; rw [← Ny304.out] at ho; replace BK291 := am (blk_grown (g := gb291) (o := .cells #[.slice A0_0 l0_0.length c0_0, .slice A0_1 l0_1.length c0_1] 70 (0, 0)) (pb BK291.out) hg (Kd.R_ne HO303.out BK291.out (by decide))); replace HO300 := am (Kd.R_after (ok := (fun _ => True)) (pr HO300.out) hg hat); replace HB := am (hb); have HO306 := am (ho); clear HO303; clear ho hb hg hat))
   go_ret
   exact ⟨_, rq ⟨by (with_reducible repeat (first | apply Kd.R_alloc | apply Kd.R_drewN | apply Kd.R_drew)); exact Kd.R_mono HO306.out (fun _ hk => trivial), bg1 HB.out GE291.out⟩⟩
end Go.Proofs.Yteijhllkpahbhaa.Rk
