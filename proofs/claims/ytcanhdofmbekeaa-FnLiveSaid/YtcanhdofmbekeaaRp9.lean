-- printed by wip/pp/pp.py
import Derived.Test.YtcanhdofmbekeaaRp0
import Derived.Test.YtcanhdofmbekeaaRp2
import Derived.Test.YtcanhdofmbekeaaRp3
import Derived.Test.YtcanhdofmbekeaaRp8
namespace Go.Proofs.Ytcanhdofmbekeaa.Rp
open Go.RowKit Go.Proofs.YtcanhdofmbekeaaW.PrintWords Go.Proofs.YtcanhdofmbekeaaW.PrintLast Go.Proofs.YtcanhdofmbekeaaW.PrintMore
attribute [local go_sem] max2_int min2_int max_two min_two max_three min_three max_four min_four
set_option linter.unusedVariables false
set_option linter.unusedSimpArgs false
def spec_l71Play.l0 : Nat → List (S67) → Int → List Int → Int → List (S35) → List Int → Option ((List (S67)) × (List (S35)) × List Int × Int)
 | 0, _, _, _, _, _, _ => none
 | k + 1, x5, x6, x1000, x1001, x370000, x370001 => if x6 > 0 then ((spec_l71Event.f k x1000 x1001).bind fun bt375 => (if x5.length < 3518437208883 then ((spec_l21Do.f k x370000 x370001 bt375.1 bt375.2.1 bt375.2.2.1 bt375.2.2.2.1 bt375.2.2.2.2.1).bind fun bt385 => (spec_l71Play.l0 k (x5 ++ [(⟨bt375.1, bt375.2.1, bt375.2.2.1, bt375.2.2.2.1, bt375.2.2.2.2.1⟩ : S67)]) (wrap64 (x6 - 1)) x1000 bt375.2.2.2.2.2 bt385.1 bt385.2)) else (none))) else (some (x5, x370000, x370001, x1001))
def spec_l71Play.f (k : Nat) (s0_0 : List Int) (s0_1 : Int) : Option ((List (S67)) × (List (S35)) × List Int × Int) := (spec_StoreNew.f k).bind fun bt363 => ((spec_l6Rd_pick.f k s0_0 s0_1 58).bind fun bt373 => (spec_l71Play.l0 k (([] : List (S67))) bt373.1 s0_0 bt373.2 bt363.1 bt363.2))
theorem spec_l71Play.mono_l : ∀ k, (∀ y0 y1 y2 y3 y4 y5, LeO (spec_l71Play.l0 k y0 y1 y2 y3 y4 y5) (spec_l71Play.l0 (k + 1) y0 y1 y2 y3 y4 y5))
 | 0 => fun _ _ _ _ _ _ r h => by simp [spec_l71Play.l0] at h
 | k + 1 => by
  have ih0 := spec_l71Play.mono_l k
  · intro y0 y1 y2 y3 y4 y5
    unfold spec_l71Play.l0
    repeat' first
    | (with_reducible exact ih0 _ _ _ _ _ _)
    | (with_reducible exact spec_StoreNew.mono _)
    | (with_reducible exact spec_l21Do.mono _ _ _ _ _ _ _ _)
    | (with_reducible exact spec_l6Rd_pick.mono _ _ _ _)
    | (with_reducible exact spec_l71Event.mono _ _ _)
    | (with_reducible exact LeO.refl _)
    | (with_reducible exact LeO.none _)
    | (with_reducible refine LeO.ite ?_ ?_)
    | (with_reducible refine LeO.bind ?_ (fun _ => ?_))
    | exact ih0 _ _ _ _ _ _
    | exact spec_StoreNew.mono _
    | exact spec_l21Do.mono _ _ _ _ _ _ _ _
    | exact spec_l6Rd_pick.mono _ _ _ _
    | exact spec_l71Event.mono _ _ _
    | exact LeO.none _
    | refine LeO.ite ?_ ?_
    | refine LeO.bind ?_ (fun _ => ?_)
theorem spec_l71Play.mono : ∀ a0 a1 k, LeO (spec_l71Play.f k a0 a1) (spec_l71Play.f (k + 1) a0 a1) := by
 intro a0 a1 k
 have ih0 := spec_l71Play.mono_l k
 unfold spec_l71Play.f
 repeat' first
  | (with_reducible exact ih0 _ _ _ _ _ _)
  | (with_reducible exact spec_StoreNew.mono _)
  | (with_reducible exact spec_l21Do.mono _ _ _ _ _ _ _ _)
  | (with_reducible exact spec_l6Rd_pick.mono _ _ _ _)
  | (with_reducible exact spec_l71Event.mono _ _ _)
  | (with_reducible exact LeO.refl _)
  | (with_reducible exact LeO.none _)
  | (with_reducible refine LeO.ite ?_ ?_)
  | (with_reducible refine LeO.bind ?_ (fun _ => ?_))
  | exact ih0 _ _ _ _ _ _
  | exact spec_StoreNew.mono _
  | exact spec_l21Do.mono _ _ _ _ _ _ _ _
  | exact spec_l6Rd_pick.mono _ _ _ _
  | exact spec_l71Event.mono _ _ _
  | exact LeO.none _
  | refine LeO.ite ?_ ?_
  | refine LeO.bind ?_ (fun _ => ?_)
set_option maxHeartbeats 8000000 in
set_option maxRecDepth 100000 in
theorem spec_l71Play.calls (k : Nat) (g : Nat) (s0_0 : List Int) (s0_1 : Int) (r1 : List (S67)) (r2 : List (S35)) (r3 : List Int) (r4 : Int) (w0 w : World) (hI : IsS54 w0 w g s0_0 s0_1) (hB : Below w0.heap.size w0 w) (h : spec_l71Play.f k s0_0 s0_1 = some (r1, r2, r3, r4)) :
 Calls Try.prog 19 #[.pointer (some ⟨g, 0, none⟩)] w fun e w' => ∃ v0_ v1_ v2_ : Value, e = .returned (.tuple #[v0_, .agg #[v1_, v2_]]) ∧ Kd.R k67 67 w' w.heap.size (fun _ => True) v0_ r1 ∧ Kd.S k35 35 w' w.heap.size (fun _ => True) v1_ r2 ∧ Kd.R (Kd.int .i64) 3 w' w.heap.size (fun _ => True) v2_ r3 ∧ IsS54 w0 w' g s0_0 r4 ∧ Below w0.heap.size w0 w' ∧ KeepBut w w' g none := by
 have hu57 := Try.underlying57
 have hu67 := Try.underlying67
 have HI0 := am hI
 have HK := am (KeepBut.refl w g none)
 have HL := am hB.size
 clear hI
 have HW0 := am hB.size
 have HB := am hB
 clear hB
 have H : ((spec_StoreNew.f k).bind fun bt363 => ((spec_l6Rd_pick.f k s0_0 s0_1 58).bind fun bt373 => (spec_l71Play.l0 k (([] : List (S67))) bt373.1 s0_0 bt373.2 bt363.1 bt363.2))) = some (r1, r2, r3, r4) := h
 clear h
 replace H := Option.bind_eq_some_iff.mp H
 obtain ⟨⟨t363, t366⟩, A20, H⟩ := H
 replace H : ((spec_l6Rd_pick.f k s0_0 s0_1 58).bind fun bt373 => (spec_l71Play.l0 k (([] : List (S67))) bt373.1 s0_0 bt373.2 t363 t366)) = some (r1, r2, r3, r4) := H
 have A2 := am A20
 clear A20
 obtain ⟨y370, hy370⟩ : ∃ y_ : List (S67), y_ = (([] : List (S67))) := ⟨_, rfl⟩
 replace H : ((spec_l6Rd_pick.f k s0_0 s0_1 58).bind fun bt373 => (spec_l71Play.l0 k y370 bt373.1 s0_0 bt373.2 t363 t366)) = some (r1, r2, r3, r4) := by first | (rw [hy370]; with_reducible exact H) | (have H2_ := (Option.bind_some _ _).symm.trans H; rw [hy370]; with_reducible exact H2_) | (have H2_ := (Option.bind_some _ _).symm.trans H; with_reducible exact H2_) | with_reducible exact H | (rw [hy370]; exact H) | exact H
 have Ny370 := am hy370
 clear hy370
 replace H := Option.bind_eq_some_iff.mp H
 obtain ⟨⟨t373, t374⟩, A30, H⟩ := H
 replace H : (spec_l71Play.l0 k y370 t373 s0_0 t374 t363 t366) = some (r1, r2, r3, r4) := H
 have A3 := am A30
 clear A30
 have H' := am H
 clear H
 go_enter Try.func19, Try.ntmps19
 go_wp2_with (first | (refine bx 3 #[.slice none 0 0, .slice none 0 0] 57 rfl ?_; intro gb362 hg w4 hbox hb; replace HB := am (below_step (by repeat (first | (with_reducible first | exact HB.out | apply below_alloc | apply pw_below_drewN | apply below_drew1 | refine below_set ?_ (IsS54.ge HI0.out)) | exact HB.out)) hb); have BK362 := am (hbox); have GW362 := am ((by rw [hg]; exact (keep_size (w := w) (g := g) (row := none) (by repeat (first | (with_reducible first | exact HK.out | apply KeepBut.set_ | apply keep_drewN | apply keep_drew | apply keep_alloc) | exact HK.out))) : w.heap.size ≤ gb362)); have GE362 := am ((Nat.le_trans HW0.out (by rw [hg]; exact (keep_size (w := w) (g := g) (row := none) (by repeat (first | (with_reducible first | exact HK.out | apply KeepBut.set_ | apply keep_drewN | apply keep_drew | apply keep_alloc) | exact HK.out))) : w.heap.size ≤ gb362) : w0.heap.size ≤ gb362)); replace HK := am (KeepBut.trans (by repeat (first | (with_reducible first | exact HK.out | apply KeepBut.set_ | apply keep_drewN | apply keep_drew | apply keep_alloc) | exact HK.out)) (KeepBut.of_below hb g none) (.inl rfl)); have NB0_362 := am ((by rw [hg]; exact Nat.ne_of_lt (IsS54.lt (show IsS54 w0 _ g s0_0 s0_1 from by repeat (first | (with_reducible first | exact HI0.out | apply IsS54.alloc | apply IsS54.drewN | apply IsS54.drew | apply IsS54.set_1) | exact HI0.out))) : g ≠ gb362)); have NB362_0 := am (Ne.symm NB0_362.out); replace HI0 := am (IsS54.below (by repeat (first | (with_reducible first | exact HI0.out | apply IsS54.alloc | apply IsS54.drewN | apply IsS54.drew | apply IsS54.set_1) | exact HI0.out)) hb); clear hb hbox hg) | (refine gl 8 Try.func26 #[] rfl ?_; (with_reducible refine (spec_StoreNew.calls k  t363 t366 _ A2.out).mono ?_); rintro e w5 ⟨v364, v367, rfl, ho0, ho1, hb⟩; refine ⟨_, rfl, ?_⟩; have HO365 := am (Kd.S_lower ho0 (keep_size (w := w) (g := g) (row := none) (by repeat (first | (with_reducible first | exact HK.out | apply KeepBut.set_ | apply keep_drewN | apply keep_drew | apply keep_alloc | refine keep_far ?_ GW362.out _) | exact HK.out)))); have HO368 := am (Kd.R_lower ho1 (keep_size (w := w) (g := g) (row := none) (by repeat (first | (with_reducible first | exact HK.out | apply KeepBut.set_ | apply keep_drewN | apply keep_drew | apply keep_alloc | refine keep_far ?_ GW362.out _) | exact HK.out)))); replace BK362 := am (blk_below (pb BK362.out) hb); replace HK := am (KeepBut.trans (by repeat (first | (with_reducible first | exact HK.out | apply KeepBut.set_ | apply keep_drewN | apply keep_drew | apply keep_alloc | refine keep_far ?_ GW362.out _) | exact HK.out)) (KeepBut.of_below hb g none) (.inl rfl)); replace HB := am (below_step (by repeat (first | (with_reducible first | exact HB.out | apply below_alloc | apply pw_below_drewN | apply below_drew1 | refine below_set ?_ (IsS54.ge HI0.out) | refine below_set ?_ GE362.out) | exact HB.out)) hb); replace HI0 := am (IsS54.below (by repeat (first | (with_reducible first | exact HI0.out | apply IsS54.alloc | apply IsS54.drewN | apply IsS54.drew | apply IsS54.set_1 | refine IsS54.far ?_ NB0_362.out _) | exact HI0.out)) hb); (try clear hb); (try clear hb2); (try clear hk); (try clear hi); (try clear ho0); (try clear ho1)) | (refine bx 4 #[.slice none 0 0, .slice none 0 0] 57 rfl ?_; intro gb369 hg w6 hbox hb; replace HO365 := am (Kd.S_below (ps HO365.out) hb); replace HO368 := am (Kd.R_below (pr HO368.out) hb); replace HB := am (below_step (by repeat (first | (with_reducible first | exact HB.out | apply below_alloc | apply pw_below_drewN | apply below_drew1 | refine below_set ?_ (IsS54.ge HI0.out) | refine below_set ?_ GE362.out) | exact HB.out)) hb); have BK369 := am (hbox); have GW369 := am ((by rw [hg]; exact (keep_size (w := w) (g := g) (row := none) (by repeat (first | (with_reducible first | exact HK.out | apply KeepBut.set_ | apply keep_drewN | apply keep_drew | apply keep_alloc | refine keep_far ?_ GW362.out _) | exact HK.out))) : w.heap.size ≤ gb369)); have GE369 := am ((Nat.le_trans HW0.out (by rw [hg]; exact (keep_size (w := w) (g := g) (row := none) (by repeat (first | (with_reducible first | exact HK.out | apply KeepBut.set_ | apply keep_drewN | apply keep_drew | apply keep_alloc | refine keep_far ?_ GW362.out _) | exact HK.out))) : w.heap.size ≤ gb369) : w0.heap.size ≤ gb369)); replace HK := am (KeepBut.trans (by repeat (first | (with_reducible first | exact HK.out | apply KeepBut.set_ | apply keep_drewN | apply keep_drew | apply keep_alloc | refine keep_far ?_ GW362.out _) | exact HK.out)) (KeepBut.of_below hb g none) (.inl rfl)); have NB362_369 := am ((by rw [hg]; exact Nat.ne_of_lt (blk_lt (pb BK362.out)) : gb362 ≠ gb369)); have NB369_362 := am (Ne.symm NB362_369.out); replace BK362 := am (blk_below (pb BK362.out) hb); have NB0_369 := am ((by rw [hg]; exact Nat.ne_of_lt (IsS54.lt (show IsS54 w0 _ g s0_0 s0_1 from by repeat (first | (with_reducible first | exact HI0.out | apply IsS54.alloc | apply IsS54.drewN | apply IsS54.drew | apply IsS54.set_1 | refine IsS54.far ?_ NB0_362.out _) | exact HI0.out))) : g ≠ gb369)); have NB369_0 := am (Ne.symm NB0_369.out); replace HI0 := am (IsS54.below (by repeat (first | (with_reducible first | exact HI0.out | apply IsS54.alloc | apply IsS54.drewN | apply IsS54.drew | apply IsS54.set_1 | refine IsS54.far ?_ NB0_362.out _) | exact HI0.out)) hb); clear hb hbox hg; obtain ⟨Ao7, co7, eo7⟩ := Kd.S_slice HO365.out; subst eo7; have hnb8 := NB369_362.out; have hnc8 := NB362_369.out; have hnb9 := NB369_0.out; have hnc9 := NB0_369.out; obtain ⟨hcz10_0, hcz10_1⟩ := b2 BK369.out; obtain ⟨hfz10_0, hfz10_1⟩ := f2 BK369.out; obtain ⟨Ao11, co11, eo11⟩ := Kd.R_slice HO368.out; subst eo11) | ((with_reducible refine gate_dst (N := 9) rfl ?_); refine Kd.R_lit k67 _ 67 ?hg (N := 9) ?hd (xs := ([] : List (S67))) (inner := []) (ok := fun _ => True) (okp := fun _ => True) ?hr ?hp (fun _ hk => hk) trivial (Below.refl _ _) (Nat.le_refl _) (by simp) ?_; (case hd => rfl); (case hg => rfl); (case hr => first | (go_simp; done) | (go_simp; rfl)); (case hp => exact (Reps.none _ _)); intro v371 w12 ho13 hb hg_ hnew_; clear hg_ hnew_; (first | rw [← Ny370.out] at ho13 | (simp only [Int.reduceToNat] at ho13; rw [← Ny370.out] at ho13)); replace HO365 := am (Kd.S_below (by (with_reducible repeat (first | apply Kd.S_alloc | apply Kd.S_drewN | apply Kd.S_drew)); exact (Kd.S_mono (Kd.S_far (p := ⟨gb369, 1, none⟩) (Kd.S_far (p := ⟨gb369, 0, none⟩) (Kd.S_types HO365.out BK369.out (by decide)) (fun _ hk => hk.2) (.slice Ao7 t363.length co7)) (fun _ hk => hk.2) (.slice Ao11 t366.length co11)) (fun _ h_ => h_.1))) hb); replace HO368 := am (Kd.R_below (by (with_reducible repeat (first | apply Kd.R_alloc | apply Kd.R_drewN | apply Kd.R_drew)); exact (Kd.R_mono (Kd.R_far (p := ⟨gb369, 1, none⟩) (Kd.R_far (p := ⟨gb369, 0, none⟩) (Kd.R_types HO368.out BK369.out (by decide)) (fun _ hk => hk.2) (.slice Ao7 t363.length co7)) (fun _ hk => hk.2) (.slice Ao11 t366.length co11)) (fun _ h_ => h_.1))) hb); have HO372 := am (Kd.R_lower ho13 (keep_size (w := w) (g := g) (row := none) (by repeat (first | (with_reducible first | exact HK.out | apply KeepBut.set_ | apply keep_drewN | apply keep_drew | apply keep_alloc | refine keep_far ?_ GW362.out _ | refine keep_far ?_ GW369.out _) | exact HK.out)))); replace BK362 := am (blk_below (g := gb362) (o := .cells #[.slice none 0 0, .slice none 0 0] 57 (0, 0)) (by (with_reducible repeat (first | refine blk_drewN ?_ _ | refine blk_drew ?_ | refine blk_alloc ?_ _)); refine blk_far ?_ NB362_369.out _; (with_reducible repeat (first | refine blk_drewN ?_ _ | refine blk_drew ?_ | refine blk_alloc ?_ _)); refine blk_far ?_ NB362_369.out _; (with_reducible repeat (first | refine blk_drewN ?_ _ | refine blk_drew ?_ | refine blk_alloc ?_ _)); exact BK362.out) hb); replace BK369 := am (blk_below (g := gb369) (o := .cells #[.slice Ao7 t363.length co7, .slice Ao11 t366.length co11] 57 (0, 0)) (by (with_reducible repeat (first | refine blk_drewN ?_ _ | refine blk_drew ?_ | refine blk_alloc ?_ _)); refine blk_put (cs := #[.slice Ao7 t363.length co7, .slice none 0 0]) ?_ 1 _ rfl; (with_reducible repeat (first | refine blk_drewN ?_ _ | refine blk_drew ?_ | refine blk_alloc ?_ _)); refine blk_put (cs := #[.slice none 0 0, .slice none 0 0]) ?_ 0 _ rfl; (with_reducible repeat (first | refine blk_drewN ?_ _ | refine blk_drew ?_ | refine blk_alloc ?_ _)); exact BK369.out) hb); replace HK := am (KeepBut.trans (by repeat (first | (with_reducible first | exact HK.out | apply KeepBut.set_ | apply keep_drewN | apply keep_drew | apply keep_alloc | refine keep_far ?_ GW362.out _ | refine keep_far ?_ GW369.out _) | exact HK.out)) (KeepBut.of_below hb g none) (.inl rfl)); replace HB := am (below_step (by repeat (first | (with_reducible first | exact HB.out | apply below_alloc | apply pw_below_drewN | apply below_drew1 | refine below_set ?_ (IsS54.ge HI0.out) | refine below_set ?_ GE362.out | refine below_set ?_ GE369.out) | exact HB.out)) hb); replace HI0 := am (IsS54.below (show IsS54 w0 ((w6.setCell ⟨gb369, 0, none⟩ (.slice Ao7 t363.length co7)).setCell ⟨gb369, 1, none⟩ (.slice Ao11 t366.length co11)) g s0_0 s0_1 from by repeat (first | (with_reducible first | exact HI0.out | apply IsS54.alloc | apply IsS54.drewN | apply IsS54.drew | apply IsS54.set_1 | refine IsS54.far ?_ NB0_362.out _ | refine IsS54.far ?_ NB0_369.out _) | exact HI0.out)) hb); clear hb ho13) | (refine gl 11 Try.func11 #[.pointer (some ⟨g, 0, none⟩), .int .i64 58] rfl ?_; (with_reducible refine (spec_l6Rd_pick.calls k g s0_0 s0_1 58 t373 t374 w0 _ ?side1 ?side2 A3.out).mono ?_); (case side1 => repeat (first | (with_reducible first | exact HI0.out | apply IsS54.alloc | apply IsS54.drewN | apply IsS54.drew | apply IsS54.set_1 | refine IsS54.far ?_ NB0_362.out _ | refine IsS54.far ?_ NB0_369.out _) | exact HI0.out)); (case side2 => repeat (first | (with_reducible first | exact HB.out | apply below_alloc | apply pw_below_drewN | apply below_drew1 | refine below_set ?_ (IsS54.ge HI0.out) | refine below_set ?_ GE362.out | refine below_set ?_ GE369.out) | exact HB.out)); rintro e w14 ⟨rfl, hi, hb, hk⟩; refine ⟨_, rfl, ?_⟩; replace BK362 := am (KeepBut.blk hk (g' := gb362) (o := .cells #[.slice none 0 0, .slice none 0 0] 57 (0, 0)) (pb BK362.out) NB362_0.out (by simp)); replace HO365 := am (Kd.S_mono (Kd.S_keep (IsS54.apartS (show IsS54 w0 _ g s0_0 s0_1 from by repeat (first | (with_reducible first | exact HI0.out | apply IsS54.alloc | apply IsS54.drewN | apply IsS54.drew | apply IsS54.set_1 | refine IsS54.far ?_ NB0_362.out _ | refine IsS54.far ?_ NB0_369.out _) | exact HI0.out)) (ps HO365.out) (by decide)) hk (fun _ h => h.2)) (fun _ h => h.1)); replace HO368 := am (Kd.R_mono (Kd.R_keep (IsS54.apart (show IsS54 w0 _ g s0_0 s0_1 from by repeat (first | (with_reducible first | exact HI0.out | apply IsS54.alloc | apply IsS54.drewN | apply IsS54.drew | apply IsS54.set_1 | refine IsS54.far ?_ NB0_362.out _ | refine IsS54.far ?_ NB0_369.out _) | exact HI0.out)) (pr HO368.out) (by decide)) hk (fun _ h => h.2)) (fun _ h => h.1)); replace BK369 := am (KeepBut.blk hk (g' := gb369) (o := .cells #[.slice Ao7 t363.length co7, .slice Ao11 t366.length co11] 57 (0, 0)) (pb BK369.out) NB369_0.out (by simp)); replace HO372 := am (Kd.R_mono (Kd.R_keep (IsS54.apart (show IsS54 w0 _ g s0_0 s0_1 from by repeat (first | (with_reducible first | exact HI0.out | apply IsS54.alloc | apply IsS54.drewN | apply IsS54.drew | apply IsS54.set_1 | refine IsS54.far ?_ NB0_362.out _ | refine IsS54.far ?_ NB0_369.out _) | exact HI0.out)) (pr HO372.out) (by decide)) hk (fun _ h => h.2)) (fun _ h => h.1)); replace HK := am (KeepBut.trans (by repeat (first | (with_reducible first | exact HK.out | apply KeepBut.set_ | apply keep_drewN | apply keep_drew | apply keep_alloc | refine keep_far ?_ GW362.out _ | refine keep_far ?_ GW369.out _) | exact HK.out)) hk (.inl rfl)); replace HB := am (hb); replace HI0 := am (hi); (try clear hb); (try clear hb2); (try clear hk); (try clear hi)))
 go_loopg [5, 6] k (fun kq v5 v6 w' => ∃ (x5_1 : List (S67)) (x6_1 : Int) (x1001_1 : Int) (x370000_1 : List (S35)) (x370001_1 : List Int) (u370000 : Value) (u370001 : Value), v6 = .int .i64 x6_1 ∧ Aside0 (spec_l71Play.l0 kq x5_1 x6_1 s0_0 x1001_1 x370000_1 x370001_1 = some (r1, r2, r3, r4)) ∧ Aside0 (kq ≤ k) ∧ Aside0 (Kd.R k67 67 w' w.heap.size (fun _ => True) v5 x5_1) ∧ Aside0 (Kd.S k35 35 w' w.heap.size (fun _ => True) u370000 x370000_1) ∧ Aside0 (Kd.R (Kd.int .i64) 3 w' w.heap.size (fun _ => True) u370001 x370001_1) ∧ Aside0 (w'.heap[gb362]? = some (.cells #[(.slice none 0 0), (.slice none 0 0)] 57 (0, 0))) ∧ Aside0 (w'.heap[gb369]? = some (.cells #[u370000, u370001] 57 (0, 0))) ∧ Aside0 (IsS54 w0 w' g s0_0 x1001_1) ∧ Aside0 (KeepBut w w' g none) ∧ Aside0 (Below w0.heap.size w0 w'))
 case atStart => exact ⟨(y370), (t373), (t374), (t363), (t366), (.slice Ao7 t363.length co7), (.slice Ao11 t366.length co11), rf, H', ⟨Nat.le_refl _⟩, ⟨pr HO372.out⟩, ⟨ps HO365.out⟩, ⟨pr HO368.out⟩, ⟨pb BK362.out⟩, ⟨pb BK369.out⟩, ⟨by repeat (first | (with_reducible first | exact HI0.out | apply IsS54.alloc | apply IsS54.drewN | apply IsS54.drew | apply IsS54.set_1 | refine IsS54.far ?_ NB0_362.out _ | refine IsS54.far ?_ NB0_369.out _) | exact HI0.out)⟩, ⟨by repeat (first | (with_reducible first | exact HK.out | apply KeepBut.set_ | apply keep_drewN | apply keep_drew | apply keep_alloc | refine keep_far ?_ GW362.out _ | refine keep_far ?_ GW369.out _) | exact HK.out)⟩, ⟨by repeat (first | (with_reducible first | exact HB.out | apply below_alloc | apply pw_below_drewN | apply below_drew1 | refine below_set ?_ (IsS54.ge HI0.out) | refine below_set ?_ GE362.out | refine below_set ?_ GE369.out) | exact HB.out)⟩⟩
 case round =>
  clear H'
  obtain ⟨x5_1, x6_1, x1001_1, x370000_1, x370001_1, u370000, u370001, rfl, HA, HK1, HO_5, HO_370000, HO_370001, BK362, BK369, HI0, HK, HB⟩ := hrel
  cases gk with
  | zero => exact absurd HA.out (by simp [spec_l71Play.l0])
  | succ k1 =>
   have H := HA.out
   clear HA
   simp only [spec_l71Play.l0] at H
   by_cases c15 : x6_1 > 0
   rotate_left
   · rw [if_neg c15] at H
     have c15b0 := decide_eq_false c15
     clear c15
     simp only [Option.some.injEq, Prod.mk.injEq] at H
     obtain ⟨rfl, rfl, rfl, rfl⟩ := H
     try go_wp2
     replace HO_5 := am (Kd.R_drew HO_5.out)
     replace HO_370000 := am (Kd.S_drew HO_370000.out)
     replace HO_370001 := am (Kd.R_drew HO_370001.out)
     replace BK362 := am (blk_drew BK362.out)
     replace BK369 := am (blk_drew BK369.out)
     replace HI0 := am (IsS54.drew HI0.out)
     replace HK := am (keep_drew HK.out)
     replace HB := am (below_drew1 HB.out)
     obtain ⟨Ao38, co38, eo38⟩ := Kd.S_slice HO_370000.out
     (first | subst eo38 | (injection eo38 with f1_ f2_ f3_; have f4_ := f1_.symm; have f5_ := f3_.symm; clear f1_ f2_ f3_; subst f4_; subst f5_))
     obtain ⟨Ao40, co40, eo40⟩ := Kd.R_slice HO_370001.out
     (first | subst eo40 | (injection eo40 with f1_ f2_ f3_; have f4_ := f1_.symm; have f5_ := f3_.symm; clear f1_ f2_ f3_; subst f4_; subst f5_))
     refine start_ (n := 4) (S := fun w' => w'.cell? ⟨gb369, 0, none⟩ = some (.slice Ao38 x370000_1.length co38) ∧ w'.cell? ⟨gb369, 1, none⟩ = some (.slice Ao40 x370001_1.length co40)) (ds := []) #[false, false, false, false] (by kernel_rfl) rfl rfl ⟨(blk_cell BK369.out 0).trans rfl, (blk_cell BK369.out 1).trans rfl⟩ (fun hHeld => ?_)
     generalize wr.drew = w37 at HO_5 HO_370000 HO_370001 BK362 BK369 HI0 HK HB hHeld ⊢
     refine pi_ 0 25 #[true, false, false, false] rfl rfl (fun _ _ _ h => h) ?_
     refine pi_ 2 2 #[true, false, true, false] rfl rfl (fun _ _ _ h => h) ?_
     refine pm_ 1 26 #[true, true, true, false] rfl rfl (by kernel_rfl) (fun _ _ _ h => h) hHeld ?_
     refine one_ (i := 3) (N := none) #[true, true, true, true] rfl rfl (by kernel_rfl) (by decide) (fun K hK => ?_)
     have hs39 : w37.cell? ⟨gb362, 0, none⟩ = some (.slice none 0 0) := (blk_cell BK362.out 0).trans rfl
     have hfs39 := blk_frozen BK362.out 0
     have hns39_1 := NB369_362.out
     have hms39_1 := NB362_369.out
     have hs41 : w37.cell? ⟨gb362, 1, none⟩ = some (.slice none 0 0) := (blk_cell BK362.out 1).trans rfl
     have hfs41 := blk_frozen BK362.out 1
     have hns41_1 := NB369_362.out
     have hms41_1 := NB362_369.out
     refine skip_ (w1 := ?_) (by rfl) rfl ?_ ?_
     rotate_left
     · go_simp
       rfl
     refine hK.out _ _ ⟨((cell_far (p := ⟨gb362, _, none⟩) NB369_362.out _).trans (((cell_far (p := ⟨gb362, _, none⟩) NB369_362.out _).trans (hHeld.1)))), ((cell_far (p := ⟨gb362, _, none⟩) NB369_362.out _).trans (((cell_far (p := ⟨gb362, _, none⟩) NB369_362.out _).trans (hHeld.2))))⟩ (fun hHeld => ?_)
     clear hK K
     refine done_ (by kernel_rfl) ?_
     try go_wp2
     refine bodyPost_ret (results_tc rfl _ _ gb362 57 #[.slice Ao38 x370000_1.length co38, .slice Ao40 x370001_1.length co40] (0, 0) _ rfl (by (with_reducible repeat (first | refine blk_drewN ?_ _ | refine blk_drew ?_ | refine blk_alloc ?_ _)); refine blk_put (cs := #[.slice Ao38 x370000_1.length co38, .slice none 0 0]) ?_ 1 _ rfl; (with_reducible repeat (first | refine blk_drewN ?_ _ | refine blk_drew ?_ | refine blk_alloc ?_ _)); refine blk_put (cs := #[.slice none 0 0, .slice none 0 0]) ?_ 0 _ rfl; (with_reducible repeat (first | refine blk_drewN ?_ _ | refine blk_drew ?_ | refine blk_alloc ?_ _)); exact BK362.out) Try.underlying57 rfl (by kernel_rfl)) rfl ?_
     exact ⟨_, _, _, rq ⟨by (with_reducible repeat (first | apply Kd.R_alloc | apply Kd.R_drewN | apply Kd.R_drew)); exact Kd.R_mono (Kd.R_far (p := ⟨gb362, 1, none⟩) (Kd.R_far (p := ⟨gb362, 0, none⟩) (Kd.R_types HO_5.out BK362.out (by decide)) (fun _ hk => hk.2) (.slice Ao38 x370000_1.length co38)) (fun _ hk => hk.2) (.slice Ao40 x370001_1.length co40)) (fun _ hk => trivial), by (with_reducible repeat (first | apply Kd.S_alloc | apply Kd.S_drewN | apply Kd.S_drew)); exact Kd.S_mono (Kd.S_far (p := ⟨gb362, 1, none⟩) (Kd.S_far (p := ⟨gb362, 0, none⟩) (Kd.S_types HO_370000.out BK362.out (by decide)) (fun _ hk => hk.2) (.slice Ao38 x370000_1.length co38)) (fun _ hk => hk.2) (.slice Ao40 x370001_1.length co40)) (fun _ hk => trivial), by (with_reducible repeat (first | apply Kd.R_alloc | apply Kd.R_drewN | apply Kd.R_drew)); exact Kd.R_mono (Kd.R_far (p := ⟨gb362, 1, none⟩) (Kd.R_far (p := ⟨gb362, 0, none⟩) (Kd.R_types HO_370001.out BK362.out (by decide)) (fun _ hk => hk.2) (.slice Ao38 x370000_1.length co38)) (fun _ hk => hk.2) (.slice Ao40 x370001_1.length co40)) (fun _ hk => trivial), by repeat (first | (with_reducible first | exact HI0.out | apply IsS54.alloc | apply IsS54.drewN | apply IsS54.drew | apply IsS54.set_1 | refine IsS54.far ?_ NB0_362.out _ | refine IsS54.far ?_ NB0_369.out _) | exact HI0.out), by repeat (first | (with_reducible first | exact HB.out | apply below_alloc | apply pw_below_drewN | apply below_drew1 | refine below_set ?_ (IsS54.ge HI0.out) | refine below_set ?_ GE362.out | refine below_set ?_ GE369.out) | exact HB.out), by repeat (first | (with_reducible first | exact HK.out | apply KeepBut.set_ | apply keep_drewN | apply keep_drew | apply keep_alloc | refine keep_far ?_ GW362.out _ | refine keep_far ?_ GW369.out _) | exact HK.out)⟩⟩
   rw [if_pos c15] at H
   have c15b0 := decide_eq_true c15
   clear c15
   replace H := Option.bind_eq_some_iff.mp H
   obtain ⟨⟨t375, t376, t377, t378, t379, t380⟩, A160, H⟩ := H
   replace H : (if x5_1.length < 3518437208883 then ((spec_l21Do.f k1 x370000_1 x370001_1 t375 t376 t377 t378 t379).bind fun bt385 => (spec_l71Play.l0 k1 (x5_1 ++ [(⟨t375, t376, t377, t378, t379⟩ : S67)]) (wrap64 (x6_1 - 1)) s0_0 t380 bt385.1 bt385.2)) else (none)) = some (r1, r2, r3, r4) := H
   have A16 := am A160
   clear A160
   by_cases c17 : x5_1.length < 3518437208883
   rotate_left
   · rw [if_neg c17] at H
     exact absurd H (by simp)
   rw [if_pos c17] at H
   have LMc17 := am c17
   clear c17
   obtain ⟨y382, hy382⟩ : ∃ y_ : List (S67), y_ = (x5_1 ++ [(⟨t375, t376, t377, t378, t379⟩ : S67)]) := ⟨_, rfl⟩
   replace H : ((spec_l21Do.f k1 x370000_1 x370001_1 t375 t376 t377 t378 t379).bind fun bt385 => (spec_l71Play.l0 k1 y382 (wrap64 (x6_1 - 1)) s0_0 t380 bt385.1 bt385.2)) = some (r1, r2, r3, r4) := by first | (rw [hy382]; with_reducible exact H) | (have H2_ := (Option.bind_some _ _).symm.trans H; rw [hy382]; with_reducible exact H2_) | (have H2_ := (Option.bind_some _ _).symm.trans H; with_reducible exact H2_) | with_reducible exact H | (rw [hy382]; exact H) | exact H
   have Ny382 := am hy382
   clear hy382
   replace H := Option.bind_eq_some_iff.mp H
   obtain ⟨⟨t385, t388⟩, A180, H⟩ := H
   replace H : (spec_l71Play.l0 k1 y382 (wrap64 (x6_1 - 1)) s0_0 t380 t385 t388) = some (r1, r2, r3, r4) := H
   have A18 := am A180
   clear A180
   have H' := am H
   clear H
   go_wp2_with (first | (refine gl 17 Try.func27 #[.pointer (some ⟨g, 0, none⟩)] rfl ?_; (with_reducible refine (spec_l71Event.calls k1 g s0_0 x1001_1 t375 t376 t377 t378 t379 t380 w0 _ ?side1 ?side2 A16.out).mono ?_); (case side1 => repeat (first | (with_reducible first | exact HI0.out | apply IsS54.alloc | apply IsS54.drewN | apply IsS54.drew | apply IsS54.set_1 | refine IsS54.far ?_ NB0_362.out _ | refine IsS54.far ?_ NB0_369.out _) | exact HI0.out)); (case side2 => repeat (first | (with_reducible first | exact HB.out | apply below_alloc | apply pw_below_drewN | apply below_drew1 | refine below_set ?_ (IsS54.ge HI0.out) | refine below_set ?_ GE362.out | refine below_set ?_ GE369.out) | exact HB.out)); rintro e w19 ⟨rfl, hi, hb, hk⟩; refine ⟨_, rfl, ?_⟩; replace HO_5 := am (Kd.R_mono (Kd.R_keep (IsS54.apart (show IsS54 w0 _ g s0_0 x1001_1 from by repeat (first | (with_reducible first | exact HI0.out | apply IsS54.alloc | apply IsS54.drewN | apply IsS54.drew | apply IsS54.set_1 | refine IsS54.far ?_ NB0_362.out _ | refine IsS54.far ?_ NB0_369.out _) | exact HI0.out)) (pr HO_5.out) (by decide)) hk (fun _ h => h.2)) (fun _ h => h.1)); replace HO_370000 := am (Kd.S_mono (Kd.S_keep (IsS54.apartS (show IsS54 w0 _ g s0_0 x1001_1 from by repeat (first | (with_reducible first | exact HI0.out | apply IsS54.alloc | apply IsS54.drewN | apply IsS54.drew | apply IsS54.set_1 | refine IsS54.far ?_ NB0_362.out _ | refine IsS54.far ?_ NB0_369.out _) | exact HI0.out)) (ps HO_370000.out) (by decide)) hk (fun _ h => h.2)) (fun _ h => h.1)); replace HO_370001 := am (Kd.R_mono (Kd.R_keep (IsS54.apart (show IsS54 w0 _ g s0_0 x1001_1 from by repeat (first | (with_reducible first | exact HI0.out | apply IsS54.alloc | apply IsS54.drewN | apply IsS54.drew | apply IsS54.set_1 | refine IsS54.far ?_ NB0_362.out _ | refine IsS54.far ?_ NB0_369.out _) | exact HI0.out)) (pr HO_370001.out) (by decide)) hk (fun _ h => h.2)) (fun _ h => h.1)); replace BK362 := am (KeepBut.blk hk (g' := gb362) (o := .cells #[.slice none 0 0, .slice none 0 0] 57 (0, 0)) (pb BK362.out) NB362_0.out (by simp)); replace BK369 := am (KeepBut.blk hk (g' := gb369) (o := .cells #[u370000, u370001] 57 (0, 0)) (pb BK369.out) NB369_0.out (by simp)); replace HK := am (KeepBut.trans (by repeat (first | (with_reducible first | exact HK.out | apply KeepBut.set_ | apply keep_drewN | apply keep_drew | apply keep_alloc | refine keep_far ?_ GW362.out _ | refine keep_far ?_ GW369.out _) | exact HK.out)) hk (.inl rfl)); replace HB := am (hb); replace HI0 := am (hi); (try clear hb); (try clear hb2); (try clear hk); (try clear hi)) | (refine bx 7 #[.int .i64 0, .int .i64 0, .int .i64 0, .int .i64 0, .bool false] 67 rfl ?_; intro gb381 hg w20 hbox hb; replace HO_5 := am (Kd.R_below (Kd.R_elderB (pr HO_5.out) gb381 (Nat.le_of_eq hg.symm)) hb); replace HO_370000 := am (Kd.S_below (ps HO_370000.out) hb); replace HO_370001 := am (Kd.R_below (pr HO_370001.out) hb); replace HB := am (below_step (by repeat (first | (with_reducible first | exact HB.out | apply below_alloc | apply pw_below_drewN | apply below_drew1 | refine below_set ?_ (IsS54.ge HI0.out) | refine below_set ?_ GE362.out | refine below_set ?_ GE369.out) | exact HB.out)) hb); have BK381 := am (hbox); have GW381 := am ((by rw [hg]; exact (keep_size (w := w) (g := g) (row := none) (by repeat (first | (with_reducible first | exact HK.out | apply KeepBut.set_ | apply keep_drewN | apply keep_drew | apply keep_alloc | refine keep_far ?_ GW362.out _ | refine keep_far ?_ GW369.out _) | exact HK.out))) : w.heap.size ≤ gb381)); have GE381 := am ((Nat.le_trans HW0.out (by rw [hg]; exact (keep_size (w := w) (g := g) (row := none) (by repeat (first | (with_reducible first | exact HK.out | apply KeepBut.set_ | apply keep_drewN | apply keep_drew | apply keep_alloc | refine keep_far ?_ GW362.out _ | refine keep_far ?_ GW369.out _) | exact HK.out))) : w.heap.size ≤ gb381) : w0.heap.size ≤ gb381)); replace HK := am (KeepBut.trans (by repeat (first | (with_reducible first | exact HK.out | apply KeepBut.set_ | apply keep_drewN | apply keep_drew | apply keep_alloc | refine keep_far ?_ GW362.out _ | refine keep_far ?_ GW369.out _) | exact HK.out)) (KeepBut.of_below hb g none) (.inl rfl)); have NB362_381 := am ((by rw [hg]; exact Nat.ne_of_lt (blk_lt (pb BK362.out)) : gb362 ≠ gb381)); have NB381_362 := am (Ne.symm NB362_381.out); replace BK362 := am (blk_below (pb BK362.out) hb); have NB369_381 := am ((by rw [hg]; exact Nat.ne_of_lt (blk_lt (pb BK369.out)) : gb369 ≠ gb381)); have NB381_369 := am (Ne.symm NB369_381.out); replace BK369 := am (blk_below (pb BK369.out) hb); have NB0_381 := am ((by rw [hg]; exact Nat.ne_of_lt (IsS54.lt (show IsS54 w0 _ g s0_0 t380 from by repeat (first | (with_reducible first | exact HI0.out | apply IsS54.alloc | apply IsS54.drewN | apply IsS54.drew | apply IsS54.set_1 | refine IsS54.far ?_ NB0_362.out _ | refine IsS54.far ?_ NB0_369.out _) | exact HI0.out))) : g ≠ gb381)); have NB381_0 := am (Ne.symm NB0_381.out); replace HI0 := am (IsS54.below (by repeat (first | (with_reducible first | exact HI0.out | apply IsS54.alloc | apply IsS54.drewN | apply IsS54.drew | apply IsS54.set_1 | refine IsS54.far ?_ NB0_362.out _ | refine IsS54.far ?_ NB0_369.out _) | exact HI0.out)) hb); clear hb hbox hg; have hnb21 := NB381_362.out; have hnc21 := NB362_381.out; have hnb22 := NB381_369.out; have hnc22 := NB369_381.out; have hnb23 := NB381_0.out; have hnc23 := NB0_381.out; obtain ⟨hcz24_0, hcz24_1, hcz24_2, hcz24_3, hcz24_4⟩ := b5 BK381.out; obtain ⟨hfz24_0, hfz24_1, hfz24_2, hfz24_3, hfz24_4⟩ := f5 BK381.out) | ((with_reducible refine gate_builtin (b := .append) (xs := #[.tmp 18, .tmp 20]) rfl ?_); at_builtin; refine Kd.R_append k67 w.heap.size rfl (.tmp 18) (.tmp 20) 55 67 (.agg #[(.int .i64 0), (.int .i64 0), (.int .i64 0), (.int .i64 0), (.bool false)]) 40 rfl Try.underlying55 info67 rfl (by decide) (by omega) u5 x5_1 (⟨t375, t376, t377, t378, t379⟩ : S67) [.int .i64 t375, .int .i64 t376, .int .i64 t377, .int .i64 t378, .bool t379] (fun k_ => k_ ≠ gb381) (fun _ => False) rfl (by first | (go_simp; done) | (go_simp; rfl)) ?aP (fun _ hk => hk.elim) ?aF ?aO (Below.refl _ _) ?aS ?aL ?_; (case aP => exact k67_mkM _ _ _ (⟨t375, t376, t377, t378, t379⟩ : S67)); (case aF => exact (fun k_ hk => Kd.freshB (g := gb381) (o := .cells #[.int .i64 t375, .int .i64 t376, .int .i64 t377, .int .i64 t378, .bool t379] 67 (0, 0)) (by (with_reducible repeat (first | refine blk_drewN ?_ _ | refine blk_drew ?_ | refine blk_alloc ?_ _)); refine blk_put (cs := #[.int .i64 t375, .int .i64 t376, .int .i64 t377, .int .i64 t378, .bool false]) ?_ 4 _ rfl; (with_reducible repeat (first | refine blk_drewN ?_ _ | refine blk_drew ?_ | refine blk_alloc ?_ _)); refine blk_put (cs := #[.int .i64 t375, .int .i64 t376, .int .i64 t377, .int .i64 0, .bool false]) ?_ 3 _ rfl; (with_reducible repeat (first | refine blk_drewN ?_ _ | refine blk_drew ?_ | refine blk_alloc ?_ _)); refine blk_put (cs := #[.int .i64 t375, .int .i64 t376, .int .i64 0, .int .i64 0, .bool false]) ?_ 2 _ rfl; (with_reducible repeat (first | refine blk_drewN ?_ _ | refine blk_drew ?_ | refine blk_alloc ?_ _)); refine blk_put (cs := #[.int .i64 t375, .int .i64 0, .int .i64 0, .int .i64 0, .bool false]) ?_ 1 _ rfl; (with_reducible repeat (first | refine blk_drewN ?_ _ | refine blk_drew ?_ | refine blk_alloc ?_ _)); refine blk_put (cs := #[.int .i64 0, .int .i64 0, .int .i64 0, .int .i64 0, .bool false]) ?_ 0 _ rfl; (with_reducible repeat (first | refine blk_drewN ?_ _ | refine blk_drew ?_ | refine blk_alloc ?_ _)); exact BK381.out) k_ hk)); (case aO => exact (by (with_reducible repeat (first | apply Kd.R_alloc | apply Kd.R_drewN | apply Kd.R_drew)); exact Kd.R_mono (Kd.R_far (p := ⟨gb381, 4, none⟩) (Kd.R_far (p := ⟨gb381, 3, none⟩) (Kd.R_far (p := ⟨gb381, 2, none⟩) (Kd.R_far (p := ⟨gb381, 1, none⟩) (Kd.R_far (p := ⟨gb381, 0, none⟩) (Kd.R_mono HO_5.out (fun k_ hk => (⟨hk, hk.2⟩ : _ ∧ k_ ≠ gb381))) (fun _ hk => hk.2) (.int .i64 t375)) (fun _ hk => hk.2) (.int .i64 t376)) (fun _ hk => hk.2) (.int .i64 t377)) (fun _ hk => hk.2) (.int .i64 t378)) (fun _ hk => hk.2) (.bool t379)) (fun _ hk => hk.1.2))); (case aS => exact (keep_size (w := w) (g := g) (row := none) (by repeat (first | (with_reducible first | exact HK.out | apply KeepBut.set_ | apply keep_drewN | apply keep_drew | apply keep_alloc | refine keep_far ?_ GW362.out _ | refine keep_far ?_ GW369.out _ | refine keep_far ?_ GW381.out _) | exact HK.out)))); (case aL => have := LMc17.out; omega); intro v383 w25 ho hb hg hat; rw [← Ny382.out] at ho; replace HO_370000 := am (Kd.S_over' (by (with_reducible repeat (first | apply Kd.S_alloc | apply Kd.S_drewN | apply Kd.S_drew)); exact (Kd.S_mono (Kd.S_far (p := ⟨gb381, 4, none⟩) (Kd.S_far (p := ⟨gb381, 3, none⟩) (Kd.S_far (p := ⟨gb381, 2, none⟩) (Kd.S_far (p := ⟨gb381, 1, none⟩) (Kd.S_far (p := ⟨gb381, 0, none⟩) (Kd.S_types HO_370000.out BK381.out (by decide)) (fun _ hk => hk.2) (.int .i64 t375)) (fun _ hk => hk.2) (.int .i64 t376)) (fun _ hk => hk.2) (.int .i64 t377)) (fun _ hk => hk.2) (.int .i64 t378)) (fun _ hk => hk.2) (.bool t379)) (fun _ h_ => h_.1))) (Kd.R_typed (by (with_reducible repeat (first | apply Kd.R_alloc | apply Kd.R_drewN | apply Kd.R_drew)); exact (Kd.R_mono (Kd.R_far (p := ⟨gb381, 4, none⟩) (Kd.R_far (p := ⟨gb381, 3, none⟩) (Kd.R_far (p := ⟨gb381, 2, none⟩) (Kd.R_far (p := ⟨gb381, 1, none⟩) (Kd.R_far (p := ⟨gb381, 0, none⟩) (Kd.R_mono HO_5.out (fun k_ hk => (⟨hk, hk.2⟩ : _ ∧ k_ ≠ gb381))) (fun _ hk => hk.2) (.int .i64 t375)) (fun _ hk => hk.2) (.int .i64 t376)) (fun _ hk => hk.2) (.int .i64 t377)) (fun _ hk => hk.2) (.int .i64 t378)) (fun _ hk => hk.2) (.bool t379)) (fun _ h_ => h_.1)))) (by decide) hg); replace HO_370001 := am (Kd.R_over' (by (with_reducible repeat (first | apply Kd.R_alloc | apply Kd.R_drewN | apply Kd.R_drew)); exact (Kd.R_mono (Kd.R_far (p := ⟨gb381, 4, none⟩) (Kd.R_far (p := ⟨gb381, 3, none⟩) (Kd.R_far (p := ⟨gb381, 2, none⟩) (Kd.R_far (p := ⟨gb381, 1, none⟩) (Kd.R_far (p := ⟨gb381, 0, none⟩) (Kd.R_types HO_370001.out BK381.out (by decide)) (fun _ hk => hk.2) (.int .i64 t375)) (fun _ hk => hk.2) (.int .i64 t376)) (fun _ hk => hk.2) (.int .i64 t377)) (fun _ hk => hk.2) (.int .i64 t378)) (fun _ hk => hk.2) (.bool t379)) (fun _ h_ => h_.1))) (Kd.R_typed (by (with_reducible repeat (first | apply Kd.R_alloc | apply Kd.R_drewN | apply Kd.R_drew)); exact (Kd.R_mono (Kd.R_far (p := ⟨gb381, 4, none⟩) (Kd.R_far (p := ⟨gb381, 3, none⟩) (Kd.R_far (p := ⟨gb381, 2, none⟩) (Kd.R_far (p := ⟨gb381, 1, none⟩) (Kd.R_far (p := ⟨gb381, 0, none⟩) (Kd.R_mono HO_5.out (fun k_ hk => (⟨hk, hk.2⟩ : _ ∧ k_ ≠ gb381))) (fun _ hk => hk.2) (.int .i64 t375)) (fun _ hk => hk.2) (.int .i64 t376)) (fun _ hk => hk.2) (.int .i64 t377)) (fun _ hk => hk.2) (.int .i64 t378)) (fun _ hk => hk.2) (.bool t379)) (fun _ h_ => h_.1)))) (by decide) hg); replace BK362 := am (blk_grown (g := gb362) (o := .cells #[.slice none 0 0, .slice none 0 0] 57 (0, 0)) (by (with_reducible repeat (first | refine blk_drewN ?_ _ | refine blk_drew ?_ | refine blk_alloc ?_ _)); refine blk_far ?_ NB362_381.out _; (with_reducible repeat (first | refine blk_drewN ?_ _ | refine blk_drew ?_ | refine blk_alloc ?_ _)); refine blk_far ?_ NB362_381.out _; (with_reducible repeat (first | refine blk_drewN ?_ _ | refine blk_drew ?_ | refine blk_alloc ?_ _)); refine blk_far ?_ NB362_381.out _; (with_reducible repeat (first | refine blk_drewN ?_ _ | refine blk_drew ?_ | refine blk_alloc ?_ _)); refine blk_far ?_ NB362_381.out _; (with_reducible repeat (first | refine blk_drewN ?_ _ | refine blk_drew ?_ | refine blk_alloc ?_ _)); refine blk_far ?_ NB362_381.out _; (with_reducible repeat (first | refine blk_drewN ?_ _ | refine blk_drew ?_ | refine blk_alloc ?_ _)); exact BK362.out) hg (Kd.R_ne HO_5.out BK362.out (by decide))); replace BK369 := am (blk_grown (g := gb369) (o := .cells #[u370000, u370001] 57 (0, 0)) (by (with_reducible repeat (first | refine blk_drewN ?_ _ | refine blk_drew ?_ | refine blk_alloc ?_ _)); refine blk_far ?_ NB369_381.out _; (with_reducible repeat (first | refine blk_drewN ?_ _ | refine blk_drew ?_ | refine blk_alloc ?_ _)); refine blk_far ?_ NB369_381.out _; (with_reducible repeat (first | refine blk_drewN ?_ _ | refine blk_drew ?_ | refine blk_alloc ?_ _)); refine blk_far ?_ NB369_381.out _; (with_reducible repeat (first | refine blk_drewN ?_ _ | refine blk_drew ?_ | refine blk_alloc ?_ _)); refine blk_far ?_ NB369_381.out _; (with_reducible repeat (first | refine blk_drewN ?_ _ | refine blk_drew ?_ | refine blk_alloc ?_ _)); refine blk_far ?_ NB369_381.out _; (with_reducible repeat (first | refine blk_drewN ?_ _ | refine blk_drew ?_ | refine blk_alloc ?_ _)); exact BK369.out) hg (Kd.R_ne HO_5.out BK369.out (by decide))); replace BK381 := am (blk_grown (g := gb381) (o := .cells #[.int .i64 t375, .int .i64 t376, .int .i64 t377, .int .i64 t378, .bool t379] 67 (0, 0)) (by (with_reducible repeat (first | refine blk_drewN ?_ _ | refine blk_drew ?_ | refine blk_alloc ?_ _)); refine blk_put (cs := #[.int .i64 t375, .int .i64 t376, .int .i64 t377, .int .i64 t378, .bool false]) ?_ 4 _ rfl; (with_reducible repeat (first | refine blk_drewN ?_ _ | refine blk_drew ?_ | refine blk_alloc ?_ _)); refine blk_put (cs := #[.int .i64 t375, .int .i64 t376, .int .i64 t377, .int .i64 0, .bool false]) ?_ 3 _ rfl; (with_reducible repeat (first | refine blk_drewN ?_ _ | refine blk_drew ?_ | refine blk_alloc ?_ _)); refine blk_put (cs := #[.int .i64 t375, .int .i64 t376, .int .i64 0, .int .i64 0, .bool false]) ?_ 2 _ rfl; (with_reducible repeat (first | refine blk_drewN ?_ _ | refine blk_drew ?_ | refine blk_alloc ?_ _)); refine blk_put (cs := #[.int .i64 t375, .int .i64 0, .int .i64 0, .int .i64 0, .bool false]) ?_ 1 _ rfl; (with_reducible repeat (first | refine blk_drewN ?_ _ | refine blk_drew ?_ | refine blk_alloc ?_ _)); refine blk_put (cs := #[.int .i64 0, .int .i64 0, .int .i64 0, .int .i64 0, .bool false]) ?_ 0 _ rfl; (with_reducible repeat (first | refine blk_drewN ?_ _ | refine blk_drew ?_ | refine blk_alloc ?_ _)); exact BK381.out) hg (Kd.R_away HO_5.out (fun _ hk => hk.2))); replace HB := am (below_weaken (by repeat (first | (with_reducible first | exact HB.out | apply below_alloc | apply pw_below_drewN | apply below_drew1 | refine below_set ?_ (IsS54.ge HI0.out) | refine below_set ?_ GE362.out | refine below_set ?_ GE369.out | refine below_set ?_ GE381.out) | exact HB.out)) HL.out hb); replace HI0 := am (IsS54.grown (show IsS54 w0 _ g s0_0 t380 from by repeat (first | (with_reducible first | exact HI0.out | apply IsS54.alloc | apply IsS54.drewN | apply IsS54.drew | apply IsS54.set_1 | refine IsS54.far ?_ NB0_362.out _ | refine IsS54.far ?_ NB0_369.out _ | refine IsS54.far ?_ NB0_381.out _) | exact HI0.out)) hg (IsS54.own_ne HI0.out HO_5.out (by decide))); replace HK := am (KeepBut.trans (by repeat (first | (with_reducible first | exact HK.out | apply KeepBut.set_ | apply keep_drewN | apply keep_drew | apply keep_alloc | refine keep_far ?_ GW362.out _ | refine keep_far ?_ GW369.out _ | refine keep_far ?_ GW381.out _) | exact HK.out)) (KeepBut.of_grown hg g) (Kd.R_base2 HO_5.out)); have HO384 := am (ho); clear HO_5; clear ho hb hg hat; have hnb26 := NB369_362.out; have hnc26 := NB362_369.out; have hnb27 := NB369_0.out; have hnc27 := NB0_369.out; obtain ⟨hcz28_0, hcz28_1⟩ := b2 BK369.out; obtain ⟨hfz28_0, hfz28_1⟩ := f2 BK369.out; obtain ⟨hcz29_0, hcz29_1, hcz29_2, hcz29_3, hcz29_4⟩ := b5 BK381.out; obtain ⟨hfz29_0, hfz29_1, hfz29_2, hfz29_3, hfz29_4⟩ := f5 BK381.out; obtain ⟨Ao30, co30, eo30⟩ := Kd.S_slice HO_370000.out; subst eo30; obtain ⟨Ao31, co31, eo31⟩ := Kd.R_slice HO_370001.out; subst eo31; obtain ⟨PXh32, hxa_, hxb_⟩ := Kd.S_hand HO_370000.out; have HXAh32 := am hxa_; have HXBh32 := am hxb_; clear hxa_ hxb_) | (refine gl 24 Try.func28 #[.agg #[.slice Ao30 x370000_1.length co30, .slice Ao31 x370001_1.length co31], .agg #[.int .i64 t375, .int .i64 t376, .int .i64 t377, .int .i64 t378, .bool t379]] rfl ?_; (with_reducible refine (spec_l21Do.calls k1 PXh32 (.slice Ao30 x370000_1.length co30) x370000_1 (fun k_ => some k_ = (.slice Ao31 x370001_1.length co31 : Value).ownBlock) (.slice Ao31 x370001_1.length co31) x370001_1 t375 t376 t377 t378 t379 t385 t388 w0 _ ?side1 ?side2 ?side3 A18.out).mono ?_); (case side1 => repeat (first | (with_reducible first | exact HB.out | apply below_alloc | apply pw_below_drewN | apply below_drew1 | refine below_set ?_ (IsS54.ge HI0.out) | refine below_set ?_ GE362.out | refine below_set ?_ GE369.out | refine below_set ?_ GE381.out) | exact HB.out)); (case side2 => exact Kd.S_lower (ps HXAh32.out) HL.out); (case side3 => exact Kd.R_lower (Kd.R_tight rfl HO_370001.out) HL.out); rintro e w33 ⟨v386, v389, rfl, ho0, ho1, hb, hkp⟩; refine ⟨_, rfl, ?_⟩; replace BK362 := am (blk_kept (pb BK362.out) hkp (fun hs_ => Or.elim hs_ (fun e_ => (fun e_ => Kd.blk_awayP (fun k_ h_ => (HXBh32.out k_ h_).2.2.2) BK362.out (by decide) e_) e_) (fun e_ => (fun e_ => (Kd.R_ne HO_370001.out BK362.out (by decide)) e_) e_))); replace BK369 := am (blk_kept (pb BK369.out) hkp (fun hs_ => Or.elim hs_ (fun e_ => (fun e_ => Kd.blk_awayP (fun k_ h_ => (HXBh32.out k_ h_).2.2.2) BK369.out (by decide) e_) e_) (fun e_ => (fun e_ => (Kd.R_ne HO_370001.out BK369.out (by decide)) e_) e_))); replace HI0 := am (IsS54.kept (show IsS54 w0 _ g s0_0 t380 from by repeat (first | (with_reducible first | exact HI0.out | apply IsS54.alloc | apply IsS54.drewN | apply IsS54.drew | apply IsS54.set_1 | refine IsS54.far ?_ NB0_362.out _ | refine IsS54.far ?_ NB0_369.out _ | refine IsS54.far ?_ NB0_381.out _) | exact HI0.out)) hkp (fun hs_ => Or.elim hs_ (fun e_ => (fun e_ => (by obtain ⟨q_, hq_, c_, hc_⟩ := (HXBh32.out _ e_).2.2.2; exact (IsS54.ne_blk HI0.out hc_ (by rintro rfl; revert hq_; decide)) rfl)) e_) (fun e_ => (fun e_ => (IsS54.own_ne HI0.out HO_370001.out (by decide)) e_) e_))); replace BK381 := am (blk_kept (pb BK381.out) hkp (fun hs_ => Or.elim hs_ (fun e_ => (fun e_ => Kd.blk_awayP (fun k_ h_ => (HXBh32.out k_ h_).2.2.2) BK381.out (by decide) e_) e_) (fun e_ => (fun e_ => (Kd.R_ne HO_370001.out BK381.out (by decide)) e_) e_))); replace HO384 := am (Kd.R_mono (ok' := fun k_ => k_ ≠ gb381) (Kd.R_keptB ((Kd.R_apart' (Kd.R_awayP HO384.out (fun k_ h_ => (HXBh32.out k_ h_).2.2.2) (by decide)) (Kd.R_typed HO_370001.out) (by decide))) hkp (fun k_ hk_ hs_ => Or.elim hs_ (fun e_ => (hk_.1.2) e_) (fun e_ => (hk_.2) e_))) (fun k_ hk_ => hk_.1.1.1)); have HO387 := am (Kd.S_mono (ok' := fun k_ => True) (Kd.S_raise (Kd.raise_iso _ (Kd.raise_pair (Kd.raise_slice 32 (Kd.raise_iso _ (Kd.raise_pair (Kd.raise_int .i64) (Kd.raise_iso _ (Kd.raise_pair (Kd.raise_int .i64) (Kd.raise_pair (Kd.raise_int .i64) (Kd.raise_pair (Kd.raise_int .i64) (Kd.raise_int .i64)))))))) (Kd.raise_int .i64))) ho0 (fun k_ e_ => Or.elim e_ (fun hs_ => Or.elim hs_ (fun e_ => (fun e_ => (HXBh32.out k_ e_).2.1) e_) (fun e_ => (fun e_ => Kd.R_base HO_370001.out k_ e_.symm) e_)) (fun hn_ => Nat.le_trans (keep_size (w := w) (g := g) (row := none) (by repeat (first | (with_reducible first | exact HK.out | apply KeepBut.set_ | apply keep_drewN | apply keep_drew | apply keep_alloc | refine keep_far ?_ GW362.out _ | refine keep_far ?_ GW369.out _ | refine keep_far ?_ GW381.out _) | exact HK.out))) hn_))) (fun k_ hk_ => trivial)); have HO390 := am (Kd.R_mono (ok' := fun k_ => True) (Kd.R_raise (d := (Kd.int .i64)) (b := w0.heap.size) (b' := w.heap.size) (fun _ _ _ _ h_ => h_) ho1 (fun k_ e_ => Or.elim (ho1.1 k_ e_) (fun hs_ => Or.elim hs_ (fun e_ => (fun e_ => (HXBh32.out k_ e_).2.1) e_) (fun e_ => (fun e_ => Kd.R_base HO_370001.out k_ e_.symm) e_)) (fun hn_ => Nat.le_trans (keep_size (w := w) (g := g) (row := none) (by repeat (first | (with_reducible first | exact HK.out | apply KeepBut.set_ | apply keep_drewN | apply keep_drew | apply keep_alloc | refine keep_far ?_ GW362.out _ | refine keep_far ?_ GW369.out _ | refine keep_far ?_ GW381.out _) | exact HK.out))) hn_))) (fun k_ hk_ => trivial)); replace HK := am (Kept.keepG (by repeat (first | (with_reducible first | exact HK.out | apply KeepBut.set_ | apply keep_drewN | apply keep_drew | apply keep_alloc | refine keep_far ?_ GW362.out _ | refine keep_far ?_ GW369.out _ | refine keep_far ?_ GW381.out _) | exact HK.out)) hkp (fun k_ hs_ => Or.elim hs_ (fun e_ => (fun e_ => .inr (HXBh32.out k_ e_).2.1) e_) (fun e_ => (fun e_ => .inr (Kd.R_base HO_370001.out k_ e_.symm)) e_))); replace HB := am (hb); clear HO_370000; clear HO_370001; (try clear hb); (try clear hkp); (try clear ho0); (try clear ho1); obtain ⟨Ao34, co34, eo34⟩ := Kd.S_slice HO387.out; subst eo34; obtain ⟨hcz35_0, hcz35_1⟩ := b2 BK369.out; obtain ⟨hfz35_0, hfz35_1⟩ := f2 BK369.out; obtain ⟨Ao36, co36, eo36⟩ := Kd.R_slice HO390.out; subst eo36))
   go_roundg k1
   case measure => have := HK1.out; omega
   case rel => exact ⟨(y382), (wrap64 (x6_1 - 1)), (t380), (t385), (t388), (.slice Ao34 t385.length co34), (.slice Ao36 t388.length co36), rf, H', ⟨by have := HK1.out; omega⟩, ⟨by (with_reducible repeat (first | apply Kd.R_alloc | apply Kd.R_drewN | apply Kd.R_drew)); exact Kd.R_mono (Kd.R_far (p := ⟨gb369, 1, none⟩) (Kd.R_far (p := ⟨gb369, 0, none⟩) (Kd.R_types HO384.out BK369.out (by decide)) (fun _ hk => hk.2) (.slice Ao34 t385.length co34)) (fun _ hk => hk.2) (.slice Ao36 t388.length co36)) (fun _ hk => trivial)⟩, ⟨by (with_reducible repeat (first | apply Kd.S_alloc | apply Kd.S_drewN | apply Kd.S_drew)); exact Kd.S_mono (Kd.S_far (p := ⟨gb369, 1, none⟩) (Kd.S_far (p := ⟨gb369, 0, none⟩) (Kd.S_types HO387.out BK369.out (by decide)) (fun _ hk => hk.2) (.slice Ao34 t385.length co34)) (fun _ hk => hk.2) (.slice Ao36 t388.length co36)) (fun _ hk => trivial)⟩, ⟨by (with_reducible repeat (first | apply Kd.R_alloc | apply Kd.R_drewN | apply Kd.R_drew)); exact Kd.R_mono (Kd.R_far (p := ⟨gb369, 1, none⟩) (Kd.R_far (p := ⟨gb369, 0, none⟩) (Kd.R_types HO390.out BK369.out (by decide)) (fun _ hk => hk.2) (.slice Ao34 t385.length co34)) (fun _ hk => hk.2) (.slice Ao36 t388.length co36)) (fun _ hk => trivial)⟩, ⟨by (with_reducible repeat (first | refine blk_drewN ?_ _ | refine blk_drew ?_ | refine blk_alloc ?_ _)); refine blk_far ?_ NB362_369.out _; (with_reducible repeat (first | refine blk_drewN ?_ _ | refine blk_drew ?_ | refine blk_alloc ?_ _)); refine blk_far ?_ NB362_369.out _; (with_reducible repeat (first | refine blk_drewN ?_ _ | refine blk_drew ?_ | refine blk_alloc ?_ _)); exact BK362.out⟩, ⟨by (with_reducible repeat (first | refine blk_drewN ?_ _ | refine blk_drew ?_ | refine blk_alloc ?_ _)); refine blk_put (cs := #[.slice Ao34 t385.length co34, .slice Ao31 x370001_1.length co31]) ?_ 1 _ rfl; (with_reducible repeat (first | refine blk_drewN ?_ _ | refine blk_drew ?_ | refine blk_alloc ?_ _)); refine blk_put (cs := #[.slice Ao30 x370000_1.length co30, .slice Ao31 x370001_1.length co31]) ?_ 0 _ rfl; (with_reducible repeat (first | refine blk_drewN ?_ _ | refine blk_drew ?_ | refine blk_alloc ?_ _)); exact BK369.out⟩, ⟨by repeat (first | (with_reducible first | exact HI0.out | apply IsS54.alloc | apply IsS54.drewN | apply IsS54.drew | apply IsS54.set_1 | refine IsS54.far ?_ NB0_362.out _ | refine IsS54.far ?_ NB0_369.out _ | refine IsS54.far ?_ NB0_381.out _) | exact HI0.out)⟩, ⟨by repeat (first | (with_reducible first | exact HK.out | apply KeepBut.set_ | apply keep_drewN | apply keep_drew | apply keep_alloc | refine keep_far ?_ GW362.out _ | refine keep_far ?_ GW369.out _ | refine keep_far ?_ GW381.out _) | exact HK.out)⟩, ⟨by repeat (first | (with_reducible first | exact HB.out | apply below_alloc | apply pw_below_drewN | apply below_drew1 | refine below_set ?_ (IsS54.ge HI0.out) | refine below_set ?_ GE362.out | refine below_set ?_ GE369.out | refine below_set ?_ GE381.out) | exact HB.out)⟩⟩
def spec_l71Rec.f (k : Nat) (s0_0 : List Int) (s0_1 : Int) : Option (Int × Int × Int × Int × Int) := (spec_l6Rd_pick.f k s0_0 s0_1 2).bind fun b384 => ((spec_l6Rd_pick.f k s0_0 b384.2 40).bind fun b386 => ((spec_l6Rd_pick.f k s0_0 b386.2 6).bind fun b388 => ((spec_l6Rd_pick.f k s0_0 b388.2 10).bind fun b390 => ((spec_l6Rd_pick.f k s0_0 b390.2 20).bind fun b393 => (if b393.1 = 0 then ((spec_l6Rd_pick.f k s0_0 b393.2 4).bind fun b395 => (some (b395.1, wrap64 (1 + b386.1), wrap64 (1 + b388.1), b390.1, b395.2))) else (if b393.1 = 1 then ((some (([0, 600, 601] : List Int) : List Int)).bind fun y397 => ((spec_l6Rd_pick.f k s0_0 b393.2 3).bind fun b400 => (if 0 ≤ b400.1 then (if b400.1 < (y397.length : Int) then (some (wrap64 (1 + b384.1), rd y397 b400.1, wrap64 (1 + b388.1), b390.1, b400.2)) else (none)) else (none)))) else (if b393.1 = 2 then ((some (([0, 7] : List Int) : List Int)).bind fun y403 => ((spec_l6Rd_pick.f k s0_0 b393.2 2).bind fun b406 => (if 0 ≤ b406.1 then (if b406.1 < (y403.length : Int) then (some (wrap64 (1 + b384.1), wrap64 (1 + b386.1), rd y403 b406.1, b390.1, b406.2)) else (none)) else (none)))) else (if b393.1 = 3 then ((some (([(-1), 10] : List Int) : List Int)).bind fun y409 => ((spec_l6Rd_pick.f k s0_0 b393.2 2).bind fun b412 => (if 0 ≤ b412.1 then (if b412.1 < (y409.length : Int) then (some (wrap64 (1 + b384.1), wrap64 (1 + b386.1), wrap64 (1 + b388.1), rd y409 b412.1, b412.2)) else (none)) else (none)))) else (some (wrap64 (1 + b384.1), wrap64 (1 + b386.1), wrap64 (1 + b388.1), b390.1, b393.2))))))))))
theorem spec_l71Rec.mono : ∀ a0 a1 k, LeO (spec_l71Rec.f k a0 a1) (spec_l71Rec.f (k + 1) a0 a1) := by
 intro a0 a1 k
 unfold spec_l71Rec.f
 repeat' first
 | (with_reducible exact LeO.refl _)
 | (with_reducible exact LeO.none _)
 | (with_reducible exact spec_l6Rd_pick.mono _ _ _ _)
 | (with_reducible refine LeO.ite ?_ ?_)
 | (with_reducible refine LeO.bind ?_ (fun _ => ?_))
theorem recKb {w w' : World} {g a : Nat} {o : Obj} (h : w.heap[a]? = some o) (hk : KeepBut w w' g none) (hne : a ≠ g) : w'.heap[a]? = some o := (hk.2 a (Array.getElem?_eq_some_iff.1 h).1 hne (by simp)).trans h
theorem recSome {α : Type} {c d : Prop} [Decidable c] [Decidable d] {x y : α} (h : (if c then (if d then some x else none) else none) = some y) : c ∧ d ∧ x = y := by
 by_cases hc : c
 rotate_left
 · rw [if_neg hc] at h
   cases h
 rw [if_pos hc] at h
 by_cases hd : d
 rotate_left
 · rw [if_neg hd] at h
   cases h
 rw [if_pos hd] at h
 exact ⟨hc, hd, Option.some.inj h⟩
theorem recPut4 {w : World} {g : Nat} {t : TypeId} {z0 z1 z2 z3 : Value} (h : w.heap[g]? = some (.cells #[z0, z1, z2, z3] t (0, 0))) (a b c d : Value) : ((((w.setCell ⟨g, 0, none⟩ a).setCell ⟨g, 1, none⟩ b).setCell ⟨g, 2, none⟩ c).setCell ⟨g, 3, none⟩ d).heap[g]? = some (.cells #[a, b, c, d] t (0, 0)) :=
 blk_put (cs := #[a, b, c, z3]) (blk_put (cs := #[a, b, z2, z3]) (blk_put (cs := #[a, z1, z2, z3]) (blk_put (cs := #[z0, z1, z2, z3]) h 0 _ rfl) 1 _ rfl) 2 _ rfl) 3 _ rfl
theorem recEnd1 {w0 w W : World} {g : Nat} {s : List Int} {p : Int} (h : IsS54 w0 W g s p ∧ Below w0.heap.size w0 W ∧ KeepBut w W g none) {T : Nat} (hT : w.heap.size ≤ T) (hL : w0.heap.size ≤ w.heap.size) (hg : g < w.heap.size) (i : Nat) (a : Value) :
 IsS54 w0 (W.setCell ⟨T, i, none⟩ a) g s p ∧ Below w0.heap.size w0 (W.setCell ⟨T, i, none⟩ a) ∧ KeepBut w (W.setCell ⟨T, i, none⟩ a) g none :=
 ⟨IsS54.far (p := ⟨T, i, none⟩) h.1 (show g ≠ T by omega) _, h.2.1.setCell (p := ⟨T, i, none⟩) (Nat.le_trans hL hT) _, keep_far (p := ⟨T, i, none⟩) h.2.2 hT _⟩
set_option maxHeartbeats 4000000 in
set_option maxRecDepth 100000 in
theorem spec_l71Rec.calls (k : Nat) (g : Nat) (s0_0 : List Int) (s0_1 : Int) (r1 : Int) (r2 : Int) (r3 : Int) (r4 : Int) (r5 : Int) (w0 w : World) (hI : IsS54 w0 w g s0_0 s0_1) (hB : Below w0.heap.size w0 w) (h : spec_l71Rec.f k s0_0 s0_1 = some (r1, r2, r3, r4, r5)) :
 Calls Try.prog 20 #[.pointer (some ⟨g, 0, none⟩)] w fun e w' => e = .returned (.agg #[.int .i64 r1, .int .i64 r2, .int .i64 r3, .int .i64 r4]) ∧ IsS54 w0 w' g s0_0 r5 ∧ Below w0.heap.size w0 w' ∧ KeepBut w w' g none := by
 unfold spec_l71Rec.f at h
 obtain ⟨⟨a1, p1⟩, h1, h⟩ := Option.bind_eq_some_iff.1 h
 obtain ⟨⟨a2, p2⟩, h2, h⟩ := Option.bind_eq_some_iff.1 h
 obtain ⟨⟨a3, p3⟩, h3, h⟩ := Option.bind_eq_some_iff.1 h
 obtain ⟨⟨a4, p4⟩, h4, h⟩ := Option.bind_eq_some_iff.1 h
 obtain ⟨⟨a5, p5⟩, h5, h⟩ := Option.bind_eq_some_iff.1 h
 have HH := am h
 clear h
 have hgl := IsS54.lt hI
 have hL := hB.size
 have hu := Try.underlying30
 go_enter Try.func20, Try.ntmps20
 go_wp2_with fail
 refine (spec_l6Rd_pick.calls k g s0_0 s0_1 2 a1 p1 w0 _ (hI.alloc _) (below_alloc hB _) h1).mono ?_
 rintro e w1 ⟨rfl, hI1, hB1, hK1⟩
 have hb := recKb (blk_new w _) hK1 (show w.heap.size ≠ g by omega)
 have K := KeepBut.trans (keep_alloc (KeepBut.refl w g none) _) hK1 (.inl rfl)
 clear hI hB hK1
 go_wp2_with fail
 refine (spec_l6Rd_pick.calls k g s0_0 p1 40 a2 p2 w0 _ hI1 hB1 h2).mono ?_
 rintro e w2 ⟨rfl, hI2, hB2, hK2⟩
 replace hb := recKb hb hK2 (show w.heap.size ≠ g by omega)
 replace K := KeepBut.trans K hK2 (.inl rfl)
 clear hI1 hB1 hK2
 go_wp2_with fail
 refine (spec_l6Rd_pick.calls k g s0_0 p2 6 a3 p3 w0 _ hI2 hB2 h3).mono ?_
 rintro e w3 ⟨rfl, hI3, hB3, hK3⟩
 replace hb := recKb hb hK3 (show w.heap.size ≠ g by omega)
 replace K := KeepBut.trans K hK3 (.inl rfl)
 clear hI2 hB2 hK3
 go_wp2_with fail
 refine (spec_l6Rd_pick.calls k g s0_0 p3 10 a4 p4 w0 _ hI3 hB3 h4).mono ?_
 rintro e w4 ⟨rfl, hI4, hB4, hK4⟩
 replace hb := recKb hb hK4 (show w.heap.size ≠ g by omega)
 replace K := KeepBut.trans K hK4 (.inl rfl)
 clear hI3 hB3 hK4
 go_wp2_with fail
 refine (spec_l6Rd_pick.calls k g s0_0 p4 20 a5 p5 w0 _ (hI4.alloc _) (below_alloc hB4 _) h5).mono ?_
 rintro e w5 ⟨rfl, hI5, hB5, hK5⟩
 have hl4 := hI4.lt
 have hl5 := K.1
 have hw4 := blk_lt hb
 replace hb := recKb (blk_alloc hb _) hK5 (show w.heap.size ≠ g by omega)
 have hx := recKb (blk_new w4 _) hK5 (show w4.heap.size ≠ g by omega)
 replace K := KeepBut.trans (keep_alloc K _) hK5 (.inl rfl)
 clear hI4 hB4 hK5 h1 h2 h3 h4 h5
 have hne : w4.heap.size ≠ w.heap.size := by omega
 have hne2 : w.heap.size ≠ w4.heap.size := by omega
 have HE := am (And.intro hI5 (And.intro hB5 K))
 clear K
 have h := HH.out
 clear HH
 by_cases n0 : a5 = 0
 · rw [if_pos n0] at h
   obtain ⟨⟨v, q⟩, h6, h⟩ := Option.bind_eq_some_iff.1 h
   simp only [Option.some.injEq, Prod.mk.injEq] at h
   obtain ⟨rfl, rfl, rfl, rfl, rfl⟩ := h
   subst n0
   go_wp2_with fail
   refine (spec_l6Rd_pick.calls k g s0_0 p5 4 v q w0 _ hI5 hB5 h6).mono ?_
   rintro e w6 ⟨rfl, hI6, hB6, hK6⟩
   replace hb := recKb hb hK6 (show w.heap.size ≠ g by omega)
   replace hx := recKb hx hK6 (show w4.heap.size ≠ g by omega)
   have HE6 := am (And.intro hI6 (And.intro hB6 (KeepBut.trans HE.out.2.2 hK6 (.inl rfl))))
   clear hI5 hB5 hI6 hB6 hK6 h6 HE
   have x0 := (blk_cell hx 0).trans rfl
   have x1 := (blk_cell hx 1).trans rfl
   have x2 := (blk_cell hx 2).trans rfl
   have x3 := (blk_cell hx 3).trans rfl
   have y0 := (blk_cell hb 0).trans rfl
   have y1 := (blk_cell hb 1).trans rfl
   have y2 := (blk_cell hb 2).trans rfl
   have y3 := (blk_cell hb 3).trans rfl
   have g0 := blk_frozen hb 0
   have g1 := blk_frozen hb 1
   have g2 := blk_frozen hb 2
   have g3 := blk_frozen hb 3
   have fx := blk_frozen hx 0
   go_wp2
   refine bodyPost_ret (results_cell_row rfl _ _ w.heap.size 30 #[.int .i64 (v), .int .i64 (wrap64 (1 + a2)), .int .i64 (wrap64 (1 + a3)), .int .i64 (a4)] (0, 0) _ rfl (recPut4 (blk_far hb hne2 _) _ _ _ _) Try.underlying30 rfl (by kernel_rfl)) rfl ?_
   exact ⟨rfl, recEnd1 (recEnd1 (recEnd1 (recEnd1 (recEnd1 HE6.out (show w.heap.size ≤ w4.heap.size by omega) hL hgl 0 _) (Nat.le_refl _) hL hgl 0 _) (Nat.le_refl _) hL hgl 1 _) (Nat.le_refl _) hL hgl 2 _) (Nat.le_refl _) hL hgl 3 _⟩
 rw [if_neg n0] at h
 by_cases n1 : a5 = 1
 · rw [if_pos n1] at h
   obtain ⟨⟨v, q⟩, h6, h⟩ := Option.bind_eq_some_iff.1 ((Option.bind_some _ _).symm.trans h)
   obtain ⟨hv0, hv1, h⟩ := recSome h
   simp only [Prod.mk.injEq] at h
   obtain ⟨rfl, rfl, rfl, rfl, rfl⟩ := h
   subst n1
   clear n0
   replace hv1 : v < 3 := hv1
   go_wp2_with fail
   refine (spec_l6Rd_pick.calls k g s0_0 p5 3 v q w0 _ (hI5.alloc _) (below_alloc hB5 _) h6).mono ?_
   rintro e w6 ⟨rfl, hI6, hB6, hK6⟩
   have hl6 := hI5.lt
   have hlx := blk_lt hx
   have hl := recKb (blk_new w5 _) hK6 (show w5.heap.size ≠ g by omega)
   replace hb := recKb (blk_alloc hb _) hK6 (show w.heap.size ≠ g by omega)
   replace hx := recKb (blk_alloc hx _) hK6 (show w4.heap.size ≠ g by omega)
   have HE6 := am (And.intro hI6 (And.intro hB6 (KeepBut.trans (keep_alloc HE.out.2.2 _) hK6 (.inl rfl))))
   clear hI5 hB5 hI6 hB6 hK6 h6 HE
   have x0 := (blk_cell hx 0).trans rfl
   have x1 := (blk_cell hx 1).trans rfl
   have x2 := (blk_cell hx 2).trans rfl
   have x3 := (blk_cell hx 3).trans rfl
   have y0 := (blk_cell hb 0).trans rfl
   have y1 := (blk_cell hb 1).trans rfl
   have y2 := (blk_cell hb 2).trans rfl
   have y3 := (blk_cell hb 3).trans rfl
   have g0 := blk_frozen hb 0
   have g1 := blk_frozen hb 1
   have g2 := blk_frozen hb 2
   have g3 := blk_frozen hb 3
   have fx := blk_frozen hx 1
   have l0 := (blk_cell hl 0).trans rfl
   have l1 := (blk_cell hl 1).trans rfl
   have l2 := (blk_cell hl 2).trans rfl
   obtain rfl | rfl | rfl : v = 0 ∨ v = 1 ∨ v = 2 := by omega
   · go_wp2
     refine bodyPost_ret (results_cell_row rfl _ _ w.heap.size 30 #[.int .i64 (wrap64 (1 + a1)), .int .i64 (0), .int .i64 (wrap64 (1 + a3)), .int .i64 (a4)] (0, 0) _ rfl (recPut4 (blk_far hb hne2 _) _ _ _ _) Try.underlying30 rfl (by kernel_rfl)) rfl ?_
     exact ⟨rfl, recEnd1 (recEnd1 (recEnd1 (recEnd1 (recEnd1 HE6.out (show w.heap.size ≤ w4.heap.size by omega) hL hgl 1 _) (Nat.le_refl _) hL hgl 0 _) (Nat.le_refl _) hL hgl 1 _) (Nat.le_refl _) hL hgl 2 _) (Nat.le_refl _) hL hgl 3 _⟩
   · go_wp2
     refine bodyPost_ret (results_cell_row rfl _ _ w.heap.size 30 #[.int .i64 (wrap64 (1 + a1)), .int .i64 (600), .int .i64 (wrap64 (1 + a3)), .int .i64 (a4)] (0, 0) _ rfl (recPut4 (blk_far hb hne2 _) _ _ _ _) Try.underlying30 rfl (by kernel_rfl)) rfl ?_
     exact ⟨rfl, recEnd1 (recEnd1 (recEnd1 (recEnd1 (recEnd1 HE6.out (show w.heap.size ≤ w4.heap.size by omega) hL hgl 1 _) (Nat.le_refl _) hL hgl 0 _) (Nat.le_refl _) hL hgl 1 _) (Nat.le_refl _) hL hgl 2 _) (Nat.le_refl _) hL hgl 3 _⟩
   · go_wp2
     refine bodyPost_ret (results_cell_row rfl _ _ w.heap.size 30 #[.int .i64 (wrap64 (1 + a1)), .int .i64 (601), .int .i64 (wrap64 (1 + a3)), .int .i64 (a4)] (0, 0) _ rfl (recPut4 (blk_far hb hne2 _) _ _ _ _) Try.underlying30 rfl (by kernel_rfl)) rfl ?_
     exact ⟨rfl, recEnd1 (recEnd1 (recEnd1 (recEnd1 (recEnd1 HE6.out (show w.heap.size ≤ w4.heap.size by omega) hL hgl 1 _) (Nat.le_refl _) hL hgl 0 _) (Nat.le_refl _) hL hgl 1 _) (Nat.le_refl _) hL hgl 2 _) (Nat.le_refl _) hL hgl 3 _⟩
 rw [if_neg n1] at h
 by_cases n2 : a5 = 2
 · rw [if_pos n2] at h
   obtain ⟨⟨v, q⟩, h6, h⟩ := Option.bind_eq_some_iff.1 ((Option.bind_some _ _).symm.trans h)
   obtain ⟨hv0, hv1, h⟩ := recSome h
   simp only [Prod.mk.injEq] at h
   obtain ⟨rfl, rfl, rfl, rfl, rfl⟩ := h
   subst n2
   clear n0 n1
   replace hv1 : v < 2 := hv1
   go_wp2_with fail
   refine (spec_l6Rd_pick.calls k g s0_0 p5 2 v q w0 _ (hI5.alloc _) (below_alloc hB5 _) h6).mono ?_
   rintro e w6 ⟨rfl, hI6, hB6, hK6⟩
   have hl6 := hI5.lt
   have hlx := blk_lt hx
   have hl := recKb (blk_new w5 _) hK6 (show w5.heap.size ≠ g by omega)
   replace hb := recKb (blk_alloc hb _) hK6 (show w.heap.size ≠ g by omega)
   replace hx := recKb (blk_alloc hx _) hK6 (show w4.heap.size ≠ g by omega)
   have HE6 := am (And.intro hI6 (And.intro hB6 (KeepBut.trans (keep_alloc HE.out.2.2 _) hK6 (.inl rfl))))
   clear hI5 hB5 hI6 hB6 hK6 h6 HE
   have x0 := (blk_cell hx 0).trans rfl
   have x1 := (blk_cell hx 1).trans rfl
   have x2 := (blk_cell hx 2).trans rfl
   have x3 := (blk_cell hx 3).trans rfl
   have y0 := (blk_cell hb 0).trans rfl
   have y1 := (blk_cell hb 1).trans rfl
   have y2 := (blk_cell hb 2).trans rfl
   have y3 := (blk_cell hb 3).trans rfl
   have g0 := blk_frozen hb 0
   have g1 := blk_frozen hb 1
   have g2 := blk_frozen hb 2
   have g3 := blk_frozen hb 3
   have fx := blk_frozen hx 2
   have l0 := (blk_cell hl 0).trans rfl
   have l1 := (blk_cell hl 1).trans rfl
   obtain rfl | rfl : v = 0 ∨ v = 1 := by omega
   · go_wp2
     refine bodyPost_ret (results_cell_row rfl _ _ w.heap.size 30 #[.int .i64 (wrap64 (1 + a1)), .int .i64 (wrap64 (1 + a2)), .int .i64 (0), .int .i64 (a4)] (0, 0) _ rfl (recPut4 (blk_far hb hne2 _) _ _ _ _) Try.underlying30 rfl (by kernel_rfl)) rfl ?_
     exact ⟨rfl, recEnd1 (recEnd1 (recEnd1 (recEnd1 (recEnd1 HE6.out (show w.heap.size ≤ w4.heap.size by omega) hL hgl 2 _) (Nat.le_refl _) hL hgl 0 _) (Nat.le_refl _) hL hgl 1 _) (Nat.le_refl _) hL hgl 2 _) (Nat.le_refl _) hL hgl 3 _⟩
   · go_wp2
     refine bodyPost_ret (results_cell_row rfl _ _ w.heap.size 30 #[.int .i64 (wrap64 (1 + a1)), .int .i64 (wrap64 (1 + a2)), .int .i64 (7), .int .i64 (a4)] (0, 0) _ rfl (recPut4 (blk_far hb hne2 _) _ _ _ _) Try.underlying30 rfl (by kernel_rfl)) rfl ?_
     exact ⟨rfl, recEnd1 (recEnd1 (recEnd1 (recEnd1 (recEnd1 HE6.out (show w.heap.size ≤ w4.heap.size by omega) hL hgl 2 _) (Nat.le_refl _) hL hgl 0 _) (Nat.le_refl _) hL hgl 1 _) (Nat.le_refl _) hL hgl 2 _) (Nat.le_refl _) hL hgl 3 _⟩
 rw [if_neg n2] at h
 by_cases n3 : a5 = 3
 · rw [if_pos n3] at h
   obtain ⟨⟨v, q⟩, h6, h⟩ := Option.bind_eq_some_iff.1 ((Option.bind_some _ _).symm.trans h)
   obtain ⟨hv0, hv1, h⟩ := recSome h
   simp only [Prod.mk.injEq] at h
   obtain ⟨rfl, rfl, rfl, rfl, rfl⟩ := h
   subst n3
   clear n0 n1 n2
   replace hv1 : v < 2 := hv1
   go_wp2_with fail
   refine (spec_l6Rd_pick.calls k g s0_0 p5 2 v q w0 _ (hI5.alloc _) (below_alloc hB5 _) h6).mono ?_
   rintro e w6 ⟨rfl, hI6, hB6, hK6⟩
   have hl6 := hI5.lt
   have hlx := blk_lt hx
   have hl := recKb (blk_new w5 _) hK6 (show w5.heap.size ≠ g by omega)
   replace hb := recKb (blk_alloc hb _) hK6 (show w.heap.size ≠ g by omega)
   replace hx := recKb (blk_alloc hx _) hK6 (show w4.heap.size ≠ g by omega)
   have HE6 := am (And.intro hI6 (And.intro hB6 (KeepBut.trans (keep_alloc HE.out.2.2 _) hK6 (.inl rfl))))
   clear hI5 hB5 hI6 hB6 hK6 h6 HE
   have x0 := (blk_cell hx 0).trans rfl
   have x1 := (blk_cell hx 1).trans rfl
   have x2 := (blk_cell hx 2).trans rfl
   have x3 := (blk_cell hx 3).trans rfl
   have y0 := (blk_cell hb 0).trans rfl
   have y1 := (blk_cell hb 1).trans rfl
   have y2 := (blk_cell hb 2).trans rfl
   have y3 := (blk_cell hb 3).trans rfl
   have g0 := blk_frozen hb 0
   have g1 := blk_frozen hb 1
   have g2 := blk_frozen hb 2
   have g3 := blk_frozen hb 3
   have fx := blk_frozen hx 3
   have l0 := (blk_cell hl 0).trans rfl
   have l1 := (blk_cell hl 1).trans rfl
   obtain rfl | rfl : v = 0 ∨ v = 1 := by omega
   · go_wp2
     refine bodyPost_ret (results_cell_row rfl _ _ w.heap.size 30 #[.int .i64 (wrap64 (1 + a1)), .int .i64 (wrap64 (1 + a2)), .int .i64 (wrap64 (1 + a3)), .int .i64 (-1)] (0, 0) _ rfl (recPut4 (blk_far hb hne2 _) _ _ _ _) Try.underlying30 rfl (by kernel_rfl)) rfl ?_
     exact ⟨rfl, recEnd1 (recEnd1 (recEnd1 (recEnd1 (recEnd1 HE6.out (show w.heap.size ≤ w4.heap.size by omega) hL hgl 3 _) (Nat.le_refl _) hL hgl 0 _) (Nat.le_refl _) hL hgl 1 _) (Nat.le_refl _) hL hgl 2 _) (Nat.le_refl _) hL hgl 3 _⟩
   · go_wp2
     refine bodyPost_ret (results_cell_row rfl _ _ w.heap.size 30 #[.int .i64 (wrap64 (1 + a1)), .int .i64 (wrap64 (1 + a2)), .int .i64 (wrap64 (1 + a3)), .int .i64 (10)] (0, 0) _ rfl (recPut4 (blk_far hb hne2 _) _ _ _ _) Try.underlying30 rfl (by kernel_rfl)) rfl ?_
     exact ⟨rfl, recEnd1 (recEnd1 (recEnd1 (recEnd1 (recEnd1 HE6.out (show w.heap.size ≤ w4.heap.size by omega) hL hgl 3 _) (Nat.le_refl _) hL hgl 0 _) (Nat.le_refl _) hL hgl 1 _) (Nat.le_refl _) hL hgl 2 _) (Nat.le_refl _) hL hgl 3 _⟩
 rw [if_neg n3] at h
 simp only [Option.some.injEq, Prod.mk.injEq] at h
 obtain ⟨rfl, rfl, rfl, rfl, rfl⟩ := h
 have e0 : (a5 == 0) = false := beq_eq_false_iff_ne.mpr n0
 have e1 : (a5 == 1) = false := beq_eq_false_iff_ne.mpr n1
 have e2 : (a5 == 2) = false := beq_eq_false_iff_ne.mpr n2
 have e3 : (a5 == 3) = false := beq_eq_false_iff_ne.mpr n3
 clear n0 n1 n2 n3
 have x0 := (blk_cell hx 0).trans rfl
 have x1 := (blk_cell hx 1).trans rfl
 have x2 := (blk_cell hx 2).trans rfl
 have x3 := (blk_cell hx 3).trans rfl
 have y0 := (blk_cell hb 0).trans rfl
 have y1 := (blk_cell hb 1).trans rfl
 have y2 := (blk_cell hb 2).trans rfl
 have y3 := (blk_cell hb 3).trans rfl
 have g0 := blk_frozen hb 0
 have g1 := blk_frozen hb 1
 have g2 := blk_frozen hb 2
 have g3 := blk_frozen hb 3
 go_wp2
 refine bodyPost_ret (results_cell_row rfl _ _ w.heap.size 30 #[.int .i64 (wrap64 (1 + a1)), .int .i64 (wrap64 (1 + a2)), .int .i64 (wrap64 (1 + a3)), .int .i64 (a4)] (0, 0) _ rfl (recPut4 hb _ _ _ _) Try.underlying30 rfl (by kernel_rfl)) rfl ?_
 exact ⟨rfl, recEnd1 (recEnd1 (recEnd1 (recEnd1 HE.out (Nat.le_refl _) hL hgl 0 _) (Nat.le_refl _) hL hgl 1 _) (Nat.le_refl _) hL hgl 2 _) (Nat.le_refl _) hL hgl 3 _⟩
end Go.Proofs.Ytcanhdofmbekeaa.Rp
