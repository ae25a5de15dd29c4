-- printed by wip/pp/pp.py
import Derived.Test.YthmgdljblidgjaaRw0
import Derived.Test.YthmgdljblidgjaaRw8
import Derived.Test.YthmgdljblidgjaaRw9
import Derived.Test.YthmgdljblidgjaaRw1
import Derived.Test.YthmgdljblidgjaaRw3
namespace Go.Proofs.Ythmgdljblidgjaa.Rw
open Go.RowKit Go.Proofs.YthmgdljblidgjaaW.PrintWords Go.Proofs.YthmgdljblidgjaaW.PrintLast Go.Proofs.YthmgdljblidgjaaW.PrintMore
attribute [local go_sem] max2_int min2_int max_two min_two max_three min_three max_four min_four
set_option linter.unusedVariables false
set_option linter.unusedSimpArgs false
mutual
def spec_DrawFlashWrite.j0 : Nat → List (S36) → List Int → Int → Int → Int → Int → Int → Option ((List (S36)) × Int × Int × Int × Int × Int × Bool)
 | 0, _, _, _, _, _, _, _ => none
 | k + 1, x7, x367000, x367001, x377000, x377001, x377002, x377003 => (spec_l6Rd_pick.f k x367000 x367001 4).bind fun bt380 => (spec_DrawFlashWrite.l0 k x7 bt380.1 0 x367000 bt380.2 x377000 x377001 x377002 x377003)
def spec_DrawFlashWrite.l0 : Nat → List (S36) → Int → Int → List Int → Int → Int → Int → Int → Int → Option ((List (S36)) × Int × Int × Int × Int × Int × Bool)
 | 0, _, _, _, _, _, _, _, _, _ => none
 | k + 1, x7, x9, x10, x367000, x367001, x377000, x377001, x377002, x377003 => if x10 < 3 then ((spec_FlashClean.f k x7 x9).bind fun t382 => (if t382 = 0 then (spec_DrawFlashWrite.l0 k x7 (Int.tmod (wrap64 (x9 + 1)) 4) (wrap64 (x10 + 1)) x367000 x367001 x377000 x377001 x377002 x377003) else ((spec_l6Rd_pick.f k x367000 x367001 24).bind fun bt383 => ((spec_l6Rd_pick.f k x367000 bt383.2 3).bind fun bt385 => (some (x7, wrap64 (x9 + (wrap64 ((wrap64 (Int.tdiv bt383.1 23)) * 4))), x377000, x377001, x377002, x377003, (bt385.1 == 0))))))) else ((spec_l6Rd_pick.f k x367000 x367001 24).bind fun bt387 => ((spec_l6Rd_pick.f k x367000 bt387.2 3).bind fun bt389 => (some (x7, wrap64 (x9 + (wrap64 ((wrap64 (Int.tdiv bt387.1 23)) * 4))), x377000, x377001, x377002, x377003, (bt389.1 == 0)))))
end
def spec_DrawFlashWrite.f (k : Nat) (l0 : List Int) : Option ((List (S36)) × Int × Int × Int × Int × Int × Bool) := (spec_l6Open.f l0).bind fun bt364 => ((spec_l71Flash.f k bt364.1 bt364.2).bind fun bt367 => ((spec_l71Rec.f k bt364.1 bt367.2).bind fun bt371 => ((spec_l6Rd_pick.f k bt364.1 bt371.2.2.2.2 3).bind fun bt377 => (if bt377.1 > 0 then ((spec_FindNext.f k bt367.1).bind fun t379 => (spec_DrawFlashWrite.j0 k bt367.1 bt364.1 bt377.2 bt371.1 (mn (mx t379 1) 600) bt371.2.2.1 bt371.2.2.2.1)) else (spec_DrawFlashWrite.j0 k bt367.1 bt364.1 bt377.2 bt371.1 bt371.2.1 bt371.2.2.1 bt371.2.2.2.1)))))
theorem spec_DrawFlashWrite.mono_l : ∀ k, (∀ y0 y1 y2 y3 y4 y5 y6, LeO (spec_DrawFlashWrite.j0 k y0 y1 y2 y3 y4 y5 y6) (spec_DrawFlashWrite.j0 (k + 1) y0 y1 y2 y3 y4 y5 y6)) ∧ (∀ y0 y1 y2 y3 y4 y5 y6 y7 y8, LeO (spec_DrawFlashWrite.l0 k y0 y1 y2 y3 y4 y5 y6 y7 y8) (spec_DrawFlashWrite.l0 (k + 1) y0 y1 y2 y3 y4 y5 y6 y7 y8))
 | 0 => ⟨fun _ _ _ _ _ _ _ r h => by simp [spec_DrawFlashWrite.j0] at h, fun _ _ _ _ _ _ _ _ _ r h => by simp [spec_DrawFlashWrite.l0] at h⟩
 | k + 1 => by
  obtain ⟨ih0, ih1⟩ := spec_DrawFlashWrite.mono_l k
  refine ⟨?_, ?_⟩
  · intro y0 y1 y2 y3 y4 y5 y6
    unfold spec_DrawFlashWrite.j0
    with_reducible repeat' first | exact ih0 _ _ _ _ _ _ _ | exact ih1 _ _ _ _ _ _ _ _ _ | exact spec_FindNext.mono _ _ | exact spec_FlashClean.mono _ _ _ | exact spec_l6Rd_pick.mono _ _ _ _ | exact spec_l71Flash.mono _ _ _ | exact spec_l71Rec.mono _ _ _ | exact LeO.refl _ | exact LeO.none _ | refine LeO.ite ?_ ?_ | refine LeO.bind ?_ (fun _ => ?_)
  · intro y0 y1 y2 y3 y4 y5 y6 y7 y8
    unfold spec_DrawFlashWrite.l0
    with_reducible repeat' first | exact ih0 _ _ _ _ _ _ _ | exact ih1 _ _ _ _ _ _ _ _ _ | exact spec_FindNext.mono _ _ | exact spec_FlashClean.mono _ _ _ | exact spec_l6Rd_pick.mono _ _ _ _ | exact spec_l71Flash.mono _ _ _ | exact spec_l71Rec.mono _ _ _ | exact LeO.refl _ | exact LeO.none _ | refine LeO.ite ?_ ?_ | refine LeO.bind ?_ (fun _ => ?_)
theorem spec_DrawFlashWrite.mono : ∀ a0 k, LeO (spec_DrawFlashWrite.f k a0) (spec_DrawFlashWrite.f (k + 1) a0) := by
 intro a0 k
 obtain ⟨ih0, ih1⟩ := spec_DrawFlashWrite.mono_l k
 unfold spec_DrawFlashWrite.f
 with_reducible repeat' first | exact ih0 _ _ _ _ _ _ _ | exact ih1 _ _ _ _ _ _ _ _ _ | exact spec_FindNext.mono _ _ | exact spec_FlashClean.mono _ _ _ | exact spec_l6Rd_pick.mono _ _ _ _ | exact spec_l71Flash.mono _ _ _ | exact spec_l71Rec.mono _ _ _ | exact LeO.refl _ | exact LeO.none _ | refine LeO.ite ?_ ?_ | refine LeO.bind ?_ (fun _ => ?_)
def spec_DrawFlashWrite.T11 : Bool × List (List Nat × List Nat) := (true, [([], []), ([], []), ([], []), ([2], [2]), ([3], [3]), ([4], [4]), ([1, 5], [1, 5]), ([], []), ([], []), ([8, 3], [8]), ([9], [9]), ([0, 9, 0], [0]), ([6, 11, 0, 1, 2, 3, 4, 5, 6, 11], [6]), ([7, 12, 0, 1, 2, 3, 4, 5, 6, 7, 11, 12], [7]), ([10, 13, 0, 1, 2, 3, 4, 5, 6, 7, 8, 9, 10, 11, 12, 13], [10])])
def spec_DrawFlashWrite.B11 : List Nat := [0, 0, 0, 4, 12, 28, 62, 0, 0, 268, 780, 781, 2943, 7167, 16383]
theorem spec_DrawFlashWrite.tab11 : rtab .any (opsOf Try.f4 11) = spec_DrawFlashWrite.T11 := by kernel_rfl
theorem spec_DrawFlashWrite.bits11 : waitsOk spec_DrawFlashWrite.T11.2 spec_DrawFlashWrite.B11 = true := by kernel_rfl
set_option maxHeartbeats 8000000 in
set_option maxRecDepth 100000 in
theorem spec_DrawFlashWrite.calls (k : Nat) (A0 : Option Addr) (c0 : Nat) (l0 : List Int) (r1 : List (S36)) (r2 : Int) (r3 : Int) (r4 : Int) (r5 : Int) (r6 : Int) (r7 : Bool) (w : World) (hr0 : Kd.C (Kd.int .u8) w A0 l0.length l0) (hc0 : l0.length ≤ c0) (h : spec_DrawFlashWrite.f k l0 = some (r1, r2, r3, r4, r5, r6, r7)) :
 Calls Try.prog 4 #[.slice A0 l0.length c0] w fun e w' => ∃ v0_ : Value, e = .returned (.tuple #[v0_, .int .i64 r2, .agg #[.int .i64 r3, .int .i64 r4, .int .i64 r5, .int .i64 r6], .bool r7]) ∧ Kd.V k36 36 w' w.heap.size (fun k_ => (w.heap.size ≤ k_)) v0_ r1 ∧ Below w.heap.size w w' := by
 have hu25 := Try.underlying25
 have HR0 := am hr0
 have HC0 := am hc0
 clear hr0 hc0
 have HB := am (Below.refl w.heap.size w)
 have H : ((spec_l6Open.f l0).bind fun bt364 => ((spec_l71Flash.f k bt364.1 bt364.2).bind fun bt367 => ((spec_l71Rec.f k bt364.1 bt367.2).bind fun bt371 => ((spec_l6Rd_pick.f k bt364.1 bt371.2.2.2.2 3).bind fun bt377 => (if bt377.1 > 0 then ((spec_FindNext.f k bt367.1).bind fun t379 => (spec_DrawFlashWrite.j0 k bt367.1 bt364.1 bt377.2 bt371.1 (mn (mx t379 1) 600) bt371.2.2.1 bt371.2.2.2.1)) else (spec_DrawFlashWrite.j0 k bt367.1 bt364.1 bt377.2 bt371.1 bt371.2.1 bt371.2.2.1 bt371.2.2.2.1)))))) = some (r1, r2, r3, r4, r5, r6, r7) := h
 clear h
 replace H := Option.bind_eq_some_iff.mp H
 obtain ⟨⟨t364, t365⟩, A20, H⟩ := H
 have A2 := am A20
 clear A20
 replace H := Option.bind_eq_some_iff.mp H
 obtain ⟨⟨t367, t370⟩, A30, H⟩ := H
 have A3 := am A30
 clear A30
 replace H := Option.bind_eq_some_iff.mp H
 obtain ⟨⟨t371, t372, t373, t374, t375⟩, A40, H⟩ := H
 have A4 := am A40
 clear A40
 replace H := Option.bind_eq_some_iff.mp H
 obtain ⟨⟨t377, t378⟩, A50, H⟩ := H
 have A5 := am A50
 clear A50
 have HC6 := am H
 clear H
 go_enter Try.func4, Try.ntmps4
 go_upto_if 19 with (first | (refine bx 4 #[.int .i64 0, .int .i64 0, .int .i64 0, .int .i64 0] 25 rfl ?_; intro gb363 hg w7 hbox hb; have BK363 := am (hbox); have GW363 := am (ge hg (ph HB.out)); have GE363 := GW363; replace HB := am (below_step (ph HB.out) hb); clear hb hbox hg) | (refine gl 12 Try.func12 #[.slice A0 l0.length c0] rfl ?_; (with_reducible refine (spec_l6Open.calls _ _ l0 t364 t365 w _ ?side1 ?side2 ?side3 A2.out).mono ?_); (case side1 => exact bg1 HB.out GE363.out); (case side2 => exact HR0.out); (case side3 => exact HC0.out); rintro e w8 ⟨g366, rfl, hi, hb, hb2⟩; refine ⟨_, rfl, ?_⟩; replace HB := am (hb); have HI366 := am (hi); have NB366_363 := am (IsS57.ne_blk hi (blk_below (pb BK363.out) hb2) (by decide)); have NB363_366 := am (Ne.symm (IsS57.ne_blk hi (blk_below (pb BK363.out) hb2) (by decide))); replace BK363 := am (blk_below (pb BK363.out) hb2); clear hb hb2 hi) | (refine gl 14 Try.func13 #[.pointer (some ⟨g366, 0, none⟩)] rfl ?_; (with_reducible refine (spec_l71Flash.calls k g366 t364 t365 t367 t370 w _ ?side1 ?side2 A3.out).mono ?_); (case side1 => exact IsS57.g1 HI366.out NB366_363.out); (case side2 => exact bg2 HB.out (IsS57.ge HI366.out) GE363.out); rintro e w9 ⟨v368, rfl, ho0, hi, hb, hk⟩; refine ⟨_, rfl, ?_⟩; have HO369 := am (Kd.V_lower (Kd.V_mono (ok' := fun k_ => (w.heap.size ≤ k_) ∧ k_ ≠ gb363 ∧ k_ ≠ g366) ho0 (fun k_ hk_ => ⟨(Nat.le_trans (below_size (bg2 HB.out (IsS57.ge HI366.out) GE363.out)) hk_), (Kd.freshB (g := gb363) (o := .cells #[.int .i64 0, .int .i64 0, .int .i64 0, .int .i64 0] 25 (0, 0)) (pb BK363.out) k_ hk_), (IsS57.fresh (IsS57.g1 HI366.out NB366_363.out) k_ hk_)⟩)) (below_size (bg2 HB.out (IsS57.ge HI366.out) GE363.out))); replace BK363 := am (KeepBut.blk hk (pb BK363.out) NB363_366.out (by simp)); replace HB := am (hb); replace HI366 := am (hi); clear hb hk hi ho0) | (refine gl 16 Try.func14 #[.pointer (some ⟨g366, 0, none⟩)] rfl ?_; (with_reducible refine (spec_l71Rec.calls k g366 t364 t370 t371 t372 t373 t374 t375 w _ ?side1 ?side2 A4.out).mono ?_); (case side1 => exact IsS57.g1 HI366.out NB366_363.out); (case side2 => exact bg2 HB.out (IsS57.ge HI366.out) GE363.out); rintro e w10 ⟨rfl, hi, hb, hk⟩; refine ⟨_, rfl, ?_⟩; replace BK363 := am (KeepBut.blk hk (pb BK363.out) NB363_366.out (by simp)); replace HO369 := am (Kd.V_mono (Kd.V_keep (Kd.V_mono (ok := fun k_ => (((w.heap.size ≤ k_)) ∧ (k_ ≠ gb363 ∧ k_ ≠ g366))) (pv HO369.out) (fun k_ hk_ => (⟨hk_, hk_.2.2⟩ : _ ∧ k_ ≠ g366))) hk (fun _ h => h.2)) (fun _ h => h.1)); replace HB := am (hb); replace HI366 := am (hi); clear hb hk hi) | (refine bx 8 #[.int .i64 0, .int .i64 0, .int .i64 0, .int .i64 0] 25 rfl ?_; intro gb376 hg w11 hbox hb; replace HO369 := am (Kd.V_below (Kd.V_elderB (pv HO369.out) gb376 (Nat.le_of_eq hg.symm)) hb); have BK376 := am (hbox); have GW376 := am ((by rw [hg]; exact (below_size (bg2 HB.out (IsS57.ge HI366.out) GE363.out)) : w.heap.size ≤ gb376)); have GE376 := GW376; replace HB := am (below_step (bg2 HB.out (IsS57.ge HI366.out) GE363.out) hb); have NB363_376 := am (nb hg (pb BK363.out)); have NB376_363 := am (Ne.symm NB363_376.out); replace BK363 := am (blk_below (pb BK363.out) hb); have NB366_376 := am ((by rw [hg]; exact Nat.ne_of_lt (IsS57.lt (show IsS57 w _ g366 t364 t375 from IsS57.g1 HI366.out NB366_363.out)) : g366 ≠ gb376)); have NB376_366 := am (Ne.symm NB366_376.out); replace HI366 := am (IsS57.below (IsS57.g1 HI366.out NB366_363.out) hb); clear hb hbox hg; have hnb12 := NB376_363.out; have hnc12 := NB363_376.out; have hnb13 := NB376_366.out; have hnc13 := NB366_376.out; obtain ⟨hcz14_0, hcz14_1, hcz14_2, hcz14_3⟩ := b4 BK376.out; obtain ⟨hfz14_0, hfz14_1, hfz14_2, hfz14_3⟩ := f4 BK376.out) | (refine gl 18 Try.func15 #[.pointer (some ⟨g366, 0, none⟩), .int .i64 3] rfl ?_; (with_reducible refine (spec_l6Rd_pick.calls k g366 t364 t375 3 t377 t378 w _ ?side1 ?side2 A5.out).mono ?_); (case side1 => exact IsS57.g2 HI366.out NB366_363.out NB366_376.out); (case side2 => exact bg3 HB.out (IsS57.ge HI366.out) GE363.out GE376.out); rintro e w15 ⟨rfl, hi, hb, hk⟩; refine ⟨_, rfl, ?_⟩; replace BK363 := am (KeepBut.blk hk (bf4 (pb BK363.out) NB363_376.out) NB363_366.out (by simp)); replace HO369 := am (Kd.V_mono (Kd.V_keep (Kd.V_mono (ok := fun k_ => ((((w.heap.size ≤ k_)) ∧ (k_ ≠ gb363 ∧ k_ ≠ g366)) ∧ k_ ≠ gb376)) (pv ((Kd.V_mono (Kd.V_far (p := ⟨gb376, 3, none⟩) (Kd.V_far (p := ⟨gb376, 2, none⟩) (Kd.V_far (p := ⟨gb376, 1, none⟩) (Kd.V_far (p := ⟨gb376, 0, none⟩) (Kd.V_mono HO369.out (fun k_ hk => (⟨hk, hk.2⟩ : _ ∧ k_ ≠ gb376))) (fun _ hk => hk.2) (.int .i64 t371)) (fun _ hk => hk.2) (.int .i64 t372)) (fun _ hk => hk.2) (.int .i64 t373)) (fun _ hk => hk.2) (.int .i64 t374)) (fun _ h_ => h_.1)))) (fun k_ hk_ => (⟨hk_, hk_.1.2.2⟩ : _ ∧ k_ ≠ g366))) hk (fun _ h => h.2)) (fun _ h => h.1)); replace BK376 := am (KeepBut.blk hk (bp4 (pb BK376.out)) NB376_366.out (by simp)); replace HB := am (hb); replace HI366 := am (hi); clear hb hk hi))
 (try simp only [Act.put, List.setIfInBounds_toArray, List.set_cons_zero, List.set_cons_succ])
 go_cut [] (fun wc => ∃ (kq : Nat) (x377001_5 : Int), Aside0 (spec_DrawFlashWrite.j0 kq t367 t364 t378 t371 x377001_5 t373 t374 = some (r1, r2, r3, r4, r5, r6, r7)) ∧ Aside0 (kq ≤ k) ∧ Aside0 (Kd.V k36 36 wc w.heap.size (fun k_ => (w.heap.size ≤ k_) ∧ k_ ≠ gb363 ∧ k_ ≠ gb376 ∧ k_ ≠ g366) v368 t367) ∧ Aside0 (wc.heap[gb363]? = some (.cells #[.int .i64 0, .int .i64 0, .int .i64 0, .int .i64 0] 25 (0, 0))) ∧ Aside0 (wc.heap[gb376]? = some (.cells #[.int .i64 t371, .int .i64 x377001_5, .int .i64 t373, .int .i64 t374] 25 (0, 0))) ∧ Aside0 (IsS57 w wc g366 t364 t378) ∧ Aside0 (Below w.heap.size w wc))
 case first =>
  have H := HC6.out
  clear HC6
  by_cases c16 : t377 > 0
  rotate_left
  · rw [if_neg c16] at H
    have c16b0 := decide_eq_false c16
    clear c16
    (first | rw [c16b0] | (simp only [i64_w, i32_w]; rw [c16b0]) | skip)
    have H' := am H
    clear H
    go_wp2
    go_meet
    case rel => exact ⟨_, (t372), H', ⟨by first | omega | exact Nat.le_refl _⟩, ⟨pv (Kd.V_mono HO369.out (fun _ hk => ⟨hk.1.1, ⟨hk.1.2.1, ⟨hk.2, hk.1.2.2⟩⟩⟩))⟩, ⟨pb BK363.out⟩, ⟨pb BK376.out⟩, ⟨IsS57.g2 HI366.out NB366_363.out NB366_376.out⟩, ⟨bg3 HB.out (IsS57.ge HI366.out) GE363.out GE376.out⟩⟩
  rw [if_pos c16] at H
  have c16b0 := decide_eq_true c16
  clear c16
  (first | rw [c16b0] | (simp only [i64_w, i32_w]; rw [c16b0]) | skip)
  replace H := Option.bind_eq_some_iff.mp H
  obtain ⟨t379, A170, H⟩ := H
  have A17 := am A170
  clear A170
  obtain ⟨ji18, hji18⟩ : ∃ j_ : Int, (mx t379 1) = j_ := ⟨_, rfl⟩
  replace H : (spec_DrawFlashWrite.j0 k t367 t364 t378 t371 (mn (ji18) 600) t373 t374) = some (r1, r2, r3, r4, r5, r6, r7) := by first | (rw [hji18] at H; exact H) | (simp only [hji18] at H ⊢; exact H)
  (try rw [hji18] at A17)
  (try (have hji18l : 1 ≤ ji18 := by (rw [← hji18]; unfold mx; (repeat' split) <;> omega)))
  (try (have hji18m : 0 ≤ ji18 := by omega))
  have hji18_ : (if t379 < 1 then 1 else t379) = ji18 := hji18
  obtain ⟨ji19, hji19⟩ : ∃ j_ : Int, (mn (ji18) 600) = j_ := ⟨_, rfl⟩
  replace H : (spec_DrawFlashWrite.j0 k t367 t364 t378 t371 ji19 t373 t374) = some (r1, r2, r3, r4, r5, r6, r7) := by first | (rw [hji19] at H; exact H) | (simp only [hji19] at H ⊢; exact H)
  (try rw [hji19] at A17)
  have hji19_ : (if 600 < (ji18) then 600 else (ji18)) = ji19 := hji19
  have H' := am H
  clear H
  obtain ⟨Ao20, co20, eo20⟩ := Kd.V_slice HO369.out
  subst eo20
  go_wp2_with (first | (refine gl 21 Try.func16 #[.slice Ao20 t367.length co20] rfl ?_; (with_reducible refine (spec_FindNext.calls k _ _ t367 t379 _ ?side1 ?side2 A17.out).mono ?_); (case side1 => exact pc ((Kd.V_reads' HO369.out).2.2)); (case side2 => exact (Kd.V_reads' HO369.out).2.1); rintro e w21 ⟨rfl, hb⟩; refine ⟨_, rfl, ?_⟩; replace HO369 := am (Kd.V_below (pv HO369.out) hb); replace BK363 := am (blk_below (pb BK363.out) hb); replace BK376 := am (blk_below (pb BK376.out) hb); replace HB := am (below_step (bg3 HB.out (IsS57.ge HI366.out) GE363.out GE376.out) hb); replace HI366 := am (IsS57.below (IsS57.g2 HI366.out NB366_363.out NB366_376.out) hb); clear hb; have hnb22 := NB376_363.out; have hnc22 := NB363_376.out; have hnb23 := NB376_366.out; have hnc23 := NB366_376.out; obtain ⟨hcz24_0, hcz24_1, hcz24_2, hcz24_3⟩ := b4 BK376.out; obtain ⟨hfz24_0, hfz24_1, hfz24_2, hfz24_3⟩ := f4 BK376.out))
  go_meet
  case rel => exact ⟨_, (ji19), H', ⟨by first | omega | exact Nat.le_refl _⟩, ⟨pv (Kd.V_mono (Kd.V_far (p := ⟨gb376, 1, none⟩) (Kd.V_mono HO369.out (fun k_ hk => (⟨hk, hk.2⟩ : _ ∧ k_ ≠ gb376))) (fun _ hk => hk.2) (.int .i64 ji19)) (fun _ hk => ⟨hk.1.1.1, ⟨hk.1.1.2.1, ⟨hk.1.2, hk.1.1.2.2⟩⟩⟩))⟩, ⟨bf1 (pb BK363.out) NB363_376.out⟩, ⟨by (with_reducible repeat (first | refine blk_drewN ?_ _ | refine blk_drew ?_ | refine blk_alloc ?_ _)); refine blk_put (cs := #[.int .i64 t371, .int .i64 t372, .int .i64 t373, .int .i64 t374]) ?_ 1 _ rfl; (with_reducible repeat (first | refine blk_drewN ?_ _ | refine blk_drew ?_ | refine blk_alloc ?_ _)); exact BK376.out⟩, ⟨IsS57.g2 HI366.out NB366_363.out NB366_376.out⟩, ⟨bg3 HB.out (IsS57.ge HI366.out) GE363.out GE376.out⟩⟩
 case rest =>
  clear HC6
  obtain ⟨kq, x377001_5, HA, HJ5, HO_7, BK363, BK376, HI366, HB⟩ := hcut
  cases kq with
  | zero => exact absurd HA.out (by simp [spec_DrawFlashWrite.j0])
  | succ kj5 =>
   have H := HA.out
   clear HA
   simp only [spec_DrawFlashWrite.j0] at H
   replace H := Option.bind_eq_some_iff.mp H
   obtain ⟨⟨t380, t381⟩, A250, H⟩ := H
   have A25 := am A250
   clear A250
   have H' := am H
   clear H
   go_wp2_with (first | (refine gl 26 Try.func15 #[.pointer (some ⟨g366, 0, none⟩), .int .i64 4] rfl ?_; (with_reducible refine (spec_l6Rd_pick.calls kj5 g366 t364 t378 4 t380 t381 w _ ?side1 ?side2 A25.out).mono ?_); (case side1 => exact IsS57.g2 HI366.out NB366_363.out NB366_376.out); (case side2 => exact bg3 HB.out (IsS57.ge HI366.out) GE363.out GE376.out); rintro e w26 ⟨rfl, hi, hb, hk⟩; refine ⟨_, rfl, ?_⟩; replace HO_7 := am (Kd.V_mono (Kd.V_keep (Kd.V_mono (ok := fun k_ => (((w.heap.size ≤ k_)) ∧ (k_ ≠ gb363 ∧ (k_ ≠ gb376 ∧ k_ ≠ g366)))) (pv HO_7.out) (fun k_ hk_ => (⟨hk_, hk_.2.2.2⟩ : _ ∧ k_ ≠ g366))) hk (fun _ h => h.2)) (fun _ h => h.1)); replace BK363 := am (KeepBut.blk hk (pb BK363.out) NB363_366.out (by simp)); replace BK376 := am (KeepBut.blk hk (pb BK376.out) NB376_366.out (by simp)); replace HB := am (hb); replace HI366 := am (hi); clear hb hk hi))
   go_loopg [9, 10] kj5 (fun kq v9 v10 w' => ∃ (x9_2 : Int) (x10_2 : Int), v9 = .int .i64 x9_2 ∧ v10 = .int .i64 x10_2 ∧ Aside0 (spec_DrawFlashWrite.l0 kq t367 x9_2 x10_2 t364 t381 t371 x377001_5 t373 t374 = some (r1, r2, r3, r4, r5, r6, r7)) ∧ Aside0 (kq ≤ kj5) ∧ Aside0 (Kd.V k36 36 w' w.heap.size (fun k_ => (w.heap.size ≤ k_) ∧ k_ ≠ gb363 ∧ k_ ≠ gb376 ∧ k_ ≠ g366) v368 t367) ∧ Aside0 (w'.heap[gb363]? = some (.cells #[.int .i64 0, .int .i64 0, .int .i64 0, .int .i64 0] 25 (0, 0))) ∧ Aside0 (w'.heap[gb376]? = some (.cells #[.int .i64 t371, .int .i64 x377001_5, .int .i64 t373, .int .i64 t374] 25 (0, 0))) ∧ Aside0 (IsS57 w w' g366 t364 t381) ∧ Aside0 (Below w.heap.size w w'))
   case atStart => exact ⟨(t380), (0), rf, rf, H', ⟨Nat.le_refl _⟩, ⟨pv HO_7.out⟩, ⟨pb BK363.out⟩, ⟨pb BK376.out⟩, ⟨IsS57.g2 HI366.out NB366_363.out NB366_376.out⟩, ⟨bg3 HB.out (IsS57.ge HI366.out) GE363.out GE376.out⟩⟩
   case round =>
    clear H'
    obtain ⟨x9_2, x10_2, rfl, rfl, HA, HK2, HO_7, BK363, BK376, HI366, HB⟩ := hrel
    cases gk with
    | zero => exact absurd HA.out (by simp [spec_DrawFlashWrite.l0])
    | succ k2 =>
     have H := HA.out
     clear HA
     simp only [spec_DrawFlashWrite.l0] at H
     by_cases c27 : x10_2 < 3
     rotate_left
     · rw [if_neg c27] at H
       have c27b0 := decide_eq_false c27
       clear c27
       replace H := Option.bind_eq_some_iff.mp H
       obtain ⟨⟨t387, t388⟩, A430, H⟩ := H
       have A43 := am A430
       clear A430
       replace H := Option.bind_eq_some_iff.mp H
       obtain ⟨⟨t389, t390⟩, A440, H⟩ := H
       have A44 := am A440
       clear A440
       simp only [Option.some.injEq, Prod.mk.injEq] at H
       obtain ⟨rfl, rfl, rfl, rfl, rfl, rfl, rfl⟩ := H
       try go_wp2
       replace HO_7 := am (Kd.V_drew HO_7.out)
       replace BK363 := am (blk_drew BK363.out)
       replace BK376 := am (blk_drew BK376.out)
       replace HI366 := am (IsS57.drew HI366.out)
       replace HB := am (below_drew1 HB.out)
       refine start_ (n := 15) (S := fun w' => w'.cell? ⟨gb376, 0, none⟩ = some (.int .i64 t371) ∧ w'.cell? ⟨gb376, 1, none⟩ = some (.int .i64 x377001_5) ∧ w'.cell? ⟨gb376, 2, none⟩ = some (.int .i64 t373) ∧ w'.cell? ⟨gb376, 3, none⟩ = some (.int .i64 t374)) (ds := []) (bt 15 0) (by kernel_rfl) rfl rfl ⟨(blk_cell BK376.out 0).trans rfl, (blk_cell BK376.out 1).trans rfl, (blk_cell BK376.out 2).trans rfl, (blk_cell BK376.out 3).trans rfl⟩ (fun hHeld => ?_); refine with_tabW spec_DrawFlashWrite.tab11 spec_DrawFlashWrite.bits11 (fun HT_ HW_ => ?_)
       generalize wr.drew = w45 at HO_7 BK363 BK376 HI366 HB hHeld ⊢
       refine qj 0 40 (bt 15 1) rfl rfl HT_.out ?_
       refine qj 1 41 (bt 15 3) rfl rfl HT_.out ?_
       refine qj 2 42 (bt 15 7) rfl rfl HT_.out ?_
       refine qj 8 48 (bt 15 263) rfl rfl HT_.out ?_
       refine qm 7 47 (bt 15 391) rfl rfl HT_.out HW_.out hHeld ?_
       refine qo 3 (some 43) (bt 15 399) rfl rfl HT_.out fun K hK => ?_
       refine qg Try.func15 #[.pointer (some ⟨g366, 0, none⟩), .int .i64 24] rfl rfl ?_
       with_reducible refine (spec_l6Rd_pick.calls k2 g366 t364 t381 24 t387 t388 w _ ?side1 ?side2 A43.out).mono ?_
       (case side1 => exact IsS57.g2 HI366.out NB366_363.out NB366_376.out)
       (case side2 => exact bg3 HB.out (IsS57.ge HI366.out) GE363.out GE376.out)
       rintro e w46 ⟨rfl, hi, hb, hk⟩
       refine ⟨_, rfl, ?_⟩
       replace HO_7 := am (Kd.V_mono (Kd.V_keep (Kd.V_mono (ok := fun k_ => (((w.heap.size ≤ k_)) ∧ (k_ ≠ gb363 ∧ (k_ ≠ gb376 ∧ k_ ≠ g366)))) (pv HO_7.out) (fun k_ hk_ => (⟨hk_, hk_.2.2.2⟩ : _ ∧ k_ ≠ g366))) hk (fun _ h => h.2)) (fun _ h => h.1))
       replace BK363 := am (KeepBut.blk hk (pb BK363.out) NB363_366.out (by simp))
       replace BK376 := am (KeepBut.blk hk (pb BK376.out) NB376_366.out (by simp))
       replace HB := am (hb)
       replace HI366 := am (hi)
       clear hb hk hi
       refine hK.out _ _ ⟨(blk_cell BK376.out 0).trans rfl, (blk_cell BK376.out 1).trans rfl, (blk_cell BK376.out 2).trans rfl, (blk_cell BK376.out 3).trans rfl⟩ (fun hHeld => ?_)
       clear hK K
       refine qn (some 43) ?_
       refine qj 4 44 (bt 15 415) rfl rfl HT_.out ?_
       refine qj 5 45 (bt 15 447) rfl rfl HT_.out ?_
       refine qj 6 46 (bt 15 511) rfl rfl HT_.out ?_
       refine qo 9 (some 49) (bt 15 1023) rfl rfl HT_.out fun K hK => ?_
       refine qg Try.func15 #[.pointer (some ⟨g366, 0, none⟩), .int .i64 3] rfl rfl ?_
       with_reducible refine (spec_l6Rd_pick.calls k2 g366 t364 t388 3 t389 t390 w _ ?side1 ?side2 A44.out).mono ?_
       (case side1 => exact IsS57.g2 HI366.out NB366_363.out NB366_376.out)
       (case side2 => exact bg3 HB.out (IsS57.ge HI366.out) GE363.out GE376.out)
       rintro e w47 ⟨rfl, hi, hb, hk⟩
       refine ⟨_, rfl, ?_⟩
       replace HO_7 := am (Kd.V_mono (Kd.V_keep (Kd.V_mono (ok := fun k_ => (((w.heap.size ≤ k_)) ∧ (k_ ≠ gb363 ∧ (k_ ≠ gb376 ∧ k_ ≠ g366)))) (pv HO_7.out) (fun k_ hk_ => (⟨hk_, hk_.2.2.2⟩ : _ ∧ k_ ≠ g366))) hk (fun _ h => h.2)) (fun _ h => h.1))
       replace BK363 := am (KeepBut.blk hk (pb BK363.out) NB363_366.out (by simp))
       replace BK376 := am (KeepBut.blk hk (pb BK376.out) NB376_366.out (by simp))
       replace HB := am (hb)
       replace HI366 := am (hi)
       clear hb hk hi
       refine hK.out _ _ ⟨(blk_cell BK376.out 0).trans rfl, (blk_cell BK376.out 1).trans rfl, (blk_cell BK376.out 2).trans rfl, (blk_cell BK376.out 3).trans rfl⟩ (fun hHeld => ?_)
       clear hK K
       refine qn (some 49) ?_
       refine qj 10 50 (bt 15 2047) rfl rfl HT_.out ?_
       refine qj 11 2 (bt 15 4095) rfl rfl HT_.out ?_
       refine qj 12 3 (bt 15 8191) rfl rfl HT_.out ?_
       refine qo 13 none (bt 15 16383) rfl rfl HT_.out fun K hK => ?_
       have hs48 : w47.cell? ⟨gb363, 0, none⟩ = some (.int .i64 0) := (blk_cell BK363.out 0).trans rfl
       have hfs48 := blk_frozen BK363.out 0
       have hns48_1 := NB376_363.out
       have hms48_1 := NB363_376.out
       have hs49 : w47.cell? ⟨gb363, 1, none⟩ = some (.int .i64 0) := (blk_cell BK363.out 1).trans rfl
       have hfs49 := blk_frozen BK363.out 1
       have hns49_1 := NB376_363.out
       have hms49_1 := NB363_376.out
       have hs50 : w47.cell? ⟨gb363, 2, none⟩ = some (.int .i64 0) := (blk_cell BK363.out 2).trans rfl
       have hfs50 := blk_frozen BK363.out 2
       have hns50_1 := NB376_363.out
       have hms50_1 := NB363_376.out
       have hs51 : w47.cell? ⟨gb363, 3, none⟩ = some (.int .i64 0) := (blk_cell BK363.out 3).trans rfl
       have hfs51 := blk_frozen BK363.out 3
       have hns51_1 := NB376_363.out
       have hms51_1 := NB363_376.out
       refine qs rfl ?_
       refine hK.out _ _ ⟨((cell_far (p := ⟨gb363, _, none⟩) NB376_363.out _).trans (((cell_far (p := ⟨gb363, _, none⟩) NB376_363.out _).trans (((cell_far (p := ⟨gb363, _, none⟩) NB376_363.out _).trans (((cell_far (p := ⟨gb363, _, none⟩) NB376_363.out _).trans (hHeld.1)))))))), ((cell_far (p := ⟨gb363, _, none⟩) NB376_363.out _).trans (((cell_far (p := ⟨gb363, _, none⟩) NB376_363.out _).trans (((cell_far (p := ⟨gb363, _, none⟩) NB376_363.out _).trans (((cell_far (p := ⟨gb363, _, none⟩) NB376_363.out _).trans (hHeld.2.1)))))))), ((cell_far (p := ⟨gb363, _, none⟩) NB376_363.out _).trans (((cell_far (p := ⟨gb363, _, none⟩) NB376_363.out _).trans (((cell_far (p := ⟨gb363, _, none⟩) NB376_363.out _).trans (((cell_far (p := ⟨gb363, _, none⟩) NB376_363.out _).trans (hHeld.2.2.1)))))))), ((cell_far (p := ⟨gb363, _, none⟩) NB376_363.out _).trans (((cell_far (p := ⟨gb363, _, none⟩) NB376_363.out _).trans (((cell_far (p := ⟨gb363, _, none⟩) NB376_363.out _).trans (((cell_far (p := ⟨gb363, _, none⟩) NB376_363.out _).trans (hHeld.2.2.2))))))))⟩ (fun hHeld => ?_)
       clear hK K
       refine qj 14 5 (bt 15 32767) rfl rfl HT_.out ?_
       refine done_ (done_of HT_.out (by kernel_rfl)) ?_
       try go_wp2
       refine bodyPost_ret (results_list (rs := [.tmp 2, .tmp 3, .cell 4 25, .tmp 5]) rfl (by simp) (.tmp (.tmp (.cell gb363 25 #[.int .i64 t371, .int .i64 x377001_5, .int .i64 t373, .int .i64 t374] (0, 0) _ rfl (bp4 (pb BK363.out)) Try.underlying25 rfl (by kernel_rfl) (.tmp .nil))))) rfl ?_
       exact ⟨_, rq ⟨pv (Kd.V_mono (Kd.V_far (p := ⟨gb363, 3, none⟩) (Kd.V_far (p := ⟨gb363, 2, none⟩) (Kd.V_far (p := ⟨gb363, 1, none⟩) (Kd.V_far (p := ⟨gb363, 0, none⟩) (Kd.V_mono HO_7.out (fun k_ hk => (⟨hk, hk.2.1⟩ : _ ∧ k_ ≠ gb363))) (fun _ hk => hk.2) (.int .i64 t371)) (fun _ hk => hk.2) (.int .i64 x377001_5)) (fun _ hk => hk.2) (.int .i64 t373)) (fun _ hk => hk.2) (.int .i64 t374)) (fun _ hk => hk.1.1)), bg3 HB.out (IsS57.ge HI366.out) GE363.out GE376.out⟩⟩
     rw [if_pos c27] at H
     have c27b0 := decide_eq_true c27
     clear c27
     replace H := Option.bind_eq_some_iff.mp H
     obtain ⟨t382, A280, H⟩ := H
     have A28 := am A280
     clear A280
     by_cases c29 : t382 = 0
     · rw [if_pos c29] at H
       have c29b0 : (t382 == 0) = true := beq_iff_eq.mpr c29
       have c29b1 : (t382 != 0) = false := bne_eq_false_iff_eq.mpr c29
       clear c29
       have H' := am H
       clear H
       obtain ⟨Ao30, co30, eo30⟩ := Kd.V_slice HO_7.out
       subst eo30
       go_wp2_with (first | (go_at_call 17; (with_reducible refine (spec_FlashClean.calls k2 _ _ t367 x9_2 t382 _ ?side1 ?side2 A28.out).mono ?_); (case side1 => exact pc ((Kd.V_reads' HO_7.out).2.2)); (case side2 => exact (Kd.V_reads' HO_7.out).2.1); rintro e w31 ⟨rfl, hb⟩; replace HO_7 := am (Kd.V_below (pv HO_7.out) hb); replace BK363 := am (blk_below (pb BK363.out) hb); replace BK376 := am (blk_below (pb BK376.out) hb); replace HB := am (below_step (bg3 HB.out (IsS57.ge HI366.out) GE363.out GE376.out) hb); replace HI366 := am (IsS57.below (IsS57.g2 HI366.out NB366_363.out NB366_376.out) hb); clear hb))
       go_roundg k2
       case measure => have := HJ5.out; have := HK2.out; omega
       case rel => exact ⟨(Int.tmod (wrap64 (x9_2 + 1)) 4), (wrap64 (x10_2 + 1)), rf, rf, H', ⟨by have := HJ5.out; have := HK2.out; omega⟩, ⟨pv HO_7.out⟩, ⟨pb BK363.out⟩, ⟨pb BK376.out⟩, ⟨IsS57.g2 HI366.out NB366_363.out NB366_376.out⟩, ⟨bg3 HB.out (IsS57.ge HI366.out) GE363.out GE376.out⟩⟩
     rw [if_neg c29] at H
     have c29b0 : (t382 == 0) = false := beq_eq_false_iff_ne.mpr c29
     have c29b1 : (t382 != 0) = true := bne_iff_ne.mpr c29
     replace H := Option.bind_eq_some_iff.mp H
     obtain ⟨⟨t383, t384⟩, A320, H⟩ := H
     have A32 := am A320
     clear A320
     replace H := Option.bind_eq_some_iff.mp H
     obtain ⟨⟨t385, t386⟩, A330, H⟩ := H
     have A33 := am A330
     clear A330
     simp only [Option.some.injEq, Prod.mk.injEq] at H
     obtain ⟨rfl, rfl, rfl, rfl, rfl, rfl, rfl⟩ := H
     obtain ⟨Ao34, co34, eo34⟩ := Kd.V_slice HO_7.out
     subst eo34
     try go_wp2_with (first | (go_at_call 17; (with_reducible refine (spec_FlashClean.calls k2 _ _ t367 x9_2 t382 _ ?side1 ?side2 A28.out).mono ?_); (case side1 => exact pc ((Kd.V_reads' HO_7.out).2.2)); (case side2 => exact (Kd.V_reads' HO_7.out).2.1); rintro e w35 ⟨rfl, hb⟩; replace HO_7 := am (Kd.V_below (pv HO_7.out) hb); replace BK363 := am (blk_below (pb BK363.out) hb); replace BK376 := am (blk_below (pb BK376.out) hb); replace HB := am (below_step (bg3 HB.out (IsS57.ge HI366.out) GE363.out GE376.out) hb); replace HI366 := am (IsS57.below (IsS57.g2 HI366.out NB366_363.out NB366_376.out) hb); clear hb))
     replace HO_7 := am (Kd.V_drew HO_7.out)
     replace BK363 := am (blk_drew BK363.out)
     replace BK376 := am (blk_drew BK376.out)
     replace HI366 := am (IsS57.drew HI366.out)
     replace HB := am (below_drew1 HB.out)
     refine start_ (n := 15) (S := fun w' => w'.cell? ⟨gb376, 0, none⟩ = some (.int .i64 t371) ∧ w'.cell? ⟨gb376, 1, none⟩ = some (.int .i64 x377001_5) ∧ w'.cell? ⟨gb376, 2, none⟩ = some (.int .i64 t373) ∧ w'.cell? ⟨gb376, 3, none⟩ = some (.int .i64 t374)) (ds := []) (bt 15 0) (by kernel_rfl) rfl rfl ⟨(blk_cell BK376.out 0).trans rfl, (blk_cell BK376.out 1).trans rfl, (blk_cell BK376.out 2).trans rfl, (blk_cell BK376.out 3).trans rfl⟩ (fun hHeld => ?_); refine with_tabW spec_DrawFlashWrite.tab11 spec_DrawFlashWrite.bits11 (fun HT_ HW_ => ?_)
     generalize w35.drew = w36 at HO_7 BK363 BK376 HI366 HB hHeld ⊢
     refine qj 0 40 (bt 15 1) rfl rfl HT_.out ?_
     refine qj 1 41 (bt 15 3) rfl rfl HT_.out ?_
     refine qj 2 42 (bt 15 7) rfl rfl HT_.out ?_
     refine qj 8 48 (bt 15 263) rfl rfl HT_.out ?_
     refine qm 7 47 (bt 15 391) rfl rfl HT_.out HW_.out hHeld ?_
     refine qo 3 (some 43) (bt 15 399) rfl rfl HT_.out fun K hK => ?_
     refine qg Try.func15 #[.pointer (some ⟨g366, 0, none⟩), .int .i64 24] rfl rfl ?_
     with_reducible refine (spec_l6Rd_pick.calls k2 g366 t364 t381 24 t383 t384 w _ ?side1 ?side2 A32.out).mono ?_
     (case side1 => exact IsS57.g2 HI366.out NB366_363.out NB366_376.out)
     (case side2 => exact bg3 HB.out (IsS57.ge HI366.out) GE363.out GE376.out)
     rintro e w37 ⟨rfl, hi, hb, hk⟩
     refine ⟨_, rfl, ?_⟩
     replace HO_7 := am (Kd.V_mono (Kd.V_keep (Kd.V_mono (ok := fun k_ => (((w.heap.size ≤ k_)) ∧ (k_ ≠ gb363 ∧ (k_ ≠ gb376 ∧ k_ ≠ g366)))) (pv HO_7.out) (fun k_ hk_ => (⟨hk_, hk_.2.2.2⟩ : _ ∧ k_ ≠ g366))) hk (fun _ h => h.2)) (fun _ h => h.1))
     replace BK363 := am (KeepBut.blk hk (pb BK363.out) NB363_366.out (by simp))
     replace BK376 := am (KeepBut.blk hk (pb BK376.out) NB376_366.out (by simp))
     replace HB := am (hb)
     replace HI366 := am (hi)
     clear hb hk hi
     refine hK.out _ _ ⟨(blk_cell BK376.out 0).trans rfl, (blk_cell BK376.out 1).trans rfl, (blk_cell BK376.out 2).trans rfl, (blk_cell BK376.out 3).trans rfl⟩ (fun hHeld => ?_)
     clear hK K
     refine qn (some 43) ?_
     refine qj 4 44 (bt 15 415) rfl rfl HT_.out ?_
     refine qj 5 45 (bt 15 447) rfl rfl HT_.out ?_
     refine qj 6 46 (bt 15 511) rfl rfl HT_.out ?_
     refine qo 9 (some 49) (bt 15 1023) rfl rfl HT_.out fun K hK => ?_
     refine qg Try.func15 #[.pointer (some ⟨g366, 0, none⟩), .int .i64 3] rfl rfl ?_
     with_reducible refine (spec_l6Rd_pick.calls k2 g366 t364 t384 3 t385 t386 w _ ?side1 ?side2 A33.out).mono ?_
     (case side1 => exact IsS57.g2 HI366.out NB366_363.out NB366_376.out)
     (case side2 => exact bg3 HB.out (IsS57.ge HI366.out) GE363.out GE376.out)
     rintro e w38 ⟨rfl, hi, hb, hk⟩
     refine ⟨_, rfl, ?_⟩
     replace HO_7 := am (Kd.V_mono (Kd.V_keep (Kd.V_mono (ok := fun k_ => (((w.heap.size ≤ k_)) ∧ (k_ ≠ gb363 ∧ (k_ ≠ gb376 ∧ k_ ≠ g366)))) (pv HO_7.out) (fun k_ hk_ => (⟨hk_, hk_.2.2.2⟩ : _ ∧ k_ ≠ g366))) hk (fun _ h => h.2)) (fun _ h => h.1))
     replace BK363 := am (KeepBut.blk hk (pb BK363.out) NB363_366.out (by simp))
     replace BK376 := am (KeepBut.blk hk (pb BK376.out) NB376_366.out (by simp))
     replace HB := am (hb)
     replace HI366 := am (hi)
     clear hb hk hi
     refine hK.out _ _ ⟨(blk_cell BK376.out 0).trans rfl, (blk_cell BK376.out 1).trans rfl, (blk_cell BK376.out 2).trans rfl, (blk_cell BK376.out 3).trans rfl⟩ (fun hHeld => ?_)
     clear hK K
     refine qn (some 49) ?_
     refine qj 10 50 (bt 15 2047) rfl rfl HT_.out ?_
     refine qj 11 2 (bt 15 4095) rfl rfl HT_.out ?_
     refine qj 12 3 (bt 15 8191) rfl rfl HT_.out ?_
     refine qo 13 none (bt 15 16383) rfl rfl HT_.out fun K hK => ?_
     have hs39 : w38.cell? ⟨gb363, 0, none⟩ = some (.int .i64 0) := (blk_cell BK363.out 0).trans rfl
     have hfs39 := blk_frozen BK363.out 0
     have hns39_1 := NB376_363.out
     have hms39_1 := NB363_376.out
     have hs40 : w38.cell? ⟨gb363, 1, none⟩ = some (.int .i64 0) := (blk_cell BK363.out 1).trans rfl
     have hfs40 := blk_frozen BK363.out 1
     have hns40_1 := NB376_363.out
     have hms40_1 := NB363_376.out
     have hs41 : w38.cell? ⟨gb363, 2, none⟩ = some (.int .i64 0) := (blk_cell BK363.out 2).trans rfl
     have hfs41 := blk_frozen BK363.out 2
     have hns41_1 := NB376_363.out
     have hms41_1 := NB363_376.out
     have hs42 : w38.cell? ⟨gb363, 3, none⟩ = some (.int .i64 0) := (blk_cell BK363.out 3).trans rfl
     have hfs42 := blk_frozen BK363.out 3
     have hns42_1 := NB376_363.out
     have hms42_1 := NB363_376.out
     refine qs rfl ?_
     refine hK.out _ _ ⟨((cell_far (p := ⟨gb363, _, none⟩) NB376_363.out _).trans (((cell_far (p := ⟨gb363, _, none⟩) NB376_363.out _).trans (((cell_far (p := ⟨gb363, _, none⟩) NB376_363.out _).trans (((cell_far (p := ⟨gb363, _, none⟩) NB376_363.out _).trans (hHeld.1)))))))), ((cell_far (p := ⟨gb363, _, none⟩) NB376_363.out _).trans (((cell_far (p := ⟨gb363, _, none⟩) NB376_363.out _).trans (((cell_far (p := ⟨gb363, _, none⟩) NB376_363.out _).trans (((cell_far (p := ⟨gb363, _, none⟩) NB376_363.out _).trans (hHeld.2.1)))))))), ((cell_far (p := ⟨gb363, _, none⟩) NB376_363.out _).trans (((cell_far (p := ⟨gb363, _, none⟩) NB376_363.out _).trans (((cell_far (p := ⟨gb363, _, none⟩) NB376_363.out _).trans (((cell_far (p := ⟨gb363, _, none⟩) NB376_363.out _).trans (hHeld.2.2.1)))))))), ((cell_far (p := ⟨gb363, _, none⟩) NB376_363.out _).trans (((cell_far (p := ⟨gb363, _, none⟩) NB376_363.out _).trans (((cell_far (p := ⟨gb363, _, none⟩) NB376_363.out _).trans (((cell_far (p := ⟨gb363, _, none⟩) NB376_363.out _).trans (hHeld.2.2.2))))))))⟩ (fun hHeld => ?_)
     clear hK K
     refine qj 14 5 (bt 15 32767) rfl rfl HT_.out ?_
     refine done_ (done_of HT_.out (by kernel_rfl)) ?_
     try go_wp2
     refine bodyPost_ret (results_list (rs := [.tmp 2, .tmp 3, .cell 4 25, .tmp 5]) rfl (by simp) (.tmp (.tmp (.cell gb363 25 #[.int .i64 t371, .int .i64 x377001_5, .int .i64 t373, .int .i64 t374] (0, 0) _ rfl (bp4 (pb BK363.out)) Try.underlying25 rfl (by kernel_rfl) (.tmp .nil))))) rfl ?_
     exact ⟨_, rq ⟨pv (Kd.V_mono (Kd.V_far (p := ⟨gb363, 3, none⟩) (Kd.V_far (p := ⟨gb363, 2, none⟩) (Kd.V_far (p := ⟨gb363, 1, none⟩) (Kd.V_far (p := ⟨gb363, 0, none⟩) (Kd.V_mono HO_7.out (fun k_ hk => (⟨hk, hk.2.1⟩ : _ ∧ k_ ≠ gb363))) (fun _ hk => hk.2) (.int .i64 t371)) (fun _ hk => hk.2) (.int .i64 x377001_5)) (fun _ hk => hk.2) (.int .i64 t373)) (fun _ hk => hk.2) (.int .i64 t374)) (fun _ hk => hk.1.1)), bg3 HB.out (IsS57.ge HI366.out) GE363.out GE376.out⟩⟩
def spec_l2Copy.l0 : Nat → List (S36) → List (S36) → Int → Option ((List (S36)))
 | 0, _, _, _ => none
 | k + 1, x0, x3, x4 => if x4 < (x0.length : Int) then ((some (([] : List (S33)) : List (S33))).bind fun y394 => (if 0 ≤ x4 then (if y394.length + ((rd_T36 x0 x4).f0).length < 3518437208883 then (if x3.length < 4398046511104 then (spec_l2Copy.l0 k x0 (x3 ++ [(⟨(y394 ++ ((rd_T36 x0 x4).f0)), (rd_T36 x0 x4).f1⟩ : S36)]) (wrap64 (x4 + 1))) else (none)) else (none)) else (none))) else (some x3)
def spec_l2Copy.f (k : Nat) (l0 : List (S36)) : Option ((List (S36))) := spec_l2Copy.l0 k l0 (([] : List (S36))) 0
theorem spec_l2Copy.mono_l : ∀ k, (∀ y0 y1 y2, LeO (spec_l2Copy.l0 k y0 y1 y2) (spec_l2Copy.l0 (k + 1) y0 y1 y2))
 | 0 => fun _ _ _ r h => by simp [spec_l2Copy.l0] at h
 | k + 1 => by
  have ih0 := spec_l2Copy.mono_l k
  · intro y0 y1 y2
    unfold spec_l2Copy.l0
    with_reducible repeat' first | exact ih0 _ _ _ | exact LeO.refl _ | exact LeO.none _ | refine LeO.ite ?_ ?_ | refine LeO.bind ?_ (fun _ => ?_)
theorem spec_l2Copy.mono : ∀ a0 k, LeO (spec_l2Copy.f k a0) (spec_l2Copy.f (k + 1) a0) := by
 intro a0 k
 have ih0 := spec_l2Copy.mono_l k
 unfold spec_l2Copy.f
 with_reducible repeat' first | exact ih0 _ _ _ | exact LeO.refl _ | exact LeO.none _ | refine LeO.ite ?_ ?_ | refine LeO.bind ?_ (fun _ => ?_)
def spec_l2Copy.T5 : Bool × List (List Nat × List Nat) := (true, [([], []), ([], []), ([], []), ([], []), ([2, 3], [2, 3]), ([4], [4]), ([5], [5]), ([1, 6], [1, 6]), ([], []), ([], []), ([8, 9], [8, 9]), ([10], [10]), ([11], [11]), ([7, 12], [7, 12]), ([13], [13]), ([0, 14, 7], [0, 14]), ([15, 15, 0, 1, 2, 3, 4, 5, 6, 7, 8, 9, 10, 11, 12, 13, 14, 15], [0, 15])])
def spec_l2Copy.B5 : List Nat := [0, 0, 0, 0, 12, 28, 60, 126, 0, 0, 768, 1792, 3840, 8190, 16382, 32767, 65535]
theorem spec_l2Copy.tab5 : rtab .any (opsOf Try.f22 5) = spec_l2Copy.T5 := by kernel_rfl
theorem spec_l2Copy.bits5 : waitsOk spec_l2Copy.T5.2 spec_l2Copy.B5 = true := by kernel_rfl
set_option maxHeartbeats 8000000 in
set_option maxRecDepth 100000 in
theorem spec_l2Copy.calls (k : Nat) (A0 : Option Addr) (c0 : Nat) (l0 : List (S36)) (r : List (S36)) (w : World) (hr0 : Kd.C k36 w A0 l0.length l0) (hc0 : l0.length ≤ c0) (h : spec_l2Copy.f k l0 = some r) :
 Calls Try.prog 22 #[.slice A0 l0.length c0] w fun e w' => ∃ v0_ : Value, e = .returned (v0_) ∧ Kd.S k36 36 w' w.heap.size (fun _ => True) v0_ r ∧ Below w.heap.size w w' := by
 have hu36 := Try.underlying36
 have HR0 := am hr0
 have HC0 := am hc0
 clear hr0 hc0
 have HB := am (Below.refl w.heap.size w)
 have H : (spec_l2Copy.l0 k l0 (([] : List (S36))) 0) = some r := h
 clear h
 obtain ⟨y391, hy391⟩ : ∃ y_ : List (S36), y_ = (([] : List (S36))) := ⟨_, rfl⟩
 replace H : (spec_l2Copy.l0 k l0 y391 0) = some r := yy hy391 H
 have Ny391 := am hy391
 clear hy391
 have H' := am H
 clear H
 go_enter Try.func22, Try.ntmps22
 go_wp2_with (first | ((with_reducible refine gate_dst (N := 5) rfl ?_); refine Kd.S_lit k36 _ 36 ?hg (N := 5) ?hd (xs := ([] : List (S36))) (inner := []) (ok := fun _ => True) (okp := fun _ => True) ?hr ?hp (fun _ hk => hk) trivial (Below.refl _ _) (Nat.le_refl _) (by simp) ?_; (case hd => rfl); (case hg => rfl); (case hr => first | (go_simp; done) | (go_simp; rfl)); (case hp => exact (Reps.none _ _)); intro v392 w2 ho3 hb hg_ hnew_; clear hg_ hnew_; (first | rw [← Ny391.out] at ho3 | (simp only [Int.reduceToNat] at ho3; rw [← Ny391.out] at ho3)); have HO393 := am (Kd.S_lower ho3 (below_size (ph HB.out))); replace HB := am (below_step (ph HB.out) hb); clear hb ho3))
 go_loopg [3, 4] k (fun kq v3 v4 w' => ∃ (x3_1 : List (S36)) (x4_1 : Int), v4 = .int .i64 x4_1 ∧ Aside0 (spec_l2Copy.l0 kq l0 x3_1 x4_1 = some r) ∧ Aside0 (kq ≤ k) ∧ Aside0 (Kd.S k36 36 w' w.heap.size (fun _ => True) v3 x3_1) ∧ Aside0 (Below w.heap.size w w'))
 case atStart => exact ⟨(y391), (0), rf, H', ⟨Nat.le_refl _⟩, ⟨ps HO393.out⟩, ⟨ph HB.out⟩⟩
 case round =>
  clear H'
  obtain ⟨x3_1, x4_1, rfl, HA, HK1, HO_3, HB⟩ := hrel
  cases gk with
  | zero => exact absurd HA.out (by simp [spec_l2Copy.l0])
  | succ k1 =>
   have H := HA.out
   clear HA
   simp only [spec_l2Copy.l0] at H
   by_cases c4 : x4_1 < (l0.length : Int)
   rotate_left
   · rw [if_neg c4] at H
     have c4b0 := decide_eq_false c4
     clear c4
     obtain rfl := Option.some.inj H
     go_wp2
     go_ret
     exact ⟨_, rq ⟨ps HO_3.out, ph HB.out⟩⟩
   rw [if_pos c4] at H
   have c4b0 := decide_eq_true c4
   clear c4
   obtain ⟨y394, hy394⟩ : ∃ y_ : List (S33), y_ = (([] : List (S33))) := ⟨_, rfl⟩
   replace H : (if 0 ≤ x4_1 then (if y394.length + ((rd_T36 l0 x4_1).f0).length < 3518437208883 then (if x3_1.length < 4398046511104 then (spec_l2Copy.l0 k1 l0 (x3_1 ++ [(⟨(y394 ++ ((rd_T36 l0 x4_1).f0)), (rd_T36 l0 x4_1).f1⟩ : S36)]) (wrap64 (x4_1 + 1))) else (none)) else (none)) else (none)) = some r := yy hy394 H
   have Ny394 := am hy394
   clear hy394
   obtain ⟨c5b0, H⟩ := ifd H
   by_cases c6 : y394.length + ((rd_T36 l0 x4_1).f0).length < 3518437208883
   rotate_left
   · rw [if_neg c6] at H
     exact absurd H (by simp)
   rw [if_pos c6] at H
   have LMc6 := am c6
   clear c6
   obtain ⟨y398, hy398⟩ : ∃ y_ : List (S33), y_ = (y394 ++ ((rd_T36 l0 x4_1).f0)) := ⟨_, rfl⟩
   replace H : (if x3_1.length < 4398046511104 then (spec_l2Copy.l0 k1 l0 (x3_1 ++ [(⟨y398, (rd_T36 l0 x4_1).f1⟩ : S36)]) (wrap64 (x4_1 + 1))) else (none)) = some r := yy hy398 H
   have Ny398 := am hy398
   clear hy398
   by_cases c7 : x3_1.length < 4398046511104
   rotate_left
   · rw [if_neg c7] at H
     exact absurd H (by simp)
   rw [if_pos c7] at H
   have LMc7 := am c7
   clear c7
   obtain ⟨y402, hy402⟩ : ∃ y_ : List (S36), y_ = (x3_1 ++ [(⟨y398, (rd_T36 l0 x4_1).f1⟩ : S36)]) := ⟨_, rfl⟩
   replace H : (spec_l2Copy.l0 k1 l0 y402 (wrap64 (x4_1 + 1))) = some r := yy hy402 H
   have Ny402 := am hy402
   clear hy402
   have H' := am H
   clear H
   try go_wp2
   replace HO_3 := am (Kd.S_drew HO_3.out)
   replace HB := am (below_drew1 HB.out)
   have p397 : 0 ≤ (x4_1 : Int) := ofb
   have q397 : x4_1 < (l0.length : Int) := ofb
   obtain ⟨ad397, A397_0, c397_0, e397, hx397_0, hx397_1, hl397_0, hi397_0⟩ := at_T36 HR0.out x4_1 p397 q397
   have hw397_1 := hx397_1
   have hw397_0 := hx397_0
   cases e397
   replace hx397_0 := up HB.out hx397_0
   replace hx397_1 := up HB.out hx397_1
   have HR397_0 := am hi397_0
   have HC397_0 := am hl397_0
   clear hi397_0 hl397_0
   replace p397 := eq_true p397
   replace q397 := eq_true q397
   have p401 : 0 ≤ (x4_1 : Int) := ofb
   have q401 : x4_1 < (l0.length : Int) := ofb
   obtain ⟨ad401, A401_0, c401_0, e401, hx401_0, hx401_1, hl401_0, hi401_0⟩ := at_T36 HR0.out x4_1 p401 q401
   have hw401_1 := hx401_1
   have hw401_0 := hx401_0
   obtain rfl : ad397 = ad401 := (by injection e401)
   replace hx401_0 := up HB.out hx401_0
   replace hx401_1 := up HB.out hx401_1
   have HR401_0 := am hi401_0
   have HC401_0 := am hl401_0
   clear hi401_0 hl401_0
   replace p401 := eq_true p401
   replace q401 := eq_true q401
   have ea_ := Option.some.inj (hx397_0.symm.trans hx401_0)
   injection ea_ with ea_ en_ ec_
   subst ea_
   subst ec_
   clear en_
   refine start_ (n := 17) (S := fun w' => w'.cell? (ad397.add ((x4_1).toNat * 2)) = some (.slice A397_0 ((rd_T36 l0 x4_1).f0).length c397_0) ∧ w'.cell? ⟨(ad397.add ((x4_1).toNat * 2)).block, (ad397.add ((x4_1).toNat * 2)).off + 1, none⟩ = some (.int .i64 ((rd_T36 l0 x4_1).f1)) ∧ w'.cell? (ad397.add ((x4_1).toNat * 2)) = some (.slice A397_0 ((rd_T36 l0 x4_1).f0).length c397_0) ∧ w'.cell? ⟨(ad397.add ((x4_1).toNat * 2)).block, (ad397.add ((x4_1).toNat * 2)).off + 1, none⟩ = some (.int .i64 ((rd_T36 l0 x4_1).f1))) (ds := []) (bt 17 0) (by kernel_rfl) rfl rfl ⟨((HB.out.cell (World.block_lt_of_cell? w _ hw397_0)).trans hw397_0), ((HB.out.cell (World.block_lt_of_cell? w _ hw397_1)).trans hw397_1), ((HB.out.cell (World.block_lt_of_cell? w _ hw401_0)).trans hw401_0), ((HB.out.cell (World.block_lt_of_cell? w _ hw401_1)).trans hw401_1)⟩ (fun hHeld => ?_); refine with_tabW spec_l2Copy.tab5 spec_l2Copy.bits5 (fun HT_ HW_ => ?_)
   generalize wr.drew = w8 at HO_3 HB HR397_0 HR401_0 hx397_0 hx397_1 hx401_0 hx401_1 hHeld ⊢
   refine qj 0 12 (bt 17 1) rfl rfl HT_.out ?_
   refine qj 2 14 (bt 17 5) rfl rfl HT_.out ?_
   refine qj 3 15 (bt 17 13) rfl rfl HT_.out ?_
   refine qj 4 16 (bt 17 29) rfl rfl HT_.out ?_
   refine qj 5 17 (bt 17 61) rfl rfl HT_.out ?_
   refine qj 8 20 (bt 17 317) rfl rfl HT_.out ?_
   refine qj 9 21 (bt 17 829) rfl rfl HT_.out ?_
   refine qj 10 22 (bt 17 1853) rfl rfl HT_.out ?_
   refine qj 11 23 (bt 17 3901) rfl rfl HT_.out ?_
   refine qm 6 18 (bt 17 3965) rfl rfl HT_.out HW_.out hHeld ?_
   refine qm 12 24 (bt 17 8061) rfl rfl HT_.out HW_.out hHeld ?_
   refine qo 1 (some 13) (bt 17 8063) rfl rfl HT_.out fun K hK => ?_
   refine Kd.R_lit_step k33 _ 33 ?hg (N := 13) ?hd (xs := ([] : List (S33))) (inner := []) (ok := fun _ => True) (okp := fun _ => True) ?hr ?hp (fun _ hk => hk) trivial (Below.refl _ _) (Nat.le_refl _) (by simp) ?_; (case hd => rfl); (case hg => rfl); (case hr => first | (go_simp; done) | (go_simp; rfl)); (case hp => exact (Reps.none _ _))
   intro v395 w9 ho10 hb hg_ hnew_
   clear hg_ hnew_
   (first | rw [← Ny394.out] at ho10 | (simp only [Int.reduceToNat] at ho10; rw [← Ny394.out] at ho10))
   replace HO_3 := am (Kd.S_elder' (ps HO_3.out) (Kd.R_base ho10) hb)
   have HO396 := am (Kd.R_lower ho10 (below_size (ph HB.out)))
   replace HB := am (below_step (ph HB.out) hb)
   clear hb ho10
   refine hK.out _ _ ⟨((HB.out.cell (World.block_lt_of_cell? w _ hw397_0)).trans hw397_0), ((HB.out.cell (World.block_lt_of_cell? w _ hw397_1)).trans hw397_1), ((HB.out.cell (World.block_lt_of_cell? w _ hw401_0)).trans hw401_0), ((HB.out.cell (World.block_lt_of_cell? w _ hw401_1)).trans hw401_1)⟩ (fun hHeld => ?_)
   clear hK K
   refine qn (some 13) ?_
   refine qo 7 (some 19) (bt 17 8191) rfl rfl HT_.out fun K hK => ?_
   refine Kd.R_append_rows_step k33 (w0 := w) w.heap.size (by rfl) (.tmp 13) (.tmp 18) 34 33 (.agg #[(.int .i64 0), (.int .i64 0), (.int .i64 0), (.int .i64 0), (.int .i64 0)]) 40 rfl Try.underlying34 info33 rfl (by decide) (by omega) v395 y394 ((rd_T36 l0 x4_1).f0) _ _ _ (fun _ => True) (fun _ => False) rfl rfl ?aO ?aR (fun _ _ h => h) (fun _ h => h.elim) ?aF ?aB ?aS ?aL ?_
   (case aR => exact pc (Kd.C_below HR397_0.out HB.out))
   (case aB => exact (ph HB.out))
   (case aF => exact (fun _ _ => trivial))
   (case aO => exact (pr HO396.out))
   (case aS => exact (below_size (ph HB.out)))
   (case aL => have := LMc6.out; omega)
   intro v399 w11 ho hb hg hat
   rw [← Ny398.out] at ho
   replace HO_3 := am (Kd.S_after (ok := (fun _ => True)) (ps HO_3.out) hg hat)
   replace HB := am (hb)
   have HO400 := am (ho)
   clear HO396 ho hb hg hat
   obtain ⟨Ao12, co12, eo12⟩ := Kd.R_slice HO400.out
   (first | subst eo12 | (injection eo12 with f1_ f2_ f3_; have f4_ := f1_.symm; have f5_ := f3_.symm; clear f1_ f2_ f3_; subst f4_; subst f5_))
   refine hK.out _ _ ⟨((HB.out.cell (World.block_lt_of_cell? w _ hw397_0)).trans hw397_0), ((HB.out.cell (World.block_lt_of_cell? w _ hw397_1)).trans hw397_1), ((HB.out.cell (World.block_lt_of_cell? w _ hw401_0)).trans hw401_0), ((HB.out.cell (World.block_lt_of_cell? w _ hw401_1)).trans hw401_1)⟩ (fun hHeld => ?_)
   clear hK K
   refine qn (some 19) ?_
   refine qj 13 25 (bt 17 16383) rfl rfl HT_.out ?_
   refine qo 14 (some 26) (bt 17 32767) rfl rfl HT_.out fun K hK => ?_
   refine value_ (w1 := ?_) (v := ?_) (by rfl) rfl ?_ ?_
   rotate_left 2
   · go_simp
     constructor
     · rfl
     · rfl
   refine hK.out _ _ ⟨(World.cell?_alloc_lt _ _ _ (World.block_lt_of_cell? _ _ (((HB.out.cell (World.block_lt_of_cell? w _ hw397_0)).trans hw397_0)))).trans (((HB.out.cell (World.block_lt_of_cell? w _ hw397_0)).trans hw397_0)), (World.cell?_alloc_lt _ _ _ (World.block_lt_of_cell? _ _ (((HB.out.cell (World.block_lt_of_cell? w _ hw397_1)).trans hw397_1)))).trans (((HB.out.cell (World.block_lt_of_cell? w _ hw397_1)).trans hw397_1)), (World.cell?_alloc_lt _ _ _ (World.block_lt_of_cell? _ _ (((HB.out.cell (World.block_lt_of_cell? w _ hw401_0)).trans hw401_0)))).trans (((HB.out.cell (World.block_lt_of_cell? w _ hw401_0)).trans hw401_0)), (World.cell?_alloc_lt _ _ _ (World.block_lt_of_cell? _ _ (((HB.out.cell (World.block_lt_of_cell? w _ hw401_1)).trans hw401_1)))).trans (((HB.out.cell (World.block_lt_of_cell? w _ hw401_1)).trans hw401_1))⟩ (fun hHeld => ?_)
   clear hK K
   refine qn (some 26) ?_
   refine qo 15 (some 27) (bt 17 65535) rfl rfl HT_.out fun K hK => ?_
   refine Kd.S_append_step k36 (w0 := w) w.heap.size (by rfl) (.tmp 12) (.tmp 26) 23 36 (.agg #[(.slice none 0 0), (.int .i64 0)]) 32 rfl Try.underlying23 info36 rfl (by decide) (by omega) u3 x3_1 (⟨y398, (rd_T36 l0 x4_1).f1⟩ : S36) [.slice Ao12 y398.length co12, .int .i64 ((rd_T36 l0 x4_1).f1)] (fun _ => True) (fun k_ => some k_ = (.slice Ao12 y398.length co12 : Value).ownBlock) rfl rfl ?aP (fun k_ hk_ => ((Kd.R_mono (ok' := fun k_ => ((fun _ => True)) k_ ∧ some k_ ≠ (u3 : Value).ownBlock) (Kd.R_apart' (HO400.out) (Kd.S_typed HO_3.out) (by decide)) (fun k_ hk => ⟨trivial, hk.2⟩))).1 k_ hk_.symm) ?aF ?aO ?aB ?aS ?aL ?_
   (case aP => exact k36_mkM _ _ _ (⟨y398, (rd_T36 l0 x4_1).f1⟩ : S36) (Kd.R_mono (Kd.R_tight rfl (Kd.R_mono (ok' := fun k_ => ((fun _ => True)) k_ ∧ some k_ ≠ (u3 : Value).ownBlock) (Kd.R_apart' (HO400.out) (Kd.S_typed HO_3.out) (by decide)) (fun k_ hk => ⟨trivial, hk.2⟩))) (fun _ h_ => h_)))
   (case aB => exact (ph HB.out))
   (case aF => exact (fun _ _ => trivial))
   (case aO => exact (ps (Kd.S_mono HO_3.out (fun k_ hk => ⟨trivial, fun e_ => hk.2 e_⟩))))
   (case aS => exact (below_size (ph HB.out)))
   (case aL => have := LMc7.out; omega)
   intro v403 w13 ho hb hg hat
   rw [← Ny402.out] at ho
   replace HB := am (hb)
   have HO404 := am (ho)
   clear HO_3 HO400 ho hb hg hat
   refine hK.out _ _ ⟨((HB.out.cell (World.block_lt_of_cell? w _ hw397_0)).trans hw397_0), ((HB.out.cell (World.block_lt_of_cell? w _ hw397_1)).trans hw397_1), ((HB.out.cell (World.block_lt_of_cell? w _ hw401_0)).trans hw401_0), ((HB.out.cell (World.block_lt_of_cell? w _ hw401_1)).trans hw401_1)⟩ (fun hHeld => ?_)
   clear hK K
   refine qn (some 27) ?_
   refine qj 16 3 (bt 17 131071) rfl rfl HT_.out ?_
   refine done_ (done_of HT_.out (by kernel_rfl)) ?_
   try go_wp2
   go_roundg k1
   case measure => have := HK1.out; omega
   case rel => exact ⟨(y402), (wrap64 (x4_1 + 1)), rf, H', ⟨by have := HK1.out; omega⟩, ⟨ps HO404.out⟩, ⟨ph HB.out⟩⟩
def spec_FlashWrite.j0 : Nat → List (S36) → Int → Bool → Bool → Int → Int → Int → Int → Option ((List (S36)) × Bool)
 | 0, _, _, _, _, _, _, _, _ => none
 | k + 1, x0, x1, x3, x22, x406000, x406001, x406002, x406003 => if x22 = true then (some ((([] : List (S36))), false)) else ((spec_l2Copy.f k x0).bind fun t412 => ((spec_l2Write.f k t412 x1 x406000 x406001 x406002 x406003 x3).bind fun bt415 => (some (bt415.1, bt415.2))))
def spec_FlashWrite.f (k : Nat) (l0 : List (S36)) (a1 : Int) (a2_0 : Int) (a2_1 : Int) (a2_2 : Int) (a2_3 : Int) (a3 : Bool) : Option ((List (S36)) × Bool) := (spec_FlashOk.f l0).bind fun t406 => (if t406 = true then ((spec_l6In.f a1 0 3).bind fun t407 => (if t407 = true then ((spec_RecOk.f a2_0 a2_1 a2_2 a2_3).bind fun t408 => (spec_FlashWrite.j0 k l0 a1 a3 (!t408) a2_0 a2_1 a2_2 a2_3)) else (spec_FlashWrite.j0 k l0 a1 a3 true a2_0 a2_1 a2_2 a2_3))) else (spec_FlashWrite.j0 k l0 a1 a3 true a2_0 a2_1 a2_2 a2_3))
theorem spec_FlashWrite.mono_l : ∀ k, (∀ y0 y1 y2 y3 y4 y5 y6 y7, LeO (spec_FlashWrite.j0 k y0 y1 y2 y3 y4 y5 y6 y7) (spec_FlashWrite.j0 (k + 1) y0 y1 y2 y3 y4 y5 y6 y7))
 | 0 => fun _ _ _ _ _ _ _ _ r h => by simp [spec_FlashWrite.j0] at h
 | k + 1 => by
  have ih0 := spec_FlashWrite.mono_l k
  · intro y0 y1 y2 y3 y4 y5 y6 y7
    unfold spec_FlashWrite.j0
    with_reducible repeat' first | exact ih0 _ _ _ _ _ _ _ _ | exact spec_l2Copy.mono _ _ | exact spec_l2Write.mono _ _ _ _ _ _ _ _ | exact LeO.refl _ | exact LeO.none _ | refine LeO.ite ?_ ?_ | refine LeO.bind ?_ (fun _ => ?_)
theorem spec_FlashWrite.mono : ∀ a0 a1 a2 a3 a4 a5 a6 k, LeO (spec_FlashWrite.f k a0 a1 a2 a3 a4 a5 a6) (spec_FlashWrite.f (k + 1) a0 a1 a2 a3 a4 a5 a6) := by
 intro a0 a1 a2 a3 a4 a5 a6 k
 have ih0 := spec_FlashWrite.mono_l k
 unfold spec_FlashWrite.f
 with_reducible repeat' first | exact ih0 _ _ _ _ _ _ _ _ | exact spec_l2Copy.mono _ _ | exact spec_l2Write.mono _ _ _ _ _ _ _ _ | exact LeO.refl _ | exact LeO.none _ | refine LeO.ite ?_ ?_ | refine LeO.bind ?_ (fun _ => ?_)
def spec_FlashWrite.T3 : Bool × List (List Nat × List Nat) := (true, [([], []), ([0], [0]), ([], []), ([], []), ([], []), ([1, 2, 3, 4, 1], [1, 2, 3, 4]), ([5], [5]), ([5], [5]), ([6, 5, 0, 1, 2, 3, 4, 5, 6, 7], [6]), ([7, 8, 0, 1, 2, 3, 4, 5, 6, 7, 8], [7])])
def spec_FlashWrite.B3 : List Nat := [0, 1, 0, 0, 0, 31, 63, 63, 255, 511]
theorem spec_FlashWrite.tab3 : rtab .any (opsOf Try.f5 3) = spec_FlashWrite.T3 := by kernel_rfl
theorem spec_FlashWrite.bits3 : waitsOk spec_FlashWrite.T3.2 spec_FlashWrite.B3 = true := by kernel_rfl
set_option maxHeartbeats 8000000 in
set_option maxRecDepth 100000 in
theorem spec_FlashWrite.calls (k : Nat) (A0 : Option Addr) (c0 : Nat) (l0 : List (S36)) (a1 : Int) (a2_0 : Int) (a2_1 : Int) (a2_2 : Int) (a2_3 : Int) (a3 : Bool) (r1 : List (S36)) (r2 : Bool) (w : World) (hr0 : Kd.C k36 w A0 l0.length l0) (hc0 : l0.length ≤ c0) (h : spec_FlashWrite.f k l0 a1 a2_0 a2_1 a2_2 a2_3 a3 = some (r1, r2)) :
 Calls Try.prog 5 #[.slice A0 l0.length c0, .int .i64 a1, .agg #[.int .i64 a2_0, .int .i64 a2_1, .int .i64 a2_2, .int .i64 a2_3], .bool a3] w fun e w' => ∃ v0_ : Value, e = .returned (.tuple #[v0_, .bool r2]) ∧ Kd.S k36 36 w' w.heap.size (fun _ => True) v0_ r1 ∧ Below w.heap.size w w' := by
 have hu25 := Try.underlying25
 have HR0 := am hr0
 have HC0 := am hc0
 clear hr0 hc0
 have HB := am (Below.refl w.heap.size w)
 have H : ((spec_FlashOk.f l0).bind fun t406 => (if t406 = true then ((spec_l6In.f a1 0 3).bind fun t407 => (if t407 = true then ((spec_RecOk.f a2_0 a2_1 a2_2 a2_3).bind fun t408 => (spec_FlashWrite.j0 k l0 a1 a3 (!t408) a2_0 a2_1 a2_2 a2_3)) else (spec_FlashWrite.j0 k l0 a1 a3 true a2_0 a2_1 a2_2 a2_3))) else (spec_FlashWrite.j0 k l0 a1 a3 true a2_0 a2_1 a2_2 a2_3))) = some (r1, r2) := h
 clear h
 have HC5 := am H
 clear H
 go_enter Try.func5, Try.ntmps5
 go_upto_region 1 with (first | (refine bx 6 #[.int .i64 a2_0, .int .i64 a2_1, .int .i64 a2_2, .int .i64 a2_3] 25 rfl ?_; intro gb405 hg w6 hbox hb; have BK405 := am (hbox); have GW405 := am (ge hg (ph HB.out)); have GE405 := GW405; replace HB := am (below_step (ph HB.out) hb); clear hb hbox hg))
 (try simp only [Act.put, List.setIfInBounds_toArray, List.set_cons_zero, List.set_cons_succ])
 go_cut [22] (fun v22 wc => ∃ (kq : Nat) (x22_4 : Bool), v22 = .bool x22_4 ∧ Aside0 (spec_FlashWrite.j0 kq l0 a1 a3 x22_4 a2_0 a2_1 a2_2 a2_3 = some (r1, r2)) ∧ Aside0 (kq ≤ k) ∧ Aside0 (wc.heap[gb405]? = some (.cells #[.int .i64 a2_0, .int .i64 a2_1, .int .i64 a2_2, .int .i64 a2_3] 25 (0, 0))) ∧ Aside0 (Below w.heap.size w wc))
 case first =>
  have H := HC5.out
  clear HC5
  replace H := Option.bind_eq_some_iff.mp H
  obtain ⟨t406, A70, H⟩ := H
  have A7 := am A70
  clear A70
  by_cases c8 : t406 = true
  rotate_left
  · replace c8 := Bool.eq_false_iff.mpr c8
    subst c8
    rw [if_neg (show ¬ (false = true) by decide)] at H
    have H' := am H
    clear H
    go_wp2_with (first | (refine gl 11 Try.func18 #[.slice A0 l0.length c0] rfl ?_; (with_reducible refine (spec_FlashOk.calls _ _ l0 false _ ?side1 ?side2 A7.out).mono ?_); (case side1 => exact pc (Kd.C_below HR0.out HB.out)); (case side2 => exact HC0.out); rintro e w16 ⟨rfl, hb⟩; refine ⟨_, rfl, ?_⟩; replace BK405 := am (blk_below (pb BK405.out) hb); replace HB := am (below_step (bg1 HB.out GE405.out) hb); clear hb))
    go_meet
    case rel => exact ⟨_, (true), rf, H', ⟨by first | omega | exact Nat.le_refl _⟩, ⟨pb BK405.out⟩, ⟨bg1 HB.out GE405.out⟩⟩
  subst c8
  rw [if_pos rfl] at H
  replace H := Option.bind_eq_some_iff.mp H
  obtain ⟨t407, A90, H⟩ := H
  have A9 := am A90
  clear A90
  by_cases c10 : t407 = true
  rotate_left
  · replace c10 := Bool.eq_false_iff.mpr c10
    subst c10
    rw [if_neg (show ¬ (false = true) by decide)] at H
    have H' := am H
    clear H
    go_wp2_with (first | (refine gl 11 Try.func18 #[.slice A0 l0.length c0] rfl ?_; (with_reducible refine (spec_FlashOk.calls _ _ l0 true _ ?side1 ?side2 A7.out).mono ?_); (case side1 => exact pc (Kd.C_below HR0.out HB.out)); (case side2 => exact HC0.out); rintro e w15 ⟨rfl, hb⟩; refine ⟨_, rfl, ?_⟩; replace BK405 := am (blk_below (pb BK405.out) hb); replace HB := am (below_step (bg1 HB.out GE405.out) hb); clear hb) | (go_at_call 19; (with_reducible refine (spec_l6In.calls a1 0 3 false _ A9.out).mono ?_); rintro e w' ⟨rfl, ⟨nd, rfl⟩⟩))
    go_meet
    case rel => exact ⟨_, (true), rf, H', ⟨by first | omega | exact Nat.le_refl _⟩, ⟨pb BK405.out⟩, ⟨bg1 HB.out GE405.out⟩⟩
  subst c10
  rw [if_pos rfl] at H
  replace H := Option.bind_eq_some_iff.mp H
  obtain ⟨t408, A110, H⟩ := H
  have A11 := am A110
  clear A110
  have H' := am H
  clear H
  go_wp2_with (first | (refine gl 11 Try.func18 #[.slice A0 l0.length c0] rfl ?_; (with_reducible refine (spec_FlashOk.calls _ _ l0 true _ ?side1 ?side2 A7.out).mono ?_); (case side1 => exact pc (Kd.C_below HR0.out HB.out)); (case side2 => exact HC0.out); rintro e w12 ⟨rfl, hb⟩; refine ⟨_, rfl, ?_⟩; replace BK405 := am (blk_below (pb BK405.out) hb); replace HB := am (below_step (bg1 HB.out GE405.out) hb); clear hb) | (go_at_call 19; (with_reducible refine (spec_l6In.calls a1 0 3 true _ A9.out).mono ?_); rintro e w' ⟨rfl, ⟨nd, rfl⟩⟩; obtain ⟨hcz13_0, hcz13_1, hcz13_2, hcz13_3⟩ := b4 BK405.out; obtain ⟨hfz13_0, hfz13_1, hfz13_2, hfz13_3⟩ := f4 BK405.out) | (go_at_call 20; (with_reducible refine (spec_RecOk.calls a2_0 a2_1 a2_2 a2_3 t408 _ A11.out).mono ?_); rintro e w14 ⟨rfl, hb⟩; replace BK405 := am (blk_below (pb BK405.out) hb); replace HB := am (below_step (bg1 HB.out GE405.out) hb); clear hb))
  go_meet
  case rel => exact ⟨_, (!t408), rf, H', ⟨by first | omega | exact Nat.le_refl _⟩, ⟨pb BK405.out⟩, ⟨bg1 HB.out GE405.out⟩⟩
 case rest =>
  clear HC5
  obtain ⟨kq, x22_4, rfl, HA, HJ4, BK405, HB⟩ := hcut
  cases kq with
  | zero => exact absurd HA.out (by simp [spec_FlashWrite.j0])
  | succ kj4 =>
   have H := HA.out
   clear HA
   simp only [spec_FlashWrite.j0] at H
   by_cases c17 : x22_4 = true
   · subst c17
     rw [if_pos rfl] at H
     obtain ⟨y409, hy409⟩ : ∃ y_ : List (S36), y_ = (([] : List (S36))) := ⟨_, rfl⟩
     replace H : (some (y409, false)) = some (r1, r2) := yy hy409 H
     have Ny409 := am hy409
     clear hy409
     simp only [Option.some.injEq, Prod.mk.injEq] at H
     obtain ⟨rfl, rfl⟩ := H
     go_wp2_with (first | ((with_reducible refine gate_dst (N := 23) rfl ?_); refine Kd.S_lit k36 _ 36 ?hg (N := 23) ?hd (xs := ([] : List (S36))) (inner := []) (ok := fun _ => True) (okp := fun _ => True) ?hr ?hp (fun _ hk => hk) trivial (Below.refl _ _) (Nat.le_refl _) (by simp) ?_; (case hd => rfl); (case hg => rfl); (case hr => first | (go_simp; done) | (go_simp; rfl)); (case hp => exact (Reps.none _ _)); intro v410 w18 ho19 hb hg_ hnew_; clear hg_ hnew_; (first | rw [← Ny409.out] at ho19 | (simp only [Int.reduceToNat] at ho19; rw [← Ny409.out] at ho19)); have HO411 := am (Kd.S_lower ho19 (below_size (bg1 HB.out GE405.out))); replace BK405 := am (blk_below (pb BK405.out) hb); replace HB := am (below_step (bg1 HB.out GE405.out) hb); clear hb ho19))
     go_ret2
     exact ⟨_, rq ⟨ps HO411.out, bg1 HB.out GE405.out⟩⟩
   replace c17 := Bool.eq_false_iff.mpr c17
   subst c17
   rw [if_neg (show ¬ (false = true) by decide)] at H
   replace H := Option.bind_eq_some_iff.mp H
   obtain ⟨t412, A200, H⟩ := H
   have A20 := am A200
   clear A200
   replace H := Option.bind_eq_some_iff.mp H
   obtain ⟨⟨t415, t418⟩, A210, H⟩ := H
   have A21 := am A210
   clear A210
   simp only [Option.some.injEq, Prod.mk.injEq] at H
   obtain ⟨rfl, rfl⟩ := H
   try go_wp2
   replace BK405 := am (blk_drew BK405.out)
   replace HB := am (below_drew1 HB.out)
   refine start_ (n := 10) (S := fun w' => w'.cell? ⟨gb405, 0, none⟩ = some (.int .i64 a2_0) ∧ w'.cell? ⟨gb405, 1, none⟩ = some (.int .i64 a2_1) ∧ w'.cell? ⟨gb405, 2, none⟩ = some (.int .i64 a2_2) ∧ w'.cell? ⟨gb405, 3, none⟩ = some (.int .i64 a2_3)) (ds := []) (bt 10 0) (by kernel_rfl) rfl rfl ⟨(blk_cell BK405.out 0).trans rfl, (blk_cell BK405.out 1).trans rfl, (blk_cell BK405.out 2).trans rfl, (blk_cell BK405.out 3).trans rfl⟩ (fun hHeld => ?_); refine with_tabW spec_FlashWrite.tab3 spec_FlashWrite.bits3 (fun HT_ HW_ => ?_)
   generalize wc.drew = w22 at BK405 HB hHeld ⊢
   refine qj 0 24 (bt 10 1) rfl rfl HT_.out ?_
   refine qj 2 26 (bt 10 5) rfl rfl HT_.out ?_
   refine qj 4 28 (bt 10 21) rfl rfl HT_.out ?_
   refine qm 3 27 (bt 10 29) rfl rfl HT_.out HW_.out hHeld ?_
   refine qo 1 (some 25) (bt 10 31) rfl rfl HT_.out fun K hK => ?_
   refine qg Try.func22 #[.slice A0 l0.length c0] rfl rfl ?_
   with_reducible refine (spec_l2Copy.calls kj4 _ _ l0 t412 _ ?side1 ?side2 A20.out).mono ?_
   (case side1 => exact pc (Kd.C_below HR0.out HB.out))
   (case side2 => exact HC0.out)
   rintro e w23 ⟨v413, rfl, ho0, hb⟩
   refine ⟨_, rfl, ?_⟩
   have HO414 := am (Kd.S_lower ho0 (below_size (bg1 HB.out GE405.out)))
   replace BK405 := am (blk_below (pb BK405.out) hb)
   replace HB := am (below_step (bg1 HB.out GE405.out) hb)
   clear hb ho0
   obtain ⟨Ao24, co24, eo24⟩ := Kd.S_slice HO414.out
   (first | subst eo24 | (injection eo24 with f1_ f2_ f3_; have f4_ := f1_.symm; have f5_ := f3_.symm; clear f1_ f2_ f3_; subst f4_; subst f5_))
   obtain ⟨PXh25, hxa_, hxb_⟩ := Kd.S_hand HO414.out
   have HXAh25 := am hxa_
   have HXBh25 := am hxb_
   clear hxa_ hxb_
   refine hK.out _ _ ⟨(blk_cell BK405.out 0).trans rfl, (blk_cell BK405.out 1).trans rfl, (blk_cell BK405.out 2).trans rfl, (blk_cell BK405.out 3).trans rfl⟩ (fun hHeld => ?_)
   clear hK K
   refine qn (some 25) ?_
   refine qo 5 (some 29) (bt 10 63) rfl rfl HT_.out fun K hK => ?_
   refine qg Try.func21 #[.slice Ao24 t412.length co24, .int .i64 a1, .agg #[.int .i64 a2_0, .int .i64 a2_1, .int .i64 a2_2, .int .i64 a2_3], .bool a3] rfl rfl ?_
   with_reducible refine (spec_l2Write.calls kj4 PXh25 (.slice Ao24 t412.length co24) t412 a1 a2_0 a2_1 a2_2 a2_3 a3 t415 t418 w _ ?side1 ?side2 A21.out).mono ?_
   (case side1 => exact bg1 HB.out GE405.out)
   (case side2 => exact (ps HXAh25.out))
   rintro e w26 ⟨v416, rfl, ho0, hb, hkp⟩
   refine ⟨_, rfl, ?_⟩
   replace BK405 := am (blk_kept (pb BK405.out) hkp (fun hs_ => (fun e_ => Kd.blk_awayP (fun k_ h_ => (HXBh25.out k_ h_).2.2.2) BK405.out (by decide) e_) hs_))
   have HO417 := am (Kd.S_mono (ok' := fun k_ => True) ho0 (fun k_ hk_ => trivial))
   replace HB := am (hb)
   clear HO414
   clear hb hkp ho0
   refine hK.out _ _ ⟨(blk_cell BK405.out 0).trans rfl, (blk_cell BK405.out 1).trans rfl, (blk_cell BK405.out 2).trans rfl, (blk_cell BK405.out 3).trans rfl⟩ (fun hHeld => ?_)
   clear hK K
   refine qn (some 29) ?_
   refine qj 6 30 (bt 10 127) rfl rfl HT_.out ?_
   refine qj 7 31 (bt 10 255) rfl rfl HT_.out ?_
   refine qj 8 8 (bt 10 511) rfl rfl HT_.out ?_
   refine qj 9 9 (bt 10 1023) rfl rfl HT_.out ?_
   refine done_ (done_of HT_.out (by kernel_rfl)) ?_
   try go_wp2
   go_ret2
   exact ⟨_, rq ⟨ps HO417.out, bg1 HB.out GE405.out⟩⟩
end Go.Proofs.Ythmgdljblidgjaa.Rw
