-- printed by wip/pp/pp.py
import Derived.Test.YtklmgekagoibjaaRv0
import Derived.Test.YtklmgekagoibjaaRv3
import Derived.Test.YtklmgekagoibjaaRv8
import Derived.Test.YtklmgekagoibjaaRv9
import Derived.Test.YtklmgekagoibjaaRv11
namespace Go.Proofs.Ytklmgekagoibjaa.Rv
open Go.RowKit Go.Proofs.YtklmgekagoibjaaW.PrintWords Go.Proofs.YtklmgekagoibjaaW.PrintLast Go.Proofs.YtklmgekagoibjaaW.PrintMore
attribute [local go_sem] max2_int min2_int max_two min_two max_three min_three max_four min_four
set_option linter.unusedVariables false
set_option linter.unusedSimpArgs false
mutual
def laws_FnWriteNot.j0 : Nat → List (S37) → Int → List (S37) → Bool → List (S37) → Bool → Bool → Int → Int → Int → Int → Option (Bool)
 | 0, _, _, _, _, _, _, _, _, _, _, _ => none
 | k + 1, x3, x4, x7, x8, x9, x10, x66, x457000, x457001, x457002, x457003 => if x66 = true then (if (x10 == x8) = true then ((laws_lqFlash.f k x9 x7).bind fun t468 => (some t468)) else (some false)) else (laws_FnWriteNot.l0 k x3 x4 x9 x10 false 0 x457000 x457001 x457002 x457003)
def laws_FnWriteNot.l0 : Nat → List (S37) → Int → List (S37) → Bool → Bool → Int → Int → Int → Int → Int → Option (Bool)
 | 0, _, _, _, _, _, _, _, _, _, _ => none
 | k + 1, x3, x4, x9, x10, x11, x12, x457000, x457001, x457002, x457003 => if x12 < (x3.length : Int) then (laws_FnWriteNot.l1 k x3 x4 x9 x10 x11 x12 0 x457000 x457001 x457002 x457003) else ((impl_FlashClean.f k x3 x4).bind fun t469 => (if t469 > 0 then (if (x10 == (!x11)) = true then (if x10 = true then (some true) else ((laws_lqFlash.f k x9 x3).bind fun t470 => (some t470))) else (some false)) else (if (x10 == false) = true then (if x10 = true then (some true) else ((laws_lqFlash.f k x9 x3).bind fun t471 => (some t471))) else (some false))))
def laws_FnWriteNot.l1 : Nat → List (S37) → Int → List (S37) → Bool → Bool → Int → Int → Int → Int → Int → Int → Option (Bool)
 | 0, _, _, _, _, _, _, _, _, _, _, _ => none
 | k + 1, x3, x4, x9, x10, x11, x12, x13, x457000, x457001, x457002, x457003 => if x13 < 4 then (if x11 = true then (laws_FnWriteNot.l1 k x3 x4 x9 x10 true x12 (wrap64 (x13 + 1)) x457000 x457001 x457002 x457003) else (if 0 ≤ x12 then (if x12 < (x3.length : Int) then (if 0 ≤ x13 then (if x13 < (((rd_T37 x3 x12).f0).length : Int) then (if ((rd_T34 ((rd_T37 x3 x12).f0) x13).f0) = 1 then (laws_FnWriteNot.l1 k x3 x4 x9 x10 (((rd_T34 ((rd_T37 x3 x12).f0) x13).f1.f1) == x457001) x12 (wrap64 (x13 + 1)) x457000 x457001 x457002 x457003) else (laws_FnWriteNot.l1 k x3 x4 x9 x10 false x12 (wrap64 (x13 + 1)) x457000 x457001 x457002 x457003)) else (none)) else (none)) else (none)) else (none))) else (laws_FnWriteNot.l0 k x3 x4 x9 x10 x11 (wrap64 (x12 + 1)) x457000 x457001 x457002 x457003)
end
def laws_FnWriteNot.f (k : Nat) (l0 : List Int) : Option (Bool) := if (l0.length : Int) > 1048576 then (some true) else ((spec_DrawFlashWrite.f k l0).bind fun bt447 => ((spec_FlashWrite.f k bt447.1 bt447.2.1 bt447.2.2.1 bt447.2.2.2.1 bt447.2.2.2.2.1 bt447.2.2.2.2.2.1 bt447.2.2.2.2.2.2).bind fun bt457 => ((impl_FlashWrite.f k bt447.1 bt447.2.1 bt447.2.2.1 bt447.2.2.2.1 bt447.2.2.2.2.1 bt447.2.2.2.2.2.1 bt447.2.2.2.2.2.2).bind fun bt461 => (if (bt461.2 != bt457.2) = true then (laws_FnWriteNot.j0 k bt447.1 bt447.2.1 bt457.1 bt457.2 bt461.1 bt461.2 true bt447.2.2.1 bt447.2.2.2.1 bt447.2.2.2.2.1 bt447.2.2.2.2.2.1) else ((laws_lqFlash.f k bt461.1 bt457.1).bind fun t465 => (if t465 = true then ((spec_FlashOk.f bt447.1).bind fun t466 => (if t466 = true then ((spec_RecOk.f bt447.2.2.1 bt447.2.2.2.1 bt447.2.2.2.2.1 bt447.2.2.2.2.2.1).bind fun t467 => (if t467 = true then (if bt447.2.1 < 0 then (laws_FnWriteNot.j0 k bt447.1 bt447.2.1 bt457.1 bt457.2 bt461.1 bt461.2 true bt447.2.2.1 bt447.2.2.2.1 bt447.2.2.2.2.1 bt447.2.2.2.2.2.1) else (laws_FnWriteNot.j0 k bt447.1 bt447.2.1 bt457.1 bt457.2 bt461.1 bt461.2 (decide (bt447.2.1 ≥ 4)) bt447.2.2.1 bt447.2.2.2.1 bt447.2.2.2.2.1 bt447.2.2.2.2.2.1)) else (laws_FnWriteNot.j0 k bt447.1 bt447.2.1 bt457.1 bt457.2 bt461.1 bt461.2 true bt447.2.2.1 bt447.2.2.2.1 bt447.2.2.2.2.1 bt447.2.2.2.2.2.1))) else (laws_FnWriteNot.j0 k bt447.1 bt447.2.1 bt457.1 bt457.2 bt461.1 bt461.2 true bt447.2.2.1 bt447.2.2.2.1 bt447.2.2.2.2.1 bt447.2.2.2.2.2.1))) else (laws_FnWriteNot.j0 k bt447.1 bt447.2.1 bt457.1 bt457.2 bt461.1 bt461.2 true bt447.2.2.1 bt447.2.2.2.1 bt447.2.2.2.2.1 bt447.2.2.2.2.2.1)))))))
theorem laws_FnWriteNot.mono_l : ∀ k, (∀ y0 y1 y2 y3 y4 y5 y6 y7 y8 y9 y10, LeO (laws_FnWriteNot.j0 k y0 y1 y2 y3 y4 y5 y6 y7 y8 y9 y10) (laws_FnWriteNot.j0 (k + 1) y0 y1 y2 y3 y4 y5 y6 y7 y8 y9 y10)) ∧ (∀ y0 y1 y2 y3 y4 y5 y6 y7 y8 y9, LeO (laws_FnWriteNot.l0 k y0 y1 y2 y3 y4 y5 y6 y7 y8 y9) (laws_FnWriteNot.l0 (k + 1) y0 y1 y2 y3 y4 y5 y6 y7 y8 y9)) ∧ (∀ y0 y1 y2 y3 y4 y5 y6 y7 y8 y9 y10, LeO (laws_FnWriteNot.l1 k y0 y1 y2 y3 y4 y5 y6 y7 y8 y9 y10) (laws_FnWriteNot.l1 (k + 1) y0 y1 y2 y3 y4 y5 y6 y7 y8 y9 y10))
 | 0 => ⟨fun _ _ _ _ _ _ _ _ _ _ _ r h => by simp [laws_FnWriteNot.j0] at h, fun _ _ _ _ _ _ _ _ _ _ r h => by simp [laws_FnWriteNot.l0] at h, fun _ _ _ _ _ _ _ _ _ _ _ r h => by simp [laws_FnWriteNot.l1] at h⟩
 | k + 1 => by
  obtain ⟨ih0, ih1, ih2⟩ := laws_FnWriteNot.mono_l k
  refine ⟨?_, ?_, ?_⟩
  · intro y0 y1 y2 y3 y4 y5 y6 y7 y8 y9 y10
    unfold laws_FnWriteNot.j0
    with_reducible repeat' first | exact ih0 _ _ _ _ _ _ _ _ _ _ _ | exact ih1 _ _ _ _ _ _ _ _ _ _ | exact ih2 _ _ _ _ _ _ _ _ _ _ _ | exact impl_FlashClean.mono _ _ _ | exact impl_FlashWrite.mono _ _ _ _ _ _ _ _ | exact laws_lqFlash.mono _ _ _ | exact spec_DrawFlashWrite.mono _ _ | exact spec_FlashWrite.mono _ _ _ _ _ _ _ _ | exact LeO.refl _ | exact LeO.none _ | refine LeO.ite ?_ ?_ | refine LeO.bind ?_ (fun _ => ?_)
  · intro y0 y1 y2 y3 y4 y5 y6 y7 y8 y9
    unfold laws_FnWriteNot.l0
    with_reducible repeat' first | exact ih0 _ _ _ _ _ _ _ _ _ _ _ | exact ih1 _ _ _ _ _ _ _ _ _ _ | exact ih2 _ _ _ _ _ _ _ _ _ _ _ | exact impl_FlashClean.mono _ _ _ | exact impl_FlashWrite.mono _ _ _ _ _ _ _ _ | exact laws_lqFlash.mono _ _ _ | exact spec_DrawFlashWrite.mono _ _ | exact spec_FlashWrite.mono _ _ _ _ _ _ _ _ | exact LeO.refl _ | exact LeO.none _ | refine LeO.ite ?_ ?_ | refine LeO.bind ?_ (fun _ => ?_)
  · intro y0 y1 y2 y3 y4 y5 y6 y7 y8 y9 y10
    unfold laws_FnWriteNot.l1
    with_reducible repeat' first | exact ih0 _ _ _ _ _ _ _ _ _ _ _ | exact ih1 _ _ _ _ _ _ _ _ _ _ | exact ih2 _ _ _ _ _ _ _ _ _ _ _ | exact impl_FlashClean.mono _ _ _ | exact impl_FlashWrite.mono _ _ _ _ _ _ _ _ | exact laws_lqFlash.mono _ _ _ | exact spec_DrawFlashWrite.mono _ _ | exact spec_FlashWrite.mono _ _ _ _ _ _ _ _ | exact LeO.refl _ | exact LeO.none _ | refine LeO.ite ?_ ?_ | refine LeO.bind ?_ (fun _ => ?_)
theorem laws_FnWriteNot.mono : ∀ a0 k, LeO (laws_FnWriteNot.f k a0) (laws_FnWriteNot.f (k + 1) a0) := by
 intro a0 k
 obtain ⟨ih0, ih1, ih2⟩ := laws_FnWriteNot.mono_l k
 unfold laws_FnWriteNot.f
 with_reducible repeat' first | exact ih0 _ _ _ _ _ _ _ _ _ _ _ | exact ih1 _ _ _ _ _ _ _ _ _ _ | exact ih2 _ _ _ _ _ _ _ _ _ _ _ | exact impl_FlashClean.mono _ _ _ | exact impl_FlashWrite.mono _ _ _ _ _ _ _ _ | exact laws_lqFlash.mono _ _ _ | exact spec_DrawFlashWrite.mono _ _ | exact spec_FlashWrite.mono _ _ _ _ _ _ _ _ | exact LeO.refl _ | exact LeO.none _ | refine LeO.ite ?_ ?_ | refine LeO.bind ?_ (fun _ => ?_)
set_option maxHeartbeats 8000000 in
set_option maxRecDepth 100000 in
theorem laws_FnWriteNot.calls (k : Nat) (A0 : Option Addr) (c0 : Nat) (l0 : List Int) (r : Bool) (w : World) (hr0 : Kd.C (Kd.int .u8) w A0 l0.length l0) (hc0 : l0.length ≤ c0) (h : laws_FnWriteNot.f k l0 = some r) :
 Calls Try.prog 3 #[.slice A0 l0.length c0] w fun e w' => e = .returned (.bool r) ∧ Below w.heap.size w w' := by
 have hu25 := Try.underlying25
 have HR0 := am hr0
 have HC0 := am hc0
 clear hr0 hc0
 have HB := am (Below.refl w.heap.size w)
 have H : (if (l0.length : Int) > 1048576 then (some true) else ((spec_DrawFlashWrite.f k l0).bind fun bt447 => ((spec_FlashWrite.f k bt447.1 bt447.2.1 bt447.2.2.1 bt447.2.2.2.1 bt447.2.2.2.2.1 bt447.2.2.2.2.2.1 bt447.2.2.2.2.2.2).bind fun bt457 => ((impl_FlashWrite.f k bt447.1 bt447.2.1 bt447.2.2.1 bt447.2.2.2.1 bt447.2.2.2.2.1 bt447.2.2.2.2.2.1 bt447.2.2.2.2.2.2).bind fun bt461 => (if (bt461.2 != bt457.2) = true then (laws_FnWriteNot.j0 k bt447.1 bt447.2.1 bt457.1 bt457.2 bt461.1 bt461.2 true bt447.2.2.1 bt447.2.2.2.1 bt447.2.2.2.2.1 bt447.2.2.2.2.2.1) else ((laws_lqFlash.f k bt461.1 bt457.1).bind fun t465 => (if t465 = true then ((spec_FlashOk.f bt447.1).bind fun t466 => (if t466 = true then ((spec_RecOk.f bt447.2.2.1 bt447.2.2.2.1 bt447.2.2.2.2.1 bt447.2.2.2.2.2.1).bind fun t467 => (if t467 = true then (if bt447.2.1 < 0 then (laws_FnWriteNot.j0 k bt447.1 bt447.2.1 bt457.1 bt457.2 bt461.1 bt461.2 true bt447.2.2.1 bt447.2.2.2.1 bt447.2.2.2.2.1 bt447.2.2.2.2.2.1) else (laws_FnWriteNot.j0 k bt447.1 bt447.2.1 bt457.1 bt457.2 bt461.1 bt461.2 (decide (bt447.2.1 ≥ 4)) bt447.2.2.1 bt447.2.2.2.1 bt447.2.2.2.2.1 bt447.2.2.2.2.2.1)) else (laws_FnWriteNot.j0 k bt447.1 bt447.2.1 bt457.1 bt457.2 bt461.1 bt461.2 true bt447.2.2.1 bt447.2.2.2.1 bt447.2.2.2.2.1 bt447.2.2.2.2.2.1))) else (laws_FnWriteNot.j0 k bt447.1 bt447.2.1 bt457.1 bt457.2 bt461.1 bt461.2 true bt447.2.2.1 bt447.2.2.2.1 bt447.2.2.2.2.1 bt447.2.2.2.2.2.1))) else (laws_FnWriteNot.j0 k bt447.1 bt447.2.1 bt457.1 bt457.2 bt461.1 bt461.2 true bt447.2.2.1 bt447.2.2.2.1 bt447.2.2.2.2.1 bt447.2.2.2.2.2.1)))))))) = some r := h
 clear h
 by_cases c2 : (l0.length : Int) > 1048576
 · rw [if_pos c2] at H
   have c2b0 := decide_eq_true c2
   have c2b1 : decide (1048576 < l0.length) = true := decide_eq_true (by omega)
   clear c2
   obtain rfl := Option.some.inj H
   go_enter Try.func3, Try.ntmps3
   go_wp2
   repeat (go_quiet (fail); try go_wp2)
   go_ret
   exact (rq (ph HB.out))
 rw [if_neg c2] at H
 have c2b0 := decide_eq_false c2
 have c2b1 : decide (1048576 < l0.length) = false := decide_eq_false (by omega)
 clear c2
 replace H := Option.bind_eq_some_iff.mp H
 obtain ⟨⟨t447, t450, t451, t452, t453, t454, t455⟩, A30, H⟩ := H
 have A3 := am A30
 clear A30
 replace H := Option.bind_eq_some_iff.mp H
 obtain ⟨⟨t457, t460⟩, A40, H⟩ := H
 have A4 := am A40
 clear A40
 replace H := Option.bind_eq_some_iff.mp H
 obtain ⟨⟨t461, t464⟩, A50, H⟩ := H
 have A5 := am A50
 clear A50
 have HC6 := am H
 clear H
 go_enter Try.func3, Try.ntmps3
 go_upto_region 6 with (first | (go_at_call 4; (with_reducible refine (spec_DrawFlashWrite.calls k _ _ l0 t447 t450 t451 t452 t453 t454 t455 _ ?side1 ?side2 A3.out).mono ?_); (case side1 => repeat (first | exact HR0.out | (with_reducible refine Kd.C_alloc ?_ _) | (with_reducible refine Kd.C_drewN ?_ _) | (with_reducible refine Kd.C_drew ?_))); (case side2 => exact HC0.out); rintro e w7 ⟨v448, rfl, ho0, hb⟩; have HO449 := am (Kd.V_lower (Kd.V_mono (ok' := fun k_ => True) ho0 (fun k_ hk_ => trivial)) (below_size (ph HB.out))); replace HB := am (below_step (ph HB.out) hb); (try clear hb); (try clear hb2); (try clear hk); (try clear hi); (try clear ho0)) | (refine bx 5 #[.int .i64 0, .int .i64 0, .int .i64 0, .int .i64 0] 25 rfl ?_; intro gb456 hg w8 hbox hb; replace HO449 := am (Kd.V_below (Kd.V_elderB (by (with_reducible repeat (first | apply Kd.V_alloc | apply Kd.V_drewN | apply Kd.V_drew)); exact HO449.out) gb456 (Nat.le_of_eq hg.symm)) hb); have BK456 := am (hbox); have GW456 := am (ge hg (ph HB.out)); have GE456 := GW456; replace HB := am (below_step (ph HB.out) hb); clear hb hbox hg; obtain ⟨hcz9_0, hcz9_1, hcz9_2, hcz9_3⟩ := b4 BK456.out; obtain ⟨hfz9_0, hfz9_1, hfz9_2, hfz9_3⟩ := f4 BK456.out; obtain ⟨Ao10, co10, eo10⟩ := Kd.V_slice HO449.out; subst eo10) | (go_at_call 5; (with_reducible refine (spec_FlashWrite.calls k _ _ t447 t450 t451 t452 t453 t454 t455 t457 t460 _ ?side1 ?side2 A4.out).mono ?_); (case side1 => refine (Kd.V_reads' (e := 37) (base := w.heap.size) (ok := fun k_ => (True ∧ k_ ≠ gb456)) (n := t447.length) (c := co10) ?_).2.2; exact (by (with_reducible repeat (first | apply Kd.V_alloc | apply Kd.V_drewN | apply Kd.V_drew)); exact (Kd.V_mono (Kd.V_far (p := ⟨gb456, 3, none⟩) (Kd.V_far (p := ⟨gb456, 2, none⟩) (Kd.V_far (p := ⟨gb456, 1, none⟩) (Kd.V_far (p := ⟨gb456, 0, none⟩) (Kd.V_mono HO449.out (fun k_ hk => (⟨hk, hk.2⟩ : _ ∧ k_ ≠ gb456))) (fun _ hk => hk.2) (.int .i64 t451)) (fun _ hk => hk.2) (.int .i64 t452)) (fun _ hk => hk.2) (.int .i64 t453)) (fun _ hk => hk.2) (.int .i64 t454)) (fun _ h_ => h_.1)))); (case side2 => exact (Kd.V_reads' HO449.out).2.1); rintro e w11 ⟨v458, rfl, ho0, hb⟩; replace HO449 := am (Kd.V_elder' (by (with_reducible repeat (first | apply Kd.V_alloc | apply Kd.V_drewN | apply Kd.V_drew)); exact (Kd.V_mono (Kd.V_far (p := ⟨gb456, 3, none⟩) (Kd.V_far (p := ⟨gb456, 2, none⟩) (Kd.V_far (p := ⟨gb456, 1, none⟩) (Kd.V_far (p := ⟨gb456, 0, none⟩) (Kd.V_mono HO449.out (fun k_ hk => (⟨hk, hk.2⟩ : _ ∧ k_ ≠ gb456))) (fun _ hk => hk.2) (.int .i64 t451)) (fun _ hk => hk.2) (.int .i64 t452)) (fun _ hk => hk.2) (.int .i64 t453)) (fun _ hk => hk.2) (.int .i64 t454)) (fun _ h_ => h_.1))) (Kd.S_base ho0) hb); have HO459 := am (Kd.S_lower ho0 (below_size (bg1 HB.out GE456.out))); replace BK456 := am (blk_below (bp4 (pb BK456.out)) hb); replace HB := am (below_step (bg1 HB.out GE456.out) hb); (try clear hb); (try clear hb2); (try clear hk); (try clear hi); (try clear ho0); obtain ⟨hcz12_0, hcz12_1, hcz12_2, hcz12_3⟩ := b4 BK456.out; obtain ⟨hfz12_0, hfz12_1, hfz12_2, hfz12_3⟩ := f4 BK456.out) | (go_at_call 6; (with_reducible refine (impl_FlashWrite.calls k _ _ t447 t450 t451 t452 t453 t454 t455 t461 t464 _ ?side1 ?side2 A5.out).mono ?_); (case side1 => repeat (first | exact (Kd.V_reads' HO449.out).2.2 | (with_reducible refine Kd.C_alloc ?_ _) | (with_reducible refine Kd.C_drewN ?_ _) | (with_reducible refine Kd.C_drew ?_))); (case side2 => exact (Kd.V_reads' HO449.out).2.1); rintro e w13 ⟨v462, rfl, ho0, hb⟩; replace HO449 := am (Kd.V_below (by (with_reducible repeat (first | apply Kd.V_alloc | apply Kd.V_drewN | apply Kd.V_drew)); exact HO449.out) hb); have HO463 := am (Kd.V_lower (Kd.V_mono (ok' := fun k_ => some k_ ≠ (v458 : Value).ownBlock ∧ k_ ≠ gb456) ho0 (fun k_ hk_ => ⟨(Kd.fresh' (Kd.S_lt (ps HO459.out)) k_ hk_), (Kd.freshB (g := gb456) (o := .cells #[.int .i64 t451, .int .i64 t452, .int .i64 t453, .int .i64 t454] 25 (0, 0)) (pb BK456.out) k_ hk_)⟩)) (below_size (bg1 HB.out GE456.out))); replace HO459 := am (Kd.S_below (ps HO459.out) hb); replace BK456 := am (blk_below (pb BK456.out) hb); replace HB := am (below_step (bg1 HB.out GE456.out) hb); (try clear hb); (try clear hb2); (try clear hk); (try clear hi); (try clear ho0)))
 repeat (go_quiet (first | (go_at_call 4; (with_reducible refine (spec_DrawFlashWrite.calls k _ _ l0 t447 t450 t451 t452 t453 t454 t455 _ ?side1 ?side2 A3.out).mono ?_); (case side1 => repeat (first | exact HR0.out | (with_reducible refine Kd.C_alloc ?_ _) | (with_reducible refine Kd.C_drewN ?_ _) | (with_reducible refine Kd.C_drew ?_))); (case side2 => exact HC0.out); rintro e w7 ⟨v448, rfl, ho0, hb⟩; have HO449 := am (Kd.V_lower (Kd.V_mono (ok' := fun k_ => True) ho0 (fun k_ hk_ => trivial)) (below_size (ph HB.out))); replace HB := am (below_step (ph HB.out) hb); (try clear hb); (try clear hb2); (try clear hk); (try clear hi); (try clear ho0)) | (refine bx 5 #[.int .i64 0, .int .i64 0, .int .i64 0, .int .i64 0] 25 rfl ?_; intro gb456 hg w8 hbox hb; replace HO449 := am (Kd.V_below (Kd.V_elderB (by (with_reducible repeat (first | apply Kd.V_alloc | apply Kd.V_drewN | apply Kd.V_drew)); exact HO449.out) gb456 (Nat.le_of_eq hg.symm)) hb); have BK456 := am (hbox); have GW456 := am (ge hg (ph HB.out)); have GE456 := GW456; replace HB := am (below_step (ph HB.out) hb); clear hb hbox hg; obtain ⟨hcz9_0, hcz9_1, hcz9_2, hcz9_3⟩ := b4 BK456.out; obtain ⟨hfz9_0, hfz9_1, hfz9_2, hfz9_3⟩ := f4 BK456.out; obtain ⟨Ao10, co10, eo10⟩ := Kd.V_slice HO449.out; subst eo10) | (go_at_call 5; (with_reducible refine (spec_FlashWrite.calls k _ _ t447 t450 t451 t452 t453 t454 t455 t457 t460 _ ?side1 ?side2 A4.out).mono ?_); (case side1 => refine (Kd.V_reads' (e := 37) (base := w.heap.size) (ok := fun k_ => (True ∧ k_ ≠ gb456)) (n := t447.length) (c := co10) ?_).2.2; exact (by (with_reducible repeat (first | apply Kd.V_alloc | apply Kd.V_drewN | apply Kd.V_drew)); exact (Kd.V_mono (Kd.V_far (p := ⟨gb456, 3, none⟩) (Kd.V_far (p := ⟨gb456, 2, none⟩) (Kd.V_far (p := ⟨gb456, 1, none⟩) (Kd.V_far (p := ⟨gb456, 0, none⟩) (Kd.V_mono HO449.out (fun k_ hk => (⟨hk, hk.2⟩ : _ ∧ k_ ≠ gb456))) (fun _ hk => hk.2) (.int .i64 t451)) (fun _ hk => hk.2) (.int .i64 t452)) (fun _ hk => hk.2) (.int .i64 t453)) (fun _ hk => hk.2) (.int .i64 t454)) (fun _ h_ => h_.1)))); (case side2 => exact (Kd.V_reads' HO449.out).2.1); rintro e w11 ⟨v458, rfl, ho0, hb⟩; replace HO449 := am (Kd.V_elder' (by (with_reducible repeat (first | apply Kd.V_alloc | apply Kd.V_drewN | apply Kd.V_drew)); exact (Kd.V_mono (Kd.V_far (p := ⟨gb456, 3, none⟩) (Kd.V_far (p := ⟨gb456, 2, none⟩) (Kd.V_far (p := ⟨gb456, 1, none⟩) (Kd.V_far (p := ⟨gb456, 0, none⟩) (Kd.V_mono HO449.out (fun k_ hk => (⟨hk, hk.2⟩ : _ ∧ k_ ≠ gb456))) (fun _ hk => hk.2) (.int .i64 t451)) (fun _ hk => hk.2) (.int .i64 t452)) (fun _ hk => hk.2) (.int .i64 t453)) (fun _ hk => hk.2) (.int .i64 t454)) (fun _ h_ => h_.1))) (Kd.S_base ho0) hb); have HO459 := am (Kd.S_lower ho0 (below_size (bg1 HB.out GE456.out))); replace BK456 := am (blk_below (bp4 (pb BK456.out)) hb); replace HB := am (below_step (bg1 HB.out GE456.out) hb); (try clear hb); (try clear hb2); (try clear hk); (try clear hi); (try clear ho0); obtain ⟨hcz12_0, hcz12_1, hcz12_2, hcz12_3⟩ := b4 BK456.out; obtain ⟨hfz12_0, hfz12_1, hfz12_2, hfz12_3⟩ := f4 BK456.out) | (go_at_call 6; (with_reducible refine (impl_FlashWrite.calls k _ _ t447 t450 t451 t452 t453 t454 t455 t461 t464 _ ?side1 ?side2 A5.out).mono ?_); (case side1 => repeat (first | exact (Kd.V_reads' HO449.out).2.2 | (with_reducible refine Kd.C_alloc ?_ _) | (with_reducible refine Kd.C_drewN ?_ _) | (with_reducible refine Kd.C_drew ?_))); (case side2 => exact (Kd.V_reads' HO449.out).2.1); rintro e w13 ⟨v462, rfl, ho0, hb⟩; replace HO449 := am (Kd.V_below (by (with_reducible repeat (first | apply Kd.V_alloc | apply Kd.V_drewN | apply Kd.V_drew)); exact HO449.out) hb); have HO463 := am (Kd.V_lower (Kd.V_mono (ok' := fun k_ => some k_ ≠ (v458 : Value).ownBlock ∧ k_ ≠ gb456) ho0 (fun k_ hk_ => ⟨(Kd.fresh' (Kd.S_lt (ps HO459.out)) k_ hk_), (Kd.freshB (g := gb456) (o := .cells #[.int .i64 t451, .int .i64 t452, .int .i64 t453, .int .i64 t454] 25 (0, 0)) (pb BK456.out) k_ hk_)⟩)) (below_size (bg1 HB.out GE456.out))); replace HO459 := am (Kd.S_below (ps HO459.out) hb); replace BK456 := am (blk_below (pb BK456.out) hb); replace HB := am (below_step (bg1 HB.out GE456.out) hb); (try clear hb); (try clear hb2); (try clear hk); (try clear hi); (try clear ho0))); go_upto_region 6 with (first | (go_at_call 4; (with_reducible refine (spec_DrawFlashWrite.calls k _ _ l0 t447 t450 t451 t452 t453 t454 t455 _ ?side1 ?side2 A3.out).mono ?_); (case side1 => repeat (first | exact HR0.out | (with_reducible refine Kd.C_alloc ?_ _) | (with_reducible refine Kd.C_drewN ?_ _) | (with_reducible refine Kd.C_drew ?_))); (case side2 => exact HC0.out); rintro e w7 ⟨v448, rfl, ho0, hb⟩; have HO449 := am (Kd.V_lower (Kd.V_mono (ok' := fun k_ => True) ho0 (fun k_ hk_ => trivial)) (below_size (ph HB.out))); replace HB := am (below_step (ph HB.out) hb); (try clear hb); (try clear hb2); (try clear hk); (try clear hi); (try clear ho0)) | (refine bx 5 #[.int .i64 0, .int .i64 0, .int .i64 0, .int .i64 0] 25 rfl ?_; intro gb456 hg w8 hbox hb; replace HO449 := am (Kd.V_below (Kd.V_elderB (by (with_reducible repeat (first | apply Kd.V_alloc | apply Kd.V_drewN | apply Kd.V_drew)); exact HO449.out) gb456 (Nat.le_of_eq hg.symm)) hb); have BK456 := am (hbox); have GW456 := am (ge hg (ph HB.out)); have GE456 := GW456; replace HB := am (below_step (ph HB.out) hb); clear hb hbox hg; obtain ⟨hcz9_0, hcz9_1, hcz9_2, hcz9_3⟩ := b4 BK456.out; obtain ⟨hfz9_0, hfz9_1, hfz9_2, hfz9_3⟩ := f4 BK456.out; obtain ⟨Ao10, co10, eo10⟩ := Kd.V_slice HO449.out; subst eo10) | (go_at_call 5; (with_reducible refine (spec_FlashWrite.calls k _ _ t447 t450 t451 t452 t453 t454 t455 t457 t460 _ ?side1 ?side2 A4.out).mono ?_); (case side1 => refine (Kd.V_reads' (e := 37) (base := w.heap.size) (ok := fun k_ => (True ∧ k_ ≠ gb456)) (n := t447.length) (c := co10) ?_).2.2; exact (by (with_reducible repeat (first | apply Kd.V_alloc | apply Kd.V_drewN | apply Kd.V_drew)); exact (Kd.V_mono (Kd.V_far (p := ⟨gb456, 3, none⟩) (Kd.V_far (p := ⟨gb456, 2, none⟩) (Kd.V_far (p := ⟨gb456, 1, none⟩) (Kd.V_far (p := ⟨gb456, 0, none⟩) (Kd.V_mono HO449.out (fun k_ hk => (⟨hk, hk.2⟩ : _ ∧ k_ ≠ gb456))) (fun _ hk => hk.2) (.int .i64 t451)) (fun _ hk => hk.2) (.int .i64 t452)) (fun _ hk => hk.2) (.int .i64 t453)) (fun _ hk => hk.2) (.int .i64 t454)) (fun _ h_ => h_.1)))); (case side2 => exact (Kd.V_reads' HO449.out).2.1); rintro e w11 ⟨v458, rfl, ho0, hb⟩; replace HO449 := am (Kd.V_elder' (by (with_reducible repeat (first | apply Kd.V_alloc | apply Kd.V_drewN | apply Kd.V_drew)); exact (Kd.V_mono (Kd.V_far (p := ⟨gb456, 3, none⟩) (Kd.V_far (p := ⟨gb456, 2, none⟩) (Kd.V_far (p := ⟨gb456, 1, none⟩) (Kd.V_far (p := ⟨gb456, 0, none⟩) (Kd.V_mono HO449.out (fun k_ hk => (⟨hk, hk.2⟩ : _ ∧ k_ ≠ gb456))) (fun _ hk => hk.2) (.int .i64 t451)) (fun _ hk => hk.2) (.int .i64 t452)) (fun _ hk => hk.2) (.int .i64 t453)) (fun _ hk => hk.2) (.int .i64 t454)) (fun _ h_ => h_.1))) (Kd.S_base ho0) hb); have HO459 := am (Kd.S_lower ho0 (below_size (bg1 HB.out GE456.out))); replace BK456 := am (blk_below (bp4 (pb BK456.out)) hb); replace HB := am (below_step (bg1 HB.out GE456.out) hb); (try clear hb); (try clear hb2); (try clear hk); (try clear hi); (try clear ho0); obtain ⟨hcz12_0, hcz12_1, hcz12_2, hcz12_3⟩ := b4 BK456.out; obtain ⟨hfz12_0, hfz12_1, hfz12_2, hfz12_3⟩ := f4 BK456.out) | (go_at_call 6; (with_reducible refine (impl_FlashWrite.calls k _ _ t447 t450 t451 t452 t453 t454 t455 t461 t464 _ ?side1 ?side2 A5.out).mono ?_); (case side1 => repeat (first | exact (Kd.V_reads' HO449.out).2.2 | (with_reducible refine Kd.C_alloc ?_ _) | (with_reducible refine Kd.C_drewN ?_ _) | (with_reducible refine Kd.C_drew ?_))); (case side2 => exact (Kd.V_reads' HO449.out).2.1); rintro e w13 ⟨v462, rfl, ho0, hb⟩; replace HO449 := am (Kd.V_below (by (with_reducible repeat (first | apply Kd.V_alloc | apply Kd.V_drewN | apply Kd.V_drew)); exact HO449.out) hb); have HO463 := am (Kd.V_lower (Kd.V_mono (ok' := fun k_ => some k_ ≠ (v458 : Value).ownBlock ∧ k_ ≠ gb456) ho0 (fun k_ hk_ => ⟨(Kd.fresh' (Kd.S_lt (ps HO459.out)) k_ hk_), (Kd.freshB (g := gb456) (o := .cells #[.int .i64 t451, .int .i64 t452, .int .i64 t453, .int .i64 t454] 25 (0, 0)) (pb BK456.out) k_ hk_)⟩)) (below_size (bg1 HB.out GE456.out))); replace HO459 := am (Kd.S_below (ps HO459.out) hb); replace BK456 := am (blk_below (pb BK456.out) hb); replace HB := am (below_step (bg1 HB.out GE456.out) hb); (try clear hb); (try clear hb2); (try clear hk); (try clear hi); (try clear ho0))))
 (try simp only [Act.put, List.setIfInBounds_toArray, List.set_cons_zero, List.set_cons_succ])
 go_cut [66] (fun v66 wc => ∃ (kq : Nat) (x66_5 : Bool), v66 = .bool x66_5 ∧ Aside0 (laws_FnWriteNot.j0 kq t447 t450 t457 t460 t461 t464 x66_5 t451 t452 t453 t454 = some r) ∧ Aside0 (kq ≤ k) ∧ Aside0 (Kd.V k37 37 wc w.heap.size (fun k_ => some k_ ≠ (v458 : Value).ownBlock ∧ k_ ≠ gb456) (.slice Ao10 t447.length co10) t447) ∧ Aside0 (Kd.S k37 37 wc w.heap.size (fun _ => True) v458 t457) ∧ Aside0 (Kd.V k37 37 wc w.heap.size (fun k_ => some k_ ≠ (v458 : Value).ownBlock ∧ k_ ≠ gb456) v462 t461) ∧ Aside0 (wc.heap[gb456]? = some (.cells #[.int .i64 t451, .int .i64 t452, .int .i64 t453, .int .i64 t454] 25 (0, 0))) ∧ Aside0 (Below w.heap.size w wc))
 case first =>
  have H := HC6.out
  clear HC6
  by_cases c14 : (t464 != t460) = true
  · rw [if_pos c14] at H
    have c14b0 : (t464 != t460) = true := c14
    (try (have c14b1 : decide (t464 = t460) = false := by simpa using c14))
    (try (have c14b2 : (t464 == t460) = false := by simpa using c14))
    (try (have c14b3 : ¬ (t464 = t460) := by simpa using c14))
    clear c14
    (first | rw [c14b0] | (simp only [i64_w, i32_w]; rw [c14b0]) | skip)
    have H' := am H
    clear H
    go_wp2
    repeat (go_quiet (fail); try go_wp2)
    go_meet
    case rel => exact ⟨_, (true), rf, H', ⟨by first | omega | exact Nat.le_refl _⟩, ⟨by (with_reducible repeat (first | apply Kd.V_alloc | apply Kd.V_drewN | apply Kd.V_drew)); exact Kd.V_mono HO449.out (fun _ hk => ⟨hk.2, hk.1.2⟩)⟩, ⟨ps HO459.out⟩, ⟨by (with_reducible repeat (first | apply Kd.V_alloc | apply Kd.V_drewN | apply Kd.V_drew)); exact HO463.out⟩, ⟨pb BK456.out⟩, ⟨bg1 HB.out GE456.out⟩⟩
  rw [if_neg c14] at H
  have c14b0 : (t464 != t460) = false := by simpa using c14
  (try (have c14b1 : decide (t464 = t460) = true := by simpa using c14))
  (try (have c14b2 : (t464 == t460) = true := by simpa using c14))
  clear c14
  (first | rw [c14b0] | (simp only [i64_w, i32_w]; rw [c14b0]) | skip)
  replace H := Option.bind_eq_some_iff.mp H
  obtain ⟨t465, A150, H⟩ := H
  have A15 := am A150
  clear A150
  by_cases c16 : t465 = true
  rotate_left
  · replace c16 := Bool.eq_false_iff.mpr c16
    subst c16
    rw [if_neg (show ¬ (false = true) by decide)] at H
    have H' := am H
    clear H
    obtain ⟨Ao40, co40, eo40⟩ := Kd.V_slice HO463.out
    subst eo40
    obtain ⟨Ao41, co41, eo41⟩ := Kd.S_slice HO459.out
    subst eo41
    go_wp2_with (first | (go_at_call 7; (with_reducible refine (laws_lqFlash.calls k _ _ t461 _ _ t457 false _ ?side1 ?side2 ?side3 ?side4 A15.out).mono ?_); (case side1 => repeat (first | exact (Kd.V_reads' HO463.out).2.2 | (with_reducible refine Kd.C_alloc ?_ _) | (with_reducible refine Kd.C_drewN ?_ _) | (with_reducible refine Kd.C_drew ?_))); (case side2 => exact (Kd.V_reads' HO463.out).2.1); (case side3 => repeat (first | exact (Kd.S_reads' HO459.out).2.2 | (with_reducible refine Kd.C_alloc ?_ _) | (with_reducible refine Kd.C_drewN ?_ _) | (with_reducible refine Kd.C_drew ?_))); (case side4 => exact (Kd.S_reads' HO459.out).2.1); rintro e w' ⟨rfl, ⟨nd, rfl⟩⟩; (try first | exact ⟨rfl, _, World.drewN_drewN _ _ _⟩ | exact ⟨rfl, _, Eq.trans (World.drewN_drewN _ _ _) (congrArg (World.drewN _) (Nat.add_assoc _ _ _))⟩)))
    repeat (go_quiet (first | (go_at_call 7; (with_reducible refine (laws_lqFlash.calls k _ _ t461 _ _ t457 false _ ?side1 ?side2 ?side3 ?side4 A15.out).mono ?_); (case side1 => repeat (first | exact (Kd.V_reads' HO463.out).2.2 | (with_reducible refine Kd.C_alloc ?_ _) | (with_reducible refine Kd.C_drewN ?_ _) | (with_reducible refine Kd.C_drew ?_))); (case side2 => exact (Kd.V_reads' HO463.out).2.1); (case side3 => repeat (first | exact (Kd.S_reads' HO459.out).2.2 | (with_reducible refine Kd.C_alloc ?_ _) | (with_reducible refine Kd.C_drewN ?_ _) | (with_reducible refine Kd.C_drew ?_))); (case side4 => exact (Kd.S_reads' HO459.out).2.1); rintro e w' ⟨rfl, ⟨nd, rfl⟩⟩; (try first | exact ⟨rfl, _, World.drewN_drewN _ _ _⟩ | exact ⟨rfl, _, Eq.trans (World.drewN_drewN _ _ _) (congrArg (World.drewN _) (Nat.add_assoc _ _ _))⟩))); try go_wp2_with (first | (go_at_call 7; (with_reducible refine (laws_lqFlash.calls k _ _ t461 _ _ t457 false _ ?side1 ?side2 ?side3 ?side4 A15.out).mono ?_); (case side1 => repeat (first | exact (Kd.V_reads' HO463.out).2.2 | (with_reducible refine Kd.C_alloc ?_ _) | (with_reducible refine Kd.C_drewN ?_ _) | (with_reducible refine Kd.C_drew ?_))); (case side2 => exact (Kd.V_reads' HO463.out).2.1); (case side3 => repeat (first | exact (Kd.S_reads' HO459.out).2.2 | (with_reducible refine Kd.C_alloc ?_ _) | (with_reducible refine Kd.C_drewN ?_ _) | (with_reducible refine Kd.C_drew ?_))); (case side4 => exact (Kd.S_reads' HO459.out).2.1); rintro e w' ⟨rfl, ⟨nd, rfl⟩⟩; (try first | exact ⟨rfl, _, World.drewN_drewN _ _ _⟩ | exact ⟨rfl, _, Eq.trans (World.drewN_drewN _ _ _) (congrArg (World.drewN _) (Nat.add_assoc _ _ _))⟩))))
    go_meet
    case rel => exact ⟨_, (true), rf, H', ⟨by first | omega | exact Nat.le_refl _⟩, ⟨by (with_reducible repeat (first | apply Kd.V_alloc | apply Kd.V_drewN | apply Kd.V_drew)); exact Kd.V_mono HO449.out (fun _ hk => ⟨hk.2, hk.1.2⟩)⟩, ⟨ps HO459.out⟩, ⟨by (with_reducible repeat (first | apply Kd.V_alloc | apply Kd.V_drewN | apply Kd.V_drew)); exact HO463.out⟩, ⟨pb BK456.out⟩, ⟨bg1 HB.out GE456.out⟩⟩
  subst c16
  rw [if_pos rfl] at H
  replace H := Option.bind_eq_some_iff.mp H
  obtain ⟨t466, A170, H⟩ := H
  have A17 := am A170
  clear A170
  by_cases c18 : t466 = true
  rotate_left
  · replace c18 := Bool.eq_false_iff.mpr c18
    subst c18
    rw [if_neg (show ¬ (false = true) by decide)] at H
    have H' := am H
    clear H
    obtain ⟨Ao37, co37, eo37⟩ := Kd.V_slice HO463.out
    subst eo37
    obtain ⟨Ao38, co38, eo38⟩ := Kd.S_slice HO459.out
    subst eo38
    go_wp2_with (first | (go_at_call 7; (with_reducible refine (laws_lqFlash.calls k _ _ t461 _ _ t457 true _ ?side1 ?side2 ?side3 ?side4 A15.out).mono ?_); (case side1 => repeat (first | exact (Kd.V_reads' HO463.out).2.2 | (with_reducible refine Kd.C_alloc ?_ _) | (with_reducible refine Kd.C_drewN ?_ _) | (with_reducible refine Kd.C_drew ?_))); (case side2 => exact (Kd.V_reads' HO463.out).2.1); (case side3 => repeat (first | exact (Kd.S_reads' HO459.out).2.2 | (with_reducible refine Kd.C_alloc ?_ _) | (with_reducible refine Kd.C_drewN ?_ _) | (with_reducible refine Kd.C_drew ?_))); (case side4 => exact (Kd.S_reads' HO459.out).2.1); rintro e w' ⟨rfl, ⟨nd, rfl⟩⟩; (try first | exact ⟨rfl, _, World.drewN_drewN _ _ _⟩ | exact ⟨rfl, _, Eq.trans (World.drewN_drewN _ _ _) (congrArg (World.drewN _) (Nat.add_assoc _ _ _))⟩)) | (go_at_call 8; (with_reducible refine (spec_FlashOk.calls _ _ t447 false _ ?side1 ?side2 A17.out).mono ?_); (case side1 => repeat (first | exact (Kd.V_reads' HO449.out).2.2 | (with_reducible refine Kd.C_alloc ?_ _) | (with_reducible refine Kd.C_drewN ?_ _) | (with_reducible refine Kd.C_drew ?_))); (case side2 => exact (Kd.V_reads' HO449.out).2.1); rintro e w39 ⟨rfl, hb⟩; replace HO449 := am (Kd.V_below (by (with_reducible repeat (first | apply Kd.V_alloc | apply Kd.V_drewN | apply Kd.V_drew)); exact HO449.out) hb); replace HO459 := am (Kd.S_below (ps HO459.out) hb); replace HO463 := am (Kd.V_below (by (with_reducible repeat (first | apply Kd.V_alloc | apply Kd.V_drewN | apply Kd.V_drew)); exact HO463.out) hb); replace BK456 := am (blk_below (pb BK456.out) hb); replace HB := am (below_step (bg1 HB.out GE456.out) hb); (try clear hb); (try clear hb2); (try clear hk); (try clear hi)))
    repeat (go_quiet (first | (go_at_call 7; (with_reducible refine (laws_lqFlash.calls k _ _ t461 _ _ t457 true _ ?side1 ?side2 ?side3 ?side4 A15.out).mono ?_); (case side1 => repeat (first | exact (Kd.V_reads' HO463.out).2.2 | (with_reducible refine Kd.C_alloc ?_ _) | (with_reducible refine Kd.C_drewN ?_ _) | (with_reducible refine Kd.C_drew ?_))); (case side2 => exact (Kd.V_reads' HO463.out).2.1); (case side3 => repeat (first | exact (Kd.S_reads' HO459.out).2.2 | (with_reducible refine Kd.C_alloc ?_ _) | (with_reducible refine Kd.C_drewN ?_ _) | (with_reducible refine Kd.C_drew ?_))); (case side4 => exact (Kd.S_reads' HO459.out).2.1); rintro e w' ⟨rfl, ⟨nd, rfl⟩⟩; (try first | exact ⟨rfl, _, World.drewN_drewN _ _ _⟩ | exact ⟨rfl, _, Eq.trans (World.drewN_drewN _ _ _) (congrArg (World.drewN _) (Nat.add_assoc _ _ _))⟩)) | (go_at_call 8; (with_reducible refine (spec_FlashOk.calls _ _ t447 false _ ?side1 ?side2 A17.out).mono ?_); (case side1 => repeat (first | exact (Kd.V_reads' HO449.out).2.2 | (with_reducible refine Kd.C_alloc ?_ _) | (with_reducible refine Kd.C_drewN ?_ _) | (with_reducible refine Kd.C_drew ?_))); (case side2 => exact (Kd.V_reads' HO449.out).2.1); rintro e w39 ⟨rfl, hb⟩; replace HO449 := am (Kd.V_below (by (with_reducible repeat (first | apply Kd.V_alloc | apply Kd.V_drewN | apply Kd.V_drew)); exact HO449.out) hb); replace HO459 := am (Kd.S_below (ps HO459.out) hb); replace HO463 := am (Kd.V_below (by (with_reducible repeat (first | apply Kd.V_alloc | apply Kd.V_drewN | apply Kd.V_drew)); exact HO463.out) hb); replace BK456 := am (blk_below (pb BK456.out) hb); replace HB := am (below_step (bg1 HB.out GE456.out) hb); (try clear hb); (try clear hb2); (try clear hk); (try clear hi))); try go_wp2_with (first | (go_at_call 7; (with_reducible refine (laws_lqFlash.calls k _ _ t461 _ _ t457 true _ ?side1 ?side2 ?side3 ?side4 A15.out).mono ?_); (case side1 => repeat (first | exact (Kd.V_reads' HO463.out).2.2 | (with_reducible refine Kd.C_alloc ?_ _) | (with_reducible refine Kd.C_drewN ?_ _) | (with_reducible refine Kd.C_drew ?_))); (case side2 => exact (Kd.V_reads' HO463.out).2.1); (case side3 => repeat (first | exact (Kd.S_reads' HO459.out).2.2 | (with_reducible refine Kd.C_alloc ?_ _) | (with_reducible refine Kd.C_drewN ?_ _) | (with_reducible refine Kd.C_drew ?_))); (case side4 => exact (Kd.S_reads' HO459.out).2.1); rintro e w' ⟨rfl, ⟨nd, rfl⟩⟩; (try first | exact ⟨rfl, _, World.drewN_drewN _ _ _⟩ | exact ⟨rfl, _, Eq.trans (World.drewN_drewN _ _ _) (congrArg (World.drewN _) (Nat.add_assoc _ _ _))⟩)) | (go_at_call 8; (with_reducible refine (spec_FlashOk.calls _ _ t447 false _ ?side1 ?side2 A17.out).mono ?_); (case side1 => repeat (first | exact (Kd.V_reads' HO449.out).2.2 | (with_reducible refine Kd.C_alloc ?_ _) | (with_reducible refine Kd.C_drewN ?_ _) | (with_reducible refine Kd.C_drew ?_))); (case side2 => exact (Kd.V_reads' HO449.out).2.1); rintro e w39 ⟨rfl, hb⟩; replace HO449 := am (Kd.V_below (by (with_reducible repeat (first | apply Kd.V_alloc | apply Kd.V_drewN | apply Kd.V_drew)); exact HO449.out) hb); replace HO459 := am (Kd.S_below (ps HO459.out) hb); replace HO463 := am (Kd.V_below (by (with_reducible repeat (first | apply Kd.V_alloc | apply Kd.V_drewN | apply Kd.V_drew)); exact HO463.out) hb); replace BK456 := am (blk_below (pb BK456.out) hb); replace HB := am (below_step (bg1 HB.out GE456.out) hb); (try clear hb); (try clear hb2); (try clear hk); (try clear hi))))
    go_meet
    case rel => exact ⟨_, (true), rf, H', ⟨by first | omega | exact Nat.le_refl _⟩, ⟨by (with_reducible repeat (first | apply Kd.V_alloc | apply Kd.V_drewN | apply Kd.V_drew)); exact Kd.V_mono HO449.out (fun _ hk => ⟨hk.2, hk.1.2⟩)⟩, ⟨ps HO459.out⟩, ⟨by (with_reducible repeat (first | apply Kd.V_alloc | apply Kd.V_drewN | apply Kd.V_drew)); exact HO463.out⟩, ⟨pb BK456.out⟩, ⟨bg1 HB.out GE456.out⟩⟩
  subst c18
  rw [if_pos rfl] at H
  replace H := Option.bind_eq_some_iff.mp H
  obtain ⟨t467, A190, H⟩ := H
  have A19 := am A190
  clear A190
  by_cases c20 : t467 = true
  rotate_left
  · replace c20 := Bool.eq_false_iff.mpr c20
    subst c20
    rw [if_neg (show ¬ (false = true) by decide)] at H
    have H' := am H
    clear H
    obtain ⟨Ao32, co32, eo32⟩ := Kd.V_slice HO463.out
    subst eo32
    obtain ⟨Ao33, co33, eo33⟩ := Kd.S_slice HO459.out
    subst eo33
    go_wp2_with (first | (go_at_call 7; (with_reducible refine (laws_lqFlash.calls k _ _ t461 _ _ t457 true _ ?side1 ?side2 ?side3 ?side4 A15.out).mono ?_); (case side1 => repeat (first | exact (Kd.V_reads' HO463.out).2.2 | (with_reducible refine Kd.C_alloc ?_ _) | (with_reducible refine Kd.C_drewN ?_ _) | (with_reducible refine Kd.C_drew ?_))); (case side2 => exact (Kd.V_reads' HO463.out).2.1); (case side3 => repeat (first | exact (Kd.S_reads' HO459.out).2.2 | (with_reducible refine Kd.C_alloc ?_ _) | (with_reducible refine Kd.C_drewN ?_ _) | (with_reducible refine Kd.C_drew ?_))); (case side4 => exact (Kd.S_reads' HO459.out).2.1); rintro e w' ⟨rfl, ⟨nd, rfl⟩⟩; (try first | exact ⟨rfl, _, World.drewN_drewN _ _ _⟩ | exact ⟨rfl, _, Eq.trans (World.drewN_drewN _ _ _) (congrArg (World.drewN _) (Nat.add_assoc _ _ _))⟩)) | (go_at_call 8; (with_reducible refine (spec_FlashOk.calls _ _ t447 true _ ?side1 ?side2 A17.out).mono ?_); (case side1 => repeat (first | exact (Kd.V_reads' HO449.out).2.2 | (with_reducible refine Kd.C_alloc ?_ _) | (with_reducible refine Kd.C_drewN ?_ _) | (with_reducible refine Kd.C_drew ?_))); (case side2 => exact (Kd.V_reads' HO449.out).2.1); rintro e w34 ⟨rfl, hb⟩; replace HO449 := am (Kd.V_below (by (with_reducible repeat (first | apply Kd.V_alloc | apply Kd.V_drewN | apply Kd.V_drew)); exact HO449.out) hb); replace HO459 := am (Kd.S_below (ps HO459.out) hb); replace HO463 := am (Kd.V_below (by (with_reducible repeat (first | apply Kd.V_alloc | apply Kd.V_drewN | apply Kd.V_drew)); exact HO463.out) hb); replace BK456 := am (blk_below (pb BK456.out) hb); replace HB := am (below_step (bg1 HB.out GE456.out) hb); (try clear hb); (try clear hb2); (try clear hk); (try clear hi); obtain ⟨hcz35_0, hcz35_1, hcz35_2, hcz35_3⟩ := b4 BK456.out; obtain ⟨hfz35_0, hfz35_1, hfz35_2, hfz35_3⟩ := f4 BK456.out) | (go_at_call 9; (with_reducible refine (spec_RecOk.calls t451 t452 t453 t454 false _ A19.out).mono ?_); rintro e w36 ⟨rfl, hb⟩; replace HO449 := am (Kd.V_below (by (with_reducible repeat (first | apply Kd.V_alloc | apply Kd.V_drewN | apply Kd.V_drew)); exact HO449.out) hb); replace HO459 := am (Kd.S_below (ps HO459.out) hb); replace HO463 := am (Kd.V_below (by (with_reducible repeat (first | apply Kd.V_alloc | apply Kd.V_drewN | apply Kd.V_drew)); exact HO463.out) hb); replace BK456 := am (blk_below (pb BK456.out) hb); replace HB := am (below_step (bg1 HB.out GE456.out) hb); (try clear hb); (try clear hb2); (try clear hk); (try clear hi)))
    repeat (go_quiet (first | (go_at_call 7; (with_reducible refine (laws_lqFlash.calls k _ _ t461 _ _ t457 true _ ?side1 ?side2 ?side3 ?side4 A15.out).mono ?_); (case side1 => repeat (first | exact (Kd.V_reads' HO463.out).2.2 | (with_reducible refine Kd.C_alloc ?_ _) | (with_reducible refine Kd.C_drewN ?_ _) | (with_reducible refine Kd.C_drew ?_))); (case side2 => exact (Kd.V_reads' HO463.out).2.1); (case side3 => repeat (first | exact (Kd.S_reads' HO459.out).2.2 | (with_reducible refine Kd.C_alloc ?_ _) | (with_reducible refine Kd.C_drewN ?_ _) | (with_reducible refine Kd.C_drew ?_))); (case side4 => exact (Kd.S_reads' HO459.out).2.1); rintro e w' ⟨rfl, ⟨nd, rfl⟩⟩; (try first | exact ⟨rfl, _, World.drewN_drewN _ _ _⟩ | exact ⟨rfl, _, Eq.trans (World.drewN_drewN _ _ _) (congrArg (World.drewN _) (Nat.add_assoc _ _ _))⟩)) | (go_at_call 8; (with_reducible refine (spec_FlashOk.calls _ _ t447 true _ ?side1 ?side2 A17.out).mono ?_); (case side1 => repeat (first | exact (Kd.V_reads' HO449.out).2.2 | (with_reducible refine Kd.C_alloc ?_ _) | (with_reducible refine Kd.C_drewN ?_ _) | (with_reducible refine Kd.C_drew ?_))); (case side2 => exact (Kd.V_reads' HO449.out).2.1); rintro e w34 ⟨rfl, hb⟩; replace HO449 := am (Kd.V_below (by (with_reducible repeat (first | apply Kd.V_alloc | apply Kd.V_drewN | apply Kd.V_drew)); exact HO449.out) hb); replace HO459 := am (Kd.S_below (ps HO459.out) hb); replace HO463 := am (Kd.V_below (by (with_reducible repeat (first | apply Kd.V_alloc | apply Kd.V_drewN | apply Kd.V_drew)); exact HO463.out) hb); replace BK456 := am (blk_below (pb BK456.out) hb); replace HB := am (below_step (bg1 HB.out GE456.out) hb); (try clear hb); (try clear hb2); (try clear hk); (try clear hi); obtain ⟨hcz35_0, hcz35_1, hcz35_2, hcz35_3⟩ := b4 BK456.out; obtain ⟨hfz35_0, hfz35_1, hfz35_2, hfz35_3⟩ := f4 BK456.out) | (go_at_call 9; (with_reducible refine (spec_RecOk.calls t451 t452 t453 t454 false _ A19.out).mono ?_); rintro e w36 ⟨rfl, hb⟩; replace HO449 := am (Kd.V_below (by (with_reducible repeat (first | apply Kd.V_alloc | apply Kd.V_drewN | apply Kd.V_drew)); exact HO449.out) hb); replace HO459 := am (Kd.S_below (ps HO459.out) hb); replace HO463 := am (Kd.V_below (by (with_reducible repeat (first | apply Kd.V_alloc | apply Kd.V_drewN | apply Kd.V_drew)); exact HO463.out) hb); replace BK456 := am (blk_below (pb BK456.out) hb); replace HB := am (below_step (bg1 HB.out GE456.out) hb); (try clear hb); (try clear hb2); (try clear hk); (try clear hi))); try go_wp2_with (first | (go_at_call 7; (with_reducible refine (laws_lqFlash.calls k _ _ t461 _ _ t457 true _ ?side1 ?side2 ?side3 ?side4 A15.out).mono ?_); (case side1 => repeat (first | exact (Kd.V_reads' HO463.out).2.2 | (with_reducible refine Kd.C_alloc ?_ _) | (with_reducible refine Kd.C_drewN ?_ _) | (with_reducible refine Kd.C_drew ?_))); (case side2 => exact (Kd.V_reads' HO463.out).2.1); (case side3 => repeat (first | exact (Kd.S_reads' HO459.out).2.2 | (with_reducible refine Kd.C_alloc ?_ _) | (with_reducible refine Kd.C_drewN ?_ _) | (with_reducible refine Kd.C_drew ?_))); (case side4 => exact (Kd.S_reads' HO459.out).2.1); rintro e w' ⟨rfl, ⟨nd, rfl⟩⟩; (try first | exact ⟨rfl, _, World.drewN_drewN _ _ _⟩ | exact ⟨rfl, _, Eq.trans (World.drewN_drewN _ _ _) (congrArg (World.drewN _) (Nat.add_assoc _ _ _))⟩)) | (go_at_call 8; (with_reducible refine (spec_FlashOk.calls _ _ t447 true _ ?side1 ?side2 A17.out).mono ?_); (case side1 => repeat (first | exact (Kd.V_reads' HO449.out).2.2 | (with_reducible refine Kd.C_alloc ?_ _) | (with_reducible refine Kd.C_drewN ?_ _) | (with_reducible refine Kd.C_drew ?_))); (case side2 => exact (Kd.V_reads' HO449.out).2.1); rintro e w34 ⟨rfl, hb⟩; replace HO449 := am (Kd.V_below (by (with_reducible repeat (first | apply Kd.V_alloc | apply Kd.V_drewN | apply Kd.V_drew)); exact HO449.out) hb); replace HO459 := am (Kd.S_below (ps HO459.out) hb); replace HO463 := am (Kd.V_below (by (with_reducible repeat (first | apply Kd.V_alloc | apply Kd.V_drewN | apply Kd.V_drew)); exact HO463.out) hb); replace BK456 := am (blk_below (pb BK456.out) hb); replace HB := am (below_step (bg1 HB.out GE456.out) hb); (try clear hb); (try clear hb2); (try clear hk); (try clear hi); obtain ⟨hcz35_0, hcz35_1, hcz35_2, hcz35_3⟩ := b4 BK456.out; obtain ⟨hfz35_0, hfz35_1, hfz35_2, hfz35_3⟩ := f4 BK456.out) | (go_at_call 9; (with_reducible refine (spec_RecOk.calls t451 t452 t453 t454 false _ A19.out).mono ?_); rintro e w36 ⟨rfl, hb⟩; replace HO449 := am (Kd.V_below (by (with_reducible repeat (first | apply Kd.V_alloc | apply Kd.V_drewN | apply Kd.V_drew)); exact HO449.out) hb); replace HO459 := am (Kd.S_below (ps HO459.out) hb); replace HO463 := am (Kd.V_below (by (with_reducible repeat (first | apply Kd.V_alloc | apply Kd.V_drewN | apply Kd.V_drew)); exact HO463.out) hb); replace BK456 := am (blk_below (pb BK456.out) hb); replace HB := am (below_step (bg1 HB.out GE456.out) hb); (try clear hb); (try clear hb2); (try clear hk); (try clear hi))))
    go_meet
    case rel => exact ⟨_, (true), rf, H', ⟨by first | omega | exact Nat.le_refl _⟩, ⟨by (with_reducible repeat (first | apply Kd.V_alloc | apply Kd.V_drewN | apply Kd.V_drew)); exact Kd.V_mono HO449.out (fun _ hk => ⟨hk.2, hk.1.2⟩)⟩, ⟨ps HO459.out⟩, ⟨by (with_reducible repeat (first | apply Kd.V_alloc | apply Kd.V_drewN | apply Kd.V_drew)); exact HO463.out⟩, ⟨pb BK456.out⟩, ⟨bg1 HB.out GE456.out⟩⟩
  subst c20
  rw [if_pos rfl] at H
  by_cases c21 : t450 < 0
  · rw [if_pos c21] at H
    have c21b0 := decide_eq_true c21
    clear c21
    have H' := am H
    clear H
    obtain ⟨Ao22, co22, eo22⟩ := Kd.V_slice HO463.out
    subst eo22
    obtain ⟨Ao23, co23, eo23⟩ := Kd.S_slice HO459.out
    subst eo23
    go_wp2_with (first | (go_at_call 7; (with_reducible refine (laws_lqFlash.calls k _ _ t461 _ _ t457 true _ ?side1 ?side2 ?side3 ?side4 A15.out).mono ?_); (case side1 => repeat (first | exact (Kd.V_reads' HO463.out).2.2 | (with_reducible refine Kd.C_alloc ?_ _) | (with_reducible refine Kd.C_drewN ?_ _) | (with_reducible refine Kd.C_drew ?_))); (case side2 => exact (Kd.V_reads' HO463.out).2.1); (case side3 => repeat (first | exact (Kd.S_reads' HO459.out).2.2 | (with_reducible refine Kd.C_alloc ?_ _) | (with_reducible refine Kd.C_drewN ?_ _) | (with_reducible refine Kd.C_drew ?_))); (case side4 => exact (Kd.S_reads' HO459.out).2.1); rintro e w' ⟨rfl, ⟨nd, rfl⟩⟩; (try first | exact ⟨rfl, _, World.drewN_drewN _ _ _⟩ | exact ⟨rfl, _, Eq.trans (World.drewN_drewN _ _ _) (congrArg (World.drewN _) (Nat.add_assoc _ _ _))⟩)) | (go_at_call 8; (with_reducible refine (spec_FlashOk.calls _ _ t447 true _ ?side1 ?side2 A17.out).mono ?_); (case side1 => repeat (first | exact (Kd.V_reads' HO449.out).2.2 | (with_reducible refine Kd.C_alloc ?_ _) | (with_reducible refine Kd.C_drewN ?_ _) | (with_reducible refine Kd.C_drew ?_))); (case side2 => exact (Kd.V_reads' HO449.out).2.1); rintro e w24 ⟨rfl, hb⟩; replace HO449 := am (Kd.V_below (by (with_reducible repeat (first | apply Kd.V_alloc | apply Kd.V_drewN | apply Kd.V_drew)); exact HO449.out) hb); replace HO459 := am (Kd.S_below (ps HO459.out) hb); replace HO463 := am (Kd.V_below (by (with_reducible repeat (first | apply Kd.V_alloc | apply Kd.V_drewN | apply Kd.V_drew)); exact HO463.out) hb); replace BK456 := am (blk_below (pb BK456.out) hb); replace HB := am (below_step (bg1 HB.out GE456.out) hb); (try clear hb); (try clear hb2); (try clear hk); (try clear hi); obtain ⟨hcz25_0, hcz25_1, hcz25_2, hcz25_3⟩ := b4 BK456.out; obtain ⟨hfz25_0, hfz25_1, hfz25_2, hfz25_3⟩ := f4 BK456.out) | (go_at_call 9; (with_reducible refine (spec_RecOk.calls t451 t452 t453 t454 true _ A19.out).mono ?_); rintro e w26 ⟨rfl, hb⟩; replace HO449 := am (Kd.V_below (by (with_reducible repeat (first | apply Kd.V_alloc | apply Kd.V_drewN | apply Kd.V_drew)); exact HO449.out) hb); replace HO459 := am (Kd.S_below (ps HO459.out) hb); replace HO463 := am (Kd.V_below (by (with_reducible repeat (first | apply Kd.V_alloc | apply Kd.V_drewN | apply Kd.V_drew)); exact HO463.out) hb); replace BK456 := am (blk_below (pb BK456.out) hb); replace HB := am (below_step (bg1 HB.out GE456.out) hb); (try clear hb); (try clear hb2); (try clear hk); (try clear hi)))
    repeat (go_quiet (first | (go_at_call 7; (with_reducible refine (laws_lqFlash.calls k _ _ t461 _ _ t457 true _ ?side1 ?side2 ?side3 ?side4 A15.out).mono ?_); (case side1 => repeat (first | exact (Kd.V_reads' HO463.out).2.2 | (with_reducible refine Kd.C_alloc ?_ _) | (with_reducible refine Kd.C_drewN ?_ _) | (with_reducible refine Kd.C_drew ?_))); (case side2 => exact (Kd.V_reads' HO463.out).2.1); (case side3 => repeat (first | exact (Kd.S_reads' HO459.out).2.2 | (with_reducible refine Kd.C_alloc ?_ _) | (with_reducible refine Kd.C_drewN ?_ _) | (with_reducible refine Kd.C_drew ?_))); (case side4 => exact (Kd.S_reads' HO459.out).2.1); rintro e w' ⟨rfl, ⟨nd, rfl⟩⟩; (try first | exact ⟨rfl, _, World.drewN_drewN _ _ _⟩ | exact ⟨rfl, _, Eq.trans (World.drewN_drewN _ _ _) (congrArg (World.drewN _) (Nat.add_assoc _ _ _))⟩)) | (go_at_call 8; (with_reducible refine (spec_FlashOk.calls _ _ t447 true _ ?side1 ?side2 A17.out).mono ?_); (case side1 => repeat (first | exact (Kd.V_reads' HO449.out).2.2 | (with_reducible refine Kd.C_alloc ?_ _) | (with_reducible refine Kd.C_drewN ?_ _) | (with_reducible refine Kd.C_drew ?_))); (case side2 => exact (Kd.V_reads' HO449.out).2.1); rintro e w24 ⟨rfl, hb⟩; replace HO449 := am (Kd.V_below (by (with_reducible repeat (first | apply Kd.V_alloc | apply Kd.V_drewN | apply Kd.V_drew)); exact HO449.out) hb); replace HO459 := am (Kd.S_below (ps HO459.out) hb); replace HO463 := am (Kd.V_below (by (with_reducible repeat (first | apply Kd.V_alloc | apply Kd.V_drewN | apply Kd.V_drew)); exact HO463.out) hb); replace BK456 := am (blk_below (pb BK456.out) hb); replace HB := am (below_step (bg1 HB.out GE456.out) hb); (try clear hb); (try clear hb2); (try clear hk); (try clear hi); obtain ⟨hcz25_0, hcz25_1, hcz25_2, hcz25_3⟩ := b4 BK456.out; obtain ⟨hfz25_0, hfz25_1, hfz25_2, hfz25_3⟩ := f4 BK456.out) | (go_at_call 9; (with_reducible refine (spec_RecOk.calls t451 t452 t453 t454 true _ A19.out).mono ?_); rintro e w26 ⟨rfl, hb⟩; replace HO449 := am (Kd.V_below (by (with_reducible repeat (first | apply Kd.V_alloc | apply Kd.V_drewN | apply Kd.V_drew)); exact HO449.out) hb); replace HO459 := am (Kd.S_below (ps HO459.out) hb); replace HO463 := am (Kd.V_below (by (with_reducible repeat (first | apply Kd.V_alloc | apply Kd.V_drewN | apply Kd.V_drew)); exact HO463.out) hb); replace BK456 := am (blk_below (pb BK456.out) hb); replace HB := am (below_step (bg1 HB.out GE456.out) hb); (try clear hb); (try clear hb2); (try clear hk); (try clear hi))); try go_wp2_with (first | (go_at_call 7; (with_reducible refine (laws_lqFlash.calls k _ _ t461 _ _ t457 true _ ?side1 ?side2 ?side3 ?side4 A15.out).mono ?_); (case side1 => repeat (first | exact (Kd.V_reads' HO463.out).2.2 | (with_reducible refine Kd.C_alloc ?_ _) | (with_reducible refine Kd.C_drewN ?_ _) | (with_reducible refine Kd.C_drew ?_))); (case side2 => exact (Kd.V_reads' HO463.out).2.1); (case side3 => repeat (first | exact (Kd.S_reads' HO459.out).2.2 | (with_reducible refine Kd.C_alloc ?_ _) | (with_reducible refine Kd.C_drewN ?_ _) | (with_reducible refine Kd.C_drew ?_))); (case side4 => exact (Kd.S_reads' HO459.out).2.1); rintro e w' ⟨rfl, ⟨nd, rfl⟩⟩; (try first | exact ⟨rfl, _, World.drewN_drewN _ _ _⟩ | exact ⟨rfl, _, Eq.trans (World.drewN_drewN _ _ _) (congrArg (World.drewN _) (Nat.add_assoc _ _ _))⟩)) | (go_at_call 8; (with_reducible refine (spec_FlashOk.calls _ _ t447 true _ ?side1 ?side2 A17.out).mono ?_); (case side1 => repeat (first | exact (Kd.V_reads' HO449.out).2.2 | (with_reducible refine Kd.C_alloc ?_ _) | (with_reducible refine Kd.C_drewN ?_ _) | (with_reducible refine Kd.C_drew ?_))); (case side2 => exact (Kd.V_reads' HO449.out).2.1); rintro e w24 ⟨rfl, hb⟩; replace HO449 := am (Kd.V_below (by (with_reducible repeat (first | apply Kd.V_alloc | apply Kd.V_drewN | apply Kd.V_drew)); exact HO449.out) hb); replace HO459 := am (Kd.S_below (ps HO459.out) hb); replace HO463 := am (Kd.V_below (by (with_reducible repeat (first | apply Kd.V_alloc | apply Kd.V_drewN | apply Kd.V_drew)); exact HO463.out) hb); replace BK456 := am (blk_below (pb BK456.out) hb); replace HB := am (below_step (bg1 HB.out GE456.out) hb); (try clear hb); (try clear hb2); (try clear hk); (try clear hi); obtain ⟨hcz25_0, hcz25_1, hcz25_2, hcz25_3⟩ := b4 BK456.out; obtain ⟨hfz25_0, hfz25_1, hfz25_2, hfz25_3⟩ := f4 BK456.out) | (go_at_call 9; (with_reducible refine (spec_RecOk.calls t451 t452 t453 t454 true _ A19.out).mono ?_); rintro e w26 ⟨rfl, hb⟩; replace HO449 := am (Kd.V_below (by (with_reducible repeat (first | apply Kd.V_alloc | apply Kd.V_drewN | apply Kd.V_drew)); exact HO449.out) hb); replace HO459 := am (Kd.S_below (ps HO459.out) hb); replace HO463 := am (Kd.V_below (by (with_reducible repeat (first | apply Kd.V_alloc | apply Kd.V_drewN | apply Kd.V_drew)); exact HO463.out) hb); replace BK456 := am (blk_below (pb BK456.out) hb); replace HB := am (below_step (bg1 HB.out GE456.out) hb); (try clear hb); (try clear hb2); (try clear hk); (try clear hi))))
    go_meet
    case rel => exact ⟨_, (true), rf, H', ⟨by first | omega | exact Nat.le_refl _⟩, ⟨by (with_reducible repeat (first | apply Kd.V_alloc | apply Kd.V_drewN | apply Kd.V_drew)); exact Kd.V_mono HO449.out (fun _ hk => ⟨hk.2, hk.1.2⟩)⟩, ⟨ps HO459.out⟩, ⟨by (with_reducible repeat (first | apply Kd.V_alloc | apply Kd.V_drewN | apply Kd.V_drew)); exact HO463.out⟩, ⟨pb BK456.out⟩, ⟨bg1 HB.out GE456.out⟩⟩
  rw [if_neg c21] at H
  have c21b0 := decide_eq_false c21
  clear c21
  have H' := am H
  clear H
  obtain ⟨Ao27, co27, eo27⟩ := Kd.V_slice HO463.out
  subst eo27
  obtain ⟨Ao28, co28, eo28⟩ := Kd.S_slice HO459.out
  subst eo28
  go_wp2_with (first | (go_at_call 7; (with_reducible refine (laws_lqFlash.calls k _ _ t461 _ _ t457 true _ ?side1 ?side2 ?side3 ?side4 A15.out).mono ?_); (case side1 => repeat (first | exact (Kd.V_reads' HO463.out).2.2 | (with_reducible refine Kd.C_alloc ?_ _) | (with_reducible refine Kd.C_drewN ?_ _) | (with_reducible refine Kd.C_drew ?_))); (case side2 => exact (Kd.V_reads' HO463.out).2.1); (case side3 => repeat (first | exact (Kd.S_reads' HO459.out).2.2 | (with_reducible refine Kd.C_alloc ?_ _) | (with_reducible refine Kd.C_drewN ?_ _) | (with_reducible refine Kd.C_drew ?_))); (case side4 => exact (Kd.S_reads' HO459.out).2.1); rintro e w' ⟨rfl, ⟨nd, rfl⟩⟩; (try first | exact ⟨rfl, _, World.drewN_drewN _ _ _⟩ | exact ⟨rfl, _, Eq.trans (World.drewN_drewN _ _ _) (congrArg (World.drewN _) (Nat.add_assoc _ _ _))⟩)) | (go_at_call 8; (with_reducible refine (spec_FlashOk.calls _ _ t447 true _ ?side1 ?side2 A17.out).mono ?_); (case side1 => repeat (first | exact (Kd.V_reads' HO449.out).2.2 | (with_reducible refine Kd.C_alloc ?_ _) | (with_reducible refine Kd.C_drewN ?_ _) | (with_reducible refine Kd.C_drew ?_))); (case side2 => exact (Kd.V_reads' HO449.out).2.1); rintro e w29 ⟨rfl, hb⟩; replace HO449 := am (Kd.V_below (by (with_reducible repeat (first | apply Kd.V_alloc | apply Kd.V_drewN | apply Kd.V_drew)); exact HO449.out) hb); replace HO459 := am (Kd.S_below (ps HO459.out) hb); replace HO463 := am (Kd.V_below (by (with_reducible repeat (first | apply Kd.V_alloc | apply Kd.V_drewN | apply Kd.V_drew)); exact HO463.out) hb); replace BK456 := am (blk_below (pb BK456.out) hb); replace HB := am (below_step (bg1 HB.out GE456.out) hb); (try clear hb); (try clear hb2); (try clear hk); (try clear hi); obtain ⟨hcz30_0, hcz30_1, hcz30_2, hcz30_3⟩ := b4 BK456.out; obtain ⟨hfz30_0, hfz30_1, hfz30_2, hfz30_3⟩ := f4 BK456.out) | (go_at_call 9; (with_reducible refine (spec_RecOk.calls t451 t452 t453 t454 true _ A19.out).mono ?_); rintro e w31 ⟨rfl, hb⟩; replace HO449 := am (Kd.V_below (by (with_reducible repeat (first | apply Kd.V_alloc | apply Kd.V_drewN | apply Kd.V_drew)); exact HO449.out) hb); replace HO459 := am (Kd.S_below (ps HO459.out) hb); replace HO463 := am (Kd.V_below (by (with_reducible repeat (first | apply Kd.V_alloc | apply Kd.V_drewN | apply Kd.V_drew)); exact HO463.out) hb); replace BK456 := am (blk_below (pb BK456.out) hb); replace HB := am (below_step (bg1 HB.out GE456.out) hb); (try clear hb); (try clear hb2); (try clear hk); (try clear hi)))
  repeat (go_quiet (first | (go_at_call 7; (with_reducible refine (laws_lqFlash.calls k _ _ t461 _ _ t457 true _ ?side1 ?side2 ?side3 ?side4 A15.out).mono ?_); (case side1 => repeat (first | exact (Kd.V_reads' HO463.out).2.2 | (with_reducible refine Kd.C_alloc ?_ _) | (with_reducible refine Kd.C_drewN ?_ _) | (with_reducible refine Kd.C_drew ?_))); (case side2 => exact (Kd.V_reads' HO463.out).2.1); (case side3 => repeat (first | exact (Kd.S_reads' HO459.out).2.2 | (with_reducible refine Kd.C_alloc ?_ _) | (with_reducible refine Kd.C_drewN ?_ _) | (with_reducible refine Kd.C_drew ?_))); (case side4 => exact (Kd.S_reads' HO459.out).2.1); rintro e w' ⟨rfl, ⟨nd, rfl⟩⟩; (try first | exact ⟨rfl, _, World.drewN_drewN _ _ _⟩ | exact ⟨rfl, _, Eq.trans (World.drewN_drewN _ _ _) (congrArg (World.drewN _) (Nat.add_assoc _ _ _))⟩)) | (go_at_call 8; (with_reducible refine (spec_FlashOk.calls _ _ t447 true _ ?side1 ?side2 A17.out).mono ?_); (case side1 => repeat (first | exact (Kd.V_reads' HO449.out).2.2 | (with_reducible refine Kd.C_alloc ?_ _) | (with_reducible refine Kd.C_drewN ?_ _) | (with_reducible refine Kd.C_drew ?_))); (case side2 => exact (Kd.V_reads' HO449.out).2.1); rintro e w29 ⟨rfl, hb⟩; replace HO449 := am (Kd.V_below (by (with_reducible repeat (first | apply Kd.V_alloc | apply Kd.V_drewN | apply Kd.V_drew)); exact HO449.out) hb); replace HO459 := am (Kd.S_below (ps HO459.out) hb); replace HO463 := am (Kd.V_below (by (with_reducible repeat (first | apply Kd.V_alloc | apply Kd.V_drewN | apply Kd.V_drew)); exact HO463.out) hb); replace BK456 := am (blk_below (pb BK456.out) hb); replace HB := am (below_step (bg1 HB.out GE456.out) hb); (try clear hb); (try clear hb2); (try clear hk); (try clear hi); obtain ⟨hcz30_0, hcz30_1, hcz30_2, hcz30_3⟩ := b4 BK456.out; obtain ⟨hfz30_0, hfz30_1, hfz30_2, hfz30_3⟩ := f4 BK456.out) | (go_at_call 9; (with_reducible refine (spec_RecOk.calls t451 t452 t453 t454 true _ A19.out).mono ?_); rintro e w31 ⟨rfl, hb⟩; replace HO449 := am (Kd.V_below (by (with_reducible repeat (first | apply Kd.V_alloc | apply Kd.V_drewN | apply Kd.V_drew)); exact HO449.out) hb); replace HO459 := am (Kd.S_below (ps HO459.out) hb); replace HO463 := am (Kd.V_below (by (with_reducible repeat (first | apply Kd.V_alloc | apply Kd.V_drewN | apply Kd.V_drew)); exact HO463.out) hb); replace BK456 := am (blk_below (pb BK456.out) hb); replace HB := am (below_step (bg1 HB.out GE456.out) hb); (try clear hb); (try clear hb2); (try clear hk); (try clear hi))); try go_wp2_with (first | (go_at_call 7; (with_reducible refine (laws_lqFlash.calls k _ _ t461 _ _ t457 true _ ?side1 ?side2 ?side3 ?side4 A15.out).mono ?_); (case side1 => repeat (first | exact (Kd.V_reads' HO463.out).2.2 | (with_reducible refine Kd.C_alloc ?_ _) | (with_reducible refine Kd.C_drewN ?_ _) | (with_reducible refine Kd.C_drew ?_))); (case side2 => exact (Kd.V_reads' HO463.out).2.1); (case side3 => repeat (first | exact (Kd.S_reads' HO459.out).2.2 | (with_reducible refine Kd.C_alloc ?_ _) | (with_reducible refine Kd.C_drewN ?_ _) | (with_reducible refine Kd.C_drew ?_))); (case side4 => exact (Kd.S_reads' HO459.out).2.1); rintro e w' ⟨rfl, ⟨nd, rfl⟩⟩; (try first | exact ⟨rfl, _, World.drewN_drewN _ _ _⟩ | exact ⟨rfl, _, Eq.trans (World.drewN_drewN _ _ _) (congrArg (World.drewN _) (Nat.add_assoc _ _ _))⟩)) | (go_at_call 8; (with_reducible refine (spec_FlashOk.calls _ _ t447 true _ ?side1 ?side2 A17.out).mono ?_); (case side1 => repeat (first | exact (Kd.V_reads' HO449.out).2.2 | (with_reducible refine Kd.C_alloc ?_ _) | (with_reducible refine Kd.C_drewN ?_ _) | (with_reducible refine Kd.C_drew ?_))); (case side2 => exact (Kd.V_reads' HO449.out).2.1); rintro e w29 ⟨rfl, hb⟩; replace HO449 := am (Kd.V_below (by (with_reducible repeat (first | apply Kd.V_alloc | apply Kd.V_drewN | apply Kd.V_drew)); exact HO449.out) hb); replace HO459 := am (Kd.S_below (ps HO459.out) hb); replace HO463 := am (Kd.V_below (by (with_reducible repeat (first | apply Kd.V_alloc | apply Kd.V_drewN | apply Kd.V_drew)); exact HO463.out) hb); replace BK456 := am (blk_below (pb BK456.out) hb); replace HB := am (below_step (bg1 HB.out GE456.out) hb); (try clear hb); (try clear hb2); (try clear hk); (try clear hi); obtain ⟨hcz30_0, hcz30_1, hcz30_2, hcz30_3⟩ := b4 BK456.out; obtain ⟨hfz30_0, hfz30_1, hfz30_2, hfz30_3⟩ := f4 BK456.out) | (go_at_call 9; (with_reducible refine (spec_RecOk.calls t451 t452 t453 t454 true _ A19.out).mono ?_); rintro e w31 ⟨rfl, hb⟩; replace HO449 := am (Kd.V_below (by (with_reducible repeat (first | apply Kd.V_alloc | apply Kd.V_drewN | apply Kd.V_drew)); exact HO449.out) hb); replace HO459 := am (Kd.S_below (ps HO459.out) hb); replace HO463 := am (Kd.V_below (by (with_reducible repeat (first | apply Kd.V_alloc | apply Kd.V_drewN | apply Kd.V_drew)); exact HO463.out) hb); replace BK456 := am (blk_below (pb BK456.out) hb); replace HB := am (below_step (bg1 HB.out GE456.out) hb); (try clear hb); (try clear hb2); (try clear hk); (try clear hi))))
  go_meet
  case rel => exact ⟨_, (decide (t450 ≥ 4)), rf, H', ⟨by first | omega | exact Nat.le_refl _⟩, ⟨by (with_reducible repeat (first | apply Kd.V_alloc | apply Kd.V_drewN | apply Kd.V_drew)); exact Kd.V_mono HO449.out (fun _ hk => ⟨hk.2, hk.1.2⟩)⟩, ⟨ps HO459.out⟩, ⟨by (with_reducible repeat (first | apply Kd.V_alloc | apply Kd.V_drewN | apply Kd.V_drew)); exact HO463.out⟩, ⟨pb BK456.out⟩, ⟨bg1 HB.out GE456.out⟩⟩
 case rest =>
  clear HC6
  obtain ⟨kq, x66_5, rfl, HA, HJ5, HO_3, HO_7, HO_9, BK456, HB⟩ := hcut
  cases kq with
  | zero => exact absurd HA.out (by simp [laws_FnWriteNot.j0])
  | succ kj5 =>
   have H := HA.out
   clear HA
   simp only [laws_FnWriteNot.j0] at H
   by_cases c42 : x66_5 = true
   · subst c42
     rw [if_pos rfl] at H
     by_cases c43 : (t464 == t460) = true
     rotate_left
     · rw [if_neg c43] at H
       have c43b0 : (t464 == t460) = false := by simpa using c43
       (try (have c43b1 : decide (t464 = t460) = false := by simpa using c43))
       (try (have c43b2 : (t464 == t460) = false := by simpa using c43))
       (try (have c43b3 : ¬ (t464 = t460) := by simpa using c43))
       clear c43
       obtain rfl := Option.some.inj H
       go_wp2
       repeat (go_quiet (fail); try go_wp2)
       go_ret
       exact (rq (bg1 HB.out GE456.out))
     rw [if_pos c43] at H
     have c43b0 : (t464 == t460) = true := c43
     (try (have c43b1 : decide (t464 = t460) = true := by simpa using c43))
     (try (have c43b2 : (t464 == t460) = true := by simpa using c43))
     clear c43
     replace H := Option.bind_eq_some_iff.mp H
     obtain ⟨t468, A440, H⟩ := H
     have A44 := am A440
     clear A440
     obtain rfl := Option.some.inj H
     obtain ⟨Ao45, co45, eo45⟩ := Kd.V_slice HO_9.out
     subst eo45
     obtain ⟨Ao46, co46, eo46⟩ := Kd.S_slice HO_7.out
     subst eo46
     go_wp2_with (first | (go_at_call 7; (with_reducible refine (laws_lqFlash.calls kj5 _ _ t461 _ _ t457 t468 _ ?side1 ?side2 ?side3 ?side4 A44.out).mono ?_); (case side1 => repeat (first | exact (Kd.V_reads' HO_9.out).2.2 | (with_reducible refine Kd.C_alloc ?_ _) | (with_reducible refine Kd.C_drewN ?_ _) | (with_reducible refine Kd.C_drew ?_))); (case side2 => exact (Kd.V_reads' HO_9.out).2.1); (case side3 => repeat (first | exact (Kd.S_reads' HO_7.out).2.2 | (with_reducible refine Kd.C_alloc ?_ _) | (with_reducible refine Kd.C_drewN ?_ _) | (with_reducible refine Kd.C_drew ?_))); (case side4 => exact (Kd.S_reads' HO_7.out).2.1); rintro e w' ⟨rfl, ⟨nd, rfl⟩⟩; (try first | exact ⟨rfl, _, World.drewN_drewN _ _ _⟩ | exact ⟨rfl, _, Eq.trans (World.drewN_drewN _ _ _) (congrArg (World.drewN _) (Nat.add_assoc _ _ _))⟩)))
     repeat (go_quiet (first | (go_at_call 7; (with_reducible refine (laws_lqFlash.calls kj5 _ _ t461 _ _ t457 t468 _ ?side1 ?side2 ?side3 ?side4 A44.out).mono ?_); (case side1 => repeat (first | exact (Kd.V_reads' HO_9.out).2.2 | (with_reducible refine Kd.C_alloc ?_ _) | (with_reducible refine Kd.C_drewN ?_ _) | (with_reducible refine Kd.C_drew ?_))); (case side2 => exact (Kd.V_reads' HO_9.out).2.1); (case side3 => repeat (first | exact (Kd.S_reads' HO_7.out).2.2 | (with_reducible refine Kd.C_alloc ?_ _) | (with_reducible refine Kd.C_drewN ?_ _) | (with_reducible refine Kd.C_drew ?_))); (case side4 => exact (Kd.S_reads' HO_7.out).2.1); rintro e w' ⟨rfl, ⟨nd, rfl⟩⟩; (try first | exact ⟨rfl, _, World.drewN_drewN _ _ _⟩ | exact ⟨rfl, _, Eq.trans (World.drewN_drewN _ _ _) (congrArg (World.drewN _) (Nat.add_assoc _ _ _))⟩))); try go_wp2_with (first | (go_at_call 7; (with_reducible refine (laws_lqFlash.calls kj5 _ _ t461 _ _ t457 t468 _ ?side1 ?side2 ?side3 ?side4 A44.out).mono ?_); (case side1 => repeat (first | exact (Kd.V_reads' HO_9.out).2.2 | (with_reducible refine Kd.C_alloc ?_ _) | (with_reducible refine Kd.C_drewN ?_ _) | (with_reducible refine Kd.C_drew ?_))); (case side2 => exact (Kd.V_reads' HO_9.out).2.1); (case side3 => repeat (first | exact (Kd.S_reads' HO_7.out).2.2 | (with_reducible refine Kd.C_alloc ?_ _) | (with_reducible refine Kd.C_drewN ?_ _) | (with_reducible refine Kd.C_drew ?_))); (case side4 => exact (Kd.S_reads' HO_7.out).2.1); rintro e w' ⟨rfl, ⟨nd, rfl⟩⟩; (try first | exact ⟨rfl, _, World.drewN_drewN _ _ _⟩ | exact ⟨rfl, _, Eq.trans (World.drewN_drewN _ _ _) (congrArg (World.drewN _) (Nat.add_assoc _ _ _))⟩))))
     go_ret
     exact (rq (bg1 HB.out GE456.out))
   replace c42 := Bool.eq_false_iff.mpr c42
   subst c42
   rw [if_neg (show ¬ (false = true) by decide)] at H
   have H' := am H
   clear H
   go_wp2
   repeat (go_quiet (fail); try go_wp2)
   go_loopg [11, 12] kj5 (fun kq v11 v12 w' => ∃ (x11_2 : Bool) (x12_2 : Int), v11 = .bool x11_2 ∧ v12 = .int .i64 x12_2 ∧ Aside0 (laws_FnWriteNot.l0 kq t447 t450 t461 t464 x11_2 x12_2 t451 t452 t453 t454 = some r) ∧ Aside0 (kq ≤ kj5) ∧ Aside0 (Kd.V k37 37 w' w.heap.size (fun k_ => k_ ≠ gb456) (.slice Ao10 t447.length co10) t447) ∧ Aside0 (Kd.V k37 37 w' w.heap.size (fun k_ => k_ ≠ gb456) v462 t461) ∧ Aside0 (w'.heap[gb456]? = some (.cells #[.int .i64 t451, .int .i64 t452, .int .i64 t453, .int .i64 t454] 25 (0, 0))) ∧ Aside0 (Below w.heap.size w w'))
   case atStart => exact ⟨(false), (0), rf, rf, H', ⟨Nat.le_refl _⟩, ⟨by (with_reducible repeat (first | apply Kd.V_alloc | apply Kd.V_drewN | apply Kd.V_drew)); exact Kd.V_mono HO_3.out (fun _ hk => hk.2)⟩, ⟨by (with_reducible repeat (first | apply Kd.V_alloc | apply Kd.V_drewN | apply Kd.V_drew)); exact Kd.V_mono HO_9.out (fun _ hk => hk.2)⟩, ⟨pb BK456.out⟩, ⟨bg1 HB.out GE456.out⟩⟩
   case round =>
    clear H'
    obtain ⟨x11_2, x12_2, rfl, rfl, HA, HK2, HO_3, HO_9, BK456, HB⟩ := hrel
    cases gk with
    | zero => exact absurd HA.out (by simp [laws_FnWriteNot.l0])
    | succ k2 =>
     have H := HA.out
     clear HA
     simp only [laws_FnWriteNot.l0] at H
     by_cases c47 : x12_2 < (t447.length : Int)
     · rw [if_pos c47] at H
       have c47b0 := decide_eq_true c47
       clear c47
       have H' := am H
       clear H
       go_wp2
       repeat (go_quiet (fail); try go_wp2)
       go_loopg [11, 13] k2 (fun kq v11 v13 w' => ∃ (x11_3 : Bool) (x13_3 : Int), v11 = .bool x11_3 ∧ v13 = .int .i64 x13_3 ∧ Aside0 (laws_FnWriteNot.l1 kq t447 t450 t461 t464 x11_3 x12_2 x13_3 t451 t452 t453 t454 = some r) ∧ Aside0 (kq ≤ k2) ∧ Aside0 (Kd.V k37 37 w' w.heap.size (fun k_ => k_ ≠ gb456) (.slice Ao10 t447.length co10) t447) ∧ Aside0 (Kd.V k37 37 w' w.heap.size (fun k_ => k_ ≠ gb456) v462 t461) ∧ Aside0 (w'.heap[gb456]? = some (.cells #[.int .i64 t451, .int .i64 t452, .int .i64 t453, .int .i64 t454] 25 (0, 0))) ∧ Aside0 (Below w.heap.size w w'))
       case atStart => exact ⟨(x11_2), (0), rf, rf, H', ⟨Nat.le_refl _⟩, ⟨by (with_reducible repeat (first | apply Kd.V_alloc | apply Kd.V_drewN | apply Kd.V_drew)); exact HO_3.out⟩, ⟨by (with_reducible repeat (first | apply Kd.V_alloc | apply Kd.V_drewN | apply Kd.V_drew)); exact HO_9.out⟩, ⟨pb BK456.out⟩, ⟨bg1 HB.out GE456.out⟩⟩
       case round =>
        clear H'
        obtain ⟨x11_3, x13_3, rfl, rfl, HA, HK3, HO_3, HO_9, BK456, HB⟩ := hrel
        cases gk with
        | zero => exact absurd HA.out (by simp [laws_FnWriteNot.l1])
        | succ k3 =>
         have H := HA.out
         clear HA
         simp only [laws_FnWriteNot.l1] at H
         by_cases c48 : x13_3 < 4
         rotate_left
         · rw [if_neg c48] at H
           have c48b0 := decide_eq_false c48
           clear c48
           have H' := am H
           clear H
           go_wp2
           repeat (go_quiet (fail); try go_wp2)
           go_roundg k3
           case measure => have := HJ5.out; have := HK2.out; have := HK3.out; omega
           case rel => exact ⟨(x11_3), (wrap64 (x12_2 + 1)), rf, rf, H', ⟨by have := HJ5.out; have := HK2.out; have := HK3.out; omega⟩, ⟨by (with_reducible repeat (first | apply Kd.V_alloc | apply Kd.V_drewN | apply Kd.V_drew)); exact HO_3.out⟩, ⟨by (with_reducible repeat (first | apply Kd.V_alloc | apply Kd.V_drewN | apply Kd.V_drew)); exact HO_9.out⟩, ⟨pb BK456.out⟩, ⟨bg1 HB.out GE456.out⟩⟩
         rw [if_pos c48] at H
         have c48b0 := decide_eq_true c48
         clear c48
         by_cases c49 : x11_3 = true
         · subst c49
           rw [if_pos rfl] at H
           have H' := am H
           clear H
           go_wp2
           repeat (go_quiet (fail); try go_wp2)
           go_roundg k3
           case measure => have := HJ5.out; have := HK2.out; have := HK3.out; omega
           case rel => exact ⟨(true), (wrap64 (x13_3 + 1)), rf, rf, H', ⟨by have := HJ5.out; have := HK2.out; have := HK3.out; omega⟩, ⟨by (with_reducible repeat (first | apply Kd.V_alloc | apply Kd.V_drewN | apply Kd.V_drew)); exact HO_3.out⟩, ⟨by (with_reducible repeat (first | apply Kd.V_alloc | apply Kd.V_drewN | apply Kd.V_drew)); exact HO_9.out⟩, ⟨pb BK456.out⟩, ⟨bg1 HB.out GE456.out⟩⟩
         replace c49 := Bool.eq_false_iff.mpr c49
         subst c49
         rw [if_neg (show ¬ (false = true) by decide)] at H
         by_cases c50 : 0 ≤ x12_2
         rotate_left
         · rw [if_neg c50] at H
           exact absurd H (by simp)
         rw [if_pos c50] at H
         have c50b0 := decide_eq_true c50
         clear c50
         by_cases c51 : x12_2 < (t447.length : Int)
         rotate_left
         · rw [if_neg c51] at H
           exact absurd H (by simp)
         rw [if_pos c51] at H
         have c51b0 := decide_eq_true c51
         clear c51
         by_cases c52 : 0 ≤ x13_3
         rotate_left
         · rw [if_neg c52] at H
           exact absurd H (by simp)
         rw [if_pos c52] at H
         have c52b0 := decide_eq_true c52
         clear c52
         by_cases c53 : x13_3 < (((rd_T37 t447 x12_2).f0).length : Int)
         rotate_left
         · rw [if_neg c53] at H
           exact absurd H (by simp)
         rw [if_pos c53] at H
         have c53b0 := decide_eq_true c53
         clear c53
         by_cases c54 : ((rd_T34 ((rd_T37 t447 x12_2).f0) x13_3).f0) = 1
         rotate_left
         · rw [if_neg c54] at H
           have c54b0 : (((rd_T34 ((rd_T37 t447 x12_2).f0) x13_3).f0) == 1) = false := beq_eq_false_iff_ne.mpr c54
           have c54b1 : (((rd_T34 ((rd_T37 t447 x12_2).f0) x13_3).f0) != 1) = true := bne_iff_ne.mpr c54
           have H' := am H
           clear H
           have p472 : 0 ≤ (x12_2 : Int) := ofb
           have q472 : x12_2 < (t447.length : Int) := ofb
           obtain ⟨ad472, A472_0, c472_0, e472, hx472_0, hx472_1, hl472_0, hi472_0⟩ := at_T37 (Kd.V_reads' HO_3.out).2.2 x12_2 p472 q472
           cases e472
           obtain ⟨ce472, hce472, hMe472, hcc472⟩ := Kd.V_get HO_3.out z37 x12_2 p472 (by first | exact q472 | exact ofb | (have e_ := (Kd.V_reads' HO_3.out).1; omega))
           obtain ⟨ua472_0, uc472_0, rfl, ul472_0, ge472_0⟩ := k37_openF hMe472
           have hv472_0 := hcc472 0 _ rfl
           rw [Nat.add_zero] at hv472_0
           replace hv472_0 := Option.some.inj (hv472_0.symm.trans hx472_0)
           injection hv472_0 with hva_ hvn_ hvc_
           rw [hva_] at ge472_0
           rw [hvc_] at ul472_0
           have HL472_0 := am (show Kd.V k34 34 _ w.heap.size _ _ ((rd_T37 t447 x12_2).f0) from Kd.V_mk ul472_0 ge472_0)
           clear hva_ hvn_ hvc_ ge472_0 ul472_0 hcc472 hce472
           have HR472_0 := am hi472_0
           have HC472_0 := am hl472_0
           clear hi472_0 hl472_0
           replace p472 := eq_true p472
           replace q472 := eq_true q472
           have p473 : 0 ≤ (x13_3 : Int) := ofb
           have q473 : x13_3 < (((rd_T37 t447 x12_2).f0).length : Int) := ofb
           obtain ⟨ad473, e473, hx473_0, hx473_1, hx473_2, hx473_3, hx473_4⟩ := at_T34 (by repeat (first | (with_reducible exact HR472_0.out) | (with_reducible refine Kd.C_alloc ?_ _) | (with_reducible refine Kd.C_drewN ?_ _) | (with_reducible refine Kd.C_drew ?_) | exact HR472_0.out)) x13_3 p473 q473
           cases e473
           replace p473 := eq_true p473
           replace q473 := eq_true q473
           go_wp2
           repeat (go_quiet (fail); try go_wp2)
           go_roundg k3
           case measure => have := HJ5.out; have := HK2.out; have := HK3.out; omega
           case rel => exact ⟨(false), (wrap64 (x13_3 + 1)), rf, rf, H', ⟨by have := HJ5.out; have := HK2.out; have := HK3.out; omega⟩, ⟨by (with_reducible repeat (first | apply Kd.V_alloc | apply Kd.V_drewN | apply Kd.V_drew)); exact HO_3.out⟩, ⟨by (with_reducible repeat (first | apply Kd.V_alloc | apply Kd.V_drewN | apply Kd.V_drew)); exact HO_9.out⟩, ⟨pb BK456.out⟩, ⟨bg1 HB.out GE456.out⟩⟩
         rw [if_pos c54] at H
         have c54b0 : (((rd_T34 ((rd_T37 t447 x12_2).f0) x13_3).f0) == 1) = true := beq_iff_eq.mpr c54
         have c54b1 : (((rd_T34 ((rd_T37 t447 x12_2).f0) x13_3).f0) != 1) = false := bne_eq_false_iff_eq.mpr c54
         clear c54
         have H' := am H
         clear H
         have p472 : 0 ≤ (x12_2 : Int) := ofb
         have q472 : x12_2 < (t447.length : Int) := ofb
         obtain ⟨ad472, A472_0, c472_0, e472, hx472_0, hx472_1, hl472_0, hi472_0⟩ := at_T37 (Kd.V_reads' HO_3.out).2.2 x12_2 p472 q472
         cases e472
         obtain ⟨ce472, hce472, hMe472, hcc472⟩ := Kd.V_get HO_3.out z37 x12_2 p472 (by first | exact q472 | exact ofb | (have e_ := (Kd.V_reads' HO_3.out).1; omega))
         obtain ⟨ua472_0, uc472_0, rfl, ul472_0, ge472_0⟩ := k37_openF hMe472
         have hv472_0 := hcc472 0 _ rfl
         rw [Nat.add_zero] at hv472_0
         replace hv472_0 := Option.some.inj (hv472_0.symm.trans hx472_0)
         injection hv472_0 with hva_ hvn_ hvc_
         rw [hva_] at ge472_0
         rw [hvc_] at ul472_0
         have HL472_0 := am (show Kd.V k34 34 _ w.heap.size _ _ ((rd_T37 t447 x12_2).f0) from Kd.V_mk ul472_0 ge472_0)
         clear hva_ hvn_ hvc_ ge472_0 ul472_0 hcc472 hce472
         have HR472_0 := am hi472_0
         have HC472_0 := am hl472_0
         clear hi472_0 hl472_0
         replace p472 := eq_true p472
         replace q472 := eq_true q472
         have p473 : 0 ≤ (x13_3 : Int) := ofb
         have q473 : x13_3 < (((rd_T37 t447 x12_2).f0).length : Int) := ofb
         obtain ⟨ad473, e473, hx473_0, hx473_1, hx473_2, hx473_3, hx473_4⟩ := at_T34 (by repeat (first | (with_reducible exact HR472_0.out) | (with_reducible refine Kd.C_alloc ?_ _) | (with_reducible refine Kd.C_drewN ?_ _) | (with_reducible refine Kd.C_drew ?_) | exact HR472_0.out)) x13_3 p473 q473
         cases e473
         replace p473 := eq_true p473
         replace q473 := eq_true q473
         have p474 : 0 ≤ (x12_2 : Int) := ofb
         have q474 : x12_2 < (t447.length : Int) := ofb
         obtain ⟨ad474, A474_0, c474_0, e474, hx474_0, hx474_1, hl474_0, hi474_0⟩ := at_T37 (Kd.V_reads' HO_3.out).2.2 x12_2 p474 q474
         obtain rfl : ad472 = ad474 := (by injection e474)
         obtain ⟨ce474, hce474, hMe474, hcc474⟩ := Kd.V_get HO_3.out z37 x12_2 p474 (by first | exact q474 | exact ofb | (have e_ := (Kd.V_reads' HO_3.out).1; omega))
         obtain ⟨ua474_0, uc474_0, rfl, ul474_0, ge474_0⟩ := k37_openF hMe474
         have hv474_0 := hcc474 0 _ rfl
         rw [Nat.add_zero] at hv474_0
         replace hv474_0 := Option.some.inj (hv474_0.symm.trans hx474_0)
         injection hv474_0 with hva_ hvn_ hvc_
         rw [hva_] at ge474_0
         rw [hvc_] at ul474_0
         have HL474_0 := am (show Kd.V k34 34 _ w.heap.size _ _ ((rd_T37 t447 x12_2).f0) from Kd.V_mk ul474_0 ge474_0)
         clear hva_ hvn_ hvc_ ge474_0 ul474_0 hcc474 hce474
         have HR474_0 := am hi474_0
         have HC474_0 := am hl474_0
         clear hi474_0 hl474_0
         replace p474 := eq_true p474
         replace q474 := eq_true q474
         have ea_ := Option.some.inj (hx472_0.symm.trans hx474_0)
         injection ea_ with ea_ en_ ec_
         subst ea_
         subst ec_
         clear en_
         have p475 : 0 ≤ (x13_3 : Int) := ofb
         have q475 : x13_3 < (((rd_T37 t447 x12_2).f0).length : Int) := ofb
         obtain ⟨ad475, e475, hx475_0, hx475_1, hx475_2, hx475_3, hx475_4⟩ := at_T34 (by repeat (first | (with_reducible exact HR474_0.out) | (with_reducible refine Kd.C_alloc ?_ _) | (with_reducible refine Kd.C_drewN ?_ _) | (with_reducible refine Kd.C_drew ?_) | exact HR474_0.out)) x13_3 p475 q475
         cases e475
         replace p475 := eq_true p475
         replace q475 := eq_true q475
         obtain ⟨hcz55_0, hcz55_1, hcz55_2, hcz55_3⟩ := b4 BK456.out
         obtain ⟨hfz55_0, hfz55_1, hfz55_2, hfz55_3⟩ := f4 BK456.out
         go_wp2
         repeat (go_quiet (fail); try go_wp2)
         go_roundg k3
         case measure => have := HJ5.out; have := HK2.out; have := HK3.out; omega
         case rel => exact ⟨((((rd_T34 ((rd_T37 t447 x12_2).f0) x13_3).f1.f1) == t452)), (wrap64 (x13_3 + 1)), rf, rf, H', ⟨by have := HJ5.out; have := HK2.out; have := HK3.out; omega⟩, ⟨by (with_reducible repeat (first | apply Kd.V_alloc | apply Kd.V_drewN | apply Kd.V_drew)); exact HO_3.out⟩, ⟨by (with_reducible repeat (first | apply Kd.V_alloc | apply Kd.V_drewN | apply Kd.V_drew)); exact HO_9.out⟩, ⟨pb BK456.out⟩, ⟨bg1 HB.out GE456.out⟩⟩
     rw [if_neg c47] at H
     have c47b0 := decide_eq_false c47
     clear c47
     replace H := Option.bind_eq_some_iff.mp H
     obtain ⟨t469, A560, H⟩ := H
     have A56 := am A560
     clear A560
     by_cases c57 : t469 > 0
     rotate_left
     · rw [if_neg c57] at H
       have c57b0 := decide_eq_false c57
       clear c57
       by_cases c65 : (t464 == false) = true
       rotate_left
       · rw [if_neg c65] at H
         have c65b0 : (t464 == false) = false := by simpa using c65
         (try (have c65b1 : decide (t464 = false) = false := by simpa using c65))
         (try (have c65b2 : (t464 == false) = false := by simpa using c65))
         (try (have c65b3 : ¬ (t464 = false) := by simpa using c65))
         clear c65
         obtain rfl := Option.some.inj H
         go_wp2_with (first | (go_at_call 10; (with_reducible refine (impl_FlashClean.calls k2 _ _ t447 t450 t469 _ ?side1 ?side2 A56.out).mono ?_); (case side1 => repeat (first | exact (Kd.V_reads' HO_3.out).2.2 | (with_reducible refine Kd.C_alloc ?_ _) | (with_reducible refine Kd.C_drewN ?_ _) | (with_reducible refine Kd.C_drew ?_))); (case side2 => exact (Kd.V_reads' HO_3.out).2.1); rintro e w71 ⟨rfl, hb⟩; replace HO_3 := am (Kd.V_below (by (with_reducible repeat (first | apply Kd.V_alloc | apply Kd.V_drewN | apply Kd.V_drew)); exact HO_3.out) hb); replace HO_9 := am (Kd.V_below (by (with_reducible repeat (first | apply Kd.V_alloc | apply Kd.V_drewN | apply Kd.V_drew)); exact HO_9.out) hb); replace BK456 := am (blk_below (pb BK456.out) hb); replace HB := am (below_step (bg1 HB.out GE456.out) hb); (try clear hb); (try clear hb2); (try clear hk); (try clear hi)))
         repeat (go_quiet (first | (go_at_call 10; (with_reducible refine (impl_FlashClean.calls k2 _ _ t447 t450 t469 _ ?side1 ?side2 A56.out).mono ?_); (case side1 => repeat (first | exact (Kd.V_reads' HO_3.out).2.2 | (with_reducible refine Kd.C_alloc ?_ _) | (with_reducible refine Kd.C_drewN ?_ _) | (with_reducible refine Kd.C_drew ?_))); (case side2 => exact (Kd.V_reads' HO_3.out).2.1); rintro e w71 ⟨rfl, hb⟩; replace HO_3 := am (Kd.V_below (by (with_reducible repeat (first | apply Kd.V_alloc | apply Kd.V_drewN | apply Kd.V_drew)); exact HO_3.out) hb); replace HO_9 := am (Kd.V_below (by (with_reducible repeat (first | apply Kd.V_alloc | apply Kd.V_drewN | apply Kd.V_drew)); exact HO_9.out) hb); replace BK456 := am (blk_below (pb BK456.out) hb); replace HB := am (below_step (bg1 HB.out GE456.out) hb); (try clear hb); (try clear hb2); (try clear hk); (try clear hi))); try go_wp2_with (first | (go_at_call 10; (with_reducible refine (impl_FlashClean.calls k2 _ _ t447 t450 t469 _ ?side1 ?side2 A56.out).mono ?_); (case side1 => repeat (first | exact (Kd.V_reads' HO_3.out).2.2 | (with_reducible refine Kd.C_alloc ?_ _) | (with_reducible refine Kd.C_drewN ?_ _) | (with_reducible refine Kd.C_drew ?_))); (case side2 => exact (Kd.V_reads' HO_3.out).2.1); rintro e w71 ⟨rfl, hb⟩; replace HO_3 := am (Kd.V_below (by (with_reducible repeat (first | apply Kd.V_alloc | apply Kd.V_drewN | apply Kd.V_drew)); exact HO_3.out) hb); replace HO_9 := am (Kd.V_below (by (with_reducible repeat (first | apply Kd.V_alloc | apply Kd.V_drewN | apply Kd.V_drew)); exact HO_9.out) hb); replace BK456 := am (blk_below (pb BK456.out) hb); replace HB := am (below_step (bg1 HB.out GE456.out) hb); (try clear hb); (try clear hb2); (try clear hk); (try clear hi))))
         go_ret
         exact (rq (bg1 HB.out GE456.out))
       rw [if_pos c65] at H
       have c65b0 : (t464 == false) = true := c65
       (try (have c65b1 : decide (t464 = false) = true := by simpa using c65))
       (try (have c65b2 : (t464 == false) = true := by simpa using c65))
       clear c65
       by_cases c66 : t464 = true
       · subst c66
         rw [if_pos rfl] at H
         obtain rfl := Option.some.inj H
         go_wp2_with (first | (go_at_call 10; (with_reducible refine (impl_FlashClean.calls k2 _ _ t447 t450 t469 _ ?side1 ?side2 A56.out).mono ?_); (case side1 => repeat (first | exact (Kd.V_reads' HO_3.out).2.2 | (with_reducible refine Kd.C_alloc ?_ _) | (with_reducible refine Kd.C_drewN ?_ _) | (with_reducible refine Kd.C_drew ?_))); (case side2 => exact (Kd.V_reads' HO_3.out).2.1); rintro e w67 ⟨rfl, hb⟩; replace HO_3 := am (Kd.V_below (by (with_reducible repeat (first | apply Kd.V_alloc | apply Kd.V_drewN | apply Kd.V_drew)); exact HO_3.out) hb); replace HO_9 := am (Kd.V_below (by (with_reducible repeat (first | apply Kd.V_alloc | apply Kd.V_drewN | apply Kd.V_drew)); exact HO_9.out) hb); replace BK456 := am (blk_below (pb BK456.out) hb); replace HB := am (below_step (bg1 HB.out GE456.out) hb); (try clear hb); (try clear hb2); (try clear hk); (try clear hi)))
         repeat (go_quiet (first | (go_at_call 10; (with_reducible refine (impl_FlashClean.calls k2 _ _ t447 t450 t469 _ ?side1 ?side2 A56.out).mono ?_); (case side1 => repeat (first | exact (Kd.V_reads' HO_3.out).2.2 | (with_reducible refine Kd.C_alloc ?_ _) | (with_reducible refine Kd.C_drewN ?_ _) | (with_reducible refine Kd.C_drew ?_))); (case side2 => exact (Kd.V_reads' HO_3.out).2.1); rintro e w67 ⟨rfl, hb⟩; replace HO_3 := am (Kd.V_below (by (with_reducible repeat (first | apply Kd.V_alloc | apply Kd.V_drewN | apply Kd.V_drew)); exact HO_3.out) hb); replace HO_9 := am (Kd.V_below (by (with_reducible repeat (first | apply Kd.V_alloc | apply Kd.V_drewN | apply Kd.V_drew)); exact HO_9.out) hb); replace BK456 := am (blk_below (pb BK456.out) hb); replace HB := am (below_step (bg1 HB.out GE456.out) hb); (try clear hb); (try clear hb2); (try clear hk); (try clear hi))); try go_wp2_with (first | (go_at_call 10; (with_reducible refine (impl_FlashClean.calls k2 _ _ t447 t450 t469 _ ?side1 ?side2 A56.out).mono ?_); (case side1 => repeat (first | exact (Kd.V_reads' HO_3.out).2.2 | (with_reducible refine Kd.C_alloc ?_ _) | (with_reducible refine Kd.C_drewN ?_ _) | (with_reducible refine Kd.C_drew ?_))); (case side2 => exact (Kd.V_reads' HO_3.out).2.1); rintro e w67 ⟨rfl, hb⟩; replace HO_3 := am (Kd.V_below (by (with_reducible repeat (first | apply Kd.V_alloc | apply Kd.V_drewN | apply Kd.V_drew)); exact HO_3.out) hb); replace HO_9 := am (Kd.V_below (by (with_reducible repeat (first | apply Kd.V_alloc | apply Kd.V_drewN | apply Kd.V_drew)); exact HO_9.out) hb); replace BK456 := am (blk_below (pb BK456.out) hb); replace HB := am (below_step (bg1 HB.out GE456.out) hb); (try clear hb); (try clear hb2); (try clear hk); (try clear hi))))
         go_ret
         exact (rq (bg1 HB.out GE456.out))
       replace c66 := Bool.eq_false_iff.mpr c66
       subst c66
       rw [if_neg (show ¬ (false = true) by decide)] at H
       replace H := Option.bind_eq_some_iff.mp H
       obtain ⟨t471, A680, H⟩ := H
       have A68 := am A680
       clear A680
       obtain rfl := Option.some.inj H
       go_wp2_with (first | (go_at_call 10; (with_reducible refine (impl_FlashClean.calls k2 _ _ t447 t450 t469 _ ?side1 ?side2 A56.out).mono ?_); (case side1 => repeat (first | exact (Kd.V_reads' HO_3.out).2.2 | (with_reducible refine Kd.C_alloc ?_ _) | (with_reducible refine Kd.C_drewN ?_ _) | (with_reducible refine Kd.C_drew ?_))); (case side2 => exact (Kd.V_reads' HO_3.out).2.1); rintro e w69 ⟨rfl, hb⟩; replace HO_3 := am (Kd.V_below (by (with_reducible repeat (first | apply Kd.V_alloc | apply Kd.V_drewN | apply Kd.V_drew)); exact HO_3.out) hb); replace HO_9 := am (Kd.V_below (by (with_reducible repeat (first | apply Kd.V_alloc | apply Kd.V_drewN | apply Kd.V_drew)); exact HO_9.out) hb); replace BK456 := am (blk_below (pb BK456.out) hb); replace HB := am (below_step (bg1 HB.out GE456.out) hb); (try clear hb); (try clear hb2); (try clear hk); (try clear hi); obtain ⟨Ao70, co70, eo70⟩ := Kd.V_slice HO_9.out; subst eo70) | (go_at_call 7; (with_reducible refine (laws_lqFlash.calls k2 _ _ t461 _ _ t447 t471 _ ?side1 ?side2 ?side3 ?side4 A68.out).mono ?_); (case side1 => repeat (first | exact (Kd.V_reads' HO_9.out).2.2 | (with_reducible refine Kd.C_alloc ?_ _) | (with_reducible refine Kd.C_drewN ?_ _) | (with_reducible refine Kd.C_drew ?_))); (case side2 => exact (Kd.V_reads' HO_9.out).2.1); (case side3 => repeat (first | exact (Kd.V_reads' HO_3.out).2.2 | (with_reducible refine Kd.C_alloc ?_ _) | (with_reducible refine Kd.C_drewN ?_ _) | (with_reducible refine Kd.C_drew ?_))); (case side4 => exact (Kd.V_reads' HO_3.out).2.1); rintro e w' ⟨rfl, ⟨nd, rfl⟩⟩; (try first | exact ⟨rfl, _, World.drewN_drewN _ _ _⟩ | exact ⟨rfl, _, Eq.trans (World.drewN_drewN _ _ _) (congrArg (World.drewN _) (Nat.add_assoc _ _ _))⟩)))
       repeat (go_quiet (first | (go_at_call 10; (with_reducible refine (impl_FlashClean.calls k2 _ _ t447 t450 t469 _ ?side1 ?side2 A56.out).mono ?_); (case side1 => repeat (first | exact (Kd.V_reads' HO_3.out).2.2 | (with_reducible refine Kd.C_alloc ?_ _) | (with_reducible refine Kd.C_drewN ?_ _) | (with_reducible refine Kd.C_drew ?_))); (case side2 => exact (Kd.V_reads' HO_3.out).2.1); rintro e w69 ⟨rfl, hb⟩; replace HO_3 := am (Kd.V_below (by (with_reducible repeat (first | apply Kd.V_alloc | apply Kd.V_drewN | apply Kd.V_drew)); exact HO_3.out) hb); replace HO_9 := am (Kd.V_below (by (with_reducible repeat (first | apply Kd.V_alloc | apply Kd.V_drewN | apply Kd.V_drew)); exact HO_9.out) hb); replace BK456 := am (blk_below (pb BK456.out) hb); replace HB := am (below_step (bg1 HB.out GE456.out) hb); (try clear hb); (try clear hb2); (try clear hk); (try clear hi); obtain ⟨Ao70, co70, eo70⟩ := Kd.V_slice HO_9.out; subst eo70) | (go_at_call 7; (with_reducible refine (laws_lqFlash.calls k2 _ _ t461 _ _ t447 t471 _ ?side1 ?side2 ?side3 ?side4 A68.out).mono ?_); (case side1 => repeat (first | exact (Kd.V_reads' HO_9.out).2.2 | (with_reducible refine Kd.C_alloc ?_ _) | (with_reducible refine Kd.C_drewN ?_ _) | (with_reducible refine Kd.C_drew ?_))); (case side2 => exact (Kd.V_reads' HO_9.out).2.1); (case side3 => repeat (first | exact (Kd.V_reads' HO_3.out).2.2 | (with_reducible refine Kd.C_alloc ?_ _) | (with_reducible refine Kd.C_drewN ?_ _) | (with_reducible refine Kd.C_drew ?_))); (case side4 => exact (Kd.V_reads' HO_3.out).2.1); rintro e w' ⟨rfl, ⟨nd, rfl⟩⟩; (try first | exact ⟨rfl, _, World.drewN_drewN _ _ _⟩ | exact ⟨rfl, _, Eq.trans (World.drewN_drewN _ _ _) (congrArg (World.drewN _) (Nat.add_assoc _ _ _))⟩))); try go_wp2_with (first | (go_at_call 10; (with_reducible refine (impl_FlashClean.calls k2 _ _ t447 t450 t469 _ ?side1 ?side2 A56.out).mono ?_); (case side1 => repeat (first | exact (Kd.V_reads' HO_3.out).2.2 | (with_reducible refine Kd.C_alloc ?_ _) | (with_reducible refine Kd.C_drewN ?_ _) | (with_reducible refine Kd.C_drew ?_))); (case side2 => exact (Kd.V_reads' HO_3.out).2.1); rintro e w69 ⟨rfl, hb⟩; replace HO_3 := am (Kd.V_below (by (with_reducible repeat (first | apply Kd.V_alloc | apply Kd.V_drewN | apply Kd.V_drew)); exact HO_3.out) hb); replace HO_9 := am (Kd.V_below (by (with_reducible repeat (first | apply Kd.V_alloc | apply Kd.V_drewN | apply Kd.V_drew)); exact HO_9.out) hb); replace BK456 := am (blk_below (pb BK456.out) hb); replace HB := am (below_step (bg1 HB.out GE456.out) hb); (try clear hb); (try clear hb2); (try clear hk); (try clear hi); obtain ⟨Ao70, co70, eo70⟩ := Kd.V_slice HO_9.out; subst eo70) | (go_at_call 7; (with_reducible refine (laws_lqFlash.calls k2 _ _ t461 _ _ t447 t471 _ ?side1 ?side2 ?side3 ?side4 A68.out).mono ?_); (case side1 => repeat (first | exact (Kd.V_reads' HO_9.out).2.2 | (with_reducible refine Kd.C_alloc ?_ _) | (with_reducible refine Kd.C_drewN ?_ _) | (with_reducible refine Kd.C_drew ?_))); (case side2 => exact (Kd.V_reads' HO_9.out).2.1); (case side3 => repeat (first | exact (Kd.V_reads' HO_3.out).2.2 | (with_reducible refine Kd.C_alloc ?_ _) | (with_reducible refine Kd.C_drewN ?_ _) | (with_reducible refine Kd.C_drew ?_))); (case side4 => exact (Kd.V_reads' HO_3.out).2.1); rintro e w' ⟨rfl, ⟨nd, rfl⟩⟩; (try first | exact ⟨rfl, _, World.drewN_drewN _ _ _⟩ | exact ⟨rfl, _, Eq.trans (World.drewN_drewN _ _ _) (congrArg (World.drewN _) (Nat.add_assoc _ _ _))⟩))))
       go_ret
       exact (rq (bg1 HB.out GE456.out))
     rw [if_pos c57] at H
     have c57b0 := decide_eq_true c57
     clear c57
     by_cases c58 : (t464 == (!x11_2)) = true
     rotate_left
     · rw [if_neg c58] at H
       have c58b0 : (t464 == (!x11_2)) = false := by simpa using c58
       (try (have c58b1 : decide (t464 = (!x11_2)) = false := by simpa using c58))
       (try (have c58b2 : (t464 == (!x11_2)) = false := by simpa using c58))
       (try (have c58b3 : ¬ (t464 = (!x11_2)) := by simpa using c58))
       clear c58
       obtain rfl := Option.some.inj H
       go_wp2_with (first | (go_at_call 10; (with_reducible refine (impl_FlashClean.calls k2 _ _ t447 t450 t469 _ ?side1 ?side2 A56.out).mono ?_); (case side1 => repeat (first | exact (Kd.V_reads' HO_3.out).2.2 | (with_reducible refine Kd.C_alloc ?_ _) | (with_reducible refine Kd.C_drewN ?_ _) | (with_reducible refine Kd.C_drew ?_))); (case side2 => exact (Kd.V_reads' HO_3.out).2.1); rintro e w64 ⟨rfl, hb⟩; replace HO_3 := am (Kd.V_below (by (with_reducible repeat (first | apply Kd.V_alloc | apply Kd.V_drewN | apply Kd.V_drew)); exact HO_3.out) hb); replace HO_9 := am (Kd.V_below (by (with_reducible repeat (first | apply Kd.V_alloc | apply Kd.V_drewN | apply Kd.V_drew)); exact HO_9.out) hb); replace BK456 := am (blk_below (pb BK456.out) hb); replace HB := am (below_step (bg1 HB.out GE456.out) hb); (try clear hb); (try clear hb2); (try clear hk); (try clear hi)))
       repeat (go_quiet (first | (go_at_call 10; (with_reducible refine (impl_FlashClean.calls k2 _ _ t447 t450 t469 _ ?side1 ?side2 A56.out).mono ?_); (case side1 => repeat (first | exact (Kd.V_reads' HO_3.out).2.2 | (with_reducible refine Kd.C_alloc ?_ _) | (with_reducible refine Kd.C_drewN ?_ _) | (with_reducible refine Kd.C_drew ?_))); (case side2 => exact (Kd.V_reads' HO_3.out).2.1); rintro e w64 ⟨rfl, hb⟩; replace HO_3 := am (Kd.V_below (by (with_reducible repeat (first | apply Kd.V_alloc | apply Kd.V_drewN | apply Kd.V_drew)); exact HO_3.out) hb); replace HO_9 := am (Kd.V_below (by (with_reducible repeat (first | apply Kd.V_alloc | apply Kd.V_drewN | apply Kd.V_drew)); exact HO_9.out) hb); replace BK456 := am (blk_below (pb BK456.out) hb); replace HB := am (below_step (bg1 HB.out GE456.out) hb); (try clear hb); (try clear hb2); (try clear hk); (try clear hi))); try go_wp2_with (first | (go_at_call 10; (with_reducible refine (impl_FlashClean.calls k2 _ _ t447 t450 t469 _ ?side1 ?side2 A56.out).mono ?_); (case side1 => repeat (first | exact (Kd.V_reads' HO_3.out).2.2 | (with_reducible refine Kd.C_alloc ?_ _) | (with_reducible refine Kd.C_drewN ?_ _) | (with_reducible refine Kd.C_drew ?_))); (case side2 => exact (Kd.V_reads' HO_3.out).2.1); rintro e w64 ⟨rfl, hb⟩; replace HO_3 := am (Kd.V_below (by (with_reducible repeat (first | apply Kd.V_alloc | apply Kd.V_drewN | apply Kd.V_drew)); exact HO_3.out) hb); replace HO_9 := am (Kd.V_below (by (with_reducible repeat (first | apply Kd.V_alloc | apply Kd.V_drewN | apply Kd.V_drew)); exact HO_9.out) hb); replace BK456 := am (blk_below (pb BK456.out) hb); replace HB := am (below_step (bg1 HB.out GE456.out) hb); (try clear hb); (try clear hb2); (try clear hk); (try clear hi))))
       go_ret
       exact (rq (bg1 HB.out GE456.out))
     rw [if_pos c58] at H
     have c58b0 : (t464 == (!x11_2)) = true := c58
     (try (have c58b1 : decide (t464 = (!x11_2)) = true := by simpa using c58))
     (try (have c58b2 : (t464 == (!x11_2)) = true := by simpa using c58))
     clear c58
     by_cases c59 : t464 = true
     · subst c59
       rw [if_pos rfl] at H
       obtain rfl := Option.some.inj H
       go_wp2_with (first | (go_at_call 10; (with_reducible refine (impl_FlashClean.calls k2 _ _ t447 t450 t469 _ ?side1 ?side2 A56.out).mono ?_); (case side1 => repeat (first | exact (Kd.V_reads' HO_3.out).2.2 | (with_reducible refine Kd.C_alloc ?_ _) | (with_reducible refine Kd.C_drewN ?_ _) | (with_reducible refine Kd.C_drew ?_))); (case side2 => exact (Kd.V_reads' HO_3.out).2.1); rintro e w60 ⟨rfl, hb⟩; replace HO_3 := am (Kd.V_below (by (with_reducible repeat (first | apply Kd.V_alloc | apply Kd.V_drewN | apply Kd.V_drew)); exact HO_3.out) hb); replace HO_9 := am (Kd.V_below (by (with_reducible repeat (first | apply Kd.V_alloc | apply Kd.V_drewN | apply Kd.V_drew)); exact HO_9.out) hb); replace BK456 := am (blk_below (pb BK456.out) hb); replace HB := am (below_step (bg1 HB.out GE456.out) hb); (try clear hb); (try clear hb2); (try clear hk); (try clear hi)))
       repeat (go_quiet (first | (go_at_call 10; (with_reducible refine (impl_FlashClean.calls k2 _ _ t447 t450 t469 _ ?side1 ?side2 A56.out).mono ?_); (case side1 => repeat (first | exact (Kd.V_reads' HO_3.out).2.2 | (with_reducible refine Kd.C_alloc ?_ _) | (with_reducible refine Kd.C_drewN ?_ _) | (with_reducible refine Kd.C_drew ?_))); (case side2 => exact (Kd.V_reads' HO_3.out).2.1); rintro e w60 ⟨rfl, hb⟩; replace HO_3 := am (Kd.V_below (by (with_reducible repeat (first | apply Kd.V_alloc | apply Kd.V_drewN | apply Kd.V_drew)); exact HO_3.out) hb); replace HO_9 := am (Kd.V_below (by (with_reducible repeat (first | apply Kd.V_alloc | apply Kd.V_drewN | apply Kd.V_drew)); exact HO_9.out) hb); replace BK456 := am (blk_below (pb BK456.out) hb); replace HB := am (below_step (bg1 HB.out GE456.out) hb); (try clear hb); (try clear hb2); (try clear hk); (try clear hi))); try go_wp2_with (first | (go_at_call 10; (with_reducible refine (impl_FlashClean.calls k2 _ _ t447 t450 t469 _ ?side1 ?side2 A56.out).mono ?_); (case side1 => repeat (first | exact (Kd.V_reads' HO_3.out).2.2 | (with_reducible refine Kd.C_alloc ?_ _) | (with_reducible refine Kd.C_drewN ?_ _) | (with_reducible refine Kd.C_drew ?_))); (case side2 => exact (Kd.V_reads' HO_3.out).2.1); rintro e w60 ⟨rfl, hb⟩; replace HO_3 := am (Kd.V_below (by (with_reducible repeat (first | apply Kd.V_alloc | apply Kd.V_drewN | apply Kd.V_drew)); exact HO_3.out) hb); replace HO_9 := am (Kd.V_below (by (with_reducible repeat (first | apply Kd.V_alloc | apply Kd.V_drewN | apply Kd.V_drew)); exact HO_9.out) hb); replace BK456 := am (blk_below (pb BK456.out) hb); replace HB := am (below_step (bg1 HB.out GE456.out) hb); (try clear hb); (try clear hb2); (try clear hk); (try clear hi))))
       go_ret
       exact (rq (bg1 HB.out GE456.out))
     replace c59 := Bool.eq_false_iff.mpr c59
     subst c59
     rw [if_neg (show ¬ (false = true) by decide)] at H
     replace H := Option.bind_eq_some_iff.mp H
     obtain ⟨t470, A610, H⟩ := H
     have A61 := am A610
     clear A610
     obtain rfl := Option.some.inj H
     go_wp2_with (first | (go_at_call 10; (with_reducible refine (impl_FlashClean.calls k2 _ _ t447 t450 t469 _ ?side1 ?side2 A56.out).mono ?_); (case side1 => repeat (first | exact (Kd.V_reads' HO_3.out).2.2 | (with_reducible refine Kd.C_alloc ?_ _) | (with_reducible refine Kd.C_drewN ?_ _) | (with_reducible refine Kd.C_drew ?_))); (case side2 => exact (Kd.V_reads' HO_3.out).2.1); rintro e w62 ⟨rfl, hb⟩; replace HO_3 := am (Kd.V_below (by (with_reducible repeat (first | apply Kd.V_alloc | apply Kd.V_drewN | apply Kd.V_drew)); exact HO_3.out) hb); replace HO_9 := am (Kd.V_below (by (with_reducible repeat (first | apply Kd.V_alloc | apply Kd.V_drewN | apply Kd.V_drew)); exact HO_9.out) hb); replace BK456 := am (blk_below (pb BK456.out) hb); replace HB := am (below_step (bg1 HB.out GE456.out) hb); (try clear hb); (try clear hb2); (try clear hk); (try clear hi); obtain ⟨Ao63, co63, eo63⟩ := Kd.V_slice HO_9.out; subst eo63) | (go_at_call 7; (with_reducible refine (laws_lqFlash.calls k2 _ _ t461 _ _ t447 t470 _ ?side1 ?side2 ?side3 ?side4 A61.out).mono ?_); (case side1 => repeat (first | exact (Kd.V_reads' HO_9.out).2.2 | (with_reducible refine Kd.C_alloc ?_ _) | (with_reducible refine Kd.C_drewN ?_ _) | (with_reducible refine Kd.C_drew ?_))); (case side2 => exact (Kd.V_reads' HO_9.out).2.1); (case side3 => repeat (first | exact (Kd.V_reads' HO_3.out).2.2 | (with_reducible refine Kd.C_alloc ?_ _) | (with_reducible refine Kd.C_drewN ?_ _) | (with_reducible refine Kd.C_drew ?_))); (case side4 => exact (Kd.V_reads' HO_3.out).2.1); rintro e w' ⟨rfl, ⟨nd, rfl⟩⟩; (try first | exact ⟨rfl, _, World.drewN_drewN _ _ _⟩ | exact ⟨rfl, _, Eq.trans (World.drewN_drewN _ _ _) (congrArg (World.drewN _) (Nat.add_assoc _ _ _))⟩)))
     repeat (go_quiet (first | (go_at_call 10; (with_reducible refine (impl_FlashClean.calls k2 _ _ t447 t450 t469 _ ?side1 ?side2 A56.out).mono ?_); (case side1 => repeat (first | exact (Kd.V_reads' HO_3.out).2.2 | (with_reducible refine Kd.C_alloc ?_ _) | (with_reducible refine Kd.C_drewN ?_ _) | (with_reducible refine Kd.C_drew ?_))); (case side2 => exact (Kd.V_reads' HO_3.out).2.1); rintro e w62 ⟨rfl, hb⟩; replace HO_3 := am (Kd.V_below (by (with_reducible repeat (first | apply Kd.V_alloc | apply Kd.V_drewN | apply Kd.V_drew)); exact HO_3.out) hb); replace HO_9 := am (Kd.V_below (by (with_reducible repeat (first | apply Kd.V_alloc | apply Kd.V_drewN | apply Kd.V_drew)); exact HO_9.out) hb); replace BK456 := am (blk_below (pb BK456.out) hb); replace HB := am (below_step (bg1 HB.out GE456.out) hb); (try clear hb); (try clear hb2); (try clear hk); (try clear hi); obtain ⟨Ao63, co63, eo63⟩ := Kd.V_slice HO_9.out; subst eo63) | (go_at_call 7; (with_reducible refine (laws_lqFlash.calls k2 _ _ t461 _ _ t447 t470 _ ?side1 ?side2 ?side3 ?side4 A61.out).mono ?_); (case side1 => repeat (first | exact (Kd.V_reads' HO_9.out).2.2 | (with_reducible refine Kd.C_alloc ?_ _) | (with_reducible refine Kd.C_drewN ?_ _) | (with_reducible refine Kd.C_drew ?_))); (case side2 => exact (Kd.V_reads' HO_9.out).2.1); (case side3 => repeat (first | exact (Kd.V_reads' HO_3.out).2.2 | (with_reducible refine Kd.C_alloc ?_ _) | (with_reducible refine Kd.C_drewN ?_ _) | (with_reducible refine Kd.C_drew ?_))); (case side4 => exact (Kd.V_reads' HO_3.out).2.1); rintro e w' ⟨rfl, ⟨nd, rfl⟩⟩; (try first | exact ⟨rfl, _, World.drewN_drewN _ _ _⟩ | exact ⟨rfl, _, Eq.trans (World.drewN_drewN _ _ _) (congrArg (World.drewN _) (Nat.add_assoc _ _ _))⟩))); try go_wp2_with (first | (go_at_call 10; (with_reducible refine (impl_FlashClean.calls k2 _ _ t447 t450 t469 _ ?side1 ?side2 A56.out).mono ?_); (case side1 => repeat (first | exact (Kd.V_reads' HO_3.out).2.2 | (with_reducible refine Kd.C_alloc ?_ _) | (with_reducible refine Kd.C_drewN ?_ _) | (with_reducible refine Kd.C_drew ?_))); (case side2 => exact (Kd.V_reads' HO_3.out).2.1); rintro e w62 ⟨rfl, hb⟩; replace HO_3 := am (Kd.V_below (by (with_reducible repeat (first | apply Kd.V_alloc | apply Kd.V_drewN | apply Kd.V_drew)); exact HO_3.out) hb); replace HO_9 := am (Kd.V_below (by (with_reducible repeat (first | apply Kd.V_alloc | apply Kd.V_drewN | apply Kd.V_drew)); exact HO_9.out) hb); replace BK456 := am (blk_below (pb BK456.out) hb); replace HB := am (below_step (bg1 HB.out GE456.out) hb); (try clear hb); (try clear hb2); (try clear hk); (try clear hi); obtain ⟨Ao63, co63, eo63⟩ := Kd.V_slice HO_9.out; subst eo63) | (go_at_call 7; (with_reducible refine (laws_lqFlash.calls k2 _ _ t461 _ _ t447 t470 _ ?side1 ?side2 ?side3 ?side4 A61.out).mono ?_); (case side1 => repeat (first | exact (Kd.V_reads' HO_9.out).2.2 | (with_reducible refine Kd.C_alloc ?_ _) | (with_reducible refine Kd.C_drewN ?_ _) | (with_reducible refine Kd.C_drew ?_))); (case side2 => exact (Kd.V_reads' HO_9.out).2.1); (case side3 => repeat (first | exact (Kd.V_reads' HO_3.out).2.2 | (with_reducible refine Kd.C_alloc ?_ _) | (with_reducible refine Kd.C_drewN ?_ _) | (with_reducible refine Kd.C_drew ?_))); (case side4 => exact (Kd.V_reads' HO_3.out).2.1); rintro e w' ⟨rfl, ⟨nd, rfl⟩⟩; (try first | exact ⟨rfl, _, World.drewN_drewN _ _ _⟩ | exact ⟨rfl, _, Eq.trans (World.drewN_drewN _ _ _) (congrArg (World.drewN _) (Nat.add_assoc _ _ _))⟩))))
     go_ret
     exact (rq (bg1 HB.out GE456.out))
def laws_FnWriteNot.Pure : Prop := ∀ (l0 : List Int), l0.length ≤ maxLen → l0.length * 1 ≤ 140737488351232 → (∀ x ∈ l0, (Lit.int .u8 x).wf = true) → ∃ k, laws_FnWriteNot.f k l0 = some true
theorem laws_FnWriteNot.walk (P : laws_FnWriteNot.Pure) (a0 : Option Addr) (len0 cap0 : Nat) (z0 : List Int) (w : World) (w0 : (a0 = none ∧ len0 = 0 ∧ cap0 = 0 ∧ z0 = []) ∨ ∃ x, a0 = some x ∧ len0 ≤ cap0 ∧ cap0 ≤ maxLen ∧ z0.length = cap0 ∧ (∀ i, i < z0.length → w.cell? (x.add i) = some (.int .u8 (z0.getD i 0))) ∧ ∀ n ∈ z0, (Lit.int .u8 n).wf = true) (y0 : len0 * 1 ≤ 140737488351232) :
 Calls Try.prog 3 #[.slice a0 len0 cap0] w fun e w' => e = .returned (.bool true) ∧ Below w.heap.size w w' := by
 obtain ⟨l0, rfl, hr0, hm0, hw0, hc0⟩ := ReadsInt.ofRowC w0
 obtain ⟨k, h⟩ := P l0 hm0 y0 hw0
 refine (laws_FnWriteNot.calls k _ _ l0 true w (Kd.C_of_reads (d := (0 : Int)) (h1 := fun _ => rfl) hr0) hc0 h).mono ?_
 rintro e w' ⟨rfl, hd⟩
 exact ⟨rfl, hd⟩
end Go.Proofs.Ytklmgekagoibjaa.Rv
