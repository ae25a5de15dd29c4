-- printed by wip/pp/pp.py
import Derived.Test.YthmgdljblidgjaaRw0
import Derived.Test.YthmgdljblidgjaaRw10
import Derived.Test.YthmgdljblidgjaaRw11
import Derived.Test.YthmgdljblidgjaaRw12
import Derived.Test.YthmgdljblidgjaaRw13
namespace Go.Proofs.Ythmgdljblidgjaa.Rw
open Go.RowKit Go.Proofs.YthmgdljblidgjaaW.PrintWords Go.Proofs.YthmgdljblidgjaaW.PrintLast Go.Proofs.YthmgdljblidgjaaW.PrintMore
attribute [local go_sem] max2_int min2_int max_two min_two max_three min_three max_four min_four
set_option linter.unusedVariables false
set_option linter.unusedSimpArgs false
attribute [local go_sem high] eqA33
mutual
def laws_FnWriteNext.j0 : Nat → List (S36) → Int → Bool → List (S36) → Bool → List (S36) → Bool → Bool → Int → Int → Int → Int → Option (Bool)
 | 0, _, _, _, _, _, _, _, _, _, _, _, _ => none
 | k + 1, x3, x4, x6, x7, x8, x9, x10, x53, x462000, x462001, x462002, x462003 => if x53 = true then (if (x10 == x8) = true then ((laws_lqFlash.f k x9 x7).bind fun t471 => (some t471)) else (some false)) else ((impl_FlashClean.f k x3 x4).bind fun t472 => (if 0 ≤ x4 then (if x4 < (x9.length : Int) then (if 0 ≤ (wrap64 (4 - t472)) then (if (wrap64 (4 - t472)) < (((rd_T36 x9 x4).f0).length : Int) then ((some (([] : List (S33)) : List (S33))).bind fun y476 => (if y476.length + ((rd_T36 x9 x4).f0).length < 3518437208883 then ((some (y476 ++ ((rd_T36 x9 x4).f0) : List (S33))).bind fun y480 => (if (wrap64 (4 - t472)) < (y480.length : Int) then ((laws_lqOthers.f k x9 x3 x4).bind fun t484 => (if t484 = true then (if x4 < (x3.length : Int) then ((laws_lqPages.f k (y480.set ((wrap64 (4 - t472)) : Int).toNat (⟨0, (⟨0, 0, 0, 0⟩ : S25)⟩ : S33)) ((rd_T36 x3 x4).f0)).bind fun t486 => (if t486 = true then (if ((rd_T36 x9 x4).f1) = ((rd_T36 x3 x4).f1) then ((impl_FlashClean.f k x9 x4).bind fun t489 => (laws_FnWriteNext.j1 k x6 x9 (t489 != (wrap64 (t472 - 1))) x462000 x462001 x462002 x462003 ((rd_T33 ((rd_T36 x9 x4).f0) (wrap64 (4 - t472))).f0) ((rd_T33 ((rd_T36 x9 x4).f0) (wrap64 (4 - t472))).f1.f0) ((rd_T33 ((rd_T36 x9 x4).f0) (wrap64 (4 - t472))).f1.f1) ((rd_T33 ((rd_T36 x9 x4).f0) (wrap64 (4 - t472))).f1.f2) ((rd_T33 ((rd_T36 x9 x4).f0) (wrap64 (4 - t472))).f1.f3))) else (laws_FnWriteNext.j1 k x6 x9 true x462000 x462001 x462002 x462003 ((rd_T33 ((rd_T36 x9 x4).f0) (wrap64 (4 - t472))).f0) ((rd_T33 ((rd_T36 x9 x4).f0) (wrap64 (4 - t472))).f1.f0) ((rd_T33 ((rd_T36 x9 x4).f0) (wrap64 (4 - t472))).f1.f1) ((rd_T33 ((rd_T36 x9 x4).f0) (wrap64 (4 - t472))).f1.f2) ((rd_T33 ((rd_T36 x9 x4).f0) (wrap64 (4 - t472))).f1.f3))) else (laws_FnWriteNext.j1 k x6 x9 true x462000 x462001 x462002 x462003 ((rd_T33 ((rd_T36 x9 x4).f0) (wrap64 (4 - t472))).f0) ((rd_T33 ((rd_T36 x9 x4).f0) (wrap64 (4 - t472))).f1.f0) ((rd_T33 ((rd_T36 x9 x4).f0) (wrap64 (4 - t472))).f1.f1) ((rd_T33 ((rd_T36 x9 x4).f0) (wrap64 (4 - t472))).f1.f2) ((rd_T33 ((rd_T36 x9 x4).f0) (wrap64 (4 - t472))).f1.f3)))) else (none)) else (laws_FnWriteNext.j1 k x6 x9 true x462000 x462001 x462002 x462003 ((rd_T33 ((rd_T36 x9 x4).f0) (wrap64 (4 - t472))).f0) ((rd_T33 ((rd_T36 x9 x4).f0) (wrap64 (4 - t472))).f1.f0) ((rd_T33 ((rd_T36 x9 x4).f0) (wrap64 (4 - t472))).f1.f1) ((rd_T33 ((rd_T36 x9 x4).f0) (wrap64 (4 - t472))).f1.f2) ((rd_T33 ((rd_T36 x9 x4).f0) (wrap64 (4 - t472))).f1.f3)))) else (none))) else (none))) else (none)) else (none)) else (none)) else (none)))
def laws_FnWriteNext.j1 : Nat → Bool → List (S36) → Bool → Int → Int → Int → Int → Int → Int → Int → Int → Int → Option (Bool)
 | 0, _, _, _, _, _, _, _, _, _, _, _, _ => none
 | k + 1, x6, x9, x121, x462000, x462001, x462002, x462003, x476000, x476001, x476002, x476003, x476004 => if x121 = true then (some false) else (if x6 = true then (if (x476000 == 2 && ((x476001 == 0 && (x476002 == 0 && (x476003 == 0 && (x476004 == 0)))))) = true then ((impl_FlashOk.f x9).bind fun t490 => (some t490)) else (some false)) else (if (x476000 == 1 && ((x476001 == x462000 && (x476002 == x462001 && (x476003 == x462002 && (x476004 == x462003)))))) = true then ((impl_FlashOk.f x9).bind fun t491 => (some t491)) else (some false)))
end
def laws_FnWriteNext.f (k : Nat) (l0 : List Int) : Option (Bool) := if (l0.length : Int) > 1048576 then (some true) else ((spec_DrawFlashWrite.f k l0).bind fun bt452 => ((spec_FlashWrite.f k bt452.1 bt452.2.1 bt452.2.2.1 bt452.2.2.2.1 bt452.2.2.2.2.1 bt452.2.2.2.2.2.1 bt452.2.2.2.2.2.2).bind fun bt462 => ((impl_FlashWrite.f k bt452.1 bt452.2.1 bt452.2.2.1 bt452.2.2.2.1 bt452.2.2.2.2.1 bt452.2.2.2.2.2.1 bt452.2.2.2.2.2.2).bind fun bt466 => (if (bt466.2 != bt462.2) = true then (laws_FnWriteNext.j0 k bt452.1 bt452.2.1 bt452.2.2.2.2.2.2 bt462.1 bt462.2 bt466.1 bt466.2 true bt452.2.2.1 bt452.2.2.2.1 bt452.2.2.2.2.1 bt452.2.2.2.2.2.1) else ((laws_lqFlash.f k bt466.1 bt462.1).bind fun t470 => (if t470 = true then (laws_FnWriteNext.j0 k bt452.1 bt452.2.1 bt452.2.2.2.2.2.2 bt462.1 bt462.2 bt466.1 bt466.2 (!bt466.2) bt452.2.2.1 bt452.2.2.2.1 bt452.2.2.2.2.1 bt452.2.2.2.2.2.1) else (laws_FnWriteNext.j0 k bt452.1 bt452.2.1 bt452.2.2.2.2.2.2 bt462.1 bt462.2 bt466.1 bt466.2 true bt452.2.2.1 bt452.2.2.2.1 bt452.2.2.2.2.1 bt452.2.2.2.2.2.1)))))))
theorem laws_FnWriteNext.mono_l : ∀ k, (∀ y0 y1 y2 y3 y4 y5 y6 y7 y8 y9 y10 y11, LeO (laws_FnWriteNext.j0 k y0 y1 y2 y3 y4 y5 y6 y7 y8 y9 y10 y11) (laws_FnWriteNext.j0 (k + 1) y0 y1 y2 y3 y4 y5 y6 y7 y8 y9 y10 y11)) ∧ (∀ y0 y1 y2 y3 y4 y5 y6 y7 y8 y9 y10 y11, LeO (laws_FnWriteNext.j1 k y0 y1 y2 y3 y4 y5 y6 y7 y8 y9 y10 y11) (laws_FnWriteNext.j1 (k + 1) y0 y1 y2 y3 y4 y5 y6 y7 y8 y9 y10 y11))
 | 0 => ⟨fun _ _ _ _ _ _ _ _ _ _ _ _ r h => by simp [laws_FnWriteNext.j0] at h, fun _ _ _ _ _ _ _ _ _ _ _ _ r h => by simp [laws_FnWriteNext.j1] at h⟩
 | k + 1 => by
  obtain ⟨ih0, ih1⟩ := laws_FnWriteNext.mono_l k
  refine ⟨?_, ?_⟩
  · intro y0 y1 y2 y3 y4 y5 y6 y7 y8 y9 y10 y11
    unfold laws_FnWriteNext.j0
    with_reducible repeat' first | exact ih0 _ _ _ _ _ _ _ _ _ _ _ _ | exact ih1 _ _ _ _ _ _ _ _ _ _ _ _ | exact impl_FlashClean.mono _ _ _ | exact impl_FlashWrite.mono _ _ _ _ _ _ _ _ | exact laws_lqFlash.mono _ _ _ | exact laws_lqOthers.mono _ _ _ _ | exact laws_lqPages.mono _ _ _ | exact spec_DrawFlashWrite.mono _ _ | exact spec_FlashWrite.mono _ _ _ _ _ _ _ _ | exact LeO.refl _ | exact LeO.none _ | refine LeO.ite ?_ ?_ | refine LeO.bind ?_ (fun _ => ?_)
  · intro y0 y1 y2 y3 y4 y5 y6 y7 y8 y9 y10 y11
    unfold laws_FnWriteNext.j1
    with_reducible repeat' first | exact ih0 _ _ _ _ _ _ _ _ _ _ _ _ | exact ih1 _ _ _ _ _ _ _ _ _ _ _ _ | exact impl_FlashClean.mono _ _ _ | exact impl_FlashWrite.mono _ _ _ _ _ _ _ _ | exact laws_lqFlash.mono _ _ _ | exact laws_lqOthers.mono _ _ _ _ | exact laws_lqPages.mono _ _ _ | exact spec_DrawFlashWrite.mono _ _ | exact spec_FlashWrite.mono _ _ _ _ _ _ _ _ | exact LeO.refl _ | exact LeO.none _ | refine LeO.ite ?_ ?_ | refine LeO.bind ?_ (fun _ => ?_)
theorem laws_FnWriteNext.mono : ∀ a0 k, LeO (laws_FnWriteNext.f k a0) (laws_FnWriteNext.f (k + 1) a0) := by
 intro a0 k
 obtain ⟨ih0, ih1⟩ := laws_FnWriteNext.mono_l k
 unfold laws_FnWriteNext.f
 with_reducible repeat' first | exact ih0 _ _ _ _ _ _ _ _ _ _ _ _ | exact ih1 _ _ _ _ _ _ _ _ _ _ _ _ | exact impl_FlashClean.mono _ _ _ | exact impl_FlashWrite.mono _ _ _ _ _ _ _ _ | exact laws_lqFlash.mono _ _ _ | exact laws_lqOthers.mono _ _ _ _ | exact laws_lqPages.mono _ _ _ | exact spec_DrawFlashWrite.mono _ _ | exact spec_FlashWrite.mono _ _ _ _ _ _ _ _ | exact LeO.refl _ | exact LeO.none _ | refine LeO.ite ?_ ?_ | refine LeO.bind ?_ (fun _ => ?_)
def laws_FnWriteNext.T13 : Bool × List (List Nat × List Nat) := (true, [([], []), ([], []), ([], []), ([0, 1, 2], [0, 1, 2]), ([3], [3]), ([4, 3], [4]), ([5], [5]), ([5], [5]), ([5], [5]), ([7, 8, 5], [5, 7, 8]), ([9, 5], [5, 9]), ([10, 5], [5, 10]), ([6, 11, 5, 5], [5, 6, 11]), ([12, 5], [5, 12]), ([5, 13], [5, 13]), ([14, 12], [14]), ([15], [15]), ([15], [15]), ([16, 17, 15], [15, 16, 17]), ([18, 15], [15, 18]), ([19, 15], [15, 19]), ([15], [15]), ([15], [15]), ([21, 22, 15], [15, 21, 22]), ([23, 15], [15, 23]), ([24, 15], [15, 24]), ([20, 25, 15], [15, 20, 25]), ([15, 26], [15, 26]), ([27, 15], [27]), ([28], [28]), ([28], [28]), ([29, 30, 28, 28], [28, 29, 30]), ([28], [28]), ([32, 28], [28, 32]), ([31, 33, 28], [28, 31, 33]), ([28, 34], [28, 34])])
def laws_FnWriteNext.B13 : List Nat := [0, 0, 0, 7, 15, 31, 63, 63, 63, 447, 959, 1983, 4095, 8191, 16383, 32767, 65535, 65535, 262143, 524287, 1048575, 65535, 65535, 6356991, 14745599, 31522815, 67108863, 134217727, 268435455, 536870911, 536870911, 2147483647, 536870911, 4831838207, 17179869183, 34359738367]
theorem laws_FnWriteNext.tab13 : rtab .any (opsOf Try.f3 13) = laws_FnWriteNext.T13 := by kernel_rfl
theorem laws_FnWriteNext.bits13 : waitsOk laws_FnWriteNext.T13.2 laws_FnWriteNext.B13 = true := by kernel_rfl
set_option maxHeartbeats 8000000 in
set_option maxRecDepth 100000 in
theorem laws_FnWriteNext.calls (k : Nat) (A0 : Option Addr) (c0 : Nat) (l0 : List Int) (r : Bool) (w : World) (hr0 : Kd.C (Kd.int .u8) w A0 l0.length l0) (hc0 : l0.length ≤ c0) (h : laws_FnWriteNext.f k l0 = some r) :
 Calls Try.prog 3 #[.slice A0 l0.length c0] w fun e w' => e = .returned (.bool r) ∧ Below w.heap.size w w' := by
 have hu25 := Try.underlying25
 have hu33 := Try.underlying33
 have HR0 := am hr0
 have HC0 := am hc0
 clear hr0 hc0
 have HB := am (Below.refl w.heap.size w)
 have H : (if (l0.length : Int) > 1048576 then (some true) else ((spec_DrawFlashWrite.f k l0).bind fun bt452 => ((spec_FlashWrite.f k bt452.1 bt452.2.1 bt452.2.2.1 bt452.2.2.2.1 bt452.2.2.2.2.1 bt452.2.2.2.2.2.1 bt452.2.2.2.2.2.2).bind fun bt462 => ((impl_FlashWrite.f k bt452.1 bt452.2.1 bt452.2.2.1 bt452.2.2.2.1 bt452.2.2.2.2.1 bt452.2.2.2.2.2.1 bt452.2.2.2.2.2.2).bind fun bt466 => (if (bt466.2 != bt462.2) = true then (laws_FnWriteNext.j0 k bt452.1 bt452.2.1 bt452.2.2.2.2.2.2 bt462.1 bt462.2 bt466.1 bt466.2 true bt452.2.2.1 bt452.2.2.2.1 bt452.2.2.2.2.1 bt452.2.2.2.2.2.1) else ((laws_lqFlash.f k bt466.1 bt462.1).bind fun t470 => (if t470 = true then (laws_FnWriteNext.j0 k bt452.1 bt452.2.1 bt452.2.2.2.2.2.2 bt462.1 bt462.2 bt466.1 bt466.2 (!bt466.2) bt452.2.2.1 bt452.2.2.2.1 bt452.2.2.2.2.1 bt452.2.2.2.2.2.1) else (laws_FnWriteNext.j0 k bt452.1 bt452.2.1 bt452.2.2.2.2.2.2 bt462.1 bt462.2 bt466.1 bt466.2 true bt452.2.2.1 bt452.2.2.2.1 bt452.2.2.2.2.1 bt452.2.2.2.2.2.1)))))))) = some r := h
 clear h
 by_cases c2 : (l0.length : Int) > 1048576
 · rw [if_pos c2] at H
   have c2b0 := decide_eq_true c2
   have c2b1 : decide (1048576 < l0.length) = true := decide_eq_true (by omega)
   clear c2
   obtain rfl := Option.some.inj H
   go_enter Try.func3, Try.ntmps3
   go_wp2
   go_ret
   exact (rq (ph HB.out))
 rw [if_neg c2] at H
 have c2b0 := decide_eq_false c2
 have c2b1 : decide (1048576 < l0.length) = false := decide_eq_false (by omega)
 clear c2
 replace H := Option.bind_eq_some_iff.mp H
 obtain ⟨⟨t452, t455, t456, t457, t458, t459, t460⟩, A30, H⟩ := H
 have A3 := am A30
 clear A30
 replace H := Option.bind_eq_some_iff.mp H
 obtain ⟨⟨t462, t465⟩, A40, H⟩ := H
 have A4 := am A40
 clear A40
 replace H := Option.bind_eq_some_iff.mp H
 obtain ⟨⟨t466, t469⟩, A50, H⟩ := H
 have A5 := am A50
 clear A50
 have HC6 := am H
 clear H
 go_enter Try.func3, Try.ntmps3
 go_upto_region 6 with (first | (refine gl 20 Try.func4 #[.slice A0 l0.length c0] rfl ?_; (with_reducible refine (spec_DrawFlashWrite.calls k _ _ l0 t452 t455 t456 t457 t458 t459 t460 _ ?side1 ?side2 A3.out).mono ?_); (case side1 => exact pc HR0.out); (case side2 => exact HC0.out); rintro e w7 ⟨v453, rfl, ho0, hb⟩; refine ⟨_, rfl, ?_⟩; have HO454 := am (Kd.V_lower (Kd.V_mono (ok' := fun k_ => True) ho0 (fun k_ hk_ => trivial)) (below_size (ph HB.out))); replace HB := am (below_step (ph HB.out) hb); clear hb ho0) | (refine bx 5 #[.int .i64 0, .int .i64 0, .int .i64 0, .int .i64 0] 25 rfl ?_; intro gb461 hg w8 hbox hb; replace HO454 := am (Kd.V_below (Kd.V_elderB (pv HO454.out) gb461 (Nat.le_of_eq hg.symm)) hb); have BK461 := am (hbox); have GW461 := am (ge hg (ph HB.out)); have GE461 := GW461; replace HB := am (below_step (ph HB.out) hb); clear hb hbox hg; obtain ⟨hcz9_0, hcz9_1, hcz9_2, hcz9_3⟩ := b4 BK461.out; obtain ⟨hfz9_0, hfz9_1, hfz9_2, hfz9_3⟩ := f4 BK461.out; obtain ⟨Ao10, co10, eo10⟩ := Kd.V_slice HO454.out; subst eo10) | (refine gl 30 Try.func5 #[.slice Ao10 t452.length co10, .int .i64 t455, .agg #[.int .i64 t456, .int .i64 t457, .int .i64 t458, .int .i64 t459], .bool t460] rfl ?_; (with_reducible refine (spec_FlashWrite.calls k _ _ t452 t455 t456 t457 t458 t459 t460 t462 t465 _ ?side1 ?side2 A4.out).mono ?_); (case side1 => refine (Kd.V_reads' (e := 36) (base := w.heap.size) (ok := fun k_ => (True ∧ k_ ≠ gb461)) (n := t452.length) (c := co10) ?_).2.2; exact (pv ((Kd.V_mono (Kd.V_far (p := ⟨gb461, 3, none⟩) (Kd.V_far (p := ⟨gb461, 2, none⟩) (Kd.V_far (p := ⟨gb461, 1, none⟩) (Kd.V_far (p := ⟨gb461, 0, none⟩) (Kd.V_mono HO454.out (fun k_ hk => (⟨hk, hk.2⟩ : _ ∧ k_ ≠ gb461))) (fun _ hk => hk.2) (.int .i64 t456)) (fun _ hk => hk.2) (.int .i64 t457)) (fun _ hk => hk.2) (.int .i64 t458)) (fun _ hk => hk.2) (.int .i64 t459)) (fun _ h_ => h_.1))))); (case side2 => exact (Kd.V_reads' HO454.out).2.1); rintro e w11 ⟨v463, rfl, ho0, hb⟩; refine ⟨_, rfl, ?_⟩; replace HO454 := am (Kd.V_elder' (pv ((Kd.V_mono (Kd.V_far (p := ⟨gb461, 3, none⟩) (Kd.V_far (p := ⟨gb461, 2, none⟩) (Kd.V_far (p := ⟨gb461, 1, none⟩) (Kd.V_far (p := ⟨gb461, 0, none⟩) (Kd.V_mono HO454.out (fun k_ hk => (⟨hk, hk.2⟩ : _ ∧ k_ ≠ gb461))) (fun _ hk => hk.2) (.int .i64 t456)) (fun _ hk => hk.2) (.int .i64 t457)) (fun _ hk => hk.2) (.int .i64 t458)) (fun _ hk => hk.2) (.int .i64 t459)) (fun _ h_ => h_.1)))) (Kd.S_base ho0) hb); have HO464 := am (Kd.S_lower ho0 (below_size (bg1 HB.out GE461.out))); replace BK461 := am (blk_below (bp4 (pb BK461.out)) hb); replace HB := am (below_step (bg1 HB.out GE461.out) hb); clear hb ho0; obtain ⟨hcz12_0, hcz12_1, hcz12_2, hcz12_3⟩ := b4 BK461.out; obtain ⟨hfz12_0, hfz12_1, hfz12_2, hfz12_3⟩ := f4 BK461.out) | (refine gl 38 Try.func6 #[.slice Ao10 t452.length co10, .int .i64 t455, .agg #[.int .i64 t456, .int .i64 t457, .int .i64 t458, .int .i64 t459], .bool t460] rfl ?_; (with_reducible refine (impl_FlashWrite.calls k _ _ t452 t455 t456 t457 t458 t459 t460 t466 t469 _ ?side1 ?side2 A5.out).mono ?_); (case side1 => exact pc ((Kd.V_reads' HO454.out).2.2)); (case side2 => exact (Kd.V_reads' HO454.out).2.1); rintro e w13 ⟨v467, rfl, ho0, hb⟩; refine ⟨_, rfl, ?_⟩; replace HO454 := am (Kd.V_below (pv HO454.out) hb); have HO468 := am (Kd.V_lower (Kd.V_mono (ok' := fun k_ => some k_ ≠ (v463 : Value).ownBlock ∧ k_ ≠ gb461) ho0 (fun k_ hk_ => ⟨(Kd.fresh' (Kd.S_lt (ps HO464.out)) k_ hk_), (Kd.freshB (g := gb461) (o := .cells #[.int .i64 t456, .int .i64 t457, .int .i64 t458, .int .i64 t459] 25 (0, 0)) (pb BK461.out) k_ hk_)⟩)) (below_size (bg1 HB.out GE461.out))); replace HO464 := am (Kd.S_below (ps HO464.out) hb); replace BK461 := am (blk_below (pb BK461.out) hb); replace HB := am (below_step (bg1 HB.out GE461.out) hb); clear hb ho0))
 (try simp only [Act.put, List.setIfInBounds_toArray, List.set_cons_zero, List.set_cons_succ])
 go_cut [53] (fun v53 wc => ∃ (kq : Nat) (x53_5 : Bool), v53 = .bool x53_5 ∧ Aside0 (laws_FnWriteNext.j0 kq t452 t455 t460 t462 t465 t466 t469 x53_5 t456 t457 t458 t459 = some r) ∧ Aside0 (kq ≤ k) ∧ Aside0 (Kd.V k36 36 wc w.heap.size (fun k_ => some k_ ≠ (v463 : Value).ownBlock ∧ k_ ≠ gb461) (.slice Ao10 t452.length co10) t452) ∧ Aside0 (Kd.S k36 36 wc w.heap.size (fun _ => True) v463 t462) ∧ Aside0 (Kd.V k36 36 wc w.heap.size (fun k_ => some k_ ≠ (v463 : Value).ownBlock ∧ k_ ≠ gb461) v467 t466) ∧ Aside0 (wc.heap[gb461]? = some (.cells #[.int .i64 t456, .int .i64 t457, .int .i64 t458, .int .i64 t459] 25 (0, 0))) ∧ Aside0 (Below w.heap.size w wc))
 case first =>
  have H := HC6.out
  clear HC6
  by_cases c14 : (t469 != t465) = true
  · rw [if_pos c14] at H
    have c14b0 : (t469 != t465) = true := c14
    (try (have c14b1 : decide (t469 = t465) = false := by simpa using c14))
    (try (have c14b2 : (t469 == t465) = false := by simpa using c14))
    (try (have c14b3 : ¬ (t469 = t465) := by simpa using c14))
    clear c14
    (first | rw [c14b0] | (simp only [i64_w, i32_w]; rw [c14b0]) | skip)
    have H' := am H
    clear H
    go_wp2
    go_meet
    case rel => exact ⟨_, (true), rf, H', ⟨by first | omega | exact Nat.le_refl _⟩, ⟨pv (Kd.V_mono HO454.out (fun _ hk => ⟨hk.2, hk.1.2⟩))⟩, ⟨ps HO464.out⟩, ⟨pv HO468.out⟩, ⟨pb BK461.out⟩, ⟨bg1 HB.out GE461.out⟩⟩
  rw [if_neg c14] at H
  have c14b0 : (t469 != t465) = false := by simpa using c14
  (try (have c14b1 : decide (t469 = t465) = true := by simpa using c14))
  (try (have c14b2 : (t469 == t465) = true := by simpa using c14))
  clear c14
  (first | rw [c14b0] | (simp only [i64_w, i32_w]; rw [c14b0]) | skip)
  replace H := Option.bind_eq_some_iff.mp H
  obtain ⟨t470, A150, H⟩ := H
  have A15 := am A150
  clear A150
  by_cases c16 : t470 = true
  · subst c16
    rw [if_pos rfl] at H
    have H' := am H
    clear H
    obtain ⟨Ao17, co17, eo17⟩ := Kd.V_slice HO468.out
    subst eo17
    obtain ⟨Ao18, co18, eo18⟩ := Kd.S_slice HO464.out
    subst eo18
    go_wp2_with (first | (go_at_call 7; (with_reducible refine (laws_lqFlash.calls k _ _ t466 _ _ t462 true _ ?side1 ?side2 ?side3 ?side4 A15.out).mono ?_); (case side1 => exact pc ((Kd.V_reads' HO468.out).2.2)); (case side2 => exact (Kd.V_reads' HO468.out).2.1); (case side3 => exact pc ((Kd.S_reads' HO464.out).2.2)); (case side4 => exact (Kd.S_reads' HO464.out).2.1); rintro e w' ⟨rfl, ⟨nd, rfl⟩⟩))
    go_meet
    case rel => exact ⟨_, (!t469), rf, H', ⟨by first | omega | exact Nat.le_refl _⟩, ⟨pv (Kd.V_mono HO454.out (fun _ hk => ⟨hk.2, hk.1.2⟩))⟩, ⟨ps HO464.out⟩, ⟨pv HO468.out⟩, ⟨pb BK461.out⟩, ⟨bg1 HB.out GE461.out⟩⟩
  replace c16 := Bool.eq_false_iff.mpr c16
  subst c16
  rw [if_neg (show ¬ (false = true) by decide)] at H
  have H' := am H
  clear H
  obtain ⟨Ao19, co19, eo19⟩ := Kd.V_slice HO468.out
  subst eo19
  obtain ⟨Ao20, co20, eo20⟩ := Kd.S_slice HO464.out
  subst eo20
  go_wp2_with (first | (go_at_call 7; (with_reducible refine (laws_lqFlash.calls k _ _ t466 _ _ t462 false _ ?side1 ?side2 ?side3 ?side4 A15.out).mono ?_); (case side1 => exact pc ((Kd.V_reads' HO468.out).2.2)); (case side2 => exact (Kd.V_reads' HO468.out).2.1); (case side3 => exact pc ((Kd.S_reads' HO464.out).2.2)); (case side4 => exact (Kd.S_reads' HO464.out).2.1); rintro e w' ⟨rfl, ⟨nd, rfl⟩⟩))
  go_meet
  case rel => exact ⟨_, (true), rf, H', ⟨by first | omega | exact Nat.le_refl _⟩, ⟨pv (Kd.V_mono HO454.out (fun _ hk => ⟨hk.2, hk.1.2⟩))⟩, ⟨ps HO464.out⟩, ⟨pv HO468.out⟩, ⟨pb BK461.out⟩, ⟨bg1 HB.out GE461.out⟩⟩
 case rest =>
  clear HC6
  obtain ⟨kq, x53_5, rfl, HA, HJ5, HO_3, HO_7, HO_9, BK461, HB⟩ := hcut
  cases kq with
  | zero => exact absurd HA.out (by simp [laws_FnWriteNext.j0])
  | succ kj5 =>
   have H := HA.out
   clear HA
   simp only [laws_FnWriteNext.j0] at H
   by_cases c21 : x53_5 = true
   · subst c21
     rw [if_pos rfl] at H
     by_cases c22 : (t469 == t465) = true
     rotate_left
     · rw [if_neg c22] at H
       have c22b0 : (t469 == t465) = false := by simpa using c22
       (try (have c22b1 : decide (t469 = t465) = false := by simpa using c22))
       (try (have c22b2 : (t469 == t465) = false := by simpa using c22))
       (try (have c22b3 : ¬ (t469 = t465) := by simpa using c22))
       clear c22
       obtain rfl := Option.some.inj H
       go_wp2
       go_ret
       exact (rq (bg1 HB.out GE461.out))
     rw [if_pos c22] at H
     have c22b0 : (t469 == t465) = true := c22
     (try (have c22b1 : decide (t469 = t465) = true := by simpa using c22))
     (try (have c22b2 : (t469 == t465) = true := by simpa using c22))
     clear c22
     replace H := Option.bind_eq_some_iff.mp H
     obtain ⟨t471, A230, H⟩ := H
     have A23 := am A230
     clear A230
     obtain rfl := Option.some.inj H
     obtain ⟨Ao24, co24, eo24⟩ := Kd.V_slice HO_9.out
     subst eo24
     obtain ⟨Ao25, co25, eo25⟩ := Kd.S_slice HO_7.out
     subst eo25
     go_wp2_with (first | (go_at_call 7; (with_reducible refine (laws_lqFlash.calls kj5 _ _ t466 _ _ t462 t471 _ ?side1 ?side2 ?side3 ?side4 A23.out).mono ?_); (case side1 => exact pc ((Kd.V_reads' HO_9.out).2.2)); (case side2 => exact (Kd.V_reads' HO_9.out).2.1); (case side3 => exact pc ((Kd.S_reads' HO_7.out).2.2)); (case side4 => exact (Kd.S_reads' HO_7.out).2.1); rintro e w' ⟨rfl, ⟨nd, rfl⟩⟩))
     go_ret
     exact (rq (bg1 HB.out GE461.out))
   replace c21 := Bool.eq_false_iff.mpr c21
   subst c21
   rw [if_neg (show ¬ (false = true) by decide)] at H
   replace H := Option.bind_eq_some_iff.mp H
   obtain ⟨t472, A260, H⟩ := H
   have A26 := am A260
   clear A260
   obtain ⟨c27b0, H⟩ := ifd H
   obtain ⟨c28b0, H⟩ := ifd H
   obtain ⟨ji29, hji29⟩ : ∃ j_ : Int, (wrap64 (4 - t472)) = j_ := ⟨_, rfl⟩
   replace H : (if 0 ≤ (ji29) then (if (ji29) < (((rd_T36 t466 t455).f0).length : Int) then ((some (([] : List (S33)) : List (S33))).bind fun y476 => (if y476.length + ((rd_T36 t466 t455).f0).length < 3518437208883 then ((some (y476 ++ ((rd_T36 t466 t455).f0) : List (S33))).bind fun y480 => (if (ji29) < (y480.length : Int) then ((laws_lqOthers.f kj5 t466 t452 t455).bind fun t484 => (if t484 = true then (if t455 < (t452.length : Int) then ((laws_lqPages.f kj5 (y480.set ((ji29) : Int).toNat (⟨0, (⟨0, 0, 0, 0⟩ : S25)⟩ : S33)) ((rd_T36 t452 t455).f0)).bind fun t486 => (if t486 = true then (if ((rd_T36 t466 t455).f1) = ((rd_T36 t452 t455).f1) then ((impl_FlashClean.f kj5 t466 t455).bind fun t489 => (laws_FnWriteNext.j1 kj5 t460 t466 (t489 != (wrap64 (t472 - 1))) t456 t457 t458 t459 ((rd_T33 ((rd_T36 t466 t455).f0) (ji29)).f0) ((rd_T33 ((rd_T36 t466 t455).f0) (ji29)).f1.f0) ((rd_T33 ((rd_T36 t466 t455).f0) (ji29)).f1.f1) ((rd_T33 ((rd_T36 t466 t455).f0) (ji29)).f1.f2) ((rd_T33 ((rd_T36 t466 t455).f0) (ji29)).f1.f3))) else (laws_FnWriteNext.j1 kj5 t460 t466 true t456 t457 t458 t459 ((rd_T33 ((rd_T36 t466 t455).f0) (ji29)).f0) ((rd_T33 ((rd_T36 t466 t455).f0) (ji29)).f1.f0) ((rd_T33 ((rd_T36 t466 t455).f0) (ji29)).f1.f1) ((rd_T33 ((rd_T36 t466 t455).f0) (ji29)).f1.f2) ((rd_T33 ((rd_T36 t466 t455).f0) (ji29)).f1.f3))) else (laws_FnWriteNext.j1 kj5 t460 t466 true t456 t457 t458 t459 ((rd_T33 ((rd_T36 t466 t455).f0) (ji29)).f0) ((rd_T33 ((rd_T36 t466 t455).f0) (ji29)).f1.f0) ((rd_T33 ((rd_T36 t466 t455).f0) (ji29)).f1.f1) ((rd_T33 ((rd_T36 t466 t455).f0) (ji29)).f1.f2) ((rd_T33 ((rd_T36 t466 t455).f0) (ji29)).f1.f3)))) else (none)) else (laws_FnWriteNext.j1 kj5 t460 t466 true t456 t457 t458 t459 ((rd_T33 ((rd_T36 t466 t455).f0) (ji29)).f0) ((rd_T33 ((rd_T36 t466 t455).f0) (ji29)).f1.f0) ((rd_T33 ((rd_T36 t466 t455).f0) (ji29)).f1.f1) ((rd_T33 ((rd_T36 t466 t455).f0) (ji29)).f1.f2) ((rd_T33 ((rd_T36 t466 t455).f0) (ji29)).f1.f3)))) else (none))) else (none))) else (none)) else (none)) = some r := by first | (rw [hji29] at H; exact H) | (simp only [hji29] at H ⊢; exact H)
   (try rw [hji29] at A26)
   have hji29w : (IntKind.i64.wrap (4 - t472)) = ji29 := (i64_w _).trans hji29
   obtain ⟨c30b0, H⟩ := ifd H
   obtain ⟨c31b0, H⟩ := ifd H
   obtain ⟨y476, hy476⟩ : ∃ y_ : List (S33), y_ = (([] : List (S33))) := ⟨_, rfl⟩
   replace H : (if y476.length + ((rd_T36 t466 t455).f0).length < 3518437208883 then ((some (y476 ++ ((rd_T36 t466 t455).f0) : List (S33))).bind fun y480 => (if (ji29) < (y480.length : Int) then ((laws_lqOthers.f kj5 t466 t452 t455).bind fun t484 => (if t484 = true then (if t455 < (t452.length : Int) then ((laws_lqPages.f kj5 (y480.set ((ji29) : Int).toNat (⟨0, (⟨0, 0, 0, 0⟩ : S25)⟩ : S33)) ((rd_T36 t452 t455).f0)).bind fun t486 => (if t486 = true then (if ((rd_T36 t466 t455).f1) = ((rd_T36 t452 t455).f1) then ((impl_FlashClean.f kj5 t466 t455).bind fun t489 => (laws_FnWriteNext.j1 kj5 t460 t466 (t489 != (wrap64 (t472 - 1))) t456 t457 t458 t459 ((rd_T33 ((rd_T36 t466 t455).f0) (ji29)).f0) ((rd_T33 ((rd_T36 t466 t455).f0) (ji29)).f1.f0) ((rd_T33 ((rd_T36 t466 t455).f0) (ji29)).f1.f1) ((rd_T33 ((rd_T36 t466 t455).f0) (ji29)).f1.f2) ((rd_T33 ((rd_T36 t466 t455).f0) (ji29)).f1.f3))) else (laws_FnWriteNext.j1 kj5 t460 t466 true t456 t457 t458 t459 ((rd_T33 ((rd_T36 t466 t455).f0) (ji29)).f0) ((rd_T33 ((rd_T36 t466 t455).f0) (ji29)).f1.f0) ((rd_T33 ((rd_T36 t466 t455).f0) (ji29)).f1.f1) ((rd_T33 ((rd_T36 t466 t455).f0) (ji29)).f1.f2) ((rd_T33 ((rd_T36 t466 t455).f0) (ji29)).f1.f3))) else (laws_FnWriteNext.j1 kj5 t460 t466 true t456 t457 t458 t459 ((rd_T33 ((rd_T36 t466 t455).f0) (ji29)).f0) ((rd_T33 ((rd_T36 t466 t455).f0) (ji29)).f1.f0) ((rd_T33 ((rd_T36 t466 t455).f0) (ji29)).f1.f1) ((rd_T33 ((rd_T36 t466 t455).f0) (ji29)).f1.f2) ((rd_T33 ((rd_T36 t466 t455).f0) (ji29)).f1.f3)))) else (none)) else (laws_FnWriteNext.j1 kj5 t460 t466 true t456 t457 t458 t459 ((rd_T33 ((rd_T36 t466 t455).f0) (ji29)).f0) ((rd_T33 ((rd_T36 t466 t455).f0) (ji29)).f1.f0) ((rd_T33 ((rd_T36 t466 t455).f0) (ji29)).f1.f1) ((rd_T33 ((rd_T36 t466 t455).f0) (ji29)).f1.f2) ((rd_T33 ((rd_T36 t466 t455).f0) (ji29)).f1.f3)))) else (none))) else (none)) = some r := yy hy476 H
   have Ny476 := am hy476
   clear hy476
   by_cases c32 : y476.length + ((rd_T36 t466 t455).f0).length < 3518437208883
   rotate_left
   · rw [if_neg c32] at H
     exact absurd H (by simp)
   rw [if_pos c32] at H
   have LMc32 := am c32
   clear c32
   obtain ⟨y480, hy480⟩ : ∃ y_ : List (S33), y_ = (y476 ++ ((rd_T36 t466 t455).f0)) := ⟨_, rfl⟩
   replace H : (if (ji29) < (y480.length : Int) then ((laws_lqOthers.f kj5 t466 t452 t455).bind fun t484 => (if t484 = true then (if t455 < (t452.length : Int) then ((laws_lqPages.f kj5 (y480.set ((ji29) : Int).toNat (⟨0, (⟨0, 0, 0, 0⟩ : S25)⟩ : S33)) ((rd_T36 t452 t455).f0)).bind fun t486 => (if t486 = true then (if ((rd_T36 t466 t455).f1) = ((rd_T36 t452 t455).f1) then ((impl_FlashClean.f kj5 t466 t455).bind fun t489 => (laws_FnWriteNext.j1 kj5 t460 t466 (t489 != (wrap64 (t472 - 1))) t456 t457 t458 t459 ((rd_T33 ((rd_T36 t466 t455).f0) (ji29)).f0) ((rd_T33 ((rd_T36 t466 t455).f0) (ji29)).f1.f0) ((rd_T33 ((rd_T36 t466 t455).f0) (ji29)).f1.f1) ((rd_T33 ((rd_T36 t466 t455).f0) (ji29)).f1.f2) ((rd_T33 ((rd_T36 t466 t455).f0) (ji29)).f1.f3))) else (laws_FnWriteNext.j1 kj5 t460 t466 true t456 t457 t458 t459 ((rd_T33 ((rd_T36 t466 t455).f0) (ji29)).f0) ((rd_T33 ((rd_T36 t466 t455).f0) (ji29)).f1.f0) ((rd_T33 ((rd_T36 t466 t455).f0) (ji29)).f1.f1) ((rd_T33 ((rd_T36 t466 t455).f0) (ji29)).f1.f2) ((rd_T33 ((rd_T36 t466 t455).f0) (ji29)).f1.f3))) else (laws_FnWriteNext.j1 kj5 t460 t466 true t456 t457 t458 t459 ((rd_T33 ((rd_T36 t466 t455).f0) (ji29)).f0) ((rd_T33 ((rd_T36 t466 t455).f0) (ji29)).f1.f0) ((rd_T33 ((rd_T36 t466 t455).f0) (ji29)).f1.f1) ((rd_T33 ((rd_T36 t466 t455).f0) (ji29)).f1.f2) ((rd_T33 ((rd_T36 t466 t455).f0) (ji29)).f1.f3)))) else (none)) else (laws_FnWriteNext.j1 kj5 t460 t466 true t456 t457 t458 t459 ((rd_T33 ((rd_T36 t466 t455).f0) (ji29)).f0) ((rd_T33 ((rd_T36 t466 t455).f0) (ji29)).f1.f0) ((rd_T33 ((rd_T36 t466 t455).f0) (ji29)).f1.f1) ((rd_T33 ((rd_T36 t466 t455).f0) (ji29)).f1.f2) ((rd_T33 ((rd_T36 t466 t455).f0) (ji29)).f1.f3)))) else (none)) = some r := yy hy480 H
   have Ny480 := am hy480
   clear hy480
   obtain ⟨c33b0, H⟩ := ifd H
   obtain ⟨y483, hy483⟩ : ∃ y_ : List (S33), y_ = (y480.set ((ji29) : Int).toNat (⟨0, (⟨0, 0, 0, 0⟩ : S25)⟩ : S33)) := ⟨_, rfl⟩
   replace H : ((laws_lqOthers.f kj5 t466 t452 t455).bind fun t484 => (if t484 = true then (if t455 < (t452.length : Int) then ((laws_lqPages.f kj5 y483 ((rd_T36 t452 t455).f0)).bind fun t486 => (if t486 = true then (if ((rd_T36 t466 t455).f1) = ((rd_T36 t452 t455).f1) then ((impl_FlashClean.f kj5 t466 t455).bind fun t489 => (laws_FnWriteNext.j1 kj5 t460 t466 (t489 != (wrap64 (t472 - 1))) t456 t457 t458 t459 ((rd_T33 ((rd_T36 t466 t455).f0) (ji29)).f0) ((rd_T33 ((rd_T36 t466 t455).f0) (ji29)).f1.f0) ((rd_T33 ((rd_T36 t466 t455).f0) (ji29)).f1.f1) ((rd_T33 ((rd_T36 t466 t455).f0) (ji29)).f1.f2) ((rd_T33 ((rd_T36 t466 t455).f0) (ji29)).f1.f3))) else (laws_FnWriteNext.j1 kj5 t460 t466 true t456 t457 t458 t459 ((rd_T33 ((rd_T36 t466 t455).f0) (ji29)).f0) ((rd_T33 ((rd_T36 t466 t455).f0) (ji29)).f1.f0) ((rd_T33 ((rd_T36 t466 t455).f0) (ji29)).f1.f1) ((rd_T33 ((rd_T36 t466 t455).f0) (ji29)).f1.f2) ((rd_T33 ((rd_T36 t466 t455).f0) (ji29)).f1.f3))) else (laws_FnWriteNext.j1 kj5 t460 t466 true t456 t457 t458 t459 ((rd_T33 ((rd_T36 t466 t455).f0) (ji29)).f0) ((rd_T33 ((rd_T36 t466 t455).f0) (ji29)).f1.f0) ((rd_T33 ((rd_T36 t466 t455).f0) (ji29)).f1.f1) ((rd_T33 ((rd_T36 t466 t455).f0) (ji29)).f1.f2) ((rd_T33 ((rd_T36 t466 t455).f0) (ji29)).f1.f3)))) else (none)) else (laws_FnWriteNext.j1 kj5 t460 t466 true t456 t457 t458 t459 ((rd_T33 ((rd_T36 t466 t455).f0) (ji29)).f0) ((rd_T33 ((rd_T36 t466 t455).f0) (ji29)).f1.f0) ((rd_T33 ((rd_T36 t466 t455).f0) (ji29)).f1.f1) ((rd_T33 ((rd_T36 t466 t455).f0) (ji29)).f1.f2) ((rd_T33 ((rd_T36 t466 t455).f0) (ji29)).f1.f3)))) = some r := yy hy483 H
   have Ny483 := am hy483
   clear hy483
   have HC35 := am H
   clear H
   go_upto_region 13 with (first | (refine gl 64 Try.func8 #[.slice Ao10 t452.length co10, .int .i64 t455] rfl ?_; (with_reducible refine (impl_FlashClean.calls kj5 _ _ t452 t455 t472 _ ?side1 ?side2 A26.out).mono ?_); (case side1 => exact pc ((Kd.V_reads' HO_3.out).2.2)); (case side2 => exact (Kd.V_reads' HO_3.out).2.1); rintro e w36 ⟨rfl, hb⟩; refine ⟨_, rfl, ?_⟩; replace HO_3 := am (Kd.V_below (pv HO_3.out) hb); replace HO_7 := am (Kd.S_below (ps HO_7.out) hb); replace HO_9 := am (Kd.V_below (pv HO_9.out) hb); replace BK461 := am (blk_below (pb BK461.out) hb); replace HB := am (below_step (bg1 HB.out GE461.out) hb); clear hb; obtain ⟨Ao37, co37, eo37⟩ := Kd.V_slice HO_9.out; subst eo37; have p473 : 0 ≤ (t455 : Int) := ofb; have q473 : t455 < (t466.length : Int) := ofb; obtain ⟨ad473, A473_0, c473_0, e473, hx473_0, hx473_1, hl473_0, hi473_0⟩ := at_T36 (Kd.V_reads' HO_9.out).2.2 t455 p473 q473; cases e473; obtain ⟨ce473, hce473, hMe473, hcc473⟩ := Kd.V_get HO_9.out z36 t455 p473 (by first | exact q473 | exact ofb | (have e_ := (Kd.V_reads' HO_9.out).1; omega)); obtain ⟨ua473_0, uc473_0, rfl, ul473_0, ge473_0⟩ := k36_openF hMe473; have hv473_0 := hcc473 0 _ rfl; rw [Nat.add_zero] at hv473_0; replace hv473_0 := Option.some.inj (hv473_0.symm.trans hx473_0); injection hv473_0 with hva_ hvn_ hvc_; rw [hva_] at ge473_0; rw [hvc_] at ul473_0; have HL473_0 := am (show Kd.V k33 33 _ w.heap.size _ _ ((rd_T36 t466 t455).f0) from Kd.V_mk ul473_0 ge473_0); clear hva_ hvn_ hvc_ ge473_0 ul473_0; clear hcc473 hce473; have HR473_0 := am hi473_0; have HC473_0 := am hl473_0; clear hi473_0 hl473_0; replace p473 := eq_true p473; replace q473 := eq_true q473; have p474 : 0 ≤ ((ji29) : Int) := ofb; have q474 : (ji29) < (((rd_T36 t466 t455).f0).length : Int) := ofb; obtain ⟨ad474, e474, hx474_0, hx474_1, hx474_2, hx474_3, hx474_4⟩ := at_T33 HR473_0.out (ji29) p474 q474; cases e474; replace p474 := eq_true p474; replace q474 := eq_true q474) | (refine bx 13 #[.int .i64 0, .int .i64 0, .int .i64 0, .int .i64 0, .int .i64 0] 33 rfl ?_; intro gb475 hg w38 hbox hb; replace HO_3 := am (Kd.V_below (Kd.V_elderB (pv HO_3.out) gb475 (Nat.le_of_eq hg.symm)) hb); replace HO_7 := am (Kd.S_below (Kd.S_elderB (ps HO_7.out) gb475 (Nat.le_of_eq hg.symm)) hb); replace HO_9 := am (Kd.V_below (Kd.V_elderB (pv HO_9.out) gb475 (Nat.le_of_eq hg.symm)) hb); replace HL473_0 := am (Kd.V_below (Kd.V_elderB (pv HL473_0.out) gb475 (Nat.le_of_eq hg.symm)) hb); replace HR473_0 := am (Kd.C_below (pc HR473_0.out) hb); have BK475 := am (hbox); have GW475 := am (ge hg (bg1 HB.out GE461.out)); have GE475 := GW475; replace HB := am (below_step (bg1 HB.out GE461.out) hb); have NB461_475 := am (nb hg (pb BK461.out)); have NB475_461 := am (Ne.symm NB461_475.out); replace BK461 := am (blk_below (pb BK461.out) hb); clear hb hbox hg; have hnb39 := NB475_461.out; have hnc39 := NB461_475.out; obtain ⟨hcz40_0, hcz40_1, hcz40_2, hcz40_3, hcz40_4⟩ := b5 BK475.out; obtain ⟨hfz40_0, hfz40_1, hfz40_2, hfz40_3, hfz40_4⟩ := f5 BK475.out) | ((with_reducible refine gate_dst (N := 75) rfl ?_); refine Kd.R_lit k33 _ 33 ?hg (N := 75) ?hd (xs := ([] : List (S33))) (inner := []) (ok := fun _ => True) (okp := fun _ => True) ?hr ?hp (fun _ hk => hk) trivial (Below.refl _ _) (Nat.le_refl _) (by simp) ?_; (case hd => rfl); (case hg => rfl); (case hr => first | (go_simp; done) | (go_simp; rfl)); (case hp => exact (Reps.none _ _)); intro v477 w41 ho42 hb hg_ hnew_; clear hg_ hnew_; (first | rw [← Ny476.out] at ho42 | (simp only [Int.reduceToNat] at ho42; rw [← Ny476.out] at ho42)); replace HO_3 := am (Kd.V_elder' (pv ((Kd.V_mono (Kd.V_far (p := ⟨gb475, 4, none⟩) (Kd.V_far (p := ⟨gb475, 3, none⟩) (Kd.V_far (p := ⟨gb475, 2, none⟩) (Kd.V_far (p := ⟨gb475, 1, none⟩) (Kd.V_far (p := ⟨gb475, 0, none⟩) (Kd.V_mono HO_3.out (fun k_ hk => (⟨hk, hk.2⟩ : _ ∧ k_ ≠ gb475))) (fun _ hk => hk.2) (.int .i64 ((rd_T33 ((rd_T36 t466 t455).f0) (ji29)).f0))) (fun _ hk => hk.2) (.int .i64 ((rd_T33 ((rd_T36 t466 t455).f0) (ji29)).f1.f0))) (fun _ hk => hk.2) (.int .i64 ((rd_T33 ((rd_T36 t466 t455).f0) (ji29)).f1.f1))) (fun _ hk => hk.2) (.int .i64 ((rd_T33 ((rd_T36 t466 t455).f0) (ji29)).f1.f2))) (fun _ hk => hk.2) (.int .i64 ((rd_T33 ((rd_T36 t466 t455).f0) (ji29)).f1.f3))) (fun _ h_ => h_.1)))) (Kd.R_base ho42) hb); replace HO_7 := am (Kd.S_elder' (ps ((Kd.S_mono (Kd.S_far (p := ⟨gb475, 4, none⟩) (Kd.S_far (p := ⟨gb475, 3, none⟩) (Kd.S_far (p := ⟨gb475, 2, none⟩) (Kd.S_far (p := ⟨gb475, 1, none⟩) (Kd.S_far (p := ⟨gb475, 0, none⟩) (Kd.S_mono HO_7.out (fun k_ hk => (⟨hk, hk.2⟩ : _ ∧ k_ ≠ gb475))) (fun _ hk => hk.2) (.int .i64 ((rd_T33 ((rd_T36 t466 t455).f0) (ji29)).f0))) (fun _ hk => hk.2) (.int .i64 ((rd_T33 ((rd_T36 t466 t455).f0) (ji29)).f1.f0))) (fun _ hk => hk.2) (.int .i64 ((rd_T33 ((rd_T36 t466 t455).f0) (ji29)).f1.f1))) (fun _ hk => hk.2) (.int .i64 ((rd_T33 ((rd_T36 t466 t455).f0) (ji29)).f1.f2))) (fun _ hk => hk.2) (.int .i64 ((rd_T33 ((rd_T36 t466 t455).f0) (ji29)).f1.f3))) (fun _ h_ => h_.1)))) (Kd.R_base ho42) hb); replace HO_9 := am (Kd.V_elder' (pv ((Kd.V_mono (Kd.V_far (p := ⟨gb475, 4, none⟩) (Kd.V_far (p := ⟨gb475, 3, none⟩) (Kd.V_far (p := ⟨gb475, 2, none⟩) (Kd.V_far (p := ⟨gb475, 1, none⟩) (Kd.V_far (p := ⟨gb475, 0, none⟩) (Kd.V_mono HO_9.out (fun k_ hk => (⟨hk, hk.2⟩ : _ ∧ k_ ≠ gb475))) (fun _ hk => hk.2) (.int .i64 ((rd_T33 ((rd_T36 t466 t455).f0) (ji29)).f0))) (fun _ hk => hk.2) (.int .i64 ((rd_T33 ((rd_T36 t466 t455).f0) (ji29)).f1.f0))) (fun _ hk => hk.2) (.int .i64 ((rd_T33 ((rd_T36 t466 t455).f0) (ji29)).f1.f1))) (fun _ hk => hk.2) (.int .i64 ((rd_T33 ((rd_T36 t466 t455).f0) (ji29)).f1.f2))) (fun _ hk => hk.2) (.int .i64 ((rd_T33 ((rd_T36 t466 t455).f0) (ji29)).f1.f3))) (fun _ h_ => h_.1)))) (Kd.R_base ho42) hb); have HO478 := am (Kd.R_lower (Kd.R_newB ho42 (g := gb475) (o := .cells #[.int .i64 ((rd_T33 ((rd_T36 t466 t455).f0) (ji29)).f0), .int .i64 ((rd_T33 ((rd_T36 t466 t455).f0) (ji29)).f1.f0), .int .i64 ((rd_T33 ((rd_T36 t466 t455).f0) (ji29)).f1.f1), .int .i64 ((rd_T33 ((rd_T36 t466 t455).f0) (ji29)).f1.f2), .int .i64 ((rd_T33 ((rd_T36 t466 t455).f0) (ji29)).f1.f3)] 33 (0, 0)) (bp5 (pb BK475.out))) (below_size (bg2 HB.out GE461.out GE475.out))); replace BK461 := am (blk_below (bf5 (pb BK461.out) NB461_475.out) hb); replace HR473_0 := am (Kd.C_below ((Kd.V_reads' (pv ((Kd.V_mono (Kd.V_far (p := ⟨gb475, 4, none⟩) (Kd.V_far (p := ⟨gb475, 3, none⟩) (Kd.V_far (p := ⟨gb475, 2, none⟩) (Kd.V_far (p := ⟨gb475, 1, none⟩) (Kd.V_far (p := ⟨gb475, 0, none⟩) (Kd.V_mono HL473_0.out (fun k_ hk => (⟨hk, hk.2⟩ : _ ∧ k_ ≠ gb475))) (fun _ hk => hk.2) (.int .i64 ((rd_T33 ((rd_T36 t466 t455).f0) (ji29)).f0))) (fun _ hk => hk.2) (.int .i64 ((rd_T33 ((rd_T36 t466 t455).f0) (ji29)).f1.f0))) (fun _ hk => hk.2) (.int .i64 ((rd_T33 ((rd_T36 t466 t455).f0) (ji29)).f1.f1))) (fun _ hk => hk.2) (.int .i64 ((rd_T33 ((rd_T36 t466 t455).f0) (ji29)).f1.f2))) (fun _ hk => hk.2) (.int .i64 ((rd_T33 ((rd_T36 t466 t455).f0) (ji29)).f1.f3))) (fun _ h_ => h_.1))))).2.2) hb); replace HL473_0 := am (Kd.V_elder' (pv ((Kd.V_mono (Kd.V_far (p := ⟨gb475, 4, none⟩) (Kd.V_far (p := ⟨gb475, 3, none⟩) (Kd.V_far (p := ⟨gb475, 2, none⟩) (Kd.V_far (p := ⟨gb475, 1, none⟩) (Kd.V_far (p := ⟨gb475, 0, none⟩) (Kd.V_mono HL473_0.out (fun k_ hk => (⟨hk, hk.2⟩ : _ ∧ k_ ≠ gb475))) (fun _ hk => hk.2) (.int .i64 ((rd_T33 ((rd_T36 t466 t455).f0) (ji29)).f0))) (fun _ hk => hk.2) (.int .i64 ((rd_T33 ((rd_T36 t466 t455).f0) (ji29)).f1.f0))) (fun _ hk => hk.2) (.int .i64 ((rd_T33 ((rd_T36 t466 t455).f0) (ji29)).f1.f1))) (fun _ hk => hk.2) (.int .i64 ((rd_T33 ((rd_T36 t466 t455).f0) (ji29)).f1.f2))) (fun _ hk => hk.2) (.int .i64 ((rd_T33 ((rd_T36 t466 t455).f0) (ji29)).f1.f3))) (fun _ h_ => h_.1)))) (Kd.R_base ho42) hb); replace BK475 := am (blk_below (bp5 (pb BK475.out)) hb); replace HB := am (below_step (bg2 HB.out GE461.out GE475.out) hb); clear hb ho42; have p479 : 0 ≤ (t455 : Int) := ofb; have q479 : t455 < (t466.length : Int) := ofb; obtain ⟨ad479, A479_0, c479_0, e479, hx479_0, hx479_1, hl479_0, hi479_0⟩ := at_T36 (Kd.V_reads' HO_9.out).2.2 t455 p479 q479; obtain rfl : ad473 = ad479 := (by injection e479); obtain ⟨ce479, hce479, hMe479, hcc479⟩ := Kd.V_get HO_9.out z36 t455 p479 (by first | exact q479 | exact ofb | (have e_ := (Kd.V_reads' HO_9.out).1; omega)); obtain ⟨ua479_0, uc479_0, rfl, ul479_0, ge479_0⟩ := k36_openF hMe479; have hv479_0 := hcc479 0 _ rfl; rw [Nat.add_zero] at hv479_0; replace hv479_0 := Option.some.inj (hv479_0.symm.trans hx479_0); injection hv479_0 with hva_ hvn_ hvc_; rw [hva_] at ge479_0; rw [hvc_] at ul479_0; have HL479_0 := am (show Kd.V k33 33 _ w.heap.size _ _ ((rd_T36 t466 t455).f0) from Kd.V_mk ul479_0 ge479_0); clear hva_ hvn_ hvc_ ge479_0 ul479_0; clear hcc479 hce479; have HR479_0 := am hi479_0; have HC479_0 := am hl479_0; clear hi479_0 hl479_0; replace p479 := eq_true p479; replace q479 := eq_true q479) | ((with_reducible refine gate_builtin (b := .append) (xs := #[.tmp 75, .tmp 80]) rfl ?_); at_builtin; refine Kd.R_append_rows k33 (w0 := w) w.heap.size rfl (.tmp 75) (.tmp 80) 34 33 (.agg #[(.int .i64 0), (.int .i64 0), (.int .i64 0), (.int .i64 0), (.int .i64 0)]) 40 rfl Try.underlying34 info33 rfl (by decide) (by omega) v477 y476 ((rd_T36 t466 t455).f0) _ _ _ (fun k_ => k_ ≠ gb475) (fun _ => False) rfl rfl ?aO ?aR (fun _ _ h => h) (fun _ h => h.elim) ?aF ?aB ?aS ?aL ?_; (case aR => exact pc HR479_0.out); (case aB => exact (bg2 HB.out GE461.out GE475.out)); (case aF => exact (fun k_ hk => Kd.freshB (g := gb475) (o := .cells #[.int .i64 ((rd_T33 ((rd_T36 t466 t455).f0) (ji29)).f0), .int .i64 ((rd_T33 ((rd_T36 t466 t455).f0) (ji29)).f1.f0), .int .i64 ((rd_T33 ((rd_T36 t466 t455).f0) (ji29)).f1.f1), .int .i64 ((rd_T33 ((rd_T36 t466 t455).f0) (ji29)).f1.f2), .int .i64 ((rd_T33 ((rd_T36 t466 t455).f0) (ji29)).f1.f3)] 33 (0, 0)) (pb BK475.out) k_ hk)); (case aO => exact (pr (Kd.R_mono HO478.out (fun _ hk => hk.2)))); (case aS => exact (below_size (bg2 HB.out GE461.out GE475.out))); (case aL => have := LMc32.out; omega); intro v481 w43 ho hb hg hat; rw [← Ny480.out] at ho; replace HO_3 := am (Kd.V_afterv (ok := (fun k_ => some k_ ≠ (v463 : Value).ownBlock ∧ k_ ≠ gb461 ∧ k_ ≠ gb475)) (pv (Kd.V_mono HO_3.out (fun _ hk => ⟨⟨hk.1.1.1, ⟨hk.1.1.2, hk.1.2⟩⟩, hk.2⟩))) hg hat); replace HO_7 := am (Kd.S_after (ok := (fun k_ => k_ ≠ gb475)) (ps (Kd.S_mono HO_7.out (fun _ hk => ⟨hk.1.2, hk.2⟩))) hg hat); replace HO_9 := am (Kd.V_afterv (ok := (fun k_ => some k_ ≠ (v463 : Value).ownBlock ∧ k_ ≠ gb461 ∧ k_ ≠ gb475)) (pv (Kd.V_mono HO_9.out (fun _ hk => ⟨⟨hk.1.1.1, ⟨hk.1.1.2, hk.1.2⟩⟩, hk.2⟩))) hg hat); replace BK461 := am (blk_grown (g := gb461) (o := .cells #[.int .i64 t456, .int .i64 t457, .int .i64 t458, .int .i64 t459] 25 (0, 0)) (pb BK461.out) hg (Kd.R_ne HO478.out BK461.out (by decide))); replace HL473_0 := am (Kd.V_afterv (ok := (fun k_ => some k_ ≠ (v463 : Value).ownBlock ∧ k_ ≠ gb461 ∧ k_ ≠ gb475)) (pv (Kd.V_mono HL473_0.out (fun _ hk => ⟨⟨hk.1.1.1, ⟨hk.1.1.2, hk.1.2⟩⟩, hk.2⟩))) hg hat); replace BK475 := am (blk_grown (g := gb475) (o := .cells #[.int .i64 ((rd_T33 ((rd_T36 t466 t455).f0) (ji29)).f0), .int .i64 ((rd_T33 ((rd_T36 t466 t455).f0) (ji29)).f1.f0), .int .i64 ((rd_T33 ((rd_T36 t466 t455).f0) (ji29)).f1.f1), .int .i64 ((rd_T33 ((rd_T36 t466 t455).f0) (ji29)).f1.f2), .int .i64 ((rd_T33 ((rd_T36 t466 t455).f0) (ji29)).f1.f3)] 33 (0, 0)) (pb BK475.out) hg (Kd.R_away HO478.out (fun _ hk => hk.2))); replace HL479_0 := am (Kd.V_afterv (ok := (fun k_ => some k_ ≠ (v463 : Value).ownBlock ∧ k_ ≠ gb461 ∧ k_ ≠ gb475)) (pv (Kd.V_mono HL479_0.out (fun _ hk => ⟨⟨hk.1.1.1, ⟨hk.1.1.2, hk.1.2⟩⟩, hk.2⟩))) hg hat); replace HB := am (hb); have HO482 := am (ho); clear HO478; clear ho hb hg hat; have p34 : 0 ≤ ((ji29) : Int) := ofb; have q34 : ((ji29) : Int) < ((y480.length : Int) : Int) := ofb; obtain ⟨go34, co34, eo34, gb34, gl34, cl34, HG34⟩ := Kd.R_form HO482.out (by omega); (first | cases eo34 | (injection eo34 with ea_ en_ ec_; (first | subst ea_ | (injection ea_ with ea_; subst ea_)); subst ec_; clear en_)); have GB34 := am gb34; have GG34 := am HG34; clear gb34 gl34 HG34; obtain ⟨ce34, hcl34, hM34, hcc34, hfr34⟩ := Kd.R_elem HO482.out z33 ((ji29) : Int) p34 q34; obtain rfl := k33_openM hM34; have hx34_0 : w43.cell? ⟨go34, ((ji29) : Int).toNat * 5, none⟩ = some (.int .i64 ((rd_T33 y480 (ji29)).f0)) := hcc34 0 _ rfl; have hx34_1 : w43.cell? ⟨go34, ((ji29) : Int).toNat * 5 + 1, none⟩ = some (.int .i64 ((rd_T33 y480 (ji29)).f1.f0)) := hcc34 1 _ rfl; have hx34_2 : w43.cell? ⟨go34, ((ji29) : Int).toNat * 5 + 2, none⟩ = some (.int .i64 ((rd_T33 y480 (ji29)).f1.f1)) := hcc34 2 _ rfl; have hx34_3 : w43.cell? ⟨go34, ((ji29) : Int).toNat * 5 + 3, none⟩ = some (.int .i64 ((rd_T33 y480 (ji29)).f1.f2)) := hcc34 3 _ rfl; have hx34_4 : w43.cell? ⟨go34, ((ji29) : Int).toNat * 5 + 4, none⟩ = some (.int .i64 ((rd_T33 y480 (ji29)).f1.f3)) := hcc34 4 _ rfl; have hf34_0 : w43.frozen? ⟨go34, ((ji29) : Int).toNat * 5, none⟩ = false := hfr34 0; have hf34_1 : w43.frozen? ⟨go34, ((ji29) : Int).toNat * 5 + 1, none⟩ = false := hfr34 1; have hf34_2 : w43.frozen? ⟨go34, ((ji29) : Int).toNat * 5 + 2, none⟩ = false := hfr34 2; have hf34_3 : w43.frozen? ⟨go34, ((ji29) : Int).toNat * 5 + 3, none⟩ = false := hfr34 3; have hf34_4 : w43.frozen? ⟨go34, ((ji29) : Int).toNat * 5 + 4, none⟩ = false := hfr34 4; clear hcl34 hcc34 hfr34 hM34; replace p34 := eq_true p34; replace q34 := eq_true q34; have HX44 := am (show Kd.R k33 33 w43 w.heap.size (fun k_ => k_ ≠ gb475) (.slice (some ⟨go34, 0, none⟩) y480.length co34) y480 from (pr HO482.out)); obtain ⟨ce44, hcl44, hM44, hcc44, hfr44⟩ := Kd.R_elem HX44.out z33 ((ji29) : Int) (ofb) (by have h_ : ((ji29) : Int) < ((y480.length : Int) : Int) := ofb; first | exact h_ | (have e_ := (Kd.R_reads' HO482.out).1; omega) | simpa using h_); obtain rfl := k33_openM hM44; have HP44 := Kd.R_seg HX44.out ((ji29) : Int) (ofb) (by have h_ : ((ji29) : Int) < ((y480.length : Int) : Int) := ofb; first | exact h_ | (have e_ := (Kd.R_reads' HO482.out).1; omega) | simpa using h_) (seg := [.int .i64 0, .int .i64 0, .int .i64 0, .int .i64 0, .int .i64 0]) (j := 0) hcl44 hcc44 (show 5 ≤ 5 from by decide) (x' := (⟨0, (⟨0, 0, 0, 0⟩ : S25)⟩ : S33)) (k33_mkM _ _ _ (⟨0, (⟨0, 0, 0, 0⟩ : S25)⟩ : S33) ) (fun _ hk => hk); have hx44_0 := hcc44 0 _ rfl; (try simp only [show (k33).sz = 5 from rfl, Nat.mul_one, Nat.add_zero] at hx44_0); have hf44_0 := hfr44 0; (try simp only [show (k33).sz = 5 from rfl, Nat.mul_one, Nat.add_zero] at hf44_0); have hx44_1 := hcc44 1 _ rfl; (try simp only [show (k33).sz = 5 from rfl, Nat.mul_one, Nat.add_zero] at hx44_1); have hf44_1 := hfr44 1; (try simp only [show (k33).sz = 5 from rfl, Nat.mul_one, Nat.add_zero] at hf44_1); have hx44_2 := hcc44 2 _ rfl; (try simp only [show (k33).sz = 5 from rfl, Nat.mul_one, Nat.add_zero] at hx44_2); have hf44_2 := hfr44 2; (try simp only [show (k33).sz = 5 from rfl, Nat.mul_one, Nat.add_zero] at hf44_2); have hx44_3 := hcc44 3 _ rfl; (try simp only [show (k33).sz = 5 from rfl, Nat.mul_one, Nat.add_zero] at hx44_3); have hf44_3 := hfr44 3; (try simp only [show (k33).sz = 5 from rfl, Nat.mul_one, Nat.add_zero] at hf44_3); have hx44_4 := hcc44 4 _ rfl; (try simp only [show (k33).sz = 5 from rfl, Nat.mul_one, Nat.add_zero] at hx44_4); have hf44_4 := hfr44 4; (try simp only [show (k33).sz = 5 from rfl, Nat.mul_one, Nat.add_zero] at hf44_4); clear hcl44 hcc44 hfr44 hM44) | ((with_reducible refine gate_store (t := 33) (p := 85) rfl ?_); refine store_event (t := 33) (p := 85) (v := ?vo_w45) (w1 := (((((w43.setCell ⟨go34, ((ji29) : Int).toNat * 5, none⟩ (.int .i64 0)).setCell ⟨go34, ((ji29) : Int).toNat * 5 + 1, none⟩ (.int .i64 0)).setCell ⟨go34, ((ji29) : Int).toNat * 5 + 2, none⟩ (.int .i64 0)).setCell ⟨go34, ((ji29) : Int).toNat * 5 + 3, none⟩ (.int .i64 0)).setCell ⟨go34, ((ji29) : Int).toNat * 5 + 4, none⟩ (.int .i64 0))) ?hg ?ho ?hn ?hr ?_; (case ho => rfl); (case hg => rfl); (case hn => rfl); (case hr => first | (go_simp; done) | (go_simp; rfl)); intro w45 hw; have hg : w43.grownBy w45 (some go34) := (by rw [hw]; exact HP44.2); have hp_ : Kd.R k33 33 w45 w.heap.size (fun k_ => k_ ≠ gb475) (.slice (some ⟨go34, 0, none⟩) y480.length co34) y483 := (by rw [hw, Ny483.out]; exact HP44.1); clear HP44; replace HO_3 := am (Kd.V_afterv (v := (.slice (some ⟨go34, 0, none⟩) y480.length co34)) (v1 := (.slice (some ⟨go34, 0, none⟩) y480.length co34)) (ok := (fun k_ => some k_ ≠ (v463 : Value).ownBlock ∧ k_ ≠ gb461 ∧ k_ ≠ gb475)) (pv HO_3.out) hg (.inl rfl)); replace HO_7 := am (Kd.S_after (v := (.slice (some ⟨go34, 0, none⟩) y480.length co34)) (v1 := (.slice (some ⟨go34, 0, none⟩) y480.length co34)) (ok := (fun k_ => k_ ≠ gb475)) (ps HO_7.out) hg (.inl rfl)); replace HO_9 := am (Kd.V_afterv (v := (.slice (some ⟨go34, 0, none⟩) y480.length co34)) (v1 := (.slice (some ⟨go34, 0, none⟩) y480.length co34)) (ok := (fun k_ => some k_ ≠ (v463 : Value).ownBlock ∧ k_ ≠ gb461 ∧ k_ ≠ gb475)) (pv HO_9.out) hg (.inl rfl)); replace BK461 := am (blk_grown (g := gb461) (o := .cells #[.int .i64 t456, .int .i64 t457, .int .i64 t458, .int .i64 t459] 25 (0, 0)) (pb BK461.out) hg (Kd.R_ne HO482.out BK461.out (by decide))); replace HL473_0 := am (Kd.V_afterv (v := (.slice (some ⟨go34, 0, none⟩) y480.length co34)) (v1 := (.slice (some ⟨go34, 0, none⟩) y480.length co34)) (ok := (fun k_ => some k_ ≠ (v463 : Value).ownBlock ∧ k_ ≠ gb461 ∧ k_ ≠ gb475)) (pv HL473_0.out) hg (.inl rfl)); replace BK475 := am (blk_grown (g := gb475) (o := .cells #[.int .i64 ((rd_T33 ((rd_T36 t466 t455).f0) (ji29)).f0), .int .i64 ((rd_T33 ((rd_T36 t466 t455).f0) (ji29)).f1.f0), .int .i64 ((rd_T33 ((rd_T36 t466 t455).f0) (ji29)).f1.f1), .int .i64 ((rd_T33 ((rd_T36 t466 t455).f0) (ji29)).f1.f2), .int .i64 ((rd_T33 ((rd_T36 t466 t455).f0) (ji29)).f1.f3)] 33 (0, 0)) (pb BK475.out) hg (Kd.R_away HO482.out (fun _ hk => hk))); replace HL479_0 := am (Kd.V_afterv (v := (.slice (some ⟨go34, 0, none⟩) y480.length co34)) (v1 := (.slice (some ⟨go34, 0, none⟩) y480.length co34)) (ok := (fun k_ => some k_ ≠ (v463 : Value).ownBlock ∧ k_ ≠ gb461 ∧ k_ ≠ gb475)) (pv HL479_0.out) hg (.inl rfl)); replace HO482 := am (hp_); replace HB := am ((by rw [hw]; exact below_set (below_set (below_set (below_set (below_set (HB.out) GB34.out) GB34.out) GB34.out) GB34.out) GB34.out : Below w.heap.size w w45)); clear hg hw hp_))
   (try simp only [Act.put, List.setIfInBounds_toArray, List.set_cons_zero, List.set_cons_succ])
   go_cut [121] (fun v121 wc => ∃ (kq : Nat) (x121_34 : Bool), v121 = .bool x121_34 ∧ Aside0 (laws_FnWriteNext.j1 kq t460 t466 x121_34 t456 t457 t458 t459 ((rd_T33 ((rd_T36 t466 t455).f0) (ji29)).f0) ((rd_T33 ((rd_T36 t466 t455).f0) (ji29)).f1.f0) ((rd_T33 ((rd_T36 t466 t455).f0) (ji29)).f1.f1) ((rd_T33 ((rd_T36 t466 t455).f0) (ji29)).f1.f2) ((rd_T33 ((rd_T36 t466 t455).f0) (ji29)).f1.f3) = some r) ∧ Aside0 (kq ≤ kj5) ∧ Aside0 (Kd.V k36 36 wc w.heap.size (fun k_ => k_ ≠ gb461 ∧ k_ ≠ gb475) (.slice (some ad473) t466.length co37) t466) ∧ Aside0 (wc.heap[gb461]? = some (.cells #[.int .i64 t456, .int .i64 t457, .int .i64 t458, .int .i64 t459] 25 (0, 0))) ∧ Aside0 (wc.heap[gb475]? = some (.cells #[.int .i64 ((rd_T33 ((rd_T36 t466 t455).f0) (ji29)).f0), .int .i64 ((rd_T33 ((rd_T36 t466 t455).f0) (ji29)).f1.f0), .int .i64 ((rd_T33 ((rd_T36 t466 t455).f0) (ji29)).f1.f1), .int .i64 ((rd_T33 ((rd_T36 t466 t455).f0) (ji29)).f1.f2), .int .i64 ((rd_T33 ((rd_T36 t466 t455).f0) (ji29)).f1.f3)] 33 (0, 0))) ∧ Aside0 (Below w.heap.size w wc))
   case first =>
    have H := HC35.out
    clear HC35
    replace H := Option.bind_eq_some_iff.mp H
    obtain ⟨t484, A460, H⟩ := H
    have A46 := am A460
    clear A460
    by_cases c47 : t484 = true
    rotate_left
    · replace c47 := Bool.eq_false_iff.mpr c47
      subst c47
      rw [if_neg (show ¬ (false = true) by decide)] at H
      have H' := am H
      clear H
      try go_wp2
      replace HO_3 := am (Kd.V_drew HO_3.out)
      replace HO_7 := am (Kd.S_drew HO_7.out)
      replace HO_9 := am (Kd.V_drew HO_9.out)
      replace HL473_0 := am (Kd.V_drew HL473_0.out)
      replace HL479_0 := am (Kd.V_drew HL479_0.out)
      replace HO482 := am (Kd.R_drew HO482.out)
      replace BK461 := am (blk_drew BK461.out)
      replace BK475 := am (blk_drew BK475.out)
      replace HB := am (below_drew1 HB.out)
      refine start_ (n := 36) (S := fun w' => True) (ds := []) (bt 36 0) (by kernel_rfl) rfl rfl trivial (fun hHeld => ?_); refine with_tabW laws_FnWriteNext.tab13 laws_FnWriteNext.bits13 (fun HT_ HW_ => ?_)
      generalize w45.drew = w60 at HO_3 HO_7 HO_9 HL473_0 HL479_0 HO482 BK461 BK475 HB hHeld ⊢
      refine qj 0 86 (bt 36 1) rfl rfl HT_.out ?_
      refine qj 1 87 (bt 36 3) rfl rfl HT_.out ?_
      refine qj 2 88 (bt 36 7) rfl rfl HT_.out ?_
      refine qo 3 (some 89) (bt 36 15) rfl rfl HT_.out fun K hK => ?_
      refine qg Try.func9 #[.slice (some ad473) t466.length co37, .slice Ao10 t452.length co10, .int .i64 t455] rfl rfl ?_
      with_reducible refine (laws_lqOthers.calls kj5 _ _ t466 _ _ t452 t455 false _ ?side1 ?side2 ?side3 ?side4 A46.out).mono ?_
      (case side1 => exact pc ((Kd.V_reads' HO_9.out).2.2))
      (case side2 => exact (Kd.V_reads' HO_9.out).2.1)
      (case side3 => exact pc ((Kd.V_reads' HO_3.out).2.2))
      (case side4 => exact (Kd.V_reads' HO_3.out).2.1)
      rintro e w61 ⟨rfl, hb⟩
      refine ⟨_, rfl, ?_⟩
      replace HO_3 := am (Kd.V_below (pv HO_3.out) hb)
      replace HO_7 := am (Kd.S_below (ps HO_7.out) hb)
      replace HO_9 := am (Kd.V_below (pv HO_9.out) hb)
      replace HL473_0 := am (Kd.V_below (pv HL473_0.out) hb)
      replace HL479_0 := am (Kd.V_below (pv HL479_0.out) hb)
      replace HO482 := am (Kd.R_below (pr HO482.out) hb)
      replace BK461 := am (blk_below (pb BK461.out) hb)
      replace BK475 := am (blk_below (pb BK475.out) hb)
      replace HB := am (below_step (bg2 HB.out GE461.out GE475.out) hb)
      clear hb
      refine hK.out _ _ trivial (fun hHeld => ?_)
      clear hK K
      refine qn (some 89) ?_
      refine qj 4 90 (bt 36 31) rfl rfl HT_.out ?_
      refine qj 5 91 (bt 36 63) rfl rfl HT_.out ?_
      refine qv 6 92 (bt 36 127) rfl rfl HT_.out ?_
      refine qv 7 93 (bt 36 255) rfl rfl HT_.out ?_
      refine qv 8 94 (bt 36 511) rfl rfl HT_.out ?_
      refine qv 9 95 (bt 36 1023) rfl rfl HT_.out ?_
      refine qv 10 96 (bt 36 2047) rfl rfl HT_.out ?_
      refine qv 11 97 (bt 36 4095) rfl rfl HT_.out ?_
      refine qv 12 98 (bt 36 8191) rfl rfl HT_.out ?_
      refine qv 13 99 (bt 36 16383) rfl rfl HT_.out ?_
      refine qj 14 100 (bt 36 32767) rfl rfl HT_.out ?_
      refine qj 15 101 (bt 36 65535) rfl rfl HT_.out ?_
      refine qv 16 102 (bt 36 131071) rfl rfl HT_.out ?_
      refine qv 17 103 (bt 36 262143) rfl rfl HT_.out ?_
      refine qv 18 104 (bt 36 524287) rfl rfl HT_.out ?_
      refine qv 19 105 (bt 36 1048575) rfl rfl HT_.out ?_
      refine qv 20 106 (bt 36 2097151) rfl rfl HT_.out ?_
      refine qv 21 107 (bt 36 4194303) rfl rfl HT_.out ?_
      refine qv 22 108 (bt 36 8388607) rfl rfl HT_.out ?_
      refine qv 23 109 (bt 36 16777215) rfl rfl HT_.out ?_
      refine qv 24 110 (bt 36 33554431) rfl rfl HT_.out ?_
      refine qv 25 111 (bt 36 67108863) rfl rfl HT_.out ?_
      refine qv 26 112 (bt 36 134217727) rfl rfl HT_.out ?_
      refine qj 27 113 (bt 36 268435455) rfl rfl HT_.out ?_
      refine qj 28 114 (bt 36 536870911) rfl rfl HT_.out ?_
      refine qv 29 115 (bt 36 1073741823) rfl rfl HT_.out ?_
      refine qv 30 116 (bt 36 2147483647) rfl rfl HT_.out ?_
      refine qv 31 117 (bt 36 4294967295) rfl rfl HT_.out ?_
      refine qv 32 118 (bt 36 8589934591) rfl rfl HT_.out ?_
      refine qv 33 119 (bt 36 17179869183) rfl rfl HT_.out ?_
      refine qv 34 120 (bt 36 34359738367) rfl rfl HT_.out ?_
      refine qj 35 121 (bt 36 68719476735) rfl rfl HT_.out ?_
      refine done_ (done_of HT_.out (by kernel_rfl)) ?_
      try go_wp2
      go_meet
      case rel => exact ⟨_, (true), rf, H', ⟨by have := HJ5.out; first | omega | exact Nat.le_refl _⟩, ⟨pv (Kd.V_mono HO_9.out (fun _ hk => ⟨hk.1.2.1, hk.1.2.2⟩))⟩, ⟨pb BK461.out⟩, ⟨pb BK475.out⟩, ⟨bg2 HB.out GE461.out GE475.out⟩⟩
    subst c47
    rw [if_pos rfl] at H
    obtain ⟨c48b0, H⟩ := ifd H
    (first | rw [c48b0] | (simp only [i64_w, i32_w]; rw [c48b0]) | skip)
    replace H := Option.bind_eq_some_iff.mp H
    obtain ⟨t486, A490, H⟩ := H
    have A49 := am A490
    clear A490
    by_cases c50 : t486 = true
    rotate_left
    · replace c50 := Bool.eq_false_iff.mpr c50
      subst c50
      rw [if_neg (show ¬ (false = true) by decide)] at H
      have H' := am H
      clear H
      try go_wp2
      replace HO_3 := am (Kd.V_drew HO_3.out)
      replace HO_7 := am (Kd.S_drew HO_7.out)
      replace HO_9 := am (Kd.V_drew HO_9.out)
      replace HL473_0 := am (Kd.V_drew HL473_0.out)
      replace HL479_0 := am (Kd.V_drew HL479_0.out)
      replace HO482 := am (Kd.R_drew HO482.out)
      replace BK461 := am (blk_drew BK461.out)
      replace BK475 := am (blk_drew BK475.out)
      replace HB := am (below_drew1 HB.out)
      have p485 : 0 ≤ (t455 : Int) := ofb
      have q485 : t455 < (t452.length : Int) := ofb
      obtain ⟨ad485, A485_0, c485_0, e485, hx485_0, hx485_1, hl485_0, hi485_0⟩ := at_T36 (Kd.V_reads' HO_3.out).2.2 t455 p485 q485
      cases e485
      obtain ⟨ce485, hce485, hMe485, hcc485⟩ := Kd.V_get HO_3.out z36 t455 p485 (by first | exact q485 | exact ofb | (have e_ := (Kd.V_reads' HO_3.out).1; omega))
      obtain ⟨ua485_0, uc485_0, rfl, ul485_0, ge485_0⟩ := k36_openF hMe485
      have hv485_0 := hcc485 0 _ rfl
      rw [Nat.add_zero] at hv485_0
      replace hv485_0 := Option.some.inj (hv485_0.symm.trans hx485_0)
      injection hv485_0 with hva_ hvn_ hvc_
      rw [hva_] at ge485_0
      rw [hvc_] at ul485_0
      have HL485_0 := am (show Kd.V k33 33 _ w.heap.size _ _ ((rd_T36 t452 t455).f0) from Kd.V_mk ul485_0 ge485_0)
      clear hva_ hvn_ hvc_ ge485_0 ul485_0 hcc485 hce485
      have HR485_0 := am hi485_0
      have HC485_0 := am hl485_0
      clear hi485_0 hl485_0
      replace p485 := eq_true p485
      replace q485 := eq_true q485
      refine start_ (n := 36) (S := fun w' => w'.cell? (ad485.add ((t455).toNat * 2)) = some (.slice A485_0 ((rd_T36 t452 t455).f0).length c485_0) ∧ w'.cell? ⟨(ad485.add ((t455).toNat * 2)).block, (ad485.add ((t455).toNat * 2)).off + 1, none⟩ = some (.int .i64 ((rd_T36 t452 t455).f1))) (ds := []) (bt 36 0) (by kernel_rfl) rfl rfl ⟨hx485_0, hx485_1⟩ (fun hHeld => ?_); refine with_tabW laws_FnWriteNext.tab13 laws_FnWriteNext.bits13 (fun HT_ HW_ => ?_)
      generalize w45.drew = w58 at HO_3 HO_7 HO_9 HL473_0 HL479_0 HO482 BK461 BK475 HB HL485_0 HR485_0 hx485_0 hx485_1 hHeld ⊢
      refine qj 0 86 (bt 36 1) rfl rfl HT_.out ?_
      refine qj 1 87 (bt 36 3) rfl rfl HT_.out ?_
      refine qj 2 88 (bt 36 7) rfl rfl HT_.out ?_
      refine qo 3 (some 89) (bt 36 15) rfl rfl HT_.out fun K hK => ?_
      refine qg Try.func9 #[.slice (some ad473) t466.length co37, .slice (some ad485) t452.length co10, .int .i64 t455] rfl rfl ?_
      with_reducible refine (laws_lqOthers.calls kj5 _ _ t466 _ _ t452 t455 true _ ?side1 ?side2 ?side3 ?side4 A46.out).mono ?_
      (case side1 => exact pc ((Kd.V_reads' HO_9.out).2.2))
      (case side2 => exact (Kd.V_reads' HO_9.out).2.1)
      (case side3 => exact pc ((Kd.V_reads' HO_3.out).2.2))
      (case side4 => exact (Kd.V_reads' HO_3.out).2.1)
      rintro e w59 ⟨rfl, hb⟩
      have HS0_ := (hb.cell (World.block_lt_of_cell? _ _ (hHeld.1))).trans (hHeld.1)
      have HS1_ := (hb.cell (World.block_lt_of_cell? _ _ (hHeld.2))).trans (hHeld.2)
      refine ⟨_, rfl, ?_⟩
      replace HL485_0 := am (Kd.V_below (pv HL485_0.out) hb)
      replace HR485_0 := am (Kd.C_below (pc HR485_0.out) hb)
      replace HO_3 := am (Kd.V_below (pv HO_3.out) hb)
      replace HO_7 := am (Kd.S_below (ps HO_7.out) hb)
      replace HO_9 := am (Kd.V_below (pv HO_9.out) hb)
      replace HL473_0 := am (Kd.V_below (pv HL473_0.out) hb)
      replace HL479_0 := am (Kd.V_below (pv HL479_0.out) hb)
      replace HO482 := am (Kd.R_below (pr HO482.out) hb)
      replace BK461 := am (blk_below (pb BK461.out) hb)
      replace BK475 := am (blk_below (pb BK475.out) hb)
      replace HB := am (below_step (bg2 HB.out GE461.out GE475.out) hb)
      clear hb
      refine hK.out _ _ ⟨HS0_, HS1_⟩ (fun hHeld => ?_)
      clear hK K
      refine qn (some 89) ?_
      refine qj 4 90 (bt 36 31) rfl rfl HT_.out ?_
      refine qj 5 91 (bt 36 63) rfl rfl HT_.out ?_
      refine qj 6 92 (bt 36 127) rfl rfl HT_.out ?_
      refine qj 7 93 (bt 36 255) rfl rfl HT_.out ?_
      refine qj 8 94 (bt 36 511) rfl rfl HT_.out ?_
      refine qj 9 95 (bt 36 1023) rfl rfl HT_.out ?_
      refine qj 10 96 (bt 36 2047) rfl rfl HT_.out ?_
      refine qm 11 97 (bt 36 4095) rfl rfl HT_.out HW_.out hHeld ?_
      refine qo 12 (some 98) (bt 36 8191) rfl rfl HT_.out fun K hK => ?_
      refine goes_ Try.func10 (by kernel_rfl) rfl #[.slice (some ⟨go34, 0, none⟩) y483.length co34, .slice A485_0 ((rd_T36 t452 t455).f0).length c485_0] (by rfl) rfl rfl (by (try simp only [List.map_toArray, List.map_cons, List.map_nil]); first | done | (rw [show y483.length = y480.length from (Kd.R_reads' HO482.out).1.symm] <;> rfl) | rfl | (simp only [List.length_drop, List.length_take]; rfl)) ?_
      with_reducible refine (laws_lqPages.calls kj5 _ _ y483 _ _ ((rd_T36 t452 t455).f0) false _ ?side1 ?side2 ?side3 ?side4 A49.out).mono ?_
      (case side1 => exact pc ((Kd.R_reads' HO482.out).2.2))
      (case side2 => rw [show y483.length = y480.length from (Kd.R_reads' HO482.out).1.symm]; exact (Kd.R_reads' HO482.out).2.1)
      (case side3 => exact pc HR485_0.out)
      (case side4 => exact HC485_0.out)
      rintro e w' ⟨rfl, ⟨nd, rfl⟩⟩
      refine ⟨_, rfl, ?_⟩
      refine hK.out _ _ ⟨hHeld.1, hHeld.2⟩ (fun hHeld => ?_)
      clear hK K
      refine qn (some 98) ?_
      refine qj 13 99 (bt 36 16383) rfl rfl HT_.out ?_
      refine qj 14 100 (bt 36 32767) rfl rfl HT_.out ?_
      refine qj 15 101 (bt 36 65535) rfl rfl HT_.out ?_
      refine qv 16 102 (bt 36 131071) rfl rfl HT_.out ?_
      refine qv 17 103 (bt 36 262143) rfl rfl HT_.out ?_
      refine qv 18 104 (bt 36 524287) rfl rfl HT_.out ?_
      refine qv 19 105 (bt 36 1048575) rfl rfl HT_.out ?_
      refine qv 20 106 (bt 36 2097151) rfl rfl HT_.out ?_
      refine qv 21 107 (bt 36 4194303) rfl rfl HT_.out ?_
      refine qv 22 108 (bt 36 8388607) rfl rfl HT_.out ?_
      refine qv 23 109 (bt 36 16777215) rfl rfl HT_.out ?_
      refine qv 24 110 (bt 36 33554431) rfl rfl HT_.out ?_
      refine qv 25 111 (bt 36 67108863) rfl rfl HT_.out ?_
      refine qv 26 112 (bt 36 134217727) rfl rfl HT_.out ?_
      refine qj 27 113 (bt 36 268435455) rfl rfl HT_.out ?_
      refine qj 28 114 (bt 36 536870911) rfl rfl HT_.out ?_
      refine qv 29 115 (bt 36 1073741823) rfl rfl HT_.out ?_
      refine qv 30 116 (bt 36 2147483647) rfl rfl HT_.out ?_
      refine qv 31 117 (bt 36 4294967295) rfl rfl HT_.out ?_
      refine qv 32 118 (bt 36 8589934591) rfl rfl HT_.out ?_
      refine qv 33 119 (bt 36 17179869183) rfl rfl HT_.out ?_
      refine qv 34 120 (bt 36 34359738367) rfl rfl HT_.out ?_
      refine qj 35 121 (bt 36 68719476735) rfl rfl HT_.out ?_
      refine done_ (done_of HT_.out (by kernel_rfl)) ?_
      try go_wp2
      go_meet
      case rel => exact ⟨_, (true), rf, H', ⟨by have := HJ5.out; first | omega | exact Nat.le_refl _⟩, ⟨pv (Kd.V_mono HO_9.out (fun _ hk => ⟨hk.1.2.1, hk.1.2.2⟩))⟩, ⟨pb BK461.out⟩, ⟨pb BK475.out⟩, ⟨bg2 HB.out GE461.out GE475.out⟩⟩
    subst c50
    rw [if_pos rfl] at H
    by_cases c51 : ((rd_T36 t466 t455).f1) = ((rd_T36 t452 t455).f1)
    rotate_left
    · rw [if_neg c51] at H
      have c51b0 : (((rd_T36 t466 t455).f1) == ((rd_T36 t452 t455).f1)) = false := beq_eq_false_iff_ne.mpr c51
      have c51b1 : (((rd_T36 t466 t455).f1) != ((rd_T36 t452 t455).f1)) = true := bne_iff_ne.mpr c51
      have H' := am H
      clear H
      try go_wp2
      replace HO_3 := am (Kd.V_drew HO_3.out)
      replace HO_7 := am (Kd.S_drew HO_7.out)
      replace HO_9 := am (Kd.V_drew HO_9.out)
      replace HL473_0 := am (Kd.V_drew HL473_0.out)
      replace HL479_0 := am (Kd.V_drew HL479_0.out)
      replace HO482 := am (Kd.R_drew HO482.out)
      replace BK461 := am (blk_drew BK461.out)
      replace BK475 := am (blk_drew BK475.out)
      replace HB := am (below_drew1 HB.out)
      have p485 : 0 ≤ (t455 : Int) := ofb
      have q485 : t455 < (t452.length : Int) := ofb
      obtain ⟨ad485, A485_0, c485_0, e485, hx485_0, hx485_1, hl485_0, hi485_0⟩ := at_T36 (Kd.V_reads' HO_3.out).2.2 t455 p485 q485
      cases e485
      obtain ⟨ce485, hce485, hMe485, hcc485⟩ := Kd.V_get HO_3.out z36 t455 p485 (by first | exact q485 | exact ofb | (have e_ := (Kd.V_reads' HO_3.out).1; omega))
      obtain ⟨ua485_0, uc485_0, rfl, ul485_0, ge485_0⟩ := k36_openF hMe485
      have hv485_0 := hcc485 0 _ rfl
      rw [Nat.add_zero] at hv485_0
      replace hv485_0 := Option.some.inj (hv485_0.symm.trans hx485_0)
      injection hv485_0 with hva_ hvn_ hvc_
      rw [hva_] at ge485_0
      rw [hvc_] at ul485_0
      have HL485_0 := am (show Kd.V k33 33 _ w.heap.size _ _ ((rd_T36 t452 t455).f0) from Kd.V_mk ul485_0 ge485_0)
      clear hva_ hvn_ hvc_ ge485_0 ul485_0 hcc485 hce485
      have HR485_0 := am hi485_0
      have HC485_0 := am hl485_0
      clear hi485_0 hl485_0
      replace p485 := eq_true p485
      replace q485 := eq_true q485
      have p487 : 0 ≤ (t455 : Int) := ofb
      have q487 : t455 < (t466.length : Int) := ofb
      obtain ⟨ad487, A487_0, c487_0, e487, hx487_0, hx487_1, hl487_0, hi487_0⟩ := at_T36 (Kd.V_reads' HO_9.out).2.2 t455 p487 q487
      obtain rfl : ad473 = ad487 := (by injection e487)
      obtain ⟨ce487, hce487, hMe487, hcc487⟩ := Kd.V_get HO_9.out z36 t455 p487 (by first | exact q487 | exact ofb | (have e_ := (Kd.V_reads' HO_9.out).1; omega))
      obtain ⟨ua487_0, uc487_0, rfl, ul487_0, ge487_0⟩ := k36_openF hMe487
      have hv487_0 := hcc487 0 _ rfl
      rw [Nat.add_zero] at hv487_0
      replace hv487_0 := Option.some.inj (hv487_0.symm.trans hx487_0)
      injection hv487_0 with hva_ hvn_ hvc_
      rw [hva_] at ge487_0
      rw [hvc_] at ul487_0
      have HL487_0 := am (show Kd.V k33 33 _ w.heap.size _ _ ((rd_T36 t466 t455).f0) from Kd.V_mk ul487_0 ge487_0)
      clear hva_ hvn_ hvc_ ge487_0 ul487_0 hcc487 hce487
      have HR487_0 := am hi487_0
      have HC487_0 := am hl487_0
      clear hi487_0 hl487_0
      replace p487 := eq_true p487
      replace q487 := eq_true q487
      have p488 : 0 ≤ (t455 : Int) := ofb
      have q488 : t455 < (t452.length : Int) := ofb
      obtain ⟨ad488, A488_0, c488_0, e488, hx488_0, hx488_1, hl488_0, hi488_0⟩ := at_T36 (Kd.V_reads' HO_3.out).2.2 t455 p488 q488
      obtain rfl : ad485 = ad488 := (by injection e488)
      obtain ⟨ce488, hce488, hMe488, hcc488⟩ := Kd.V_get HO_3.out z36 t455 p488 (by first | exact q488 | exact ofb | (have e_ := (Kd.V_reads' HO_3.out).1; omega))
      obtain ⟨ua488_0, uc488_0, rfl, ul488_0, ge488_0⟩ := k36_openF hMe488
      have hv488_0 := hcc488 0 _ rfl
      rw [Nat.add_zero] at hv488_0
      replace hv488_0 := Option.some.inj (hv488_0.symm.trans hx488_0)
      injection hv488_0 with hva_ hvn_ hvc_
      rw [hva_] at ge488_0
      rw [hvc_] at ul488_0
      have HL488_0 := am (show Kd.V k33 33 _ w.heap.size _ _ ((rd_T36 t452 t455).f0) from Kd.V_mk ul488_0 ge488_0)
      clear hva_ hvn_ hvc_ ge488_0 ul488_0 hcc488 hce488
      have HR488_0 := am hi488_0
      have HC488_0 := am hl488_0
      clear hi488_0 hl488_0
      replace p488 := eq_true p488
      replace q488 := eq_true q488
      have ea_ := Option.some.inj (hx485_0.symm.trans hx488_0)
      injection ea_ with ea_ en_ ec_
      subst ea_
      subst ec_
      clear en_
      refine start_ (n := 36) (S := fun w' => w'.cell? (ad485.add ((t455).toNat * 2)) = some (.slice A485_0 ((rd_T36 t452 t455).f0).length c485_0) ∧ w'.cell? ⟨(ad485.add ((t455).toNat * 2)).block, (ad485.add ((t455).toNat * 2)).off + 1, none⟩ = some (.int .i64 ((rd_T36 t452 t455).f1)) ∧ w'.cell? (ad473.add ((t455).toNat * 2)) = some (.slice A487_0 ((rd_T36 t466 t455).f0).length c487_0) ∧ w'.cell? ⟨(ad473.add ((t455).toNat * 2)).block, (ad473.add ((t455).toNat * 2)).off + 1, none⟩ = some (.int .i64 ((rd_T36 t466 t455).f1)) ∧ w'.cell? (ad485.add ((t455).toNat * 2)) = some (.slice A485_0 ((rd_T36 t452 t455).f0).length c485_0) ∧ w'.cell? ⟨(ad485.add ((t455).toNat * 2)).block, (ad485.add ((t455).toNat * 2)).off + 1, none⟩ = some (.int .i64 ((rd_T36 t452 t455).f1))) (ds := []) (bt 36 0) (by kernel_rfl) rfl rfl ⟨hx485_0, hx485_1, hx487_0, hx487_1, hx488_0, hx488_1⟩ (fun hHeld => ?_); refine with_tabW laws_FnWriteNext.tab13 laws_FnWriteNext.bits13 (fun HT_ HW_ => ?_)
      generalize w45.drew = w56 at HO_3 HO_7 HO_9 HL473_0 HL479_0 HO482 BK461 BK475 HB HL485_0 HL487_0 HL488_0 HR485_0 HR487_0 HR488_0 hx485_0 hx485_1 hx487_0 hx487_1 hx488_0 hx488_1 hHeld ⊢
      refine qj 0 86 (bt 36 1) rfl rfl HT_.out ?_
      refine qj 1 87 (bt 36 3) rfl rfl HT_.out ?_
      refine qj 2 88 (bt 36 7) rfl rfl HT_.out ?_
      refine qo 3 (some 89) (bt 36 15) rfl rfl HT_.out fun K hK => ?_
      refine qg Try.func9 #[.slice (some ad473) t466.length co37, .slice (some ad485) t452.length co10, .int .i64 t455] rfl rfl ?_
      with_reducible refine (laws_lqOthers.calls kj5 _ _ t466 _ _ t452 t455 true _ ?side1 ?side2 ?side3 ?side4 A46.out).mono ?_
      (case side1 => exact pc ((Kd.V_reads' HO_9.out).2.2))
      (case side2 => exact (Kd.V_reads' HO_9.out).2.1)
      (case side3 => exact pc ((Kd.V_reads' HO_3.out).2.2))
      (case side4 => exact (Kd.V_reads' HO_3.out).2.1)
      rintro e w57 ⟨rfl, hb⟩
      have HS0_ := (hb.cell (World.block_lt_of_cell? _ _ (hHeld.1))).trans (hHeld.1)
      have HS1_ := (hb.cell (World.block_lt_of_cell? _ _ (hHeld.2.1))).trans (hHeld.2.1)
      have HS2_ := (hb.cell (World.block_lt_of_cell? _ _ (hHeld.2.2.1))).trans (hHeld.2.2.1)
      have HS3_ := (hb.cell (World.block_lt_of_cell? _ _ (hHeld.2.2.2.1))).trans (hHeld.2.2.2.1)
      have HS4_ := (hb.cell (World.block_lt_of_cell? _ _ (hHeld.2.2.2.2.1))).trans (hHeld.2.2.2.2.1)
      have HS5_ := (hb.cell (World.block_lt_of_cell? _ _ (hHeld.2.2.2.2.2))).trans (hHeld.2.2.2.2.2)
      refine ⟨_, rfl, ?_⟩
      replace HL485_0 := am (Kd.V_below (pv HL485_0.out) hb)
      replace HL487_0 := am (Kd.V_below (pv HL487_0.out) hb)
      replace HL488_0 := am (Kd.V_below (pv HL488_0.out) hb)
      replace HR485_0 := am (Kd.C_below (pc HR485_0.out) hb)
      replace HR487_0 := am (Kd.C_below (pc HR487_0.out) hb)
      replace HR488_0 := am (Kd.C_below (pc HR488_0.out) hb)
      replace HO_3 := am (Kd.V_below (pv HO_3.out) hb)
      replace HO_7 := am (Kd.S_below (ps HO_7.out) hb)
      replace HO_9 := am (Kd.V_below (pv HO_9.out) hb)
      replace HL473_0 := am (Kd.V_below (pv HL473_0.out) hb)
      replace HL479_0 := am (Kd.V_below (pv HL479_0.out) hb)
      replace HO482 := am (Kd.R_below (pr HO482.out) hb)
      replace BK461 := am (blk_below (pb BK461.out) hb)
      replace BK475 := am (blk_below (pb BK475.out) hb)
      replace HB := am (below_step (bg2 HB.out GE461.out GE475.out) hb)
      clear hb
      refine hK.out _ _ ⟨HS0_, HS1_, HS2_, HS3_, HS4_, HS5_⟩ (fun hHeld => ?_)
      clear hK K
      refine qn (some 89) ?_
      refine qj 4 90 (bt 36 31) rfl rfl HT_.out ?_
      refine qj 5 91 (bt 36 63) rfl rfl HT_.out ?_
      refine qj 6 92 (bt 36 127) rfl rfl HT_.out ?_
      refine qj 7 93 (bt 36 255) rfl rfl HT_.out ?_
      refine qj 8 94 (bt 36 511) rfl rfl HT_.out ?_
      refine qj 9 95 (bt 36 1023) rfl rfl HT_.out ?_
      refine qj 10 96 (bt 36 2047) rfl rfl HT_.out ?_
      refine qm 11 97 (bt 36 4095) rfl rfl HT_.out HW_.out hHeld ?_
      refine qo 12 (some 98) (bt 36 8191) rfl rfl HT_.out fun K hK => ?_
      refine goes_ Try.func10 (by kernel_rfl) rfl #[.slice (some ⟨go34, 0, none⟩) y483.length co34, .slice A485_0 ((rd_T36 t452 t455).f0).length c485_0] (by rfl) rfl rfl (by (try simp only [List.map_toArray, List.map_cons, List.map_nil]); first | done | (rw [show y483.length = y480.length from (Kd.R_reads' HO482.out).1.symm] <;> rfl) | rfl | (simp only [List.length_drop, List.length_take]; rfl)) ?_
      with_reducible refine (laws_lqPages.calls kj5 _ _ y483 _ _ ((rd_T36 t452 t455).f0) true _ ?side1 ?side2 ?side3 ?side4 A49.out).mono ?_
      (case side1 => exact pc ((Kd.R_reads' HO482.out).2.2))
      (case side2 => rw [show y483.length = y480.length from (Kd.R_reads' HO482.out).1.symm]; exact (Kd.R_reads' HO482.out).2.1)
      (case side3 => exact pc HR485_0.out)
      (case side4 => exact HC485_0.out)
      rintro e w' ⟨rfl, ⟨nd, rfl⟩⟩
      refine ⟨_, rfl, ?_⟩
      refine hK.out _ _ ⟨hHeld.1, hHeld.2.1, hHeld.2.2.1, hHeld.2.2.2.1, hHeld.2.2.2.2.1, hHeld.2.2.2.2.2⟩ (fun hHeld => ?_)
      clear hK K
      refine qn (some 98) ?_
      refine qj 13 99 (bt 36 16383) rfl rfl HT_.out ?_
      refine qj 14 100 (bt 36 32767) rfl rfl HT_.out ?_
      refine qj 15 101 (bt 36 65535) rfl rfl HT_.out ?_
      refine qj 16 102 (bt 36 131071) rfl rfl HT_.out ?_
      refine qj 17 103 (bt 36 262143) rfl rfl HT_.out ?_
      refine qj 18 104 (bt 36 524287) rfl rfl HT_.out ?_
      refine qj 19 105 (bt 36 1048575) rfl rfl HT_.out ?_
      refine qj 21 107 (bt 36 3145727) rfl rfl HT_.out ?_
      refine qj 22 108 (bt 36 7340031) rfl rfl HT_.out ?_
      refine qj 23 109 (bt 36 15728639) rfl rfl HT_.out ?_
      refine qj 24 110 (bt 36 32505855) rfl rfl HT_.out ?_
      refine qm 20 106 (bt 36 33554431) rfl rfl HT_.out HW_.out hHeld ?_
      refine qm 25 111 (bt 36 67108863) rfl rfl HT_.out HW_.out hHeld ?_
      refine qj 26 112 (bt 36 134217727) rfl rfl HT_.out ?_
      refine qj 27 113 (bt 36 268435455) rfl rfl HT_.out ?_
      refine qj 28 114 (bt 36 536870911) rfl rfl HT_.out ?_
      refine qv 29 115 (bt 36 1073741823) rfl rfl HT_.out ?_
      refine qv 30 116 (bt 36 2147483647) rfl rfl HT_.out ?_
      refine qv 31 117 (bt 36 4294967295) rfl rfl HT_.out ?_
      refine qv 32 118 (bt 36 8589934591) rfl rfl HT_.out ?_
      refine qv 33 119 (bt 36 17179869183) rfl rfl HT_.out ?_
      refine qv 34 120 (bt 36 34359738367) rfl rfl HT_.out ?_
      refine qj 35 121 (bt 36 68719476735) rfl rfl HT_.out ?_
      refine done_ (done_of HT_.out (by kernel_rfl)) ?_
      try go_wp2
      go_meet
      case rel => exact ⟨_, (true), rf, H', ⟨by have := HJ5.out; first | omega | exact Nat.le_refl _⟩, ⟨pv (Kd.V_mono HO_9.out (fun _ hk => ⟨hk.1.2.1, hk.1.2.2⟩))⟩, ⟨pb BK461.out⟩, ⟨pb BK475.out⟩, ⟨bg2 HB.out GE461.out GE475.out⟩⟩
    rw [if_pos c51] at H
    have c51b0 : (((rd_T36 t466 t455).f1) == ((rd_T36 t452 t455).f1)) = true := beq_iff_eq.mpr c51
    have c51b1 : (((rd_T36 t466 t455).f1) != ((rd_T36 t452 t455).f1)) = false := bne_eq_false_iff_eq.mpr c51
    clear c51
    replace H := Option.bind_eq_some_iff.mp H
    obtain ⟨t489, A520, H⟩ := H
    have A52 := am A520
    clear A520
    have H' := am H
    clear H
    try go_wp2
    replace HO_3 := am (Kd.V_drew HO_3.out)
    replace HO_7 := am (Kd.S_drew HO_7.out)
    replace HO_9 := am (Kd.V_drew HO_9.out)
    replace HL473_0 := am (Kd.V_drew HL473_0.out)
    replace HL479_0 := am (Kd.V_drew HL479_0.out)
    replace HO482 := am (Kd.R_drew HO482.out)
    replace BK461 := am (blk_drew BK461.out)
    replace BK475 := am (blk_drew BK475.out)
    replace HB := am (below_drew1 HB.out)
    have p485 : 0 ≤ (t455 : Int) := ofb
    have q485 : t455 < (t452.length : Int) := ofb
    obtain ⟨ad485, A485_0, c485_0, e485, hx485_0, hx485_1, hl485_0, hi485_0⟩ := at_T36 (Kd.V_reads' HO_3.out).2.2 t455 p485 q485
    cases e485
    obtain ⟨ce485, hce485, hMe485, hcc485⟩ := Kd.V_get HO_3.out z36 t455 p485 (by first | exact q485 | exact ofb | (have e_ := (Kd.V_reads' HO_3.out).1; omega))
    obtain ⟨ua485_0, uc485_0, rfl, ul485_0, ge485_0⟩ := k36_openF hMe485
    have hv485_0 := hcc485 0 _ rfl
    rw [Nat.add_zero] at hv485_0
    replace hv485_0 := Option.some.inj (hv485_0.symm.trans hx485_0)
    injection hv485_0 with hva_ hvn_ hvc_
    rw [hva_] at ge485_0
    rw [hvc_] at ul485_0
    have HL485_0 := am (show Kd.V k33 33 _ w.heap.size _ _ ((rd_T36 t452 t455).f0) from Kd.V_mk ul485_0 ge485_0)
    clear hva_ hvn_ hvc_ ge485_0 ul485_0 hcc485 hce485
    have HR485_0 := am hi485_0
    have HC485_0 := am hl485_0
    clear hi485_0 hl485_0
    replace p485 := eq_true p485
    replace q485 := eq_true q485
    have p487 : 0 ≤ (t455 : Int) := ofb
    have q487 : t455 < (t466.length : Int) := ofb
    obtain ⟨ad487, A487_0, c487_0, e487, hx487_0, hx487_1, hl487_0, hi487_0⟩ := at_T36 (Kd.V_reads' HO_9.out).2.2 t455 p487 q487
    obtain rfl : ad473 = ad487 := (by injection e487)
    obtain ⟨ce487, hce487, hMe487, hcc487⟩ := Kd.V_get HO_9.out z36 t455 p487 (by first | exact q487 | exact ofb | (have e_ := (Kd.V_reads' HO_9.out).1; omega))
    obtain ⟨ua487_0, uc487_0, rfl, ul487_0, ge487_0⟩ := k36_openF hMe487
    have hv487_0 := hcc487 0 _ rfl
    rw [Nat.add_zero] at hv487_0
    replace hv487_0 := Option.some.inj (hv487_0.symm.trans hx487_0)
    injection hv487_0 with hva_ hvn_ hvc_
    rw [hva_] at ge487_0
    rw [hvc_] at ul487_0
    have HL487_0 := am (show Kd.V k33 33 _ w.heap.size _ _ ((rd_T36 t466 t455).f0) from Kd.V_mk ul487_0 ge487_0)
    clear hva_ hvn_ hvc_ ge487_0 ul487_0 hcc487 hce487
    have HR487_0 := am hi487_0
    have HC487_0 := am hl487_0
    clear hi487_0 hl487_0
    replace p487 := eq_true p487
    replace q487 := eq_true q487
    have p488 : 0 ≤ (t455 : Int) := ofb
    have q488 : t455 < (t452.length : Int) := ofb
    obtain ⟨ad488, A488_0, c488_0, e488, hx488_0, hx488_1, hl488_0, hi488_0⟩ := at_T36 (Kd.V_reads' HO_3.out).2.2 t455 p488 q488
    obtain rfl : ad485 = ad488 := (by injection e488)
    obtain ⟨ce488, hce488, hMe488, hcc488⟩ := Kd.V_get HO_3.out z36 t455 p488 (by first | exact q488 | exact ofb | (have e_ := (Kd.V_reads' HO_3.out).1; omega))
    obtain ⟨ua488_0, uc488_0, rfl, ul488_0, ge488_0⟩ := k36_openF hMe488
    have hv488_0 := hcc488 0 _ rfl
    rw [Nat.add_zero] at hv488_0
    replace hv488_0 := Option.some.inj (hv488_0.symm.trans hx488_0)
    injection hv488_0 with hva_ hvn_ hvc_
    rw [hva_] at ge488_0
    rw [hvc_] at ul488_0
    have HL488_0 := am (show Kd.V k33 33 _ w.heap.size _ _ ((rd_T36 t452 t455).f0) from Kd.V_mk ul488_0 ge488_0)
    clear hva_ hvn_ hvc_ ge488_0 ul488_0 hcc488 hce488
    have HR488_0 := am hi488_0
    have HC488_0 := am hl488_0
    clear hi488_0 hl488_0
    replace p488 := eq_true p488
    replace q488 := eq_true q488
    have ea_ := Option.some.inj (hx485_0.symm.trans hx488_0)
    injection ea_ with ea_ en_ ec_
    subst ea_
    subst ec_
    clear en_
    refine start_ (n := 36) (S := fun w' => w'.cell? (ad485.add ((t455).toNat * 2)) = some (.slice A485_0 ((rd_T36 t452 t455).f0).length c485_0) ∧ w'.cell? ⟨(ad485.add ((t455).toNat * 2)).block, (ad485.add ((t455).toNat * 2)).off + 1, none⟩ = some (.int .i64 ((rd_T36 t452 t455).f1)) ∧ w'.cell? (ad473.add ((t455).toNat * 2)) = some (.slice A487_0 ((rd_T36 t466 t455).f0).length c487_0) ∧ w'.cell? ⟨(ad473.add ((t455).toNat * 2)).block, (ad473.add ((t455).toNat * 2)).off + 1, none⟩ = some (.int .i64 ((rd_T36 t466 t455).f1)) ∧ w'.cell? (ad485.add ((t455).toNat * 2)) = some (.slice A485_0 ((rd_T36 t452 t455).f0).length c485_0) ∧ w'.cell? ⟨(ad485.add ((t455).toNat * 2)).block, (ad485.add ((t455).toNat * 2)).off + 1, none⟩ = some (.int .i64 ((rd_T36 t452 t455).f1))) (ds := []) (bt 36 0) (by kernel_rfl) rfl rfl ⟨hx485_0, hx485_1, hx487_0, hx487_1, hx488_0, hx488_1⟩ (fun hHeld => ?_); refine with_tabW laws_FnWriteNext.tab13 laws_FnWriteNext.bits13 (fun HT_ HW_ => ?_)
    generalize w45.drew = w53 at HO_3 HO_7 HO_9 HL473_0 HL479_0 HO482 BK461 BK475 HB HL485_0 HL487_0 HL488_0 HR485_0 HR487_0 HR488_0 hx485_0 hx485_1 hx487_0 hx487_1 hx488_0 hx488_1 hHeld ⊢
    refine qj 0 86 (bt 36 1) rfl rfl HT_.out ?_
    refine qj 1 87 (bt 36 3) rfl rfl HT_.out ?_
    refine qj 2 88 (bt 36 7) rfl rfl HT_.out ?_
    refine qo 3 (some 89) (bt 36 15) rfl rfl HT_.out fun K hK => ?_
    refine qg Try.func9 #[.slice (some ad473) t466.length co37, .slice (some ad485) t452.length co10, .int .i64 t455] rfl rfl ?_
    with_reducible refine (laws_lqOthers.calls kj5 _ _ t466 _ _ t452 t455 true _ ?side1 ?side2 ?side3 ?side4 A46.out).mono ?_
    (case side1 => exact pc ((Kd.V_reads' HO_9.out).2.2))
    (case side2 => exact (Kd.V_reads' HO_9.out).2.1)
    (case side3 => exact pc ((Kd.V_reads' HO_3.out).2.2))
    (case side4 => exact (Kd.V_reads' HO_3.out).2.1)
    rintro e w54 ⟨rfl, hb⟩
    have HS0_ := (hb.cell (World.block_lt_of_cell? _ _ (hHeld.1))).trans (hHeld.1)
    have HS1_ := (hb.cell (World.block_lt_of_cell? _ _ (hHeld.2.1))).trans (hHeld.2.1)
    have HS2_ := (hb.cell (World.block_lt_of_cell? _ _ (hHeld.2.2.1))).trans (hHeld.2.2.1)
    have HS3_ := (hb.cell (World.block_lt_of_cell? _ _ (hHeld.2.2.2.1))).trans (hHeld.2.2.2.1)
    have HS4_ := (hb.cell (World.block_lt_of_cell? _ _ (hHeld.2.2.2.2.1))).trans (hHeld.2.2.2.2.1)
    have HS5_ := (hb.cell (World.block_lt_of_cell? _ _ (hHeld.2.2.2.2.2))).trans (hHeld.2.2.2.2.2)
    refine ⟨_, rfl, ?_⟩
    replace HL485_0 := am (Kd.V_below (pv HL485_0.out) hb)
    replace HL487_0 := am (Kd.V_below (pv HL487_0.out) hb)
    replace HL488_0 := am (Kd.V_below (pv HL488_0.out) hb)
    replace HR485_0 := am (Kd.C_below (pc HR485_0.out) hb)
    replace HR487_0 := am (Kd.C_below (pc HR487_0.out) hb)
    replace HR488_0 := am (Kd.C_below (pc HR488_0.out) hb)
    replace HO_3 := am (Kd.V_below (pv HO_3.out) hb)
    replace HO_7 := am (Kd.S_below (ps HO_7.out) hb)
    replace HO_9 := am (Kd.V_below (pv HO_9.out) hb)
    replace HL473_0 := am (Kd.V_below (pv HL473_0.out) hb)
    replace HL479_0 := am (Kd.V_below (pv HL479_0.out) hb)
    replace HO482 := am (Kd.R_below (pr HO482.out) hb)
    replace BK461 := am (blk_below (pb BK461.out) hb)
    replace BK475 := am (blk_below (pb BK475.out) hb)
    replace HB := am (below_step (bg2 HB.out GE461.out GE475.out) hb)
    clear hb
    refine hK.out _ _ ⟨HS0_, HS1_, HS2_, HS3_, HS4_, HS5_⟩ (fun hHeld => ?_)
    clear hK K
    refine qn (some 89) ?_
    refine qj 4 90 (bt 36 31) rfl rfl HT_.out ?_
    refine qj 5 91 (bt 36 63) rfl rfl HT_.out ?_
    refine qj 6 92 (bt 36 127) rfl rfl HT_.out ?_
    refine qj 7 93 (bt 36 255) rfl rfl HT_.out ?_
    refine qj 8 94 (bt 36 511) rfl rfl HT_.out ?_
    refine qj 9 95 (bt 36 1023) rfl rfl HT_.out ?_
    refine qj 10 96 (bt 36 2047) rfl rfl HT_.out ?_
    refine qm 11 97 (bt 36 4095) rfl rfl HT_.out HW_.out hHeld ?_
    refine qo 12 (some 98) (bt 36 8191) rfl rfl HT_.out fun K hK => ?_
    refine goes_ Try.func10 (by kernel_rfl) rfl #[.slice (some ⟨go34, 0, none⟩) y483.length co34, .slice A485_0 ((rd_T36 t452 t455).f0).length c485_0] (by rfl) rfl rfl (by (try simp only [List.map_toArray, List.map_cons, List.map_nil]); first | done | (rw [show y483.length = y480.length from (Kd.R_reads' HO482.out).1.symm] <;> rfl) | rfl | (simp only [List.length_drop, List.length_take]; rfl)) ?_
    with_reducible refine (laws_lqPages.calls kj5 _ _ y483 _ _ ((rd_T36 t452 t455).f0) true _ ?side1 ?side2 ?side3 ?side4 A49.out).mono ?_
    (case side1 => exact pc ((Kd.R_reads' HO482.out).2.2))
    (case side2 => rw [show y483.length = y480.length from (Kd.R_reads' HO482.out).1.symm]; exact (Kd.R_reads' HO482.out).2.1)
    (case side3 => exact pc HR485_0.out)
    (case side4 => exact HC485_0.out)
    rintro e w' ⟨rfl, ⟨nd, rfl⟩⟩
    refine ⟨_, rfl, ?_⟩
    refine hK.out _ _ ⟨hHeld.1, hHeld.2.1, hHeld.2.2.1, hHeld.2.2.2.1, hHeld.2.2.2.2.1, hHeld.2.2.2.2.2⟩ (fun hHeld => ?_)
    clear hK K
    refine qn (some 98) ?_
    refine qj 13 99 (bt 36 16383) rfl rfl HT_.out ?_
    refine qj 14 100 (bt 36 32767) rfl rfl HT_.out ?_
    refine qj 15 101 (bt 36 65535) rfl rfl HT_.out ?_
    refine qj 16 102 (bt 36 131071) rfl rfl HT_.out ?_
    refine qj 17 103 (bt 36 262143) rfl rfl HT_.out ?_
    refine qj 18 104 (bt 36 524287) rfl rfl HT_.out ?_
    refine qj 19 105 (bt 36 1048575) rfl rfl HT_.out ?_
    refine qj 21 107 (bt 36 3145727) rfl rfl HT_.out ?_
    refine qj 22 108 (bt 36 7340031) rfl rfl HT_.out ?_
    refine qj 23 109 (bt 36 15728639) rfl rfl HT_.out ?_
    refine qj 24 110 (bt 36 32505855) rfl rfl HT_.out ?_
    refine qm 20 106 (bt 36 33554431) rfl rfl HT_.out HW_.out hHeld ?_
    refine qm 25 111 (bt 36 67108863) rfl rfl HT_.out HW_.out hHeld ?_
    refine qj 26 112 (bt 36 134217727) rfl rfl HT_.out ?_
    refine qj 27 113 (bt 36 268435455) rfl rfl HT_.out ?_
    refine qj 28 114 (bt 36 536870911) rfl rfl HT_.out ?_
    refine qj 29 115 (bt 36 1073741823) rfl rfl HT_.out ?_
    refine qj 30 116 (bt 36 2147483647) rfl rfl HT_.out ?_
    refine qj 32 118 (bt 36 6442450943) rfl rfl HT_.out ?_
    refine qj 33 119 (bt 36 15032385535) rfl rfl HT_.out ?_
    refine qo 31 (some 117) (bt 36 17179869183) rfl rfl HT_.out fun K hK => ?_
    refine qg Try.func8 #[.slice (some ad473) t466.length co37, .int .i64 t455] rfl rfl ?_
    with_reducible refine (impl_FlashClean.calls kj5 _ _ t466 t455 t489 _ ?side1 ?side2 A52.out).mono ?_
    (case side1 => exact pc ((Kd.V_reads' HO_9.out).2.2))
    (case side2 => exact (Kd.V_reads' HO_9.out).2.1)
    rintro e w55 ⟨rfl, hb⟩
    have HS0_ := (hb.cell (World.block_lt_of_cell? _ _ (hHeld.1))).trans (hHeld.1)
    have HS1_ := (hb.cell (World.block_lt_of_cell? _ _ (hHeld.2.1))).trans (hHeld.2.1)
    have HS2_ := (hb.cell (World.block_lt_of_cell? _ _ (hHeld.2.2.1))).trans (hHeld.2.2.1)
    have HS3_ := (hb.cell (World.block_lt_of_cell? _ _ (hHeld.2.2.2.1))).trans (hHeld.2.2.2.1)
    have HS4_ := (hb.cell (World.block_lt_of_cell? _ _ (hHeld.2.2.2.2.1))).trans (hHeld.2.2.2.2.1)
    have HS5_ := (hb.cell (World.block_lt_of_cell? _ _ (hHeld.2.2.2.2.2))).trans (hHeld.2.2.2.2.2)
    refine ⟨_, rfl, ?_⟩
    replace HO_3 := am (Kd.V_below (pv HO_3.out) hb)
    replace HO_7 := am (Kd.S_below (ps HO_7.out) hb)
    replace HO_9 := am (Kd.V_below (pv HO_9.out) hb)
    replace HL473_0 := am (Kd.V_below (pv HL473_0.out) hb)
    replace HL479_0 := am (Kd.V_below (pv HL479_0.out) hb)
    replace HO482 := am (Kd.R_below (pr HO482.out) hb)
    replace HL485_0 := am (Kd.V_below (pv HL485_0.out) hb)
    replace HL487_0 := am (Kd.V_below (pv HL487_0.out) hb)
    replace HL488_0 := am (Kd.V_below (pv HL488_0.out) hb)
    replace BK461 := am (blk_below (pb BK461.out) hb)
    replace BK475 := am (blk_below (pb BK475.out) hb)
    replace HR485_0 := am (Kd.C_below (pc HR485_0.out) hb)
    replace HR487_0 := am (Kd.C_below (pc HR487_0.out) hb)
    replace HR488_0 := am (Kd.C_below (pc HR488_0.out) hb)
    replace HB := am (below_step (bg2 HB.out GE461.out GE475.out) hb)
    clear hb
    refine hK.out _ _ ⟨HS0_, HS1_, HS2_, HS3_, HS4_, HS5_⟩ (fun hHeld => ?_)
    clear hK K
    refine qn (some 117) ?_
    refine qj 34 120 (bt 36 34359738367) rfl rfl HT_.out ?_
    refine qj 35 121 (bt 36 68719476735) rfl rfl HT_.out ?_
    refine done_ (done_of HT_.out (by kernel_rfl)) ?_
    try go_wp2
    go_meet
    case rel => exact ⟨_, ((t489 != (wrap64 (t472 - 1)))), rf, H', ⟨by have := HJ5.out; first | omega | exact Nat.le_refl _⟩, ⟨pv (Kd.V_mono HO_9.out (fun _ hk => ⟨hk.1.2.1, hk.1.2.2⟩))⟩, ⟨pb BK461.out⟩, ⟨pb BK475.out⟩, ⟨bg2 HB.out GE461.out GE475.out⟩⟩
   case rest =>
    clear HC35
    obtain ⟨kq, x121_34, rfl, HA, HJ34, HO_9, BK461, BK475, HB⟩ := hcut
    cases kq with
    | zero => exact absurd HA.out (by simp [laws_FnWriteNext.j1])
    | succ kj34 =>
     have H := HA.out
     clear HA
     simp only [laws_FnWriteNext.j1] at H
     by_cases c62 : x121_34 = true
     · subst c62
       rw [if_pos rfl] at H
       obtain rfl := Option.some.inj H
       go_wp2
       go_ret
       exact ⟨by first | rfl | (simp [errW_none, errW_some] <;> rfl) | (simp only [← hji29]; first | rfl | (simp [errW_none, errW_some] <;> rfl)) | (simp [*, errW_none, errW_some] <;> rfl), bg2 HB.out GE461.out GE475.out⟩
     replace c62 := Bool.eq_false_iff.mpr c62
     subst c62
     rw [if_neg (show ¬ (false = true) by decide)] at H
     by_cases c63 : t460 = true
     · subst c63
       rw [if_pos rfl] at H
       by_cases c64 : (((rd_T33 ((rd_T36 t466 t455).f0) (ji29)).f0) == 2 && ((((rd_T33 ((rd_T36 t466 t455).f0) (ji29)).f1.f0) == 0 && (((rd_T33 ((rd_T36 t466 t455).f0) (ji29)).f1.f1) == 0 && (((rd_T33 ((rd_T36 t466 t455).f0) (ji29)).f1.f2) == 0 && (((rd_T33 ((rd_T36 t466 t455).f0) (ji29)).f1.f3) == 0)))))) = true
       rotate_left
       · rw [if_neg c64] at H
         have c64b0 : (((rd_T33 ((rd_T36 t466 t455).f0) (ji29)).f0) == 2 && ((((rd_T33 ((rd_T36 t466 t455).f0) (ji29)).f1.f0) == 0 && (((rd_T33 ((rd_T36 t466 t455).f0) (ji29)).f1.f1) == 0 && (((rd_T33 ((rd_T36 t466 t455).f0) (ji29)).f1.f2) == 0 && (((rd_T33 ((rd_T36 t466 t455).f0) (ji29)).f1.f3) == 0)))))) = false := by simpa using c64
         (try (have c64b1 : decide (((rd_T33 ((rd_T36 t466 t455).f0) (ji29)).f0) = 2 && ((((rd_T33 ((rd_T36 t466 t455).f0) (ji29)).f1.f0) == 0 && (((rd_T33 ((rd_T36 t466 t455).f0) (ji29)).f1.f1) == 0 && (((rd_T33 ((rd_T36 t466 t455).f0) (ji29)).f1.f2) == 0 && (((rd_T33 ((rd_T36 t466 t455).f0) (ji29)).f1.f3) == 0)))))) = false := by simpa using c64))
         (try (have c64b2 : (((rd_T33 ((rd_T36 t466 t455).f0) (ji29)).f0) == 2 && ((((rd_T33 ((rd_T36 t466 t455).f0) (ji29)).f1.f0) == 0 && (((rd_T33 ((rd_T36 t466 t455).f0) (ji29)).f1.f1) == 0 && (((rd_T33 ((rd_T36 t466 t455).f0) (ji29)).f1.f2) == 0 && (((rd_T33 ((rd_T36 t466 t455).f0) (ji29)).f1.f3) == 0)))))) = false := by simpa using c64))
         (try (have c64b3 : ¬ (((rd_T33 ((rd_T36 t466 t455).f0) (ji29)).f0) = 2 && ((((rd_T33 ((rd_T36 t466 t455).f0) (ji29)).f1.f0) == 0 && (((rd_T33 ((rd_T36 t466 t455).f0) (ji29)).f1.f1) == 0 && (((rd_T33 ((rd_T36 t466 t455).f0) (ji29)).f1.f2) == 0 && (((rd_T33 ((rd_T36 t466 t455).f0) (ji29)).f1.f3) == 0)))))) := by simpa using c64))
         clear c64
         obtain rfl := Option.some.inj H
         have hnb69 := NB475_461.out
         have hnc69 := NB461_475.out
         have hcz70_0 : wc.cell? ⟨gb475, 0, none⟩ = some (.int .i64 ((rd_T33 ((rd_T36 t466 t455).f0) (ji29)).f0)) := (blk_cell BK475.out 0).trans rfl
         have hcz70_1 : wc.cell? ⟨gb475, 1, none⟩ = some (.int .i64 ((rd_T33 ((rd_T36 t466 t455).f0) (ji29)).f1.f0)) := (blk_cell BK475.out 1).trans rfl
         have hcz70_2 : wc.cell? ⟨gb475, 2, none⟩ = some (.int .i64 ((rd_T33 ((rd_T36 t466 t455).f0) (ji29)).f1.f1)) := (blk_cell BK475.out 2).trans rfl
         have hcz70_3 : wc.cell? ⟨gb475, 3, none⟩ = some (.int .i64 ((rd_T33 ((rd_T36 t466 t455).f0) (ji29)).f1.f2)) := (blk_cell BK475.out 3).trans rfl
         have hcz70_4 : wc.cell? ⟨gb475, 4, none⟩ = some (.int .i64 ((rd_T33 ((rd_T36 t466 t455).f0) (ji29)).f1.f3)) := (blk_cell BK475.out 4).trans rfl
         obtain ⟨hfz70_0, hfz70_1, hfz70_2, hfz70_3, hfz70_4⟩ := f5 BK475.out
         go_wp2
         go_ret
         exact ⟨by first | rfl | (simp [errW_none, errW_some] <;> rfl) | (simp only [← hji29]; first | rfl | (simp [errW_none, errW_some] <;> rfl)) | (simp [*, errW_none, errW_some] <;> rfl), bg2 HB.out GE461.out GE475.out⟩
       rw [if_pos c64] at H
       have c64b0 : (((rd_T33 ((rd_T36 t466 t455).f0) (ji29)).f0) == 2 && ((((rd_T33 ((rd_T36 t466 t455).f0) (ji29)).f1.f0) == 0 && (((rd_T33 ((rd_T36 t466 t455).f0) (ji29)).f1.f1) == 0 && (((rd_T33 ((rd_T36 t466 t455).f0) (ji29)).f1.f2) == 0 && (((rd_T33 ((rd_T36 t466 t455).f0) (ji29)).f1.f3) == 0)))))) = true := c64
       (try (have c64b1 : decide (((rd_T33 ((rd_T36 t466 t455).f0) (ji29)).f0) = 2 && ((((rd_T33 ((rd_T36 t466 t455).f0) (ji29)).f1.f0) == 0 && (((rd_T33 ((rd_T36 t466 t455).f0) (ji29)).f1.f1) == 0 && (((rd_T33 ((rd_T36 t466 t455).f0) (ji29)).f1.f2) == 0 && (((rd_T33 ((rd_T36 t466 t455).f0) (ji29)).f1.f3) == 0)))))) = true := by simpa using c64))
       (try (have c64b2 : (((rd_T33 ((rd_T36 t466 t455).f0) (ji29)).f0) == 2 && ((((rd_T33 ((rd_T36 t466 t455).f0) (ji29)).f1.f0) == 0 && (((rd_T33 ((rd_T36 t466 t455).f0) (ji29)).f1.f1) == 0 && (((rd_T33 ((rd_T36 t466 t455).f0) (ji29)).f1.f2) == 0 && (((rd_T33 ((rd_T36 t466 t455).f0) (ji29)).f1.f3) == 0)))))) = true := by simpa using c64))
       clear c64
       replace H := Option.bind_eq_some_iff.mp H
       obtain ⟨t490, A650, H⟩ := H
       have A65 := am A650
       clear A650
       obtain rfl := Option.some.inj H
       have hnb66 := NB475_461.out
       have hnc66 := NB461_475.out
       have hcz67_0 : wc.cell? ⟨gb475, 0, none⟩ = some (.int .i64 ((rd_T33 ((rd_T36 t466 t455).f0) (ji29)).f0)) := (blk_cell BK475.out 0).trans rfl
       have hcz67_1 : wc.cell? ⟨gb475, 1, none⟩ = some (.int .i64 ((rd_T33 ((rd_T36 t466 t455).f0) (ji29)).f1.f0)) := (blk_cell BK475.out 1).trans rfl
       have hcz67_2 : wc.cell? ⟨gb475, 2, none⟩ = some (.int .i64 ((rd_T33 ((rd_T36 t466 t455).f0) (ji29)).f1.f1)) := (blk_cell BK475.out 2).trans rfl
       have hcz67_3 : wc.cell? ⟨gb475, 3, none⟩ = some (.int .i64 ((rd_T33 ((rd_T36 t466 t455).f0) (ji29)).f1.f2)) := (blk_cell BK475.out 3).trans rfl
       have hcz67_4 : wc.cell? ⟨gb475, 4, none⟩ = some (.int .i64 ((rd_T33 ((rd_T36 t466 t455).f0) (ji29)).f1.f3)) := (blk_cell BK475.out 4).trans rfl
       obtain ⟨hfz67_0, hfz67_1, hfz67_2, hfz67_3, hfz67_4⟩ := f5 BK475.out
       go_wp2_with (first | (go_at_call 11; (with_reducible refine (impl_FlashOk.calls _ _ t466 t490 _ ?side1 ?side2 A65.out).mono ?_); (case side1 => exact pc ((Kd.V_reads' HO_9.out).2.2)); (case side2 => exact (Kd.V_reads' HO_9.out).2.1); rintro e w68 ⟨rfl, hb⟩; replace HO_9 := am (Kd.V_below (pv HO_9.out) hb); replace BK461 := am (blk_below (pb BK461.out) hb); replace BK475 := am (blk_below (pb BK475.out) hb); replace HB := am (below_step (bg2 HB.out GE461.out GE475.out) hb); clear hb))
       go_ret
       exact ⟨by first | rfl | (simp [errW_none, errW_some] <;> rfl) | (simp only [← hji29]; first | rfl | (simp [errW_none, errW_some] <;> rfl)) | (simp [*, errW_none, errW_some] <;> rfl), bg2 HB.out GE461.out GE475.out⟩
     replace c63 := Bool.eq_false_iff.mpr c63
     subst c63
     rw [if_neg (show ¬ (false = true) by decide)] at H
     by_cases c71 : (((rd_T33 ((rd_T36 t466 t455).f0) (ji29)).f0) == 1 && ((((rd_T33 ((rd_T36 t466 t455).f0) (ji29)).f1.f0) == t456 && (((rd_T33 ((rd_T36 t466 t455).f0) (ji29)).f1.f1) == t457 && (((rd_T33 ((rd_T36 t466 t455).f0) (ji29)).f1.f2) == t458 && (((rd_T33 ((rd_T36 t466 t455).f0) (ji29)).f1.f3) == t459)))))) = true
     rotate_left
     · rw [if_neg c71] at H
       have c71b0 : (((rd_T33 ((rd_T36 t466 t455).f0) (ji29)).f0) == 1 && ((((rd_T33 ((rd_T36 t466 t455).f0) (ji29)).f1.f0) == t456 && (((rd_T33 ((rd_T36 t466 t455).f0) (ji29)).f1.f1) == t457 && (((rd_T33 ((rd_T36 t466 t455).f0) (ji29)).f1.f2) == t458 && (((rd_T33 ((rd_T36 t466 t455).f0) (ji29)).f1.f3) == t459)))))) = false := by simpa using c71
       (try (have c71b1 : decide (((rd_T33 ((rd_T36 t466 t455).f0) (ji29)).f0) = 1 && ((((rd_T33 ((rd_T36 t466 t455).f0) (ji29)).f1.f0) == t456 && (((rd_T33 ((rd_T36 t466 t455).f0) (ji29)).f1.f1) == t457 && (((rd_T33 ((rd_T36 t466 t455).f0) (ji29)).f1.f2) == t458 && (((rd_T33 ((rd_T36 t466 t455).f0) (ji29)).f1.f3) == t459)))))) = false := by simpa using c71))
       (try (have c71b2 : (((rd_T33 ((rd_T36 t466 t455).f0) (ji29)).f0) == 1 && ((((rd_T33 ((rd_T36 t466 t455).f0) (ji29)).f1.f0) == t456 && (((rd_T33 ((rd_T36 t466 t455).f0) (ji29)).f1.f1) == t457 && (((rd_T33 ((rd_T36 t466 t455).f0) (ji29)).f1.f2) == t458 && (((rd_T33 ((rd_T36 t466 t455).f0) (ji29)).f1.f3) == t459)))))) = false := by simpa using c71))
       (try (have c71b3 : ¬ (((rd_T33 ((rd_T36 t466 t455).f0) (ji29)).f0) = 1 && ((((rd_T33 ((rd_T36 t466 t455).f0) (ji29)).f1.f0) == t456 && (((rd_T33 ((rd_T36 t466 t455).f0) (ji29)).f1.f1) == t457 && (((rd_T33 ((rd_T36 t466 t455).f0) (ji29)).f1.f2) == t458 && (((rd_T33 ((rd_T36 t466 t455).f0) (ji29)).f1.f3) == t459)))))) := by simpa using c71))
       clear c71
       obtain rfl := Option.some.inj H
       have hnb77 := NB475_461.out
       have hnc77 := NB461_475.out
       have hcz78_0 : wc.cell? ⟨gb475, 0, none⟩ = some (.int .i64 ((rd_T33 ((rd_T36 t466 t455).f0) (ji29)).f0)) := (blk_cell BK475.out 0).trans rfl
       have hcz78_1 : wc.cell? ⟨gb475, 1, none⟩ = some (.int .i64 ((rd_T33 ((rd_T36 t466 t455).f0) (ji29)).f1.f0)) := (blk_cell BK475.out 1).trans rfl
       have hcz78_2 : wc.cell? ⟨gb475, 2, none⟩ = some (.int .i64 ((rd_T33 ((rd_T36 t466 t455).f0) (ji29)).f1.f1)) := (blk_cell BK475.out 2).trans rfl
       have hcz78_3 : wc.cell? ⟨gb475, 3, none⟩ = some (.int .i64 ((rd_T33 ((rd_T36 t466 t455).f0) (ji29)).f1.f2)) := (blk_cell BK475.out 3).trans rfl
       have hcz78_4 : wc.cell? ⟨gb475, 4, none⟩ = some (.int .i64 ((rd_T33 ((rd_T36 t466 t455).f0) (ji29)).f1.f3)) := (blk_cell BK475.out 4).trans rfl
       obtain ⟨hfz78_0, hfz78_1, hfz78_2, hfz78_3, hfz78_4⟩ := f5 BK475.out
       obtain ⟨hcz79_0, hcz79_1, hcz79_2, hcz79_3⟩ := b4 BK461.out
       obtain ⟨hfz79_0, hfz79_1, hfz79_2, hfz79_3⟩ := f4 BK461.out
       go_wp2
       go_ret
       exact ⟨by first | rfl | (simp [errW_none, errW_some] <;> rfl) | (simp only [← hji29]; first | rfl | (simp [errW_none, errW_some] <;> rfl)) | (simp [*, errW_none, errW_some] <;> rfl), bg2 HB.out GE461.out GE475.out⟩
     rw [if_pos c71] at H
     have c71b0 : (((rd_T33 ((rd_T36 t466 t455).f0) (ji29)).f0) == 1 && ((((rd_T33 ((rd_T36 t466 t455).f0) (ji29)).f1.f0) == t456 && (((rd_T33 ((rd_T36 t466 t455).f0) (ji29)).f1.f1) == t457 && (((rd_T33 ((rd_T36 t466 t455).f0) (ji29)).f1.f2) == t458 && (((rd_T33 ((rd_T36 t466 t455).f0) (ji29)).f1.f3) == t459)))))) = true := c71
     (try (have c71b1 : decide (((rd_T33 ((rd_T36 t466 t455).f0) (ji29)).f0) = 1 && ((((rd_T33 ((rd_T36 t466 t455).f0) (ji29)).f1.f0) == t456 && (((rd_T33 ((rd_T36 t466 t455).f0) (ji29)).f1.f1) == t457 && (((rd_T33 ((rd_T36 t466 t455).f0) (ji29)).f1.f2) == t458 && (((rd_T33 ((rd_T36 t466 t455).f0) (ji29)).f1.f3) == t459)))))) = true := by simpa using c71))
     (try (have c71b2 : (((rd_T33 ((rd_T36 t466 t455).f0) (ji29)).f0) == 1 && ((((rd_T33 ((rd_T36 t466 t455).f0) (ji29)).f1.f0) == t456 && (((rd_T33 ((rd_T36 t466 t455).f0) (ji29)).f1.f1) == t457 && (((rd_T33 ((rd_T36 t466 t455).f0) (ji29)).f1.f2) == t458 && (((rd_T33 ((rd_T36 t466 t455).f0) (ji29)).f1.f3) == t459)))))) = true := by simpa using c71))
     clear c71
     replace H := Option.bind_eq_some_iff.mp H
     obtain ⟨t491, A720, H⟩ := H
     have A72 := am A720
     clear A720
     obtain rfl := Option.some.inj H
     have hnb73 := NB475_461.out
     have hnc73 := NB461_475.out
     have hcz74_0 : wc.cell? ⟨gb475, 0, none⟩ = some (.int .i64 ((rd_T33 ((rd_T36 t466 t455).f0) (ji29)).f0)) := (blk_cell BK475.out 0).trans rfl
     have hcz74_1 : wc.cell? ⟨gb475, 1, none⟩ = some (.int .i64 ((rd_T33 ((rd_T36 t466 t455).f0) (ji29)).f1.f0)) := (blk_cell BK475.out 1).trans rfl
     have hcz74_2 : wc.cell? ⟨gb475, 2, none⟩ = some (.int .i64 ((rd_T33 ((rd_T36 t466 t455).f0) (ji29)).f1.f1)) := (blk_cell BK475.out 2).trans rfl
     have hcz74_3 : wc.cell? ⟨gb475, 3, none⟩ = some (.int .i64 ((rd_T33 ((rd_T36 t466 t455).f0) (ji29)).f1.f2)) := (blk_cell BK475.out 3).trans rfl
     have hcz74_4 : wc.cell? ⟨gb475, 4, none⟩ = some (.int .i64 ((rd_T33 ((rd_T36 t466 t455).f0) (ji29)).f1.f3)) := (blk_cell BK475.out 4).trans rfl
     obtain ⟨hfz74_0, hfz74_1, hfz74_2, hfz74_3, hfz74_4⟩ := f5 BK475.out
     obtain ⟨hcz75_0, hcz75_1, hcz75_2, hcz75_3⟩ := b4 BK461.out
     obtain ⟨hfz75_0, hfz75_1, hfz75_2, hfz75_3⟩ := f4 BK461.out
     go_wp2_with (first | (go_at_call 11; (with_reducible refine (impl_FlashOk.calls _ _ t466 t491 _ ?side1 ?side2 A72.out).mono ?_); (case side1 => exact pc ((Kd.V_reads' HO_9.out).2.2)); (case side2 => exact (Kd.V_reads' HO_9.out).2.1); rintro e w76 ⟨rfl, hb⟩; replace HO_9 := am (Kd.V_below (pv HO_9.out) hb); replace BK461 := am (blk_below (pb BK461.out) hb); replace BK475 := am (blk_below (pb BK475.out) hb); replace HB := am (below_step (bg2 HB.out GE461.out GE475.out) hb); clear hb))
     go_ret
     exact ⟨by first | rfl | (simp [errW_none, errW_some] <;> rfl) | (simp only [← hji29]; first | rfl | (simp [errW_none, errW_some] <;> rfl)) | (simp [*, errW_none, errW_some] <;> rfl), bg2 HB.out GE461.out GE475.out⟩
def laws_FnWriteNext.Pure : Prop := ∀ (l0 : List Int), l0.length ≤ maxLen → l0.length * 1 ≤ 140737488351232 → (∀ x ∈ l0, (Lit.int .u8 x).wf = true) → ∃ k, laws_FnWriteNext.f k l0 = some true
theorem laws_FnWriteNext.walk (P : laws_FnWriteNext.Pure) (a0 : Option Addr) (len0 cap0 : Nat) (z0 : List Int) (w : World) (w0 : (a0 = none ∧ len0 = 0 ∧ cap0 = 0 ∧ z0 = []) ∨ ∃ x, a0 = some x ∧ len0 ≤ cap0 ∧ cap0 ≤ maxLen ∧ z0.length = cap0 ∧ (∀ i, i < z0.length → w.cell? (x.add i) = some (.int .u8 (z0.getD i 0))) ∧ ∀ n ∈ z0, (Lit.int .u8 n).wf = true) (y0 : len0 * 1 ≤ 140737488351232) :
 Calls Try.prog 3 #[.slice a0 len0 cap0] w fun e w' => e = .returned (.bool true) ∧ Below w.heap.size w w' := by
 obtain ⟨l0, rfl, hr0, hm0, hw0, hc0⟩ := ReadsInt.ofRowC w0
 obtain ⟨k, h⟩ := P l0 hm0 y0 hw0
 refine (laws_FnWriteNext.calls k _ _ l0 true w (Kd.C_of_reads (d := (0 : Int)) (h1 := fun _ => rfl) hr0) hc0 h).mono ?_
 rintro e w' ⟨rfl, hd⟩
 exact ⟨rfl, hd⟩
end Go.Proofs.Ythmgdljblidgjaa.Rw
