-- printed by wip/pp/pp.py
import Derived.Test.YtenmnclkbleglaaP20
import Derived.Test.YtenmnclkbleglaaP211
import Derived.Test.YtenmnclkbleglaaP213
import Derived.Test.YtenmnclkbleglaaP214
import Derived.Test.YtenmnclkbleglaaP215
namespace Go.Proofs.Ytenmnclkbleglaa.P2
set_option maxHeartbeats 8000000
set_option maxRecDepth 100000
open Go.RowKit Go.Proofs.YtenmnclkbleglaaW.PrintWords Go.Proofs.YtenmnclkbleglaaW.PrintLast Go.Proofs.YtenmnclkbleglaaW.PrintMore
attribute [local go_sem] max2_int min2_int max_two min_two max_three min_three max_four min_four
set_option linter.unusedVariables false
set_option linter.unusedSimpArgs false
attribute [local go_sem high] eqA32
mutual
def laws_FnPutSteps.j0 : Nat → Int → Int → List (S34) → Int → Bool → List (S42) → List Int → Option (Bool)
 | 0, _, _, _, _, _, _, _ => none
 | k + 1, x4, x5, x6, x7, x40, x464000, x464001 => if x40 = true then ((spec_StepsPut.f k x464000 x464001 x4 x5).bind fun t470 => (some (x7 == (t470.length : Int)))) else (if 0 ≤ (wrap64 (x7 - 1)) then (if (wrap64 (x7 - 1)) < (x6.length : Int) then ((impl_FindOpen.f k x464000).bind fun bt475 => (if ((rd_T34 x6 (wrap64 (x7 - 1))).f0) = 3 then ((impl_FindNext.f x464000).bind fun t477 => (laws_FnPutSteps.j1 k x6 x7 bt475.1 bt475.2 (!(((rd_T34 x6 (wrap64 (x7 - 1))).f4.f0) == 1) || (!(((rd_T34 x6 (wrap64 (x7 - 1))).f4.f1) == t477) || (!(((rd_T34 x6 (wrap64 (x7 - 1))).f4.f2) == x4) || (!(((rd_T34 x6 (wrap64 (x7 - 1))).f4.f3) == x5))))) x464000 x464001 ((rd_T34 x6 (wrap64 (x7 - 1))).f0) ((rd_T34 x6 (wrap64 (x7 - 1))).f1) ((rd_T34 x6 (wrap64 (x7 - 1))).f2) ((rd_T34 x6 (wrap64 (x7 - 1))).f3) ((rd_T34 x6 (wrap64 (x7 - 1))).f4.f0) ((rd_T34 x6 (wrap64 (x7 - 1))).f4.f1) ((rd_T34 x6 (wrap64 (x7 - 1))).f4.f2) ((rd_T34 x6 (wrap64 (x7 - 1))).f4.f3))) else (laws_FnPutSteps.j1 k x6 x7 bt475.1 bt475.2 true x464000 x464001 ((rd_T34 x6 (wrap64 (x7 - 1))).f0) ((rd_T34 x6 (wrap64 (x7 - 1))).f1) ((rd_T34 x6 (wrap64 (x7 - 1))).f2) ((rd_T34 x6 (wrap64 (x7 - 1))).f3) ((rd_T34 x6 (wrap64 (x7 - 1))).f4.f0) ((rd_T34 x6 (wrap64 (x7 - 1))).f4.f1) ((rd_T34 x6 (wrap64 (x7 - 1))).f4.f2) ((rd_T34 x6 (wrap64 (x7 - 1))).f4.f3)))) else (none)) else (none))
def laws_FnPutSteps.j1 : Nat → List (S34) → Int → Int → Bool → Bool → List (S42) → List Int → Int → Int → Int → Int → Int → Int → Int → Int → Option (Bool)
 | 0, _, _, _, _, _, _, _, _, _, _, _, _, _, _, _ => none
 | k + 1, x6, x7, x9, x10, x72, x464000, x464001, x475000, x475001, x475002, x475003, x475004, x475005, x475006, x475007 => if x72 = true then (some false) else (if x10 = true then (if x7 = 1 then (some (x475003 == x9)) else (some false)) else ((impl_FindOld.f x464000).bind fun t478 => (laws_FnPutSteps.l0 k x6 x7 t478 0 0 x464000 x464001 x475000 x475001 x475002 x475003 x475004 x475005 x475006 x475007)))
def laws_FnPutSteps.l0 : Nat → List (S34) → Int → Int → Int → Int → List (S42) → List Int → Int → Int → Int → Int → Int → Int → Int → Int → Option (Bool)
 | 0, _, _, _, _, _, _, _, _, _, _, _, _, _, _, _ => none
 | k + 1, x6, x7, x11, x12, x13, x464000, x464001, x475000, x475001, x475002, x475003, x475004, x475005, x475006, x475007 => if x13 < 4 then (if 0 ≤ x11 then (if x11 < (x464000.length : Int) then (if 0 ≤ x13 then (if x13 < (((rd_T42 x464000 x11).f0).length : Int) then ((impl_FindLive.f k x464000 x11 x13).bind fun t484 => (if t484 = true then (laws_FnPutSteps.j3 k x6 x7 x11 x12 x13 (((rd_T39 ((rd_T42 x464000 x11).f0) x13).f1.f0) == 1) x464000 x464001 x475000 x475001 x475002 x475003 x475004 x475005 x475006 x475007 ((rd_T39 ((rd_T42 x464000 x11).f0) x13).f0) ((rd_T39 ((rd_T42 x464000 x11).f0) x13).f1.f0) ((rd_T39 ((rd_T42 x464000 x11).f0) x13).f1.f1) ((rd_T39 ((rd_T42 x464000 x11).f0) x13).f1.f2) ((rd_T39 ((rd_T42 x464000 x11).f0) x13).f1.f3)) else (laws_FnPutSteps.j3 k x6 x7 x11 x12 x13 false x464000 x464001 x475000 x475001 x475002 x475003 x475004 x475005 x475006 x475007 ((rd_T39 ((rd_T42 x464000 x11).f0) x13).f0) ((rd_T39 ((rd_T42 x464000 x11).f0) x13).f1.f0) ((rd_T39 ((rd_T42 x464000 x11).f0) x13).f1.f1) ((rd_T39 ((rd_T42 x464000 x11).f0) x13).f1.f2) ((rd_T39 ((rd_T42 x464000 x11).f0) x13).f1.f3)))) else (none)) else (none)) else (none)) else (none)) else (if x12 = (wrap64 (x7 - 2)) then (if 0 ≤ x12 then (if x12 < (x6.length : Int) then (if ((rd_T34 x6 x12).f0) = 2 then (if ((rd_T34 x6 x12).f3) = x11 then (some (x475003 == x11)) else (some false)) else (some false)) else (none)) else (none)) else (some false))
def laws_FnPutSteps.j3 : Nat → List (S34) → Int → Int → Int → Int → Bool → List (S42) → List Int → Int → Int → Int → Int → Int → Int → Int → Int → Int → Int → Int → Int → Int → Option (Bool)
 | 0, _, _, _, _, _, _, _, _, _, _, _, _, _, _, _, _, _, _, _, _, _ => none
 | k + 1, x6, x7, x11, x12, x13, x108, x464000, x464001, x475000, x475001, x475002, x475003, x475004, x475005, x475006, x475007, x484000, x484001, x484002, x484003, x484004 => if x108 = true then (if x12 ≥ (wrap64 (x7 - 2)) then (some false) else (if 0 ≤ x12 then (if x12 < (x6.length : Int) then (if ((rd_T34 x6 x12).f0) = 1 then (if ((rd_T34 x6 x12).f1) = x484003 then (if ((rd_T34 x6 x12).f2) = x484004 then (laws_FnPutSteps.l0 k x6 x7 x11 (wrap64 (x12 + 1)) (wrap64 (x13 + 1)) x464000 x464001 x475000 x475001 x475002 x475003 x475004 x475005 x475006 x475007) else (some false)) else (some false)) else (some false)) else (none)) else (none))) else (laws_FnPutSteps.l0 k x6 x7 x11 x12 (wrap64 (x13 + 1)) x464000 x464001 x475000 x475001 x475002 x475003 x475004 x475005 x475006 x475007)
end
def laws_FnPutSteps.f (k : Nat) (l0 : List Int) : Option (Bool) := if (l0.length : Int) > 1048576 then (some true) else ((spec_DrawStepsPut.f k l0).bind fun bt455 => ((impl_StepsPut.f k bt455.1 bt455.2.1 bt455.2.2.1 bt455.2.2.2).bind fun t464 => ((spec_StepsPut.f k bt455.1 bt455.2.1 bt455.2.2.1 bt455.2.2.2).bind fun t467 => (if (t464.length : Int) = (t467.length : Int) then (laws_FnPutSteps.j0 k bt455.2.2.1 bt455.2.2.2 t464 (t464.length : Int) ((t464.length : Int) == 0) bt455.1 bt455.2.1) else (laws_FnPutSteps.j0 k bt455.2.2.1 bt455.2.2.2 t464 (t464.length : Int) true bt455.1 bt455.2.1)))))
def laws_FnPutSteps.T10 : Bool × List (List Nat × List Nat) := (true, [([], []), ([0], [0]), ([1], [1]), ([2], [2]), ([3], [3]), ([4, 3], [3, 4]), ([3], [3]), ([6, 3], [3, 6]), ([7, 3, 3], [3, 7]), ([3], [3]), ([3], [3]), ([8, 9, 10, 3], [3, 8, 9, 10]), ([5, 11, 3], [3, 5, 11]), ([3, 12], [3, 12])])
def laws_FnPutSteps.B10 : List Nat := [0, 1, 3, 7, 15, 31, 15, 79, 207, 15, 15, 1999, 4095, 8191]
theorem laws_FnPutSteps.tab10 : rtab .any (opsOf Try.f3 10) = laws_FnPutSteps.T10 := by kernel_rfl
theorem laws_FnPutSteps.bits10 : waitsOk laws_FnPutSteps.T10.2 laws_FnPutSteps.B10 = true := by kernel_rfl
def laws_FnPutSteps.T21 : Bool × List (List Nat × List Nat) := (true, [([], []), ([], []), ([1], [1]), ([0, 2], [0, 2]), ([3], [3]), ([4], [4]), ([4], [4]), ([5, 6, 4], [4, 5, 6]), ([7, 4], [4, 7]), ([8, 4], [4, 8]), ([9, 4], [4, 9]), ([4, 10], [4, 10]), ([11, 4], [11]), ([12], [12]), ([12], [12]), ([13, 14, 12], [12, 13, 14]), ([15, 12], [12, 15]), ([16, 12], [12, 16]), ([12], [12]), ([18, 12], [12, 18]), ([19, 12], [12, 19]), ([17, 20, 12], [12, 17, 20]), ([12, 21], [12, 21]), ([22, 12], [22]), ([23], [23]), ([23], [23]), ([24, 25, 23], [23, 24, 25]), ([26, 23], [23, 26]), ([27, 23], [23, 27]), ([23], [23]), ([29, 23], [23, 29]), ([30, 23], [23, 30]), ([28, 31, 23], [23, 28, 31]), ([23, 32], [23, 32])])
def laws_FnPutSteps.B21 : List Nat := [0, 0, 2, 7, 15, 31, 31, 127, 255, 511, 1023, 2047, 4095, 8191, 8191, 32767, 65535, 131071, 8191, 270335, 794623, 2097151, 4194303, 8388607, 16777215, 16777215, 67108863, 134217727, 268435455, 16777215, 553648127, 1627389951, 4294967295, 8589934591]
theorem laws_FnPutSteps.tab21 : rtab .any (opsOf Try.f3 21) = laws_FnPutSteps.T21 := by kernel_rfl
theorem laws_FnPutSteps.bits21 : waitsOk laws_FnPutSteps.T21.2 laws_FnPutSteps.B21 = true := by kernel_rfl
theorem laws_FnPutSteps.calls (k : Nat) (A0 : Option Addr) (c0 : Nat) (l0 : List Int) (r : Bool) (HRT : Aside0 (r = true)) (w : World) (hr0 : Kd.C (Kd.int .u8) w A0 l0.length l0) (hc0 : l0.length ≤ c0) (h : laws_FnPutSteps.f k l0 = some r) :
 Calls Try.prog 3 #[.slice A0 l0.length c0] w fun e w' => e = .returned (.bool r) ∧ Below w.heap.size w w' := by
 have hu26 := Try.underlying26
 have hu34 := Try.underlying34
 have hu32 := Try.underlying32
 have hu39 := Try.underlying39
 have HR0 := am hr0
 have HC0 := am hc0
 clear hr0 hc0
 have HB := am (Below.refl w.heap.size w)
 have H : (if (l0.length : Int) > 1048576 then (some true) else ((spec_DrawStepsPut.f k l0).bind fun bt455 => ((impl_StepsPut.f k bt455.1 bt455.2.1 bt455.2.2.1 bt455.2.2.2).bind fun t464 => ((spec_StepsPut.f k bt455.1 bt455.2.1 bt455.2.2.1 bt455.2.2.2).bind fun t467 => (if (t464.length : Int) = (t467.length : Int) then (laws_FnPutSteps.j0 k bt455.2.2.1 bt455.2.2.2 t464 (t464.length : Int) ((t464.length : Int) == 0) bt455.1 bt455.2.1) else (laws_FnPutSteps.j0 k bt455.2.2.1 bt455.2.2.2 t464 (t464.length : Int) true bt455.1 bt455.2.1)))))) = some r := h
 clear h
 by_cases c2 : (l0.length : Int) > 1048576
 · rw [if_pos c2] at H
   have c2b0 := decide_eq_true c2
   have c2b1 : decide (1048576 < l0.length) = true := decide_eq_true (by omega)
   clear c2
   obtain rfl := Option.some.inj H
   go_enter Try.func3, Try.ntmps3
   go_wp2
   go_ret
   exact (rq (ph HB.out))
 rw [if_neg c2] at H
 have c2b0 := decide_eq_false c2
 have c2b1 : decide (1048576 < l0.length) = false := decide_eq_false (by omega)
 clear c2
 replace H := Option.bind_eq_some_iff.mp H
 obtain ⟨⟨t455, t458, t461, t462⟩, A30, H⟩ := H
 have A3 := am A30
 clear A30
 replace H := Option.bind_eq_some_iff.mp H
 obtain ⟨t464, A40, H⟩ := H
 have A4 := am A40
 clear A40
 have HC5 := am H
 clear H
 go_enter Try.func3, Try.ntmps3
 go_upto_region 6 with (first | (go_at_call 4; (with_reducible refine (spec_DrawStepsPut.calls k _ _ l0 t455 t458 t461 t462 _ ?side1 ?side2 A3.out).mono ?_); (case side1 => exact pc HR0.out); (case side2 => exact HC0.out); rintro e w6 ⟨v456, v459, rfl, ho0, ho1, hb⟩; have HO457 := am (Kd.V_lower (Kd.V_mono (ok' := fun k_ => some k_ ≠ (v459 : Value).ownBlock) ho0 (fun k_ hk_ => hk_.2)) (below_size (ph HB.out))); have HO460 := am (Kd.Q_lower (Kd.Q_mono (ok' := fun k_ => True) ho1 (fun _ hk_ => trivial)) (below_size (ph HB.out))); replace HB := am (below_step (ph HB.out) hb); clear hb ho0 ho1) | ((with_reducible refine bx 3 #[.slice none 0 0, .slice none 0 0] 26 ?hd ?_ ?hg ?hrun); (case hd => rfl); (case hg => rfl); (case hrun => first | (go_simp; done) | (go_simp; rfl)); intro gb463 hg w7 hbox hb; replace HO457 := am (Kd.V_below (Kd.V_elderB (pv HO457.out) gb463 (Nat.le_of_eq hg.symm)) hb); replace HO460 := am (Kd.Q_below (pq HO460.out) hb); have BK463 := am (hbox); have GW463 := am (ge hg (ph HB.out)); have GE463 := GW463; replace HB := am (below_step (ph HB.out) hb); clear hb hbox hg; obtain ⟨Ao8, co8, eo8⟩ := Kd.V_slice HO457.out; subst eo8; obtain ⟨hcz9_0, hcz9_1⟩ := b2 BK463.out; obtain ⟨hfz9_0, hfz9_1⟩ := f2 BK463.out; obtain ⟨Ao10, co10, eo10, _⟩ := Kd.Q_slice HO460.out; subst eo10) | (go_at_call 5; (with_reducible refine (impl_StepsPut.calls k _ _ t455 _ _ t458 t461 t462 t464 _ ?side1 ?side2 ?side3 ?side4 A4.out).mono ?_); (case side1 => refine (Kd.V_reads' (e := 42) (base := w.heap.size) (ok := fun k_ => (some k_ ≠ (.slice Ao10 t458.length co10 : Value).ownBlock ∧ k_ ≠ gb463)) (n := t455.length) (c := co8) ?_).2.2; exact (pv ((Kd.V_mono (Kd.V_far (p := ⟨gb463, 1, none⟩) (Kd.V_far (p := ⟨gb463, 0, none⟩) (Kd.V_mono HO457.out (fun k_ hk => (⟨hk, hk.2⟩ : _ ∧ k_ ≠ gb463))) (fun _ hk => hk.2) (.slice Ao8 t455.length co8)) (fun _ hk => hk.2) (.slice Ao10 t458.length co10)) (fun _ h_ => h_.1))))); (case side2 => exact (Kd.V_reads' HO457.out).2.1); (case side3 => refine (Kd.Q_reads' (e := 3) (base := w.heap.size) (ok := fun k_ => True) (n := t458.length) (c := co10) ?_).2.2; exact (pq ((Kd.Q_mono (Kd.Q_far (p := ⟨gb463, 1, none⟩) (Kd.Q_far (p := ⟨gb463, 0, none⟩) (Kd.Q_types HO460.out BK463.out (by decide)) (fun _ hk => hk.2) (.slice Ao8 t455.length co8)) (fun _ hk => hk.2) (.slice Ao10 t458.length co10)) (fun _ h_ => h_.1))))); (case side4 => exact (Kd.Q_reads' HO460.out).2.1); rintro e w11 ⟨v465, rfl, ho0, hb⟩; replace HO457 := am (Kd.V_elder' (pv ((Kd.V_mono (Kd.V_far (p := ⟨gb463, 1, none⟩) (Kd.V_far (p := ⟨gb463, 0, none⟩) (Kd.V_mono HO457.out (fun k_ hk => (⟨hk, hk.2⟩ : _ ∧ k_ ≠ gb463))) (fun _ hk => hk.2) (.slice Ao8 t455.length co8)) (fun _ hk => hk.2) (.slice Ao10 t458.length co10)) (fun _ h_ => h_.1)))) (Kd.R_base ho0) hb); replace HO460 := am (Kd.Q_below (pq ((Kd.Q_mono (Kd.Q_far (p := ⟨gb463, 1, none⟩) (Kd.Q_far (p := ⟨gb463, 0, none⟩) (Kd.Q_types HO460.out BK463.out (by decide)) (fun _ hk => hk.2) (.slice Ao8 t455.length co8)) (fun _ hk => hk.2) (.slice Ao10 t458.length co10)) (fun _ h_ => h_.1)))) hb); have HO466 := am (Kd.R_lower ho0 (below_size (bg1 HB.out GE463.out))); replace BK463 := am (blk_below (bp2 (pb BK463.out)) hb); replace HB := am (below_step (bg1 HB.out GE463.out) hb); clear hb ho0; obtain ⟨Ao12, co12, eo12⟩ := Kd.R_slice HO466.out; subst eo12))
 (try simp only [Act.put, List.setIfInBounds_toArray, List.set_cons_zero, List.set_cons_succ])
 go_cut [40] (fun v40 wc => ∃ (kq : Nat) (x40_4 : Bool), v40 = .bool x40_4 ∧ Aside0 (laws_FnPutSteps.j0 kq t461 t462 t464 (t464.length : Int) x40_4 t455 t458 = some r) ∧ Aside0 (kq ≤ k) ∧ Aside0 (Kd.R k34 34 wc w.heap.size (fun _ => True) (.slice Ao12 t464.length co12) t464) ∧ Aside0 (Kd.V k42 42 wc w.heap.size (fun k_ => some k_ ≠ ((.slice Ao12 t464.length co12) : Value).ownBlock ∧ some k_ ≠ ((.slice Ao10 t458.length co10) : Value).ownBlock ∧ k_ ≠ gb463) (.slice Ao8 t455.length co8) t455) ∧ Aside0 (Kd.Q (Kd.int .i64) 3 wc w.heap.size (fun _ => True) (.slice Ao10 t458.length co10) t458) ∧ Aside0 (wc.heap[gb463]? = some (.cells #[(.slice Ao8 t455.length co8), (.slice Ao10 t458.length co10)] 26 (0, 0))) ∧ Aside0 (Below w.heap.size w wc))
 case first =>
  have H := HC5.out
  clear HC5
  replace H := Option.bind_eq_some_iff.mp H
  obtain ⟨t467, A130, H⟩ := H
  have A13 := am A130
  clear A130
  by_cases c14 : (t464.length : Int) = (t467.length : Int)
  rotate_left
  · rw [if_neg c14] at H
    have c14b0 : ((t464.length : Int) == (t467.length : Int)) = false := beq_eq_false_iff_ne.mpr c14
    have c14b1 : ((t464.length : Int) != (t467.length : Int)) = true := bne_iff_ne.mpr c14
    have c14b2 : (t464.length == t467.length) = false := by first | simpa using c14 | (simp at c14 ⊢; omega)
    (first | rw [c14b0] | (simp only [i64_w, i32_w]; rw [c14b0]) | skip)
    have H' := am H
    clear H
    obtain ⟨hcz18_0, hcz18_1⟩ := b2 BK463.out
    obtain ⟨hfz18_0, hfz18_1⟩ := f2 BK463.out
    go_wp2_with (first | (go_at_call 6; (with_reducible refine (spec_StepsPut.calls k _ _ t455 _ _ t458 t461 t462 t467 _ ?side1 ?side2 ?side3 ?side4 A13.out).mono ?_); (case side1 => exact pc ((Kd.V_reads' HO457.out).2.2)); (case side2 => exact (Kd.V_reads' HO457.out).2.1); (case side3 => exact pc ((Kd.Q_reads' HO460.out).2.2)); (case side4 => exact (Kd.Q_reads' HO460.out).2.1); rintro e w19 ⟨v468, rfl, ho0, hb⟩; replace HO457 := am (Kd.V_elder' (pv HO457.out) (Kd.R_base ho0) hb); replace HO460 := am (Kd.Q_below (pq HO460.out) hb); have HO469 := am (Kd.R_lower (Kd.R_new' ho0 (Kd.R_lt (pr HO466.out))) (below_size (bg1 HB.out GE463.out))); replace HO466 := am (Kd.R_elder' (pr HO466.out) (Kd.R_base ho0) hb); replace BK463 := am (blk_below (pb BK463.out) hb); replace HB := am (below_step (bg1 HB.out GE463.out) hb); clear hb ho0; obtain ⟨Ao20, co20, eo20⟩ := Kd.R_slice HO469.out; subst eo20))
    go_meet
    case rel => exact ⟨_, (true), rf, H', ⟨by first | omega | exact Nat.le_refl _⟩, ⟨pr (Kd.R_mono HO466.out (fun _ hk => trivial))⟩, ⟨pv (Kd.V_mono HO457.out (fun _ hk => ⟨hk.1.2, ⟨hk.1.1.1, hk.1.1.2⟩⟩))⟩, ⟨pq HO460.out⟩, ⟨pb BK463.out⟩, ⟨bg1 HB.out GE463.out⟩⟩
  rw [if_pos c14] at H
  have c14b0 : ((t464.length : Int) == (t467.length : Int)) = true := beq_iff_eq.mpr c14
  have c14b1 : ((t464.length : Int) != (t467.length : Int)) = false := bne_eq_false_iff_eq.mpr c14
  have c14b2 : (t464.length == t467.length) = true := by first | simpa using c14 | (simp at c14 ⊢; omega)
  clear c14
  (first | rw [c14b0] | (simp only [i64_w, i32_w]; rw [c14b0]) | skip)
  have H' := am H
  clear H
  obtain ⟨hcz15_0, hcz15_1⟩ := b2 BK463.out
  obtain ⟨hfz15_0, hfz15_1⟩ := f2 BK463.out
  go_wp2_with (first | (go_at_call 6; (with_reducible refine (spec_StepsPut.calls k _ _ t455 _ _ t458 t461 t462 t467 _ ?side1 ?side2 ?side3 ?side4 A13.out).mono ?_); (case side1 => exact pc ((Kd.V_reads' HO457.out).2.2)); (case side2 => exact (Kd.V_reads' HO457.out).2.1); (case side3 => exact pc ((Kd.Q_reads' HO460.out).2.2)); (case side4 => exact (Kd.Q_reads' HO460.out).2.1); rintro e w16 ⟨v468, rfl, ho0, hb⟩; replace HO457 := am (Kd.V_elder' (pv HO457.out) (Kd.R_base ho0) hb); replace HO460 := am (Kd.Q_below (pq HO460.out) hb); have HO469 := am (Kd.R_lower (Kd.R_new' ho0 (Kd.R_lt (pr HO466.out))) (below_size (bg1 HB.out GE463.out))); replace HO466 := am (Kd.R_elder' (pr HO466.out) (Kd.R_base ho0) hb); replace BK463 := am (blk_below (pb BK463.out) hb); replace HB := am (below_step (bg1 HB.out GE463.out) hb); clear hb ho0; obtain ⟨Ao17, co17, eo17⟩ := Kd.R_slice HO469.out; subst eo17))
  go_meet
  case rel => exact ⟨_, (((t464.length : Int) == 0)), rf, H', ⟨by first | omega | exact Nat.le_refl _⟩, ⟨pr (Kd.R_mono HO466.out (fun _ hk => trivial))⟩, ⟨pv (Kd.V_mono HO457.out (fun _ hk => ⟨hk.1.2, ⟨hk.1.1.1, hk.1.1.2⟩⟩))⟩, ⟨pq HO460.out⟩, ⟨pb BK463.out⟩, ⟨bg1 HB.out GE463.out⟩⟩
 case rest =>
  clear HC5
  obtain ⟨kq, x40_4, rfl, HA, HJ4, HO_6, HO_464000, HO_464001, BK463, HB⟩ := hcut
  cases kq with
  | zero => exact absurd HA.out (by simp [laws_FnPutSteps.j0])
  | succ kj4 =>
   have H := HA.out
   clear HA
   simp only [laws_FnPutSteps.j0] at H
   by_cases c21 : x40_4 = true
   · subst c21
     rw [if_pos rfl] at H
     replace H := Option.bind_eq_some_iff.mp H
     obtain ⟨t470, A220, H⟩ := H
     have A22 := am A220
     clear A220
     obtain rfl := Option.some.inj H
     obtain ⟨hcz23_0, hcz23_1⟩ := b2 BK463.out
     obtain ⟨hfz23_0, hfz23_1⟩ := f2 BK463.out
     go_wp2_with (first | (go_at_call 6; (with_reducible refine (spec_StepsPut.calls kj4 _ _ t455 _ _ t458 t461 t462 t470 _ ?side1 ?side2 ?side3 ?side4 A22.out).mono ?_); (case side1 => exact pc ((Kd.V_reads' HO_464000.out).2.2)); (case side2 => exact (Kd.V_reads' HO_464000.out).2.1); (case side3 => exact pc ((Kd.Q_reads' HO_464001.out).2.2)); (case side4 => exact (Kd.Q_reads' HO_464001.out).2.1); rintro e w24 ⟨v471, rfl, ho0, hb⟩; replace HO_464000 := am (Kd.V_elder' (pv HO_464000.out) (Kd.R_base ho0) hb); replace HO_464001 := am (Kd.Q_below (pq HO_464001.out) hb); have HO472 := am (Kd.R_lower (Kd.R_new' ho0 (Kd.R_lt (pr HO_6.out))) (below_size (bg1 HB.out GE463.out))); replace HO_6 := am (Kd.R_elder' (pr HO_6.out) (Kd.R_base ho0) hb); replace BK463 := am (blk_below (pb BK463.out) hb); replace HB := am (below_step (bg1 HB.out GE463.out) hb); clear hb ho0; obtain ⟨Ao25, co25, eo25⟩ := Kd.R_slice HO472.out; subst eo25))
     go_ret
     exact (rq (bg1 HB.out GE463.out))
   replace c21 := Bool.eq_false_iff.mpr c21
   subst c21
   rw [if_neg (show ¬ (false = true) by decide)] at H
   obtain ⟨ji26, hji26⟩ : ∃ j_ : Int, (wrap64 ((t464.length : Int) - 1)) = j_ := ⟨_, rfl⟩
   replace H : (if 0 ≤ (ji26) then (if (ji26) < (t464.length : Int) then ((impl_FindOpen.f kj4 t455).bind fun bt475 => (if ((rd_T34 t464 (ji26)).f0) = 3 then ((impl_FindNext.f t455).bind fun t477 => (laws_FnPutSteps.j1 kj4 t464 (t464.length : Int) bt475.1 bt475.2 (!(((rd_T34 t464 (ji26)).f4.f0) == 1) || (!(((rd_T34 t464 (ji26)).f4.f1) == t477) || (!(((rd_T34 t464 (ji26)).f4.f2) == t461) || (!(((rd_T34 t464 (ji26)).f4.f3) == t462))))) t455 t458 ((rd_T34 t464 (ji26)).f0) ((rd_T34 t464 (ji26)).f1) ((rd_T34 t464 (ji26)).f2) ((rd_T34 t464 (ji26)).f3) ((rd_T34 t464 (ji26)).f4.f0) ((rd_T34 t464 (ji26)).f4.f1) ((rd_T34 t464 (ji26)).f4.f2) ((rd_T34 t464 (ji26)).f4.f3))) else (laws_FnPutSteps.j1 kj4 t464 (t464.length : Int) bt475.1 bt475.2 true t455 t458 ((rd_T34 t464 (ji26)).f0) ((rd_T34 t464 (ji26)).f1) ((rd_T34 t464 (ji26)).f2) ((rd_T34 t464 (ji26)).f3) ((rd_T34 t464 (ji26)).f4.f0) ((rd_T34 t464 (ji26)).f4.f1) ((rd_T34 t464 (ji26)).f4.f2) ((rd_T34 t464 (ji26)).f4.f3)))) else (none)) else (none)) = some r := by first | (rw [hji26] at H; exact H) | (simp only [hji26] at H ⊢; exact H)
   have hji26w : (IntKind.i64.wrap ((t464.length : Int) - 1)) = ji26 := (i64_w _).trans hji26
   obtain ⟨c27b0, H⟩ := ifd H
   obtain ⟨c28b0, H⟩ := ifd H
   replace H := Option.bind_eq_some_iff.mp H
   obtain ⟨⟨t475, t476⟩, A290, H⟩ := H
   have A29 := am A290
   clear A290
   have HC30 := am H
   clear H
   have p473 : 0 ≤ ((ji26) : Int) := ofb
   have q473 : (ji26) < (t464.length : Int) := ofb
   obtain ⟨ad473, e473, hx473_0, hx473_1, hx473_2, hx473_3, hx473_4, hx473_5, hx473_6, hx473_7⟩ := at_T34 (Kd.R_reads' HO_6.out).2.2 (ji26) p473 q473
   cases e473
   replace p473 := eq_true p473
   replace q473 := eq_true q473
   go_upto_region 10 with (first | ((with_reducible refine bx 8 #[.int .i64 0, .int .i64 0, .int .i64 0, .int .i64 0, .int .i64 0, .int .i64 0, .int .i64 0, .int .i64 0] 34 ?hd ?_ ?hg ?hrun); (case hd => rfl); (case hg => rfl); (case hrun => first | (go_simp; done) | (go_simp; rfl)); intro gb474 hg w31 hbox hb; replace HO_6 := am (Kd.R_below (Kd.R_elderB (pr HO_6.out) gb474 (Nat.le_of_eq hg.symm)) hb); replace HO_464000 := am (Kd.V_below (Kd.V_elderB (pv HO_464000.out) gb474 (Nat.le_of_eq hg.symm)) hb); replace HO_464001 := am (Kd.Q_below (pq HO_464001.out) hb); have BK474 := am (hbox); have GW474 := am (ge hg (bg1 HB.out GE463.out)); have GE474 := GW474; replace HB := am (below_step (bg1 HB.out GE463.out) hb); have NB463_474 := am (nb hg (pb BK463.out)); have NB474_463 := am (Ne.symm NB463_474.out); replace BK463 := am (blk_below (pb BK463.out) hb); clear hb hbox hg; have hnb32 := NB474_463.out; have hnc32 := NB463_474.out; obtain ⟨hcz33_0, hcz33_1, hcz33_2, hcz33_3, hcz33_4, hcz33_5, hcz33_6, hcz33_7⟩ := b8 BK474.out; obtain ⟨hfz33_0, hfz33_1, hfz33_2, hfz33_3, hfz33_4, hfz33_5, hfz33_6, hfz33_7⟩ := f8 BK474.out; obtain ⟨hcz34_0, hcz34_1⟩ := b2 BK463.out; obtain ⟨hfz34_0, hfz34_1⟩ := f2 BK463.out) | (go_at_call 7; (with_reducible refine (impl_FindOpen.calls kj4 _ _ t455 t475 t476 _ ?side1 ?side2 A29.out).mono ?_); (case side1 => refine (Kd.V_reads' (e := 42) (base := w.heap.size) (ok := fun k_ => ((some k_ ≠ (.slice (some ad473) t464.length co12 : Value).ownBlock ∧ (some k_ ≠ (.slice Ao10 t458.length co10 : Value).ownBlock ∧ k_ ≠ gb463)) ∧ k_ ≠ gb474)) (n := t455.length) (c := co8) ?_).2.2; exact (pv ((Kd.V_mono (Kd.V_far (p := ⟨gb474, 7, none⟩) (Kd.V_far (p := ⟨gb474, 6, none⟩) (Kd.V_far (p := ⟨gb474, 5, none⟩) (Kd.V_far (p := ⟨gb474, 4, none⟩) (Kd.V_far (p := ⟨gb474, 3, none⟩) (Kd.V_far (p := ⟨gb474, 2, none⟩) (Kd.V_far (p := ⟨gb474, 1, none⟩) (Kd.V_far (p := ⟨gb474, 0, none⟩) (Kd.V_mono HO_464000.out (fun k_ hk => (⟨hk, hk.2⟩ : _ ∧ k_ ≠ gb474))) (fun _ hk => hk.2) (.int .i64 ((rd_T34 t464 (ji26)).f0))) (fun _ hk => hk.2) (.int .i64 ((rd_T34 t464 (ji26)).f1))) (fun _ hk => hk.2) (.int .i64 ((rd_T34 t464 (ji26)).f2))) (fun _ hk => hk.2) (.int .i64 ((rd_T34 t464 (ji26)).f3))) (fun _ hk => hk.2) (.int .i64 ((rd_T34 t464 (ji26)).f4.f0))) (fun _ hk => hk.2) (.int .i64 ((rd_T34 t464 (ji26)).f4.f1))) (fun _ hk => hk.2) (.int .i64 ((rd_T34 t464 (ji26)).f4.f2))) (fun _ hk => hk.2) (.int .i64 ((rd_T34 t464 (ji26)).f4.f3))) (fun _ h_ => h_.1))))); (case side2 => exact (Kd.V_reads' HO_464000.out).2.1); rintro e w35 ⟨rfl, hb⟩; replace HO_6 := am (Kd.R_below (pr ((Kd.R_mono (Kd.R_far (p := ⟨gb474, 7, none⟩) (Kd.R_far (p := ⟨gb474, 6, none⟩) (Kd.R_far (p := ⟨gb474, 5, none⟩) (Kd.R_far (p := ⟨gb474, 4, none⟩) (Kd.R_far (p := ⟨gb474, 3, none⟩) (Kd.R_far (p := ⟨gb474, 2, none⟩) (Kd.R_far (p := ⟨gb474, 1, none⟩) (Kd.R_far (p := ⟨gb474, 0, none⟩) (Kd.R_mono HO_6.out (fun k_ hk => (⟨hk, hk.2⟩ : _ ∧ k_ ≠ gb474))) (fun _ hk => hk.2) (.int .i64 ((rd_T34 t464 (ji26)).f0))) (fun _ hk => hk.2) (.int .i64 ((rd_T34 t464 (ji26)).f1))) (fun _ hk => hk.2) (.int .i64 ((rd_T34 t464 (ji26)).f2))) (fun _ hk => hk.2) (.int .i64 ((rd_T34 t464 (ji26)).f3))) (fun _ hk => hk.2) (.int .i64 ((rd_T34 t464 (ji26)).f4.f0))) (fun _ hk => hk.2) (.int .i64 ((rd_T34 t464 (ji26)).f4.f1))) (fun _ hk => hk.2) (.int .i64 ((rd_T34 t464 (ji26)).f4.f2))) (fun _ hk => hk.2) (.int .i64 ((rd_T34 t464 (ji26)).f4.f3))) (fun _ h_ => h_.1)))) hb); replace HO_464000 := am (Kd.V_below (pv ((Kd.V_mono (Kd.V_far (p := ⟨gb474, 7, none⟩) (Kd.V_far (p := ⟨gb474, 6, none⟩) (Kd.V_far (p := ⟨gb474, 5, none⟩) (Kd.V_far (p := ⟨gb474, 4, none⟩) (Kd.V_far (p := ⟨gb474, 3, none⟩) (Kd.V_far (p := ⟨gb474, 2, none⟩) (Kd.V_far (p := ⟨gb474, 1, none⟩) (Kd.V_far (p := ⟨gb474, 0, none⟩) (Kd.V_mono HO_464000.out (fun k_ hk => (⟨hk, hk.2⟩ : _ ∧ k_ ≠ gb474))) (fun _ hk => hk.2) (.int .i64 ((rd_T34 t464 (ji26)).f0))) (fun _ hk => hk.2) (.int .i64 ((rd_T34 t464 (ji26)).f1))) (fun _ hk => hk.2) (.int .i64 ((rd_T34 t464 (ji26)).f2))) (fun _ hk => hk.2) (.int .i64 ((rd_T34 t464 (ji26)).f3))) (fun _ hk => hk.2) (.int .i64 ((rd_T34 t464 (ji26)).f4.f0))) (fun _ hk => hk.2) (.int .i64 ((rd_T34 t464 (ji26)).f4.f1))) (fun _ hk => hk.2) (.int .i64 ((rd_T34 t464 (ji26)).f4.f2))) (fun _ hk => hk.2) (.int .i64 ((rd_T34 t464 (ji26)).f4.f3))) (fun _ h_ => h_.1)))) hb); replace HO_464001 := am (Kd.Q_below (pq ((Kd.Q_mono (Kd.Q_far (p := ⟨gb474, 7, none⟩) (Kd.Q_far (p := ⟨gb474, 6, none⟩) (Kd.Q_far (p := ⟨gb474, 5, none⟩) (Kd.Q_far (p := ⟨gb474, 4, none⟩) (Kd.Q_far (p := ⟨gb474, 3, none⟩) (Kd.Q_far (p := ⟨gb474, 2, none⟩) (Kd.Q_far (p := ⟨gb474, 1, none⟩) (Kd.Q_far (p := ⟨gb474, 0, none⟩) (Kd.Q_types HO_464001.out BK474.out (by decide)) (fun _ hk => hk.2) (.int .i64 ((rd_T34 t464 (ji26)).f0))) (fun _ hk => hk.2) (.int .i64 ((rd_T34 t464 (ji26)).f1))) (fun _ hk => hk.2) (.int .i64 ((rd_T34 t464 (ji26)).f2))) (fun _ hk => hk.2) (.int .i64 ((rd_T34 t464 (ji26)).f3))) (fun _ hk => hk.2) (.int .i64 ((rd_T34 t464 (ji26)).f4.f0))) (fun _ hk => hk.2) (.int .i64 ((rd_T34 t464 (ji26)).f4.f1))) (fun _ hk => hk.2) (.int .i64 ((rd_T34 t464 (ji26)).f4.f2))) (fun _ hk => hk.2) (.int .i64 ((rd_T34 t464 (ji26)).f4.f3))) (fun _ h_ => h_.1)))) hb); replace BK463 := am (blk_below (bf1 (bf2 (bf5 (pb BK463.out) NB463_474.out) NB463_474.out) NB463_474.out) hb); replace BK474 := am (blk_below (g := gb474) (o := .cells #[.int .i64 ((rd_T34 t464 (ji26)).f0), .int .i64 ((rd_T34 t464 (ji26)).f1), .int .i64 ((rd_T34 t464 (ji26)).f2), .int .i64 ((rd_T34 t464 (ji26)).f3), .int .i64 ((rd_T34 t464 (ji26)).f4.f0), .int .i64 ((rd_T34 t464 (ji26)).f4.f1), .int .i64 ((rd_T34 t464 (ji26)).f4.f2), .int .i64 ((rd_T34 t464 (ji26)).f4.f3)] 34 (0, 0)) (by (with_reducible repeat (first | refine blk_drewN ?_ _ | refine blk_drew ?_ | refine blk_alloc ?_ _)); refine blk_put (cs := #[.int .i64 ((rd_T34 t464 (ji26)).f0), .int .i64 ((rd_T34 t464 (ji26)).f1), .int .i64 ((rd_T34 t464 (ji26)).f2), .int .i64 ((rd_T34 t464 (ji26)).f3), .int .i64 ((rd_T34 t464 (ji26)).f4.f0), .int .i64 ((rd_T34 t464 (ji26)).f4.f1), .int .i64 ((rd_T34 t464 (ji26)).f4.f2), .int .i64 0]) ?_ 7 _ rfl; (with_reducible repeat (first | refine blk_drewN ?_ _ | refine blk_drew ?_ | refine blk_alloc ?_ _)); refine blk_put (cs := #[.int .i64 ((rd_T34 t464 (ji26)).f0), .int .i64 ((rd_T34 t464 (ji26)).f1), .int .i64 ((rd_T34 t464 (ji26)).f2), .int .i64 ((rd_T34 t464 (ji26)).f3), .int .i64 ((rd_T34 t464 (ji26)).f4.f0), .int .i64 ((rd_T34 t464 (ji26)).f4.f1), .int .i64 0, .int .i64 0]) ?_ 6 _ rfl; (with_reducible repeat (first | refine blk_drewN ?_ _ | refine blk_drew ?_ | refine blk_alloc ?_ _)); refine blk_put (cs := #[.int .i64 ((rd_T34 t464 (ji26)).f0), .int .i64 ((rd_T34 t464 (ji26)).f1), .int .i64 ((rd_T34 t464 (ji26)).f2), .int .i64 ((rd_T34 t464 (ji26)).f3), .int .i64 ((rd_T34 t464 (ji26)).f4.f0), .int .i64 0, .int .i64 0, .int .i64 0]) ?_ 5 _ rfl; (with_reducible repeat (first | refine blk_drewN ?_ _ | refine blk_drew ?_ | refine blk_alloc ?_ _)); refine blk_put (cs := #[.int .i64 ((rd_T34 t464 (ji26)).f0), .int .i64 ((rd_T34 t464 (ji26)).f1), .int .i64 ((rd_T34 t464 (ji26)).f2), .int .i64 ((rd_T34 t464 (ji26)).f3), .int .i64 0, .int .i64 0, .int .i64 0, .int .i64 0]) ?_ 4 _ rfl; (with_reducible repeat (first | refine blk_drewN ?_ _ | refine blk_drew ?_ | refine blk_alloc ?_ _)); refine blk_put (cs := #[.int .i64 ((rd_T34 t464 (ji26)).f0), .int .i64 ((rd_T34 t464 (ji26)).f1), .int .i64 ((rd_T34 t464 (ji26)).f2), .int .i64 0, .int .i64 0, .int .i64 0, .int .i64 0, .int .i64 0]) ?_ 3 _ rfl; (with_reducible repeat (first | refine blk_drewN ?_ _ | refine blk_drew ?_ | refine blk_alloc ?_ _)); refine blk_put (cs := #[.int .i64 ((rd_T34 t464 (ji26)).f0), .int .i64 ((rd_T34 t464 (ji26)).f1), .int .i64 0, .int .i64 0, .int .i64 0, .int .i64 0, .int .i64 0, .int .i64 0]) ?_ 2 _ rfl; (with_reducible repeat (first | refine blk_drewN ?_ _ | refine blk_drew ?_ | refine blk_alloc ?_ _)); refine blk_put (cs := #[.int .i64 ((rd_T34 t464 (ji26)).f0), .int .i64 0, .int .i64 0, .int .i64 0, .int .i64 0, .int .i64 0, .int .i64 0, .int .i64 0]) ?_ 1 _ rfl; (with_reducible repeat (first | refine blk_drewN ?_ _ | refine blk_drew ?_ | refine blk_alloc ?_ _)); refine blk_put (cs := #[.int .i64 0, .int .i64 0, .int .i64 0, .int .i64 0, .int .i64 0, .int .i64 0, .int .i64 0, .int .i64 0]) ?_ 0 _ rfl; (with_reducible repeat (first | refine blk_drewN ?_ _ | refine blk_drew ?_ | refine blk_alloc ?_ _)); exact BK474.out) hb); replace HB := am (below_step (bg2 HB.out GE463.out GE474.out) hb); (try clear hb); (try clear hb2); (try clear hk); (try clear hi)))
   (try simp only [Act.put, List.setIfInBounds_toArray, List.set_cons_zero, List.set_cons_succ])
   go_cut [72] (fun v72 wc => ∃ (kq : Nat) (x72_29 : Bool), v72 = .bool x72_29 ∧ Aside0 (laws_FnPutSteps.j1 kq t464 (t464.length : Int) t475 t476 x72_29 t455 t458 ((rd_T34 t464 (ji26)).f0) ((rd_T34 t464 (ji26)).f1) ((rd_T34 t464 (ji26)).f2) ((rd_T34 t464 (ji26)).f3) ((rd_T34 t464 (ji26)).f4.f0) ((rd_T34 t464 (ji26)).f4.f1) ((rd_T34 t464 (ji26)).f4.f2) ((rd_T34 t464 (ji26)).f4.f3) = some r) ∧ Aside0 (kq ≤ kj4) ∧ Aside0 (Kd.R k34 34 wc w.heap.size (fun k_ => k_ ≠ gb474) (.slice (some ad473) t464.length co12) t464) ∧ Aside0 (Kd.V k42 42 wc w.heap.size (fun k_ => some k_ ≠ ((.slice (some ad473) t464.length co12) : Value).ownBlock ∧ some k_ ≠ ((.slice Ao10 t458.length co10) : Value).ownBlock ∧ k_ ≠ gb463 ∧ k_ ≠ gb474) (.slice Ao8 t455.length co8) t455) ∧ Aside0 (Kd.Q (Kd.int .i64) 3 wc w.heap.size (fun _ => True) (.slice Ao10 t458.length co10) t458) ∧ Aside0 (wc.heap[gb463]? = some (.cells #[(.slice Ao8 t455.length co8), (.slice Ao10 t458.length co10)] 26 (0, 0))) ∧ Aside0 (wc.heap[gb474]? = some (.cells #[.int .i64 ((rd_T34 t464 (ji26)).f0), .int .i64 ((rd_T34 t464 (ji26)).f1), .int .i64 ((rd_T34 t464 (ji26)).f2), .int .i64 ((rd_T34 t464 (ji26)).f3), .int .i64 ((rd_T34 t464 (ji26)).f4.f0), .int .i64 ((rd_T34 t464 (ji26)).f4.f1), .int .i64 ((rd_T34 t464 (ji26)).f4.f2), .int .i64 ((rd_T34 t464 (ji26)).f4.f3)] 34 (0, 0))) ∧ Aside0 (Below w.heap.size w wc))
   case first =>
    have H := HC30.out
    clear HC30
    by_cases c36 : ((rd_T34 t464 (ji26)).f0) = 3
    rotate_left
    · rw [if_neg c36] at H
      have c36b0 : (((rd_T34 t464 (ji26)).f0) == 3) = false := beq_eq_false_iff_ne.mpr c36
      have c36b1 : (((rd_T34 t464 (ji26)).f0) != 3) = true := bne_iff_ne.mpr c36
      (first | rw [c36b0] | (simp only [i64_w, i32_w]; rw [c36b0]) | skip)
      have H' := am H
      clear H
      try go_wp2
      replace HO_6 := am (Kd.R_drew HO_6.out)
      replace HO_464000 := am (Kd.V_drew HO_464000.out)
      replace HO_464001 := am (Kd.Q_drew HO_464001.out)
      replace BK463 := am (blk_drew BK463.out)
      replace BK474 := am (blk_drew BK474.out)
      replace HB := am (below_drew1 HB.out)
      refine start_ (n := 14) (S := fun w' => w'.cell? ⟨gb474, 0, none⟩ = some (.int .i64 ((rd_T34 t464 (ji26)).f0)) ∧ w'.cell? ⟨gb474, 1, none⟩ = some (.int .i64 ((rd_T34 t464 (ji26)).f1)) ∧ w'.cell? ⟨gb474, 2, none⟩ = some (.int .i64 ((rd_T34 t464 (ji26)).f2)) ∧ w'.cell? ⟨gb474, 3, none⟩ = some (.int .i64 ((rd_T34 t464 (ji26)).f3)) ∧ w'.cell? ⟨gb474, 4, none⟩ = some (.int .i64 ((rd_T34 t464 (ji26)).f4.f0)) ∧ w'.cell? ⟨gb474, 5, none⟩ = some (.int .i64 ((rd_T34 t464 (ji26)).f4.f1)) ∧ w'.cell? ⟨gb474, 6, none⟩ = some (.int .i64 ((rd_T34 t464 (ji26)).f4.f2)) ∧ w'.cell? ⟨gb474, 7, none⟩ = some (.int .i64 ((rd_T34 t464 (ji26)).f4.f3))) (ds := []) (bt 14 0) (by kernel_rfl) rfl rfl ⟨(blk_cell BK474.out 0).trans rfl, (blk_cell BK474.out 1).trans rfl, (blk_cell BK474.out 2).trans rfl, (blk_cell BK474.out 3).trans rfl, (blk_cell BK474.out 4).trans rfl, (blk_cell BK474.out 5).trans rfl, (blk_cell BK474.out 6).trans rfl, (blk_cell BK474.out 7).trans rfl⟩ (fun hHeld => ?_); refine with_tabW laws_FnPutSteps.tab10 laws_FnPutSteps.bits10 (fun HT_ HW_ => ?_)
      generalize w35.drew = w40 at HO_6 HO_464000 HO_464001 BK463 BK474 HB hHeld ⊢
      refine qj 0 59 (bt 14 1) rfl rfl HT_.out ?_
      refine qm 1 60 (bt 14 3) rfl rfl HT_.out HW_.out hHeld ?_
      refine qj 2 61 (bt 14 7) rfl rfl HT_.out ?_
      refine qj 3 62 (bt 14 15) rfl rfl HT_.out ?_
      refine qv 4 63 (bt 14 31) rfl rfl HT_.out ?_
      refine qv 5 64 (bt 14 63) rfl rfl HT_.out ?_
      refine qv 6 65 (bt 14 127) rfl rfl HT_.out ?_
      refine qv 7 66 (bt 14 255) rfl rfl HT_.out ?_
      refine qv 8 67 (bt 14 511) rfl rfl HT_.out ?_
      refine qv 9 68 (bt 14 1023) rfl rfl HT_.out ?_
      refine qv 10 69 (bt 14 2047) rfl rfl HT_.out ?_
      refine qv 11 70 (bt 14 4095) rfl rfl HT_.out ?_
      refine qv 12 71 (bt 14 8191) rfl rfl HT_.out ?_
      refine qj 13 72 (bt 14 16383) rfl rfl HT_.out ?_
      refine done_ (done_of HT_.out (by kernel_rfl)) ?_
      try go_wp2
      go_meet
      case rel => exact ⟨_, (true), rf, H', ⟨by have := HJ4.out; first | omega | exact Nat.le_refl _⟩, ⟨pr (Kd.R_mono HO_6.out (fun _ hk => hk.2))⟩, ⟨pv (Kd.V_mono HO_464000.out (fun _ hk => ⟨hk.1.1, ⟨hk.1.2.1, ⟨hk.1.2.2, hk.2⟩⟩⟩))⟩, ⟨pq HO_464001.out⟩, ⟨pb BK463.out⟩, ⟨pb BK474.out⟩, ⟨bg2 HB.out GE463.out GE474.out⟩⟩
    rw [if_pos c36] at H
    have c36b0 : (((rd_T34 t464 (ji26)).f0) == 3) = true := beq_iff_eq.mpr c36
    have c36b1 : (((rd_T34 t464 (ji26)).f0) != 3) = false := bne_eq_false_iff_eq.mpr c36
    clear c36
    (first | rw [c36b0] | (simp only [i64_w, i32_w]; rw [c36b0]) | skip)
    replace H := Option.bind_eq_some_iff.mp H
    obtain ⟨t477, A370, H⟩ := H
    have A37 := am A370
    clear A370
    have H' := am H
    clear H
    try go_wp2
    replace HO_6 := am (Kd.R_drew HO_6.out)
    replace HO_464000 := am (Kd.V_drew HO_464000.out)
    replace HO_464001 := am (Kd.Q_drew HO_464001.out)
    replace BK463 := am (blk_drew BK463.out)
    replace BK474 := am (blk_drew BK474.out)
    replace HB := am (below_drew1 HB.out)
    refine start_ (n := 14) (S := fun w' => w'.cell? ⟨gb474, 0, none⟩ = some (.int .i64 ((rd_T34 t464 (ji26)).f0)) ∧ w'.cell? ⟨gb474, 1, none⟩ = some (.int .i64 ((rd_T34 t464 (ji26)).f1)) ∧ w'.cell? ⟨gb474, 2, none⟩ = some (.int .i64 ((rd_T34 t464 (ji26)).f2)) ∧ w'.cell? ⟨gb474, 3, none⟩ = some (.int .i64 ((rd_T34 t464 (ji26)).f3)) ∧ w'.cell? ⟨gb474, 4, none⟩ = some (.int .i64 ((rd_T34 t464 (ji26)).f4.f0)) ∧ w'.cell? ⟨gb474, 5, none⟩ = some (.int .i64 ((rd_T34 t464 (ji26)).f4.f1)) ∧ w'.cell? ⟨gb474, 6, none⟩ = some (.int .i64 ((rd_T34 t464 (ji26)).f4.f2)) ∧ w'.cell? ⟨gb474, 7, none⟩ = some (.int .i64 ((rd_T34 t464 (ji26)).f4.f3)) ∧ w'.cell? ⟨gb463, 0, none⟩ = some (.slice Ao8 t455.length co8) ∧ w'.cell? ⟨gb463, 1, none⟩ = some (.slice Ao10 t458.length co10)) (ds := []) (bt 14 0) (by kernel_rfl) rfl rfl ⟨(blk_cell BK474.out 0).trans rfl, (blk_cell BK474.out 1).trans rfl, (blk_cell BK474.out 2).trans rfl, (blk_cell BK474.out 3).trans rfl, (blk_cell BK474.out 4).trans rfl, (blk_cell BK474.out 5).trans rfl, (blk_cell BK474.out 6).trans rfl, (blk_cell BK474.out 7).trans rfl, (blk_cell BK463.out 0).trans rfl, (blk_cell BK463.out 1).trans rfl⟩ (fun hHeld => ?_); refine with_tabW laws_FnPutSteps.tab10 laws_FnPutSteps.bits10 (fun HT_ HW_ => ?_)
    generalize w35.drew = w38 at HO_6 HO_464000 HO_464001 BK463 BK474 HB hHeld ⊢
    refine qj 0 59 (bt 14 1) rfl rfl HT_.out ?_
    refine qm 1 60 (bt 14 3) rfl rfl HT_.out HW_.out hHeld ?_
    refine qj 2 61 (bt 14 7) rfl rfl HT_.out ?_
    refine qj 3 62 (bt 14 15) rfl rfl HT_.out ?_
    refine qj 4 63 (bt 14 31) rfl rfl HT_.out ?_
    refine qj 6 65 (bt 14 95) rfl rfl HT_.out ?_
    refine qj 9 68 (bt 14 607) rfl rfl HT_.out ?_
    refine qj 10 69 (bt 14 1631) rfl rfl HT_.out ?_
    refine qm 5 64 (bt 14 1663) rfl rfl HT_.out HW_.out hHeld ?_
    refine qm 7 66 (bt 14 1791) rfl rfl HT_.out HW_.out hHeld ?_
    refine qo 8 (some 67) (bt 14 2047) rfl rfl HT_.out fun K hK => ?_
    refine qg Try.func8 #[.slice Ao8 t455.length co8] rfl rfl ?_
    with_reducible refine (impl_FindNext.calls _ _ t455 t477 _ ?side1 ?side2 A37.out).mono ?_
    (case side1 => exact pc ((Kd.V_reads' HO_464000.out).2.2))
    (case side2 => exact (Kd.V_reads' HO_464000.out).2.1)
    rintro e w39 ⟨rfl, hb⟩
    refine ⟨_, rfl, ?_⟩
    replace HO_6 := am (Kd.R_below (pr HO_6.out) hb)
    replace HO_464000 := am (Kd.V_below (pv HO_464000.out) hb)
    replace HO_464001 := am (Kd.Q_below (pq HO_464001.out) hb)
    replace BK463 := am (blk_below (pb BK463.out) hb)
    replace BK474 := am (blk_below (pb BK474.out) hb)
    replace HB := am (below_step (bg2 HB.out GE463.out GE474.out) hb)
    clear hb
    refine hK.out _ _ ⟨(blk_cell BK474.out 0).trans rfl, (blk_cell BK474.out 1).trans rfl, (blk_cell BK474.out 2).trans rfl, (blk_cell BK474.out 3).trans rfl, (blk_cell BK474.out 4).trans rfl, (blk_cell BK474.out 5).trans rfl, (blk_cell BK474.out 6).trans rfl, (blk_cell BK474.out 7).trans rfl, (blk_cell BK463.out 0).trans rfl, (blk_cell BK463.out 1).trans rfl⟩ (fun hHeld => ?_)
    clear hK K
    refine qn (some 67) ?_
    refine qj 11 70 (bt 14 4095) rfl rfl HT_.out ?_
    refine qj 12 71 (bt 14 8191) rfl rfl HT_.out ?_
    refine qj 13 72 (bt 14 16383) rfl rfl HT_.out ?_
    refine done_ (done_of HT_.out (by kernel_rfl)) ?_
    try go_wp2
    go_meet
    case rel => exact ⟨_, ((!(((rd_T34 t464 (ji26)).f4.f0) == 1) || (!(((rd_T34 t464 (ji26)).f4.f1) == t477) || (!(((rd_T34 t464 (ji26)).f4.f2) == t461) || (!(((rd_T34 t464 (ji26)).f4.f3) == t462)))))), (by first | rfl | (simp; done) | (simp only [← hji26] <;> (first | rfl | simp)) | (simp [*]; done)), H', ⟨by have := HJ4.out; first | omega | exact Nat.le_refl _⟩, ⟨pr (Kd.R_mono HO_6.out (fun _ hk => hk.2))⟩, ⟨pv (Kd.V_mono HO_464000.out (fun _ hk => ⟨hk.1.1, ⟨hk.1.2.1, ⟨hk.1.2.2, hk.2⟩⟩⟩))⟩, ⟨pq HO_464001.out⟩, ⟨pb BK463.out⟩, ⟨pb BK474.out⟩, ⟨bg2 HB.out GE463.out GE474.out⟩⟩
   case rest =>
    clear HC30
    obtain ⟨kq, x72_29, rfl, HA, HJ29, HO_6, HO_464000, HO_464001, BK463, BK474, HB⟩ := hcut
    cases kq with
    | zero => exact absurd HA.out (by simp [laws_FnPutSteps.j1])
    | succ kj29 =>
     have H := HA.out
     clear HA
     simp only [laws_FnPutSteps.j1] at H
     by_cases c41 : x72_29 = true
     · subst c41
       rw [if_pos rfl] at H
       cases H
       exact absurd HRT.out (by decide)
     replace c41 := Bool.eq_false_iff.mpr c41
     subst c41
     rw [if_neg (show ¬ (false = true) by decide)] at H
     by_cases c42 : t476 = true
     · subst c42
       rw [if_pos rfl] at H
       by_cases c43 : (t464.length : Int) = 1
       rotate_left
       · rw [if_neg c43] at H
         have c43b0 : ((t464.length : Int) == 1) = false := beq_eq_false_iff_ne.mpr c43
         have c43b1 : ((t464.length : Int) != 1) = true := bne_iff_ne.mpr c43
         cases H
         exact absurd HRT.out (by decide)
       rw [if_pos c43] at H
       have c43b0 : ((t464.length : Int) == 1) = true := beq_iff_eq.mpr c43
       have c43b1 : ((t464.length : Int) != 1) = false := bne_eq_false_iff_eq.mpr c43
       clear c43
       obtain rfl := Option.some.inj H
       have hnb44 := NB474_463.out
       have hnc44 := NB463_474.out
       have hcz45_0 : wc.cell? ⟨gb474, 0, none⟩ = some (.int .i64 ((rd_T34 t464 (ji26)).f0)) := (blk_cell BK474.out 0).trans rfl
       have hcz45_1 : wc.cell? ⟨gb474, 1, none⟩ = some (.int .i64 ((rd_T34 t464 (ji26)).f1)) := (blk_cell BK474.out 1).trans rfl
       have hcz45_2 : wc.cell? ⟨gb474, 2, none⟩ = some (.int .i64 ((rd_T34 t464 (ji26)).f2)) := (blk_cell BK474.out 2).trans rfl
       have hcz45_3 : wc.cell? ⟨gb474, 3, none⟩ = some (.int .i64 ((rd_T34 t464 (ji26)).f3)) := (blk_cell BK474.out 3).trans rfl
       have hcz45_4 : wc.cell? ⟨gb474, 4, none⟩ = some (.int .i64 ((rd_T34 t464 (ji26)).f4.f0)) := (blk_cell BK474.out 4).trans rfl
       have hcz45_5 : wc.cell? ⟨gb474, 5, none⟩ = some (.int .i64 ((rd_T34 t464 (ji26)).f4.f1)) := (blk_cell BK474.out 5).trans rfl
       have hcz45_6 : wc.cell? ⟨gb474, 6, none⟩ = some (.int .i64 ((rd_T34 t464 (ji26)).f4.f2)) := (blk_cell BK474.out 6).trans rfl
       have hcz45_7 : wc.cell? ⟨gb474, 7, none⟩ = some (.int .i64 ((rd_T34 t464 (ji26)).f4.f3)) := (blk_cell BK474.out 7).trans rfl
       obtain ⟨hfz45_0, hfz45_1, hfz45_2, hfz45_3, hfz45_4, hfz45_5, hfz45_6, hfz45_7⟩ := f8 BK474.out
       go_wp2
       go_ret
       exact ⟨by first | rfl | (simp [errW_none, errW_some] <;> rfl) | (simp only [← hji26]; first | rfl | (simp [errW_none, errW_some] <;> rfl)) | (simp [*, errW_none, errW_some] <;> rfl), bg2 HB.out GE463.out GE474.out⟩
     replace c42 := Bool.eq_false_iff.mpr c42
     subst c42
     rw [if_neg (show ¬ (false = true) by decide)] at H
     replace H := Option.bind_eq_some_iff.mp H
     obtain ⟨t478, A460, H⟩ := H
     have A46 := am A460
     clear A460
     have H' := am H
     clear H
     have hnb47 := NB463_474.out
     have hnc47 := NB474_463.out
     obtain ⟨hcz48_0, hcz48_1⟩ := b2 BK463.out
     obtain ⟨hfz48_0, hfz48_1⟩ := f2 BK463.out
     go_wp2_with (first | (go_at_call 9; (with_reducible refine (impl_FindOld.calls _ _ t455 t478 _ ?side1 ?side2 A46.out).mono ?_); (case side1 => exact pc ((Kd.V_reads' HO_464000.out).2.2)); (case side2 => exact (Kd.V_reads' HO_464000.out).2.1); rintro e w49 ⟨rfl, hb⟩; replace HO_6 := am (Kd.R_below (pr HO_6.out) hb); replace HO_464000 := am (Kd.V_below (pv HO_464000.out) hb); replace HO_464001 := am (Kd.Q_below (pq HO_464001.out) hb); replace BK463 := am (blk_below (pb BK463.out) hb); replace BK474 := am (blk_below (pb BK474.out) hb); replace HB := am (below_step (bg2 HB.out GE463.out GE474.out) hb); clear hb))
     go_loopg [12, 13] kj29 (fun kq v12 v13 w' => ∃ (x12_3 : Int) (x13_3 : Int), v12 = .int .i64 x12_3 ∧ v13 = .int .i64 x13_3 ∧ Aside0 (laws_FnPutSteps.l0 kq t464 (t464.length : Int) t478 x12_3 x13_3 t455 t458 ((rd_T34 t464 (ji26)).f0) ((rd_T34 t464 (ji26)).f1) ((rd_T34 t464 (ji26)).f2) ((rd_T34 t464 (ji26)).f3) ((rd_T34 t464 (ji26)).f4.f0) ((rd_T34 t464 (ji26)).f4.f1) ((rd_T34 t464 (ji26)).f4.f2) ((rd_T34 t464 (ji26)).f4.f3) = some r) ∧ Aside0 (kq ≤ kj29) ∧ Aside0 (Kd.R k34 34 w' w.heap.size (fun k_ => k_ ≠ gb474) (.slice (some ad473) t464.length co12) t464) ∧ Aside0 (Kd.V k42 42 w' w.heap.size (fun k_ => some k_ ≠ ((.slice (some ad473) t464.length co12) : Value).ownBlock ∧ some k_ ≠ ((.slice Ao10 t458.length co10) : Value).ownBlock ∧ k_ ≠ gb463 ∧ k_ ≠ gb474) (.slice Ao8 t455.length co8) t455) ∧ Aside0 (Kd.Q (Kd.int .i64) 3 w' w.heap.size (fun _ => True) (.slice Ao10 t458.length co10) t458) ∧ Aside0 (w'.heap[gb463]? = some (.cells #[(.slice Ao8 t455.length co8), (.slice Ao10 t458.length co10)] 26 (0, 0))) ∧ Aside0 (w'.heap[gb474]? = some (.cells #[.int .i64 ((rd_T34 t464 (ji26)).f0), .int .i64 ((rd_T34 t464 (ji26)).f1), .int .i64 ((rd_T34 t464 (ji26)).f2), .int .i64 ((rd_T34 t464 (ji26)).f3), .int .i64 ((rd_T34 t464 (ji26)).f4.f0), .int .i64 ((rd_T34 t464 (ji26)).f4.f1), .int .i64 ((rd_T34 t464 (ji26)).f4.f2), .int .i64 ((rd_T34 t464 (ji26)).f4.f3)] 34 (0, 0))) ∧ Aside0 (Below w.heap.size w w'))
     case atStart => exact ⟨(0), (0), rf, rf, H', ⟨Nat.le_refl _⟩, ⟨pr HO_6.out⟩, ⟨pv HO_464000.out⟩, ⟨pq HO_464001.out⟩, ⟨pb BK463.out⟩, ⟨pb BK474.out⟩, ⟨bg2 HB.out GE463.out GE474.out⟩⟩
     case round =>
      clear H'
      obtain ⟨x12_3, x13_3, rfl, rfl, HA, HK3, HO_6, HO_464000, HO_464001, BK463, BK474, HB⟩ := hrel
      cases gk with
      | zero => exact absurd HA.out (by simp [laws_FnPutSteps.l0])
      | succ k3 =>
       have H := HA.out
       clear HA
       simp only [laws_FnPutSteps.l0] at H
       by_cases c50 : x13_3 < 4
       rotate_left
       · rw [if_neg c50] at H
         have c50b0 := decide_eq_false c50
         clear c50
         by_cases c86 : x12_3 = (wrap64 ((t464.length : Int) - 2))
         rotate_left
         · rw [if_neg c86] at H
           have c86b0 : (x12_3 == (wrap64 ((t464.length : Int) - 2))) = false := beq_eq_false_iff_ne.mpr c86
           have c86b1 : (x12_3 != (wrap64 ((t464.length : Int) - 2))) = true := bne_iff_ne.mpr c86
           cases H
           exact absurd HRT.out (by decide)
         rw [if_pos c86] at H
         have c86b0 : (x12_3 == (wrap64 ((t464.length : Int) - 2))) = true := beq_iff_eq.mpr c86
         have c86b1 : (x12_3 != (wrap64 ((t464.length : Int) - 2))) = false := bne_eq_false_iff_eq.mpr c86
         clear c86
         obtain ⟨c87b0, H⟩ := ifd H
         obtain ⟨c88b0, H⟩ := ifd H
         by_cases c89 : ((rd_T34 t464 x12_3).f0) = 2
         rotate_left
         · rw [if_neg c89] at H
           have c89b0 : (((rd_T34 t464 x12_3).f0) == 2) = false := beq_eq_false_iff_ne.mpr c89
           have c89b1 : (((rd_T34 t464 x12_3).f0) != 2) = true := bne_iff_ne.mpr c89
           cases H
           exact absurd HRT.out (by decide)
         rw [if_pos c89] at H
         have c89b0 : (((rd_T34 t464 x12_3).f0) == 2) = true := beq_iff_eq.mpr c89
         have c89b1 : (((rd_T34 t464 x12_3).f0) != 2) = false := bne_eq_false_iff_eq.mpr c89
         clear c89
         by_cases c90 : ((rd_T34 t464 x12_3).f3) = t478
         rotate_left
         · rw [if_neg c90] at H
           have c90b0 : (((rd_T34 t464 x12_3).f3) == t478) = false := beq_eq_false_iff_ne.mpr c90
           have c90b1 : (((rd_T34 t464 x12_3).f3) != t478) = true := bne_iff_ne.mpr c90
           cases H
           exact absurd HRT.out (by decide)
         rw [if_pos c90] at H
         have c90b0 : (((rd_T34 t464 x12_3).f3) == t478) = true := beq_iff_eq.mpr c90
         have c90b1 : (((rd_T34 t464 x12_3).f3) != t478) = false := bne_eq_false_iff_eq.mpr c90
         clear c90
         obtain rfl := Option.some.inj H
         have p479 : 0 ≤ (x12_3 : Int) := ofb
         have q479 : x12_3 < (t464.length : Int) := ofb
         obtain ⟨ad479, e479, hx479_0, hx479_1, hx479_2, hx479_3, hx479_4, hx479_5, hx479_6, hx479_7⟩ := at_T34 (Kd.R_reads' HO_6.out).2.2 x12_3 p479 q479
         obtain rfl : ad473 = ad479 := (by injection e479)
         replace p479 := eq_true p479
         replace q479 := eq_true q479
         have p480 : 0 ≤ (x12_3 : Int) := ofb
         have q480 : x12_3 < (t464.length : Int) := ofb
         obtain ⟨ad480, e480, hx480_0, hx480_1, hx480_2, hx480_3, hx480_4, hx480_5, hx480_6, hx480_7⟩ := at_T34 (Kd.R_reads' HO_6.out).2.2 x12_3 p480 q480
         obtain rfl : ad473 = ad480 := (by injection e480)
         replace p480 := eq_true p480
         replace q480 := eq_true q480
         have hnb91 := NB474_463.out
         have hnc91 := NB463_474.out
         have hcz92_0 : wr.cell? ⟨gb474, 0, none⟩ = some (.int .i64 ((rd_T34 t464 (ji26)).f0)) := (blk_cell BK474.out 0).trans rfl
         have hcz92_1 : wr.cell? ⟨gb474, 1, none⟩ = some (.int .i64 ((rd_T34 t464 (ji26)).f1)) := (blk_cell BK474.out 1).trans rfl
         have hcz92_2 : wr.cell? ⟨gb474, 2, none⟩ = some (.int .i64 ((rd_T34 t464 (ji26)).f2)) := (blk_cell BK474.out 2).trans rfl
         have hcz92_3 : wr.cell? ⟨gb474, 3, none⟩ = some (.int .i64 ((rd_T34 t464 (ji26)).f3)) := (blk_cell BK474.out 3).trans rfl
         have hcz92_4 : wr.cell? ⟨gb474, 4, none⟩ = some (.int .i64 ((rd_T34 t464 (ji26)).f4.f0)) := (blk_cell BK474.out 4).trans rfl
         have hcz92_5 : wr.cell? ⟨gb474, 5, none⟩ = some (.int .i64 ((rd_T34 t464 (ji26)).f4.f1)) := (blk_cell BK474.out 5).trans rfl
         have hcz92_6 : wr.cell? ⟨gb474, 6, none⟩ = some (.int .i64 ((rd_T34 t464 (ji26)).f4.f2)) := (blk_cell BK474.out 6).trans rfl
         have hcz92_7 : wr.cell? ⟨gb474, 7, none⟩ = some (.int .i64 ((rd_T34 t464 (ji26)).f4.f3)) := (blk_cell BK474.out 7).trans rfl
         obtain ⟨hfz92_0, hfz92_1, hfz92_2, hfz92_3, hfz92_4, hfz92_5, hfz92_6, hfz92_7⟩ := f8 BK474.out
         go_wp2
         go_ret
         exact ⟨by first | rfl | (simp [errW_none, errW_some] <;> rfl) | (simp only [← hji26]; first | rfl | (simp [errW_none, errW_some] <;> rfl)) | (simp [*, errW_none, errW_some] <;> rfl), bg2 HB.out GE463.out GE474.out⟩
       rw [if_pos c50] at H
       have c50b0 := decide_eq_true c50
       clear c50
       obtain ⟨c51b0, H⟩ := ifd H
       obtain ⟨c52b0, H⟩ := ifd H
       obtain ⟨c53b0, H⟩ := ifd H
       obtain ⟨c54b0, H⟩ := ifd H
       have HC55 := am H
       clear H
       have hnb56 := NB463_474.out
       have hnc56 := NB474_463.out
       obtain ⟨hcz57_0, hcz57_1⟩ := b2 BK463.out
       obtain ⟨hfz57_0, hfz57_1⟩ := f2 BK463.out
       have p481 : 0 ≤ (t478 : Int) := ofb
       have q481 : t478 < (t455.length : Int) := ofb
       obtain ⟨ad481, A481_0, c481_0, e481, hx481_0, hx481_1, hl481_0, hi481_0⟩ := at_T42 (Kd.V_reads' HO_464000.out).2.2 t478 p481 q481
       cases e481
       obtain ⟨ce481, hce481, hMe481, hcc481⟩ := Kd.V_get HO_464000.out z42 t478 p481 (by first | exact q481 | exact ofb | (have e_ := (Kd.V_reads' HO_464000.out).1; omega))
       obtain ⟨ua481_0, uc481_0, rfl, ul481_0, ge481_0⟩ := k42_openF hMe481
       have hv481_0 := hcc481 0 _ rfl
       rw [Nat.add_zero] at hv481_0
       replace hv481_0 := Option.some.inj (hv481_0.symm.trans hx481_0)
       injection hv481_0 with hva_ hvn_ hvc_
       rw [hva_] at ge481_0
       rw [hvc_] at ul481_0
       have HL481_0 := am (show Kd.V k39 39 _ w.heap.size _ _ ((rd_T42 t455 t478).f0) from Kd.V_mk ul481_0 ge481_0)
       clear hva_ hvn_ hvc_ ge481_0 ul481_0 hcc481 hce481
       have HR481_0 := am hi481_0
       have HC481_0 := am hl481_0
       clear hi481_0 hl481_0
       replace p481 := eq_true p481
       replace q481 := eq_true q481
       have p482 : 0 ≤ (x13_3 : Int) := ofb
       have q482 : x13_3 < (((rd_T42 t455 t478).f0).length : Int) := ofb
       obtain ⟨ad482, e482, hx482_0, hx482_1, hx482_2, hx482_3, hx482_4⟩ := at_T39 HR481_0.out x13_3 p482 q482
       cases e482
       replace p482 := eq_true p482
       replace q482 := eq_true q482
       go_upto_region 20 with (first | ((with_reducible refine bx 14 #[.int .i64 0, .int .i64 0, .int .i64 0, .int .i64 0, .int .i64 0] 39 ?hd ?_ ?hg ?hrun); (case hd => rfl); (case hg => rfl); (case hrun => first | (go_simp; done) | (go_simp; rfl)); intro gb483 hg w58 hbox hb; replace HO_6 := am (Kd.R_below (pr HO_6.out) hb); replace HO_464000 := am (Kd.V_below (Kd.V_elderB (pv HO_464000.out) gb483 (Nat.le_of_eq hg.symm)) hb); replace HO_464001 := am (Kd.Q_below (pq HO_464001.out) hb); replace HL481_0 := am (Kd.V_below (Kd.V_elderB (pv HL481_0.out) gb483 (Nat.le_of_eq hg.symm)) hb); replace HR481_0 := am (Kd.C_below (pc HR481_0.out) hb); have BK483 := am (hbox); have GW483 := am (ge hg (bg2 HB.out GE463.out GE474.out)); have GE483 := GW483; replace HB := am (below_step (bg2 HB.out GE463.out GE474.out) hb); have NB463_483 := am (nb hg (pb BK463.out)); have NB483_463 := am (Ne.symm NB463_483.out); replace BK463 := am (blk_below (pb BK463.out) hb); have NB474_483 := am (nb hg (pb BK474.out)); have NB483_474 := am (Ne.symm NB474_483.out); replace BK474 := am (blk_below (pb BK474.out) hb); clear hb hbox hg; have hnb59 := NB483_463.out; have hnc59 := NB463_483.out; have hnb60 := NB483_474.out; have hnc60 := NB474_483.out; obtain ⟨hcz61_0, hcz61_1, hcz61_2, hcz61_3, hcz61_4⟩ := b5 BK483.out; obtain ⟨hfz61_0, hfz61_1, hfz61_2, hfz61_3, hfz61_4⟩ := f5 BK483.out))
       (try simp only [Act.put, List.setIfInBounds_toArray, List.set_cons_zero, List.set_cons_succ])
       go_cut [108] (fun v108 wc => ∃ (kq : Nat) (x108_54 : Bool), v108 = .bool x108_54 ∧ Aside0 (laws_FnPutSteps.j3 kq t464 (t464.length : Int) t478 x12_3 x13_3 x108_54 t455 t458 ((rd_T34 t464 (ji26)).f0) ((rd_T34 t464 (ji26)).f1) ((rd_T34 t464 (ji26)).f2) ((rd_T34 t464 (ji26)).f3) ((rd_T34 t464 (ji26)).f4.f0) ((rd_T34 t464 (ji26)).f4.f1) ((rd_T34 t464 (ji26)).f4.f2) ((rd_T34 t464 (ji26)).f4.f3) ((rd_T39 ((rd_T42 t455 t478).f0) x13_3).f0) ((rd_T39 ((rd_T42 t455 t478).f0) x13_3).f1.f0) ((rd_T39 ((rd_T42 t455 t478).f0) x13_3).f1.f1) ((rd_T39 ((rd_T42 t455 t478).f0) x13_3).f1.f2) ((rd_T39 ((rd_T42 t455 t478).f0) x13_3).f1.f3) = some r) ∧ Aside0 (kq ≤ k3) ∧ Aside0 (Kd.R k34 34 wc w.heap.size (fun k_ => k_ ≠ gb474) (.slice (some ad473) t464.length co12) t464) ∧ Aside0 (Kd.V k42 42 wc w.heap.size (fun k_ => some k_ ≠ ((.slice (some ad473) t464.length co12) : Value).ownBlock ∧ some k_ ≠ ((.slice Ao10 t458.length co10) : Value).ownBlock ∧ k_ ≠ gb463 ∧ k_ ≠ gb474 ∧ k_ ≠ gb483) (.slice (some ad481) t455.length co8) t455) ∧ Aside0 (Kd.Q (Kd.int .i64) 3 wc w.heap.size (fun _ => True) (.slice Ao10 t458.length co10) t458) ∧ Aside0 (wc.heap[gb463]? = some (.cells #[(.slice (some ad481) t455.length co8), (.slice Ao10 t458.length co10)] 26 (0, 0))) ∧ Aside0 (wc.heap[gb474]? = some (.cells #[.int .i64 ((rd_T34 t464 (ji26)).f0), .int .i64 ((rd_T34 t464 (ji26)).f1), .int .i64 ((rd_T34 t464 (ji26)).f2), .int .i64 ((rd_T34 t464 (ji26)).f3), .int .i64 ((rd_T34 t464 (ji26)).f4.f0), .int .i64 ((rd_T34 t464 (ji26)).f4.f1), .int .i64 ((rd_T34 t464 (ji26)).f4.f2), .int .i64 ((rd_T34 t464 (ji26)).f4.f3)] 34 (0, 0))) ∧ Aside0 (wc.heap[gb483]? = some (.cells #[.int .i64 ((rd_T39 ((rd_T42 t455 t478).f0) x13_3).f0), .int .i64 ((rd_T39 ((rd_T42 t455 t478).f0) x13_3).f1.f0), .int .i64 ((rd_T39 ((rd_T42 t455 t478).f0) x13_3).f1.f1), .int .i64 ((rd_T39 ((rd_T42 t455 t478).f0) x13_3).f1.f2), .int .i64 ((rd_T39 ((rd_T42 t455 t478).f0) x13_3).f1.f3)] 39 (0, 0))) ∧ Aside0 (Kd.C k39 wc (some ad482) ((rd_T42 t455 t478).f0).length ((rd_T42 t455 t478).f0)) ∧ Aside0 (Below w.heap.size w wc))
       case first =>
        have H := HC55.out
        clear HC55
        replace H := Option.bind_eq_some_iff.mp H
        obtain ⟨t484, A620, H⟩ := H
        have A62 := am A620
        clear A620
        by_cases c63 : t484 = true
        rotate_left
        · replace c63 := Bool.eq_false_iff.mpr c63
          subst c63
          rw [if_neg (show ¬ (false = true) by decide)] at H
          have H' := am H
          clear H
          have hnb70 := NB463_474.out
          have hnc70 := NB474_463.out
          have hnb71 := NB463_483.out
          have hnc71 := NB483_463.out
          obtain ⟨hcz72_0, hcz72_1⟩ := b2 BK463.out
          obtain ⟨hfz72_0, hfz72_1⟩ := f2 BK463.out
          go_wp2_with (first | (go_at_call 10; (with_reducible refine (impl_FindLive.calls k3 _ _ t455 t478 x13_3 false _ ?side1 ?side2 A62.out).mono ?_); (case side1 => refine (Kd.V_reads' (e := 42) (base := w.heap.size) (ok := fun k_ => ((some k_ ≠ (.slice (some ad473) t464.length co12 : Value).ownBlock ∧ (some k_ ≠ (.slice Ao10 t458.length co10 : Value).ownBlock ∧ (k_ ≠ gb463 ∧ k_ ≠ gb474))) ∧ k_ ≠ gb483)) (n := t455.length) (c := co8) ?_).2.2; exact (pv ((Kd.V_mono (Kd.V_far (p := ⟨gb483, 4, none⟩) (Kd.V_far (p := ⟨gb483, 3, none⟩) (Kd.V_far (p := ⟨gb483, 2, none⟩) (Kd.V_far (p := ⟨gb483, 1, none⟩) (Kd.V_far (p := ⟨gb483, 0, none⟩) (Kd.V_mono HO_464000.out (fun k_ hk => (⟨hk, hk.2⟩ : _ ∧ k_ ≠ gb483))) (fun _ hk => hk.2) (.int .i64 ((rd_T39 ((rd_T42 t455 t478).f0) x13_3).f0))) (fun _ hk => hk.2) (.int .i64 ((rd_T39 ((rd_T42 t455 t478).f0) x13_3).f1.f0))) (fun _ hk => hk.2) (.int .i64 ((rd_T39 ((rd_T42 t455 t478).f0) x13_3).f1.f1))) (fun _ hk => hk.2) (.int .i64 ((rd_T39 ((rd_T42 t455 t478).f0) x13_3).f1.f2))) (fun _ hk => hk.2) (.int .i64 ((rd_T39 ((rd_T42 t455 t478).f0) x13_3).f1.f3))) (fun _ h_ => h_.1))))); (case side2 => exact (Kd.V_reads' HO_464000.out).2.1); rintro e w73 ⟨rfl, hb⟩; replace HO_6 := am (Kd.R_below (pr ((Kd.R_mono (Kd.R_far (p := ⟨gb483, 4, none⟩) (Kd.R_far (p := ⟨gb483, 3, none⟩) (Kd.R_far (p := ⟨gb483, 2, none⟩) (Kd.R_far (p := ⟨gb483, 1, none⟩) (Kd.R_far (p := ⟨gb483, 0, none⟩) (Kd.R_types HO_6.out BK483.out (by decide)) (fun _ hk => hk.2) (.int .i64 ((rd_T39 ((rd_T42 t455 t478).f0) x13_3).f0))) (fun _ hk => hk.2) (.int .i64 ((rd_T39 ((rd_T42 t455 t478).f0) x13_3).f1.f0))) (fun _ hk => hk.2) (.int .i64 ((rd_T39 ((rd_T42 t455 t478).f0) x13_3).f1.f1))) (fun _ hk => hk.2) (.int .i64 ((rd_T39 ((rd_T42 t455 t478).f0) x13_3).f1.f2))) (fun _ hk => hk.2) (.int .i64 ((rd_T39 ((rd_T42 t455 t478).f0) x13_3).f1.f3))) (fun _ h_ => h_.1)))) hb); replace HO_464000 := am (Kd.V_below (pv ((Kd.V_mono (Kd.V_far (p := ⟨gb483, 4, none⟩) (Kd.V_far (p := ⟨gb483, 3, none⟩) (Kd.V_far (p := ⟨gb483, 2, none⟩) (Kd.V_far (p := ⟨gb483, 1, none⟩) (Kd.V_far (p := ⟨gb483, 0, none⟩) (Kd.V_mono HO_464000.out (fun k_ hk => (⟨hk, hk.2⟩ : _ ∧ k_ ≠ gb483))) (fun _ hk => hk.2) (.int .i64 ((rd_T39 ((rd_T42 t455 t478).f0) x13_3).f0))) (fun _ hk => hk.2) (.int .i64 ((rd_T39 ((rd_T42 t455 t478).f0) x13_3).f1.f0))) (fun _ hk => hk.2) (.int .i64 ((rd_T39 ((rd_T42 t455 t478).f0) x13_3).f1.f1))) (fun _ hk => hk.2) (.int .i64 ((rd_T39 ((rd_T42 t455 t478).f0) x13_3).f1.f2))) (fun _ hk => hk.2) (.int .i64 ((rd_T39 ((rd_T42 t455 t478).f0) x13_3).f1.f3))) (fun _ h_ => h_.1)))) hb); replace HO_464001 := am (Kd.Q_below (pq ((Kd.Q_mono (Kd.Q_far (p := ⟨gb483, 4, none⟩) (Kd.Q_far (p := ⟨gb483, 3, none⟩) (Kd.Q_far (p := ⟨gb483, 2, none⟩) (Kd.Q_far (p := ⟨gb483, 1, none⟩) (Kd.Q_far (p := ⟨gb483, 0, none⟩) (Kd.Q_types HO_464001.out BK483.out (by decide)) (fun _ hk => hk.2) (.int .i64 ((rd_T39 ((rd_T42 t455 t478).f0) x13_3).f0))) (fun _ hk => hk.2) (.int .i64 ((rd_T39 ((rd_T42 t455 t478).f0) x13_3).f1.f0))) (fun _ hk => hk.2) (.int .i64 ((rd_T39 ((rd_T42 t455 t478).f0) x13_3).f1.f1))) (fun _ hk => hk.2) (.int .i64 ((rd_T39 ((rd_T42 t455 t478).f0) x13_3).f1.f2))) (fun _ hk => hk.2) (.int .i64 ((rd_T39 ((rd_T42 t455 t478).f0) x13_3).f1.f3))) (fun _ h_ => h_.1)))) hb); replace BK463 := am (blk_below (bf5 (pb BK463.out) NB463_483.out) hb); replace BK474 := am (blk_below (bf5 (pb BK474.out) NB474_483.out) hb); replace HR481_0 := am (Kd.C_below ((Kd.V_reads' (pv ((Kd.V_mono (Kd.V_far (p := ⟨gb483, 4, none⟩) (Kd.V_far (p := ⟨gb483, 3, none⟩) (Kd.V_far (p := ⟨gb483, 2, none⟩) (Kd.V_far (p := ⟨gb483, 1, none⟩) (Kd.V_far (p := ⟨gb483, 0, none⟩) (Kd.V_mono HL481_0.out (fun k_ hk => (⟨hk, hk.2⟩ : _ ∧ k_ ≠ gb483))) (fun _ hk => hk.2) (.int .i64 ((rd_T39 ((rd_T42 t455 t478).f0) x13_3).f0))) (fun _ hk => hk.2) (.int .i64 ((rd_T39 ((rd_T42 t455 t478).f0) x13_3).f1.f0))) (fun _ hk => hk.2) (.int .i64 ((rd_T39 ((rd_T42 t455 t478).f0) x13_3).f1.f1))) (fun _ hk => hk.2) (.int .i64 ((rd_T39 ((rd_T42 t455 t478).f0) x13_3).f1.f2))) (fun _ hk => hk.2) (.int .i64 ((rd_T39 ((rd_T42 t455 t478).f0) x13_3).f1.f3))) (fun _ h_ => h_.1))))).2.2) hb); replace HL481_0 := am (Kd.V_below (pv ((Kd.V_mono (Kd.V_far (p := ⟨gb483, 4, none⟩) (Kd.V_far (p := ⟨gb483, 3, none⟩) (Kd.V_far (p := ⟨gb483, 2, none⟩) (Kd.V_far (p := ⟨gb483, 1, none⟩) (Kd.V_far (p := ⟨gb483, 0, none⟩) (Kd.V_mono HL481_0.out (fun k_ hk => (⟨hk, hk.2⟩ : _ ∧ k_ ≠ gb483))) (fun _ hk => hk.2) (.int .i64 ((rd_T39 ((rd_T42 t455 t478).f0) x13_3).f0))) (fun _ hk => hk.2) (.int .i64 ((rd_T39 ((rd_T42 t455 t478).f0) x13_3).f1.f0))) (fun _ hk => hk.2) (.int .i64 ((rd_T39 ((rd_T42 t455 t478).f0) x13_3).f1.f1))) (fun _ hk => hk.2) (.int .i64 ((rd_T39 ((rd_T42 t455 t478).f0) x13_3).f1.f2))) (fun _ hk => hk.2) (.int .i64 ((rd_T39 ((rd_T42 t455 t478).f0) x13_3).f1.f3))) (fun _ h_ => h_.1)))) hb); replace BK483 := am (blk_below (bp5 (pb BK483.out)) hb); replace HB := am (below_step (bg3 HB.out GE463.out GE474.out GE483.out) hb); clear hb))
          go_meet
          case rel => exact ⟨_, (false), rf, H', ⟨by have := HJ4.out; have := HJ29.out; have := HK3.out; first | omega | exact Nat.le_refl _⟩, ⟨pr HO_6.out⟩, ⟨pv (Kd.V_mono HO_464000.out (fun _ hk => ⟨hk.1.1, ⟨hk.1.2.1, ⟨hk.1.2.2.1, ⟨hk.1.2.2.2, hk.2⟩⟩⟩⟩))⟩, ⟨pq HO_464001.out⟩, ⟨pb BK463.out⟩, ⟨pb BK474.out⟩, ⟨pb BK483.out⟩, ⟨pc HR481_0.out⟩, ⟨bg3 HB.out GE463.out GE474.out GE483.out⟩⟩
        subst c63
        rw [if_pos rfl] at H
        have H' := am H
        clear H
        have hnb64 := NB463_474.out
        have hnc64 := NB474_463.out
        have hnb65 := NB463_483.out
        have hnc65 := NB483_463.out
        obtain ⟨hcz66_0, hcz66_1⟩ := b2 BK463.out
        obtain ⟨hfz66_0, hfz66_1⟩ := f2 BK463.out
        go_wp2_with (first | (go_at_call 10; (with_reducible refine (impl_FindLive.calls k3 _ _ t455 t478 x13_3 true _ ?side1 ?side2 A62.out).mono ?_); (case side1 => refine (Kd.V_reads' (e := 42) (base := w.heap.size) (ok := fun k_ => ((some k_ ≠ (.slice (some ad473) t464.length co12 : Value).ownBlock ∧ (some k_ ≠ (.slice Ao10 t458.length co10 : Value).ownBlock ∧ (k_ ≠ gb463 ∧ k_ ≠ gb474))) ∧ k_ ≠ gb483)) (n := t455.length) (c := co8) ?_).2.2; exact (pv ((Kd.V_mono (Kd.V_far (p := ⟨gb483, 4, none⟩) (Kd.V_far (p := ⟨gb483, 3, none⟩) (Kd.V_far (p := ⟨gb483, 2, none⟩) (Kd.V_far (p := ⟨gb483, 1, none⟩) (Kd.V_far (p := ⟨gb483, 0, none⟩) (Kd.V_mono HO_464000.out (fun k_ hk => (⟨hk, hk.2⟩ : _ ∧ k_ ≠ gb483))) (fun _ hk => hk.2) (.int .i64 ((rd_T39 ((rd_T42 t455 t478).f0) x13_3).f0))) (fun _ hk => hk.2) (.int .i64 ((rd_T39 ((rd_T42 t455 t478).f0) x13_3).f1.f0))) (fun _ hk => hk.2) (.int .i64 ((rd_T39 ((rd_T42 t455 t478).f0) x13_3).f1.f1))) (fun _ hk => hk.2) (.int .i64 ((rd_T39 ((rd_T42 t455 t478).f0) x13_3).f1.f2))) (fun _ hk => hk.2) (.int .i64 ((rd_T39 ((rd_T42 t455 t478).f0) x13_3).f1.f3))) (fun _ h_ => h_.1))))); (case side2 => exact (Kd.V_reads' HO_464000.out).2.1); rintro e w67 ⟨rfl, hb⟩; replace HO_6 := am (Kd.R_below (pr ((Kd.R_mono (Kd.R_far (p := ⟨gb483, 4, none⟩) (Kd.R_far (p := ⟨gb483, 3, none⟩) (Kd.R_far (p := ⟨gb483, 2, none⟩) (Kd.R_far (p := ⟨gb483, 1, none⟩) (Kd.R_far (p := ⟨gb483, 0, none⟩) (Kd.R_types HO_6.out BK483.out (by decide)) (fun _ hk => hk.2) (.int .i64 ((rd_T39 ((rd_T42 t455 t478).f0) x13_3).f0))) (fun _ hk => hk.2) (.int .i64 ((rd_T39 ((rd_T42 t455 t478).f0) x13_3).f1.f0))) (fun _ hk => hk.2) (.int .i64 ((rd_T39 ((rd_T42 t455 t478).f0) x13_3).f1.f1))) (fun _ hk => hk.2) (.int .i64 ((rd_T39 ((rd_T42 t455 t478).f0) x13_3).f1.f2))) (fun _ hk => hk.2) (.int .i64 ((rd_T39 ((rd_T42 t455 t478).f0) x13_3).f1.f3))) (fun _ h_ => h_.1)))) hb); replace HO_464000 := am (Kd.V_below (pv ((Kd.V_mono (Kd.V_far (p := ⟨gb483, 4, none⟩) (Kd.V_far (p := ⟨gb483, 3, none⟩) (Kd.V_far (p := ⟨gb483, 2, none⟩) (Kd.V_far (p := ⟨gb483, 1, none⟩) (Kd.V_far (p := ⟨gb483, 0, none⟩) (Kd.V_mono HO_464000.out (fun k_ hk => (⟨hk, hk.2⟩ : _ ∧ k_ ≠ gb483))) (fun _ hk => hk.2) (.int .i64 ((rd_T39 ((rd_T42 t455 t478).f0) x13_3).f0))) (fun _ hk => hk.2) (.int .i64 ((rd_T39 ((rd_T42 t455 t478).f0) x13_3).f1.f0))) (fun _ hk => hk.2) (.int .i64 ((rd_T39 ((rd_T42 t455 t478).f0) x13_3).f1.f1))) (fun _ hk => hk.2) (.int .i64 ((rd_T39 ((rd_T42 t455 t478).f0) x13_3).f1.f2))) (fun _ hk => hk.2) (.int .i64 ((rd_T39 ((rd_T42 t455 t478).f0) x13_3).f1.f3))) (fun _ h_ => h_.1)))) hb); replace HO_464001 := am (Kd.Q_below (pq ((Kd.Q_mono (Kd.Q_far (p := ⟨gb483, 4, none⟩) (Kd.Q_far (p := ⟨gb483, 3, none⟩) (Kd.Q_far (p := ⟨gb483, 2, none⟩) (Kd.Q_far (p := ⟨gb483, 1, none⟩) (Kd.Q_far (p := ⟨gb483, 0, none⟩) (Kd.Q_types HO_464001.out BK483.out (by decide)) (fun _ hk => hk.2) (.int .i64 ((rd_T39 ((rd_T42 t455 t478).f0) x13_3).f0))) (fun _ hk => hk.2) (.int .i64 ((rd_T39 ((rd_T42 t455 t478).f0) x13_3).f1.f0))) (fun _ hk => hk.2) (.int .i64 ((rd_T39 ((rd_T42 t455 t478).f0) x13_3).f1.f1))) (fun _ hk => hk.2) (.int .i64 ((rd_T39 ((rd_T42 t455 t478).f0) x13_3).f1.f2))) (fun _ hk => hk.2) (.int .i64 ((rd_T39 ((rd_T42 t455 t478).f0) x13_3).f1.f3))) (fun _ h_ => h_.1)))) hb); replace BK463 := am (blk_below (bf5 (pb BK463.out) NB463_483.out) hb); replace BK474 := am (blk_below (bf5 (pb BK474.out) NB474_483.out) hb); replace HR481_0 := am (Kd.C_below ((Kd.V_reads' (pv ((Kd.V_mono (Kd.V_far (p := ⟨gb483, 4, none⟩) (Kd.V_far (p := ⟨gb483, 3, none⟩) (Kd.V_far (p := ⟨gb483, 2, none⟩) (Kd.V_far (p := ⟨gb483, 1, none⟩) (Kd.V_far (p := ⟨gb483, 0, none⟩) (Kd.V_mono HL481_0.out (fun k_ hk => (⟨hk, hk.2⟩ : _ ∧ k_ ≠ gb483))) (fun _ hk => hk.2) (.int .i64 ((rd_T39 ((rd_T42 t455 t478).f0) x13_3).f0))) (fun _ hk => hk.2) (.int .i64 ((rd_T39 ((rd_T42 t455 t478).f0) x13_3).f1.f0))) (fun _ hk => hk.2) (.int .i64 ((rd_T39 ((rd_T42 t455 t478).f0) x13_3).f1.f1))) (fun _ hk => hk.2) (.int .i64 ((rd_T39 ((rd_T42 t455 t478).f0) x13_3).f1.f2))) (fun _ hk => hk.2) (.int .i64 ((rd_T39 ((rd_T42 t455 t478).f0) x13_3).f1.f3))) (fun _ h_ => h_.1))))).2.2) hb); replace HL481_0 := am (Kd.V_below (pv ((Kd.V_mono (Kd.V_far (p := ⟨gb483, 4, none⟩) (Kd.V_far (p := ⟨gb483, 3, none⟩) (Kd.V_far (p := ⟨gb483, 2, none⟩) (Kd.V_far (p := ⟨gb483, 1, none⟩) (Kd.V_far (p := ⟨gb483, 0, none⟩) (Kd.V_mono HL481_0.out (fun k_ hk => (⟨hk, hk.2⟩ : _ ∧ k_ ≠ gb483))) (fun _ hk => hk.2) (.int .i64 ((rd_T39 ((rd_T42 t455 t478).f0) x13_3).f0))) (fun _ hk => hk.2) (.int .i64 ((rd_T39 ((rd_T42 t455 t478).f0) x13_3).f1.f0))) (fun _ hk => hk.2) (.int .i64 ((rd_T39 ((rd_T42 t455 t478).f0) x13_3).f1.f1))) (fun _ hk => hk.2) (.int .i64 ((rd_T39 ((rd_T42 t455 t478).f0) x13_3).f1.f2))) (fun _ hk => hk.2) (.int .i64 ((rd_T39 ((rd_T42 t455 t478).f0) x13_3).f1.f3))) (fun _ h_ => h_.1)))) hb); replace BK483 := am (blk_below (bp5 (pb BK483.out)) hb); replace HB := am (below_step (bg3 HB.out GE463.out GE474.out GE483.out) hb); clear hb; have hnb68 := NB483_474.out; have hnc68 := NB474_483.out; have hcz69_0 : w67.cell? ⟨gb483, 0, none⟩ = some (.int .i64 ((rd_T39 ((rd_T42 t455 t478).f0) x13_3).f0)) := (blk_cell BK483.out 0).trans rfl; have hcz69_1 : w67.cell? ⟨gb483, 1, none⟩ = some (.int .i64 ((rd_T39 ((rd_T42 t455 t478).f0) x13_3).f1.f0)) := (blk_cell BK483.out 1).trans rfl; have hcz69_2 : w67.cell? ⟨gb483, 2, none⟩ = some (.int .i64 ((rd_T39 ((rd_T42 t455 t478).f0) x13_3).f1.f1)) := (blk_cell BK483.out 2).trans rfl; have hcz69_3 : w67.cell? ⟨gb483, 3, none⟩ = some (.int .i64 ((rd_T39 ((rd_T42 t455 t478).f0) x13_3).f1.f2)) := (blk_cell BK483.out 3).trans rfl; have hcz69_4 : w67.cell? ⟨gb483, 4, none⟩ = some (.int .i64 ((rd_T39 ((rd_T42 t455 t478).f0) x13_3).f1.f3)) := (blk_cell BK483.out 4).trans rfl; obtain ⟨hfz69_0, hfz69_1, hfz69_2, hfz69_3, hfz69_4⟩ := f5 BK483.out))
        go_meet
        case rel => exact ⟨_, ((((rd_T39 ((rd_T42 t455 t478).f0) x13_3).f1.f0) == 1)), rf, H', ⟨by have := HJ4.out; have := HJ29.out; have := HK3.out; first | omega | exact Nat.le_refl _⟩, ⟨pr HO_6.out⟩, ⟨pv (Kd.V_mono HO_464000.out (fun _ hk => ⟨hk.1.1, ⟨hk.1.2.1, ⟨hk.1.2.2.1, ⟨hk.1.2.2.2, hk.2⟩⟩⟩⟩))⟩, ⟨pq HO_464001.out⟩, ⟨pb BK463.out⟩, ⟨pb BK474.out⟩, ⟨pb BK483.out⟩, ⟨pc HR481_0.out⟩, ⟨bg3 HB.out GE463.out GE474.out GE483.out⟩⟩
       case rest =>
        clear HC55
        obtain ⟨kq, x108_54, rfl, HA, HJ54, HO_6, HO_464000, HO_464001, BK463, BK474, BK483, HR481_0, HB⟩ := hcut
        cases kq with
        | zero => exact absurd HA.out (by simp [laws_FnPutSteps.j3])
        | succ kj54 =>
         have H := HA.out
         clear HA
         simp only [laws_FnPutSteps.j3] at H
         by_cases c74 : x108_54 = true
         rotate_left
         · replace c74 := Bool.eq_false_iff.mpr c74
           subst c74
           rw [if_neg (show ¬ (false = true) by decide)] at H
           have H' := am H
           clear H
           go_wp2
           go_roundg kj54
           case measure => have := HJ4.out; have := HJ29.out; have := HK3.out; have := HJ54.out; omega
           case rel => exact ⟨(x12_3), (wrap64 (x13_3 + 1)), rf, rf, H', ⟨by have := HJ4.out; have := HJ29.out; have := HK3.out; have := HJ54.out; omega⟩, ⟨pr HO_6.out⟩, ⟨pv (Kd.V_mono HO_464000.out (fun _ hk => ⟨hk.1, ⟨hk.2.1, ⟨hk.2.2.1, hk.2.2.2.1⟩⟩⟩))⟩, ⟨pq HO_464001.out⟩, ⟨pb BK463.out⟩, ⟨pb BK474.out⟩, ⟨bg3 HB.out GE463.out GE474.out GE483.out⟩⟩
         subst c74
         rw [if_pos rfl] at H
         by_cases c75 : x12_3 ≥ (wrap64 ((t464.length : Int) - 2))
         · rw [if_pos c75] at H
           have c75b0 := decide_eq_true c75
           clear c75
           cases H
           exact absurd HRT.out (by decide)
         rw [if_neg c75] at H
         have c75b0 := decide_eq_false c75
         clear c75
         obtain ⟨c77b0, H⟩ := ifd H
         obtain ⟨c78b0, H⟩ := ifd H
         by_cases c79 : ((rd_T34 t464 x12_3).f0) = 1
         rotate_left
         · rw [if_neg c79] at H
           have c79b0 : (((rd_T34 t464 x12_3).f0) == 1) = false := beq_eq_false_iff_ne.mpr c79
           have c79b1 : (((rd_T34 t464 x12_3).f0) != 1) = true := bne_iff_ne.mpr c79
           cases H
           exact absurd HRT.out (by decide)
         rw [if_pos c79] at H
         have c79b0 : (((rd_T34 t464 x12_3).f0) == 1) = true := beq_iff_eq.mpr c79
         have c79b1 : (((rd_T34 t464 x12_3).f0) != 1) = false := bne_eq_false_iff_eq.mpr c79
         clear c79
         by_cases c80 : ((rd_T34 t464 x12_3).f1) = ((rd_T39 ((rd_T42 t455 t478).f0) x13_3).f1.f2)
         rotate_left
         · rw [if_neg c80] at H
           have c80b0 : (((rd_T34 t464 x12_3).f1) == ((rd_T39 ((rd_T42 t455 t478).f0) x13_3).f1.f2)) = false := beq_eq_false_iff_ne.mpr c80
           have c80b1 : (((rd_T34 t464 x12_3).f1) != ((rd_T39 ((rd_T42 t455 t478).f0) x13_3).f1.f2)) = true := bne_iff_ne.mpr c80
           cases H
           exact absurd HRT.out (by decide)
         rw [if_pos c80] at H
         have c80b0 : (((rd_T34 t464 x12_3).f1) == ((rd_T39 ((rd_T42 t455 t478).f0) x13_3).f1.f2)) = true := beq_iff_eq.mpr c80
         have c80b1 : (((rd_T34 t464 x12_3).f1) != ((rd_T39 ((rd_T42 t455 t478).f0) x13_3).f1.f2)) = false := bne_eq_false_iff_eq.mpr c80
         clear c80
         by_cases c81 : ((rd_T34 t464 x12_3).f2) = ((rd_T39 ((rd_T42 t455 t478).f0) x13_3).f1.f3)
         rotate_left
         · rw [if_neg c81] at H
           have c81b0 : (((rd_T34 t464 x12_3).f2) == ((rd_T39 ((rd_T42 t455 t478).f0) x13_3).f1.f3)) = false := beq_eq_false_iff_ne.mpr c81
           have c81b1 : (((rd_T34 t464 x12_3).f2) != ((rd_T39 ((rd_T42 t455 t478).f0) x13_3).f1.f3)) = true := bne_iff_ne.mpr c81
           cases H
           exact absurd HRT.out (by decide)
         rw [if_pos c81] at H
         have c81b0 : (((rd_T34 t464 x12_3).f2) == ((rd_T39 ((rd_T42 t455 t478).f0) x13_3).f1.f3)) = true := beq_iff_eq.mpr c81
         have c81b1 : (((rd_T34 t464 x12_3).f2) != ((rd_T39 ((rd_T42 t455 t478).f0) x13_3).f1.f3)) = false := bne_eq_false_iff_eq.mpr c81
         clear c81
         have H' := am H
         clear H
         try go_wp2
         replace HO_6 := am (Kd.R_drew HO_6.out)
         replace HO_464000 := am (Kd.V_drew HO_464000.out)
         replace HO_464001 := am (Kd.Q_drew HO_464001.out)
         replace BK463 := am (blk_drew BK463.out)
         replace BK474 := am (blk_drew BK474.out)
         replace BK483 := am (blk_drew BK483.out)
         replace HR481_0 := am (Kd.C_drew HR481_0.out)
         replace HB := am (below_drew1 HB.out)
         have p485 : 0 ≤ (x12_3 : Int) := ofb
         have q485 : x12_3 < (t464.length : Int) := ofb
         obtain ⟨ad485, e485, hx485_0, hx485_1, hx485_2, hx485_3, hx485_4, hx485_5, hx485_6, hx485_7⟩ := at_T34 (Kd.R_reads' HO_6.out).2.2 x12_3 p485 q485
         obtain rfl : ad473 = ad485 := (by injection e485)
         replace p485 := eq_true p485
         replace q485 := eq_true q485
         have p486 : 0 ≤ (x12_3 : Int) := ofb
         have q486 : x12_3 < (t464.length : Int) := ofb
         obtain ⟨ad486, e486, hx486_0, hx486_1, hx486_2, hx486_3, hx486_4, hx486_5, hx486_6, hx486_7⟩ := at_T34 (Kd.R_reads' HO_6.out).2.2 x12_3 p486 q486
         obtain rfl : ad473 = ad486 := (by injection e486)
         replace p486 := eq_true p486
         replace q486 := eq_true q486
         have p487 : 0 ≤ (x12_3 : Int) := ofb
         have q487 : x12_3 < (t464.length : Int) := ofb
         obtain ⟨ad487, e487, hx487_0, hx487_1, hx487_2, hx487_3, hx487_4, hx487_5, hx487_6, hx487_7⟩ := at_T34 (Kd.R_reads' HO_6.out).2.2 x12_3 p487 q487
         obtain rfl : ad473 = ad487 := (by injection e487)
         replace p487 := eq_true p487
         replace q487 := eq_true q487
         refine start_ (n := 34) (S := fun w' => w'.cell? ⟨gb483, 0, none⟩ = some (.int .i64 ((rd_T39 ((rd_T42 t455 t478).f0) x13_3).f0)) ∧ w'.cell? ⟨gb483, 1, none⟩ = some (.int .i64 ((rd_T39 ((rd_T42 t455 t478).f0) x13_3).f1.f0)) ∧ w'.cell? ⟨gb483, 2, none⟩ = some (.int .i64 ((rd_T39 ((rd_T42 t455 t478).f0) x13_3).f1.f1)) ∧ w'.cell? ⟨gb483, 3, none⟩ = some (.int .i64 ((rd_T39 ((rd_T42 t455 t478).f0) x13_3).f1.f2)) ∧ w'.cell? ⟨gb483, 4, none⟩ = some (.int .i64 ((rd_T39 ((rd_T42 t455 t478).f0) x13_3).f1.f3)) ∧ w'.cell? (ad473.add ((x12_3).toNat * 8)) = some (.int .i64 ((rd_T34 t464 x12_3).f0)) ∧ w'.cell? ⟨(ad473.add ((x12_3).toNat * 8)).block, (ad473.add ((x12_3).toNat * 8)).off + 1, none⟩ = some (.int .i64 ((rd_T34 t464 x12_3).f1)) ∧ w'.cell? ⟨(ad473.add ((x12_3).toNat * 8)).block, (ad473.add ((x12_3).toNat * 8)).off + 2, none⟩ = some (.int .i64 ((rd_T34 t464 x12_3).f2)) ∧ w'.cell? ⟨(ad473.add ((x12_3).toNat * 8)).block, (ad473.add ((x12_3).toNat * 8)).off + 3, none⟩ = some (.int .i64 ((rd_T34 t464 x12_3).f3)) ∧ w'.cell? ⟨(ad473.add ((x12_3).toNat * 8)).block, (ad473.add ((x12_3).toNat * 8)).off + 4, none⟩ = some (.int .i64 ((rd_T34 t464 x12_3).f4.f0)) ∧ w'.cell? ⟨(ad473.add ((x12_3).toNat * 8)).block, (ad473.add ((x12_3).toNat * 8)).off + 5, none⟩ = some (.int .i64 ((rd_T34 t464 x12_3).f4.f1)) ∧ w'.cell? ⟨(ad473.add ((x12_3).toNat * 8)).block, (ad473.add ((x12_3).toNat * 8)).off + 6, none⟩ = some (.int .i64 ((rd_T34 t464 x12_3).f4.f2)) ∧ w'.cell? ⟨(ad473.add ((x12_3).toNat * 8)).block, (ad473.add ((x12_3).toNat * 8)).off + 7, none⟩ = some (.int .i64 ((rd_T34 t464 x12_3).f4.f3)) ∧ w'.cell? (ad473.add ((x12_3).toNat * 8)) = some (.int .i64 ((rd_T34 t464 x12_3).f0)) ∧ w'.cell? ⟨(ad473.add ((x12_3).toNat * 8)).block, (ad473.add ((x12_3).toNat * 8)).off + 1, none⟩ = some (.int .i64 ((rd_T34 t464 x12_3).f1)) ∧ w'.cell? ⟨(ad473.add ((x12_3).toNat * 8)).block, (ad473.add ((x12_3).toNat * 8)).off + 2, none⟩ = some (.int .i64 ((rd_T34 t464 x12_3).f2)) ∧ w'.cell? ⟨(ad473.add ((x12_3).toNat * 8)).block, (ad473.add ((x12_3).toNat * 8)).off + 3, none⟩ = some (.int .i64 ((rd_T34 t464 x12_3).f3)) ∧ w'.cell? ⟨(ad473.add ((x12_3).toNat * 8)).block, (ad473.add ((x12_3).toNat * 8)).off + 4, none⟩ = some (.int .i64 ((rd_T34 t464 x12_3).f4.f0)) ∧ w'.cell? ⟨(ad473.add ((x12_3).toNat * 8)).block, (ad473.add ((x12_3).toNat * 8)).off + 5, none⟩ = some (.int .i64 ((rd_T34 t464 x12_3).f4.f1)) ∧ w'.cell? ⟨(ad473.add ((x12_3).toNat * 8)).block, (ad473.add ((x12_3).toNat * 8)).off + 6, none⟩ = some (.int .i64 ((rd_T34 t464 x12_3).f4.f2)) ∧ w'.cell? ⟨(ad473.add ((x12_3).toNat * 8)).block, (ad473.add ((x12_3).toNat * 8)).off + 7, none⟩ = some (.int .i64 ((rd_T34 t464 x12_3).f4.f3)) ∧ w'.cell? (ad473.add ((x12_3).toNat * 8)) = some (.int .i64 ((rd_T34 t464 x12_3).f0)) ∧ w'.cell? ⟨(ad473.add ((x12_3).toNat * 8)).block, (ad473.add ((x12_3).toNat * 8)).off + 1, none⟩ = some (.int .i64 ((rd_T34 t464 x12_3).f1)) ∧ w'.cell? ⟨(ad473.add ((x12_3).toNat * 8)).block, (ad473.add ((x12_3).toNat * 8)).off + 2, none⟩ = some (.int .i64 ((rd_T34 t464 x12_3).f2)) ∧ w'.cell? ⟨(ad473.add ((x12_3).toNat * 8)).block, (ad473.add ((x12_3).toNat * 8)).off + 3, none⟩ = some (.int .i64 ((rd_T34 t464 x12_3).f3)) ∧ w'.cell? ⟨(ad473.add ((x12_3).toNat * 8)).block, (ad473.add ((x12_3).toNat * 8)).off + 4, none⟩ = some (.int .i64 ((rd_T34 t464 x12_3).f4.f0)) ∧ w'.cell? ⟨(ad473.add ((x12_3).toNat * 8)).block, (ad473.add ((x12_3).toNat * 8)).off + 5, none⟩ = some (.int .i64 ((rd_T34 t464 x12_3).f4.f1)) ∧ w'.cell? ⟨(ad473.add ((x12_3).toNat * 8)).block, (ad473.add ((x12_3).toNat * 8)).off + 6, none⟩ = some (.int .i64 ((rd_T34 t464 x12_3).f4.f2)) ∧ w'.cell? ⟨(ad473.add ((x12_3).toNat * 8)).block, (ad473.add ((x12_3).toNat * 8)).off + 7, none⟩ = some (.int .i64 ((rd_T34 t464 x12_3).f4.f3))) (ds := []) (bt 34 0) (by kernel_rfl) rfl rfl ⟨(blk_cell BK483.out 0).trans rfl, (blk_cell BK483.out 1).trans rfl, (blk_cell BK483.out 2).trans rfl, (blk_cell BK483.out 3).trans rfl, (blk_cell BK483.out 4).trans rfl, hx485_0, hx485_1, hx485_2, hx485_3, hx485_4, hx485_5, hx485_6, hx485_7, hx486_0, hx486_1, hx486_2, hx486_3, hx486_4, hx486_5, hx486_6, hx486_7, hx487_0, hx487_1, hx487_2, hx487_3, hx487_4, hx487_5, hx487_6, hx487_7⟩ (fun hHeld => ?_); refine with_tabW laws_FnPutSteps.tab21 laws_FnPutSteps.bits21 (fun HT_ HW_ => ?_)
         generalize wc.drew = w82 at HO_6 HO_464000 HO_464001 BK463 BK474 BK483 HR481_0 HB hx485_0 hx485_1 hx485_2 hx485_3 hx485_4 hx485_5 hx485_6 hx485_7 hx486_0 hx486_1 hx486_2 hx486_3 hx486_4 hx486_5 hx486_6 hx486_7 hx487_0 hx487_1 hx487_2 hx487_3 hx487_4 hx487_5 hx487_6 hx487_7 hHeld ⊢
         refine qj 0 109 (bt 34 1) rfl rfl HT_.out ?_
         refine qj 1 110 (bt 34 3) rfl rfl HT_.out ?_
         refine qj 2 111 (bt 34 7) rfl rfl HT_.out ?_
         refine qj 3 112 (bt 34 15) rfl rfl HT_.out ?_
         refine qj 4 113 (bt 34 31) rfl rfl HT_.out ?_
         refine qj 5 114 (bt 34 63) rfl rfl HT_.out ?_
         refine qj 6 115 (bt 34 127) rfl rfl HT_.out ?_
         refine qj 7 116 (bt 34 255) rfl rfl HT_.out ?_
         refine qj 8 117 (bt 34 511) rfl rfl HT_.out ?_
         refine qm 9 118 (bt 34 1023) rfl rfl HT_.out HW_.out hHeld ?_
         refine qj 10 119 (bt 34 2047) rfl rfl HT_.out ?_
         refine qj 11 120 (bt 34 4095) rfl rfl HT_.out ?_
         refine qj 12 121 (bt 34 8191) rfl rfl HT_.out ?_
         refine qj 13 122 (bt 34 16383) rfl rfl HT_.out ?_
         refine qj 14 123 (bt 34 32767) rfl rfl HT_.out ?_
         refine qj 15 124 (bt 34 65535) rfl rfl HT_.out ?_
         refine qj 16 125 (bt 34 131071) rfl rfl HT_.out ?_
         refine qj 18 127 (bt 34 393215) rfl rfl HT_.out ?_
         refine qj 19 128 (bt 34 917503) rfl rfl HT_.out ?_
         refine qm 17 126 (bt 34 1048575) rfl rfl HT_.out HW_.out hHeld ?_
         refine qm 20 129 (bt 34 2097151) rfl rfl HT_.out HW_.out hHeld ?_
         refine qj 21 130 (bt 34 4194303) rfl rfl HT_.out ?_
         refine qj 22 131 (bt 34 8388607) rfl rfl HT_.out ?_
         refine qj 23 132 (bt 34 16777215) rfl rfl HT_.out ?_
         refine qj 24 133 (bt 34 33554431) rfl rfl HT_.out ?_
         refine qj 25 134 (bt 34 67108863) rfl rfl HT_.out ?_
         refine qj 26 135 (bt 34 134217727) rfl rfl HT_.out ?_
         refine qj 27 136 (bt 34 268435455) rfl rfl HT_.out ?_
         refine qj 29 138 (bt 34 805306367) rfl rfl HT_.out ?_
         refine qj 30 139 (bt 34 1879048191) rfl rfl HT_.out ?_
         refine qm 28 137 (bt 34 2147483647) rfl rfl HT_.out HW_.out hHeld ?_
         refine qm 31 140 (bt 34 4294967295) rfl rfl HT_.out HW_.out hHeld ?_
         refine qj 32 141 (bt 34 8589934591) rfl rfl HT_.out ?_
         refine qj 33 142 (bt 34 17179869183) rfl rfl HT_.out ?_
         refine done_ (done_of HT_.out (by kernel_rfl)) ?_
         try go_wp2
         go_roundg kj54
         case measure => have := HJ4.out; have := HJ29.out; have := HK3.out; have := HJ54.out; omega
         case rel => exact ⟨(wrap64 (x12_3 + 1)), (wrap64 (x13_3 + 1)), rf, rf, H', ⟨by have := HJ4.out; have := HJ29.out; have := HK3.out; have := HJ54.out; omega⟩, ⟨pr HO_6.out⟩, ⟨pv (Kd.V_mono HO_464000.out (fun _ hk => ⟨hk.1, ⟨hk.2.1, ⟨hk.2.2.1, hk.2.2.2.1⟩⟩⟩))⟩, ⟨pq HO_464001.out⟩, ⟨pb BK463.out⟩, ⟨pb BK474.out⟩, ⟨bg3 HB.out GE463.out GE474.out GE483.out⟩⟩
def laws_FnPutSteps.Pure : Prop := ∀ (l0 : List Int), l0.length ≤ maxLen → l0.length * 1 ≤ 140737488351232 → (∀ x ∈ l0, (Lit.int .u8 x).wf = true) → ∃ k, laws_FnPutSteps.f k l0 = some true
theorem laws_FnPutSteps.walk (P : laws_FnPutSteps.Pure) (a0 : Option Addr) (len0 cap0 : Nat) (z0 : List Int) (w : World) (w0 : (a0 = none ∧ len0 = 0 ∧ cap0 = 0 ∧ z0 = []) ∨ ∃ x, a0 = some x ∧ len0 ≤ cap0 ∧ cap0 ≤ maxLen ∧ z0.length = cap0 ∧ (∀ i, i < z0.length → w.cell? (x.add i) = some (.int .u8 (z0.getD i 0))) ∧ ∀ n ∈ z0, (Lit.int .u8 n).wf = true) (y0 : len0 * 1 ≤ 140737488351232) :
 Calls Try.prog 3 #[.slice a0 len0 cap0] w fun e w' => e = .returned (.bool true) ∧ Below w.heap.size w w' := by
 obtain ⟨l0, rfl, hr0, hm0, hw0, hc0⟩ := ReadsInt.ofRowC w0
 obtain ⟨k, h⟩ := P l0 hm0 y0 hw0
 refine (laws_FnPutSteps.calls k _ _ l0 true ⟨rfl⟩ w (Kd.C_of_reads (d := (0 : Int)) (h1 := fun _ => rfl) hr0) hc0 h).mono ?_
 rintro e w' ⟨rfl, hd⟩
 exact ⟨rfl, hd⟩
end Go.Proofs.Ytenmnclkbleglaa.P2
