-- printed by wip/pp/pp.py
import Derived.Test.YtjlmndgpmhbdlaaRz0
import Derived.Test.YtjlmndgpmhbdlaaRz11
import Derived.Test.YtjlmndgpmhbdlaaRz13
import Derived.Test.YtjlmndgpmhbdlaaRz15
namespace Go.Proofs.Ytjlmndgpmhbdlaa.Rz
open Go.RowKit Go.Proofs.YtjlmndgpmhbdlaaW.PrintWords Go.Proofs.YtjlmndgpmhbdlaaW.PrintLast Go.Proofs.YtjlmndgpmhbdlaaW.PrintMore
attribute [local go_sem] max2_int min2_int max_two min_two max_three min_three max_four min_four
set_option linter.unusedVariables false
set_option linter.unusedSimpArgs false
mutual
def laws_FnDirty.j0 : Nat → List Int → Bool → List (S62) → List Int → Option (Bool)
 | 0, _, _, _, _ => none
 | k + 1, x4, x25, x429000, x429001 => if x25 = true then ((spec_StoreDirty.f k x429000 x429001).bind fun t437 => ((laws_lqInts.f k x4 t437).bind fun t440 => (some t440))) else (laws_FnDirty.l0 k x4 0 1 x429000 x429001)
def laws_FnDirty.l0 : Nat → List Int → Int → Int → List (S62) → List Int → Option (Bool)
 | 0, _, _, _, _, _ => none
 | k + 1, x4, x5, x6, x429000, x429001 => if x6 ≤ 6 then ((impl_FindLast.f x429000 x6).bind fun bt441 => (if bt441.2.2.2.2 = true then (laws_FnDirty.j2 k x4 x5 x6 (bt441.1 == 1) x429000 x429001) else (laws_FnDirty.j2 k x4 x5 x6 false x429000 x429001))) else (some (x5 == (x4.length : Int)))
def laws_FnDirty.j2 : Nat → List Int → Int → Int → Bool → List (S62) → List Int → Option (Bool)
 | 0, _, _, _, _, _, _ => none
 | k + 1, x4, x5, x6, x46, x429000, x429001 => if x46 = true then (if x5 ≥ (x4.length : Int) then (some false) else (if 0 ≤ x5 then (if x5 < (x4.length : Int) then (if (rd x4 x5) = x6 then (laws_FnDirty.l0 k x4 (wrap64 (x5 + 1)) (wrap64 (x6 + 1)) x429000 x429001) else (some false)) else (none)) else (none))) else (if 0 ≤ (wrap64 (x6 - 1)) then (if (wrap64 (x6 - 1)) < (x429001.length : Int) then ((impl_StoreRead.f x429000 x429001 x6).bind fun t449 => (if (rd x429001 (wrap64 (x6 - 1))) = t449 then (laws_FnDirty.l0 k x4 x5 (wrap64 (x6 + 1)) x429000 x429001) else (some false))) else (none)) else (none))
end
def laws_FnDirty.f (k : Nat) (l0 : List Int) : Option (Bool) := if (l0.length : Int) > 1048576 then (some true) else ((spec_DrawStoreDirty.f k l0).bind fun bt422 => ((impl_StoreDirty.f bt422.1 bt422.2).bind fun t429 => ((spec_StoreDirty.f k bt422.1 bt422.2).bind fun t432 => ((laws_lqInts.f k t429 t432).bind fun t435 => (if t435 = true then ((spec_StoreOk.f k bt422.1 bt422.2).bind fun t436 => (laws_FnDirty.j0 k t429 (!t436) bt422.1 bt422.2)) else (laws_FnDirty.j0 k t429 true bt422.1 bt422.2))))))
theorem laws_FnDirty.mono_l : ∀ k, (∀ y0 y1 y2 y3, LeO (laws_FnDirty.j0 k y0 y1 y2 y3) (laws_FnDirty.j0 (k + 1) y0 y1 y2 y3)) ∧ (∀ y0 y1 y2 y3 y4, LeO (laws_FnDirty.l0 k y0 y1 y2 y3 y4) (laws_FnDirty.l0 (k + 1) y0 y1 y2 y3 y4)) ∧ (∀ y0 y1 y2 y3 y4 y5, LeO (laws_FnDirty.j2 k y0 y1 y2 y3 y4 y5) (laws_FnDirty.j2 (k + 1) y0 y1 y2 y3 y4 y5))
 | 0 => ⟨fun _ _ _ _ r h => by simp [laws_FnDirty.j0] at h, fun _ _ _ _ _ r h => by simp [laws_FnDirty.l0] at h, fun _ _ _ _ _ _ r h => by simp [laws_FnDirty.j2] at h⟩
 | k + 1 => by
  obtain ⟨ih0, ih1, ih2⟩ := laws_FnDirty.mono_l k
  refine ⟨?_, ?_, ?_⟩
  · intro y0 y1 y2 y3
    unfold laws_FnDirty.j0
    with_reducible repeat' first | exact ih0 _ _ _ _ | exact ih1 _ _ _ _ _ | exact ih2 _ _ _ _ _ _ | exact laws_lqInts.mono _ _ _ | exact spec_DrawStoreDirty.mono _ _ | exact spec_StoreDirty.mono _ _ _ | exact spec_StoreOk.mono _ _ _ | exact LeO.refl _ | exact LeO.none _ | refine LeO.ite ?_ ?_ | refine LeO.bind ?_ (fun _ => ?_)
  · intro y0 y1 y2 y3 y4
    unfold laws_FnDirty.l0
    with_reducible repeat' first | exact ih0 _ _ _ _ | exact ih1 _ _ _ _ _ | exact ih2 _ _ _ _ _ _ | exact laws_lqInts.mono _ _ _ | exact spec_DrawStoreDirty.mono _ _ | exact spec_StoreDirty.mono _ _ _ | exact spec_StoreOk.mono _ _ _ | exact LeO.refl _ | exact LeO.none _ | refine LeO.ite ?_ ?_ | refine LeO.bind ?_ (fun _ => ?_)
  · intro y0 y1 y2 y3 y4 y5
    unfold laws_FnDirty.j2
    with_reducible repeat' first | exact ih0 _ _ _ _ | exact ih1 _ _ _ _ _ | exact ih2 _ _ _ _ _ _ | exact laws_lqInts.mono _ _ _ | exact spec_DrawStoreDirty.mono _ _ | exact spec_StoreDirty.mono _ _ _ | exact spec_StoreOk.mono _ _ _ | exact LeO.refl _ | exact LeO.none _ | refine LeO.ite ?_ ?_ | refine LeO.bind ?_ (fun _ => ?_)
theorem laws_FnDirty.mono : ∀ a0 k, LeO (laws_FnDirty.f k a0) (laws_FnDirty.f (k + 1) a0) := by
 intro a0 k
 obtain ⟨ih0, ih1, ih2⟩ := laws_FnDirty.mono_l k
 unfold laws_FnDirty.f
 with_reducible repeat' first | exact ih0 _ _ _ _ | exact ih1 _ _ _ _ _ | exact ih2 _ _ _ _ _ _ | exact laws_lqInts.mono _ _ _ | exact spec_DrawStoreDirty.mono _ _ | exact spec_StoreDirty.mono _ _ _ | exact spec_StoreOk.mono _ _ _ | exact LeO.refl _ | exact LeO.none _ | refine LeO.ite ?_ ?_ | refine LeO.bind ?_ (fun _ => ?_)
def laws_FnDirty.T16 : Bool × List (List Nat × List Nat) := (true, [([], []), ([0], [0]), ([], []), ([2], [2]), ([1, 3], [1, 3]), ([4], [4]), ([], []), ([], []), ([6, 7], [6, 7]), ([5, 8], [5, 8])])
def laws_FnDirty.B16 : List Nat := [0, 1, 0, 4, 15, 31, 0, 0, 192, 511]
theorem laws_FnDirty.tab16 : rtab .any (opsOf Try.f3 16) = laws_FnDirty.T16 := by kernel_rfl
theorem laws_FnDirty.bits16 : waitsOk laws_FnDirty.T16.2 laws_FnDirty.B16 = true := by kernel_rfl
set_option maxHeartbeats 8000000 in
set_option maxRecDepth 100000 in
theorem laws_FnDirty.calls (k : Nat) (A0 : Option Addr) (c0 : Nat) (l0 : List Int) (r : Bool) (w : World) (hr0 : Kd.C (Kd.int .u8) w A0 l0.length l0) (hc0 : l0.length ≤ c0) (h : laws_FnDirty.f k l0 = some r) :
 Calls Try.prog 3 #[.slice A0 l0.length c0] w fun e w' => e = .returned (.bool r) ∧ Below w.heap.size w w' := by
 have hu26 := Try.underlying26
 have hu32 := Try.underlying32
 have HR0 := am hr0
 have HC0 := am hc0
 clear hr0 hc0
 have HB := am (Below.refl w.heap.size w)
 have H : (if (l0.length : Int) > 1048576 then (some true) else ((spec_DrawStoreDirty.f k l0).bind fun bt422 => ((impl_StoreDirty.f bt422.1 bt422.2).bind fun t429 => ((spec_StoreDirty.f k bt422.1 bt422.2).bind fun t432 => ((laws_lqInts.f k t429 t432).bind fun t435 => (if t435 = true then ((spec_StoreOk.f k bt422.1 bt422.2).bind fun t436 => (laws_FnDirty.j0 k t429 (!t436) bt422.1 bt422.2)) else (laws_FnDirty.j0 k t429 true bt422.1 bt422.2))))))) = some r := h
 clear h
 by_cases c2 : (l0.length : Int) > 1048576
 · rw [if_pos c2] at H
   have c2b0 := decide_eq_true c2
   have c2b1 : decide (1048576 < l0.length) = true := decide_eq_true (by omega)
   clear c2
   obtain rfl := Option.some.inj H
   go_enter Try.func3, Try.ntmps3
   go_wp2
   go_ret
   exact (rq (ph HB.out))
 rw [if_neg c2] at H
 have c2b0 := decide_eq_false c2
 have c2b1 : decide (1048576 < l0.length) = false := decide_eq_false (by omega)
 clear c2
 replace H := Option.bind_eq_some_iff.mp H
 obtain ⟨⟨t422, t425⟩, A30, H⟩ := H
 have A3 := am A30
 clear A30
 replace H := Option.bind_eq_some_iff.mp H
 obtain ⟨t429, A40, H⟩ := H
 have A4 := am A40
 clear A40
 have HC5 := am H
 clear H
 go_enter Try.func3, Try.ntmps3
 go_upto_region 5 with (first | (refine gl 13 Try.func4 #[.slice A0 l0.length c0] rfl ?_; (with_reducible refine (spec_DrawStoreDirty.calls k _ _ l0 t422 t425 _ ?side1 ?side2 A3.out).mono ?_); (case side1 => repeat (first | exact HR0.out | (with_reducible refine Kd.C_alloc ?_ _) | (with_reducible refine Kd.C_drewN ?_ _) | (with_reducible refine Kd.C_drew ?_))); (case side2 => exact HC0.out); rintro e w6 ⟨v423, v426, rfl, ho0, ho1, hb⟩; refine ⟨_, rfl, ?_⟩; have HO424 := am (Kd.V_lower (Kd.V_mono (ok' := fun k_ => some k_ ≠ (v426 : Value).ownBlock) ho0 (fun k_ hk_ => hk_.2)) (below_size (ph HB.out))); have HO427 := am (Kd.Q_lower (Kd.Q_mono (ok' := fun k_ => True) ho1 (fun _ hk_ => trivial)) (below_size (ph HB.out))); replace HB := am (below_step (ph HB.out) hb); (try clear hb); (try clear hb2); (try clear hk); (try clear hi); (try clear ho0); (try clear ho1)) | (refine bx 3 #[.slice none 0 0, .slice none 0 0] 26 rfl ?_; intro gb428 hg w7 hbox hb; replace HO424 := am (Kd.V_below (Kd.V_elderB (by (with_reducible repeat (first | apply Kd.V_alloc | apply Kd.V_drewN | apply Kd.V_drew)); exact HO424.out) gb428 (Nat.le_of_eq hg.symm)) hb); replace HO427 := am (Kd.Q_below (by (with_reducible repeat (first | apply Kd.Q_alloc | apply Kd.Q_drewN | apply Kd.Q_drew)); exact HO427.out) hb); have BK428 := am (hbox); have GW428 := am (ge hg (ph HB.out)); have GE428 := GW428; replace HB := am (below_step (ph HB.out) hb); clear hb hbox hg; obtain ⟨Ao8, co8, eo8⟩ := Kd.V_slice HO424.out; subst eo8; obtain ⟨hcz9_0, hcz9_1⟩ := b2 BK428.out; obtain ⟨hfz9_0, hfz9_1⟩ := f2 BK428.out; obtain ⟨Ao10, co10, eo10, _⟩ := Kd.Q_slice HO427.out; subst eo10) | (refine gl 15 Try.func5 #[.agg #[.slice Ao8 t422.length co8, .slice Ao10 t425.length co10]] rfl ?_; (with_reducible refine (impl_StoreDirty.calls _ _ t422 _ _ t425 t429 _ ?side1 ?side2 ?side3 ?side4 A4.out).mono ?_); (case side1 => refine (Kd.V_reads' (e := 62) (base := w.heap.size) (ok := fun k_ => (some k_ ≠ (.slice Ao10 t425.length co10 : Value).ownBlock ∧ k_ ≠ gb428)) (n := t422.length) (c := co8) ?_).2.2; exact (by (with_reducible repeat (first | apply Kd.V_alloc | apply Kd.V_drewN | apply Kd.V_drew)); exact (Kd.V_mono (Kd.V_far (p := ⟨gb428, 1, none⟩) (Kd.V_far (p := ⟨gb428, 0, none⟩) (Kd.V_mono HO424.out (fun k_ hk => (⟨hk, hk.2⟩ : _ ∧ k_ ≠ gb428))) (fun _ hk => hk.2) (.slice Ao8 t422.length co8)) (fun _ hk => hk.2) (.slice Ao10 t425.length co10)) (fun _ h_ => h_.1)))); (case side2 => exact (Kd.V_reads' HO424.out).2.1); (case side3 => refine (Kd.Q_reads' (e := 3) (base := w.heap.size) (ok := fun k_ => True) (n := t425.length) (c := co10) ?_).2.2; exact (by (with_reducible repeat (first | apply Kd.Q_alloc | apply Kd.Q_drewN | apply Kd.Q_drew)); exact (Kd.Q_mono (Kd.Q_far (p := ⟨gb428, 1, none⟩) (Kd.Q_far (p := ⟨gb428, 0, none⟩) (Kd.Q_types HO427.out BK428.out (by decide)) (fun _ hk => hk.2) (.slice Ao8 t422.length co8)) (fun _ hk => hk.2) (.slice Ao10 t425.length co10)) (fun _ h_ => h_.1)))); (case side4 => exact (Kd.Q_reads' HO427.out).2.1); rintro e w11 ⟨v430, rfl, ho0, hb⟩; refine ⟨_, rfl, ?_⟩; replace HO424 := am (Kd.V_elder' (by (with_reducible repeat (first | apply Kd.V_alloc | apply Kd.V_drewN | apply Kd.V_drew)); exact (Kd.V_mono (Kd.V_far (p := ⟨gb428, 1, none⟩) (Kd.V_far (p := ⟨gb428, 0, none⟩) (Kd.V_mono HO424.out (fun k_ hk => (⟨hk, hk.2⟩ : _ ∧ k_ ≠ gb428))) (fun _ hk => hk.2) (.slice Ao8 t422.length co8)) (fun _ hk => hk.2) (.slice Ao10 t425.length co10)) (fun _ h_ => h_.1))) (Kd.R_base ho0) hb); have HO431 := am (Kd.R_lower (Kd.R_new' ho0 (Kd.Q_lt (by (with_reducible repeat (first | apply Kd.Q_alloc | apply Kd.Q_drewN | apply Kd.Q_drew)); exact (Kd.Q_mono (Kd.Q_far (p := ⟨gb428, 1, none⟩) (Kd.Q_far (p := ⟨gb428, 0, none⟩) (Kd.Q_types HO427.out BK428.out (by decide)) (fun _ hk => hk.2) (.slice Ao8 t422.length co8)) (fun _ hk => hk.2) (.slice Ao10 t425.length co10)) (fun _ h_ => h_.1))))) (below_size (bg1 HB.out GE428.out))); replace HO427 := am (Kd.Q_elder' (by (with_reducible repeat (first | apply Kd.Q_alloc | apply Kd.Q_drewN | apply Kd.Q_drew)); exact (Kd.Q_mono (Kd.Q_far (p := ⟨gb428, 1, none⟩) (Kd.Q_far (p := ⟨gb428, 0, none⟩) (Kd.Q_types HO427.out BK428.out (by decide)) (fun _ hk => hk.2) (.slice Ao8 t422.length co8)) (fun _ hk => hk.2) (.slice Ao10 t425.length co10)) (fun _ h_ => h_.1))) (Kd.R_base ho0) hb); replace BK428 := am (blk_below (bp2 (pb BK428.out)) hb); replace HB := am (below_step (bg1 HB.out GE428.out) hb); (try clear hb); (try clear hb2); (try clear hk); (try clear hi); (try clear ho0)))
 (try simp only [Act.put, List.setIfInBounds_toArray, List.set_cons_zero, List.set_cons_succ])
 go_cut [25] (fun v25 wc => ∃ (kq : Nat) (x25_4 : Bool), v25 = .bool x25_4 ∧ Aside0 (laws_FnDirty.j0 kq t429 x25_4 t422 t425 = some r) ∧ Aside0 (kq ≤ k) ∧ Aside0 (Kd.R (Kd.int .i64) 3 wc w.heap.size (fun k_ => some k_ ≠ ((.slice Ao10 t425.length co10) : Value).ownBlock) v430 t429) ∧ Aside0 (Kd.V k62 62 wc w.heap.size (fun k_ => some k_ ≠ (v430 : Value).ownBlock ∧ some k_ ≠ ((.slice Ao10 t425.length co10) : Value).ownBlock ∧ k_ ≠ gb428) (.slice Ao8 t422.length co8) t422) ∧ Aside0 (Kd.Q (Kd.int .i64) 3 wc w.heap.size (fun k_ => some k_ ≠ (v430 : Value).ownBlock) (.slice Ao10 t425.length co10) t425) ∧ Aside0 (wc.heap[gb428]? = some (.cells #[(.slice Ao8 t422.length co8), (.slice Ao10 t425.length co10)] 26 (0, 0))) ∧ Aside0 (Below w.heap.size w wc))
 case first =>
  have H := HC5.out
  clear HC5
  replace H := Option.bind_eq_some_iff.mp H
  obtain ⟨t432, A120, H⟩ := H
  have A12 := am A120
  clear A120
  replace H := Option.bind_eq_some_iff.mp H
  obtain ⟨t435, A130, H⟩ := H
  have A13 := am A130
  clear A130
  by_cases c14 : t435 = true
  rotate_left
  · replace c14 := Bool.eq_false_iff.mpr c14
    subst c14
    rw [if_neg (show ¬ (false = true) by decide)] at H
    have H' := am H
    clear H
    obtain ⟨hcz22_0, hcz22_1⟩ := b2 BK428.out
    obtain ⟨hfz22_0, hfz22_1⟩ := f2 BK428.out
    go_wp2_with (first | (refine gl 18 Try.func7 #[.agg #[.slice Ao8 t422.length co8, .slice Ao10 t425.length co10]] rfl ?_; (with_reducible refine (spec_StoreDirty.calls k _ _ t422 _ _ t425 t432 _ ?side1 ?side2 ?side3 ?side4 A12.out).mono ?_); (case side1 => repeat (first | exact (Kd.V_reads' HO424.out).2.2 | (with_reducible refine Kd.C_alloc ?_ _) | (with_reducible refine Kd.C_drewN ?_ _) | (with_reducible refine Kd.C_drew ?_))); (case side2 => exact (Kd.V_reads' HO424.out).2.1); (case side3 => repeat (first | exact (Kd.Q_reads' HO427.out).2.2 | (with_reducible refine Kd.C_alloc ?_ _) | (with_reducible refine Kd.C_drewN ?_ _) | (with_reducible refine Kd.C_drew ?_))); (case side4 => exact (Kd.Q_reads' HO427.out).2.1); rintro e w23 ⟨v433, rfl, ho0, hb⟩; refine ⟨_, rfl, ?_⟩; replace HO424 := am (Kd.V_elder' (by (with_reducible repeat (first | apply Kd.V_alloc | apply Kd.V_drewN | apply Kd.V_drew)); exact HO424.out) (Kd.R_base ho0) hb); have HO434 := am (Kd.R_lower (Kd.R_new' (Kd.R_new' ho0 (Kd.Q_lt (by (with_reducible repeat (first | apply Kd.Q_alloc | apply Kd.Q_drewN | apply Kd.Q_drew)); exact HO427.out))) (Kd.R_lt (pr HO431.out))) (below_size (bg1 HB.out GE428.out))); replace HO427 := am (Kd.Q_elder' (by (with_reducible repeat (first | apply Kd.Q_alloc | apply Kd.Q_drewN | apply Kd.Q_drew)); exact HO427.out) (Kd.R_base ho0) hb); replace HO431 := am (Kd.R_elder' (pr HO431.out) (Kd.R_base ho0) hb); replace BK428 := am (blk_below (pb BK428.out) hb); replace HB := am (below_step (bg1 HB.out GE428.out) hb); (try clear hb); (try clear hb2); (try clear hk); (try clear hi); (try clear ho0); obtain ⟨Ao24, co24, eo24⟩ := Kd.R_slice HO431.out; subst eo24; obtain ⟨Ao25, co25, eo25⟩ := Kd.R_slice HO434.out; subst eo25) | (refine gl 19 Try.func6 #[.slice Ao24 t429.length co24, .slice Ao25 t432.length co25] rfl ?_; (with_reducible refine (laws_lqInts.calls k _ _ t429 _ _ t432 false _ ?side1 ?side2 ?side3 ?side4 A13.out).mono ?_); (case side1 => repeat (first | exact (Kd.R_reads' HO431.out).2.2 | (with_reducible refine Kd.C_alloc ?_ _) | (with_reducible refine Kd.C_drewN ?_ _) | (with_reducible refine Kd.C_drew ?_))); (case side2 => exact (Kd.R_reads' HO431.out).2.1); (case side3 => repeat (first | exact (Kd.R_reads' HO434.out).2.2 | (with_reducible refine Kd.C_alloc ?_ _) | (with_reducible refine Kd.C_drewN ?_ _) | (with_reducible refine Kd.C_drew ?_))); (case side4 => exact (Kd.R_reads' HO434.out).2.1); rintro e w' ⟨rfl, ⟨nd, rfl⟩⟩; refine ⟨_, rfl, ?_⟩))
    go_meet
    case rel => exact ⟨_, (true), rf, H', ⟨by first | omega | exact Nat.le_refl _⟩, ⟨by (with_reducible repeat (first | apply Kd.R_alloc | apply Kd.R_drewN | apply Kd.R_drew)); exact Kd.R_mono HO431.out (fun _ hk => hk.1.2)⟩, ⟨by (with_reducible repeat (first | apply Kd.V_alloc | apply Kd.V_drewN | apply Kd.V_drew)); exact Kd.V_mono HO424.out (fun _ hk => ⟨hk.1.2, ⟨hk.1.1.1, hk.1.1.2⟩⟩)⟩, ⟨by (with_reducible repeat (first | apply Kd.Q_alloc | apply Kd.Q_drewN | apply Kd.Q_drew)); exact Kd.Q_mono HO427.out (fun _ hk => hk.1.2)⟩, ⟨pb BK428.out⟩, ⟨bg1 HB.out GE428.out⟩⟩
  subst c14
  rw [if_pos rfl] at H
  replace H := Option.bind_eq_some_iff.mp H
  obtain ⟨t436, A150, H⟩ := H
  have A15 := am A150
  clear A150
  have H' := am H
  clear H
  obtain ⟨hcz16_0, hcz16_1⟩ := b2 BK428.out
  obtain ⟨hfz16_0, hfz16_1⟩ := f2 BK428.out
  go_wp2_with (first | (refine gl 18 Try.func7 #[.agg #[.slice Ao8 t422.length co8, .slice Ao10 t425.length co10]] rfl ?_; (with_reducible refine (spec_StoreDirty.calls k _ _ t422 _ _ t425 t432 _ ?side1 ?side2 ?side3 ?side4 A12.out).mono ?_); (case side1 => repeat (first | exact (Kd.V_reads' HO424.out).2.2 | (with_reducible refine Kd.C_alloc ?_ _) | (with_reducible refine Kd.C_drewN ?_ _) | (with_reducible refine Kd.C_drew ?_))); (case side2 => exact (Kd.V_reads' HO424.out).2.1); (case side3 => repeat (first | exact (Kd.Q_reads' HO427.out).2.2 | (with_reducible refine Kd.C_alloc ?_ _) | (with_reducible refine Kd.C_drewN ?_ _) | (with_reducible refine Kd.C_drew ?_))); (case side4 => exact (Kd.Q_reads' HO427.out).2.1); rintro e w17 ⟨v433, rfl, ho0, hb⟩; refine ⟨_, rfl, ?_⟩; replace HO424 := am (Kd.V_elder' (by (with_reducible repeat (first | apply Kd.V_alloc | apply Kd.V_drewN | apply Kd.V_drew)); exact HO424.out) (Kd.R_base ho0) hb); have HO434 := am (Kd.R_lower (Kd.R_new' (Kd.R_new' ho0 (Kd.Q_lt (by (with_reducible repeat (first | apply Kd.Q_alloc | apply Kd.Q_drewN | apply Kd.Q_drew)); exact HO427.out))) (Kd.R_lt (pr HO431.out))) (below_size (bg1 HB.out GE428.out))); replace HO427 := am (Kd.Q_elder' (by (with_reducible repeat (first | apply Kd.Q_alloc | apply Kd.Q_drewN | apply Kd.Q_drew)); exact HO427.out) (Kd.R_base ho0) hb); replace HO431 := am (Kd.R_elder' (pr HO431.out) (Kd.R_base ho0) hb); replace BK428 := am (blk_below (pb BK428.out) hb); replace HB := am (below_step (bg1 HB.out GE428.out) hb); (try clear hb); (try clear hb2); (try clear hk); (try clear hi); (try clear ho0); obtain ⟨Ao18, co18, eo18⟩ := Kd.R_slice HO431.out; subst eo18; obtain ⟨Ao19, co19, eo19⟩ := Kd.R_slice HO434.out; subst eo19) | (refine gl 19 Try.func6 #[.slice Ao18 t429.length co18, .slice Ao19 t432.length co19] rfl ?_; (with_reducible refine (laws_lqInts.calls k _ _ t429 _ _ t432 true _ ?side1 ?side2 ?side3 ?side4 A13.out).mono ?_); (case side1 => repeat (first | exact (Kd.R_reads' HO431.out).2.2 | (with_reducible refine Kd.C_alloc ?_ _) | (with_reducible refine Kd.C_drewN ?_ _) | (with_reducible refine Kd.C_drew ?_))); (case side2 => exact (Kd.R_reads' HO431.out).2.1); (case side3 => repeat (first | exact (Kd.R_reads' HO434.out).2.2 | (with_reducible refine Kd.C_alloc ?_ _) | (with_reducible refine Kd.C_drewN ?_ _) | (with_reducible refine Kd.C_drew ?_))); (case side4 => exact (Kd.R_reads' HO434.out).2.1); rintro e w' ⟨rfl, ⟨nd, rfl⟩⟩; refine ⟨_, rfl, ?_⟩; obtain ⟨hcz20_0, hcz20_1⟩ := b2 BK428.out; obtain ⟨hfz20_0, hfz20_1⟩ := f2 BK428.out) | (go_at_call 8; (with_reducible refine (spec_StoreOk.calls k _ _ t422 _ _ t425 t436 _ ?side1 ?side2 ?side3 ?side4 A15.out).mono ?_); (case side1 => repeat (first | exact (Kd.V_reads' HO424.out).2.2 | (with_reducible refine Kd.C_alloc ?_ _) | (with_reducible refine Kd.C_drewN ?_ _) | (with_reducible refine Kd.C_drew ?_))); (case side2 => exact (Kd.V_reads' HO424.out).2.1); (case side3 => repeat (first | exact (Kd.Q_reads' HO427.out).2.2 | (with_reducible refine Kd.C_alloc ?_ _) | (with_reducible refine Kd.C_drewN ?_ _) | (with_reducible refine Kd.C_drew ?_))); (case side4 => exact (Kd.Q_reads' HO427.out).2.1); rintro e w21 ⟨rfl, hb⟩; replace HO424 := am (Kd.V_below (by (with_reducible repeat (first | apply Kd.V_alloc | apply Kd.V_drewN | apply Kd.V_drew)); exact HO424.out) hb); replace HO427 := am (Kd.Q_below (by (with_reducible repeat (first | apply Kd.Q_alloc | apply Kd.Q_drewN | apply Kd.Q_drew)); exact HO427.out) hb); replace HO431 := am (Kd.R_below (pr HO431.out) hb); replace HO434 := am (Kd.R_below (pr HO434.out) hb); replace BK428 := am (blk_below (pb BK428.out) hb); replace HB := am (below_step (bg1 HB.out GE428.out) hb); (try clear hb); (try clear hb2); (try clear hk); (try clear hi)))
  go_meet
  case rel => exact ⟨_, (!t436), rf, H', ⟨by first | omega | exact Nat.le_refl _⟩, ⟨by (with_reducible repeat (first | apply Kd.R_alloc | apply Kd.R_drewN | apply Kd.R_drew)); exact Kd.R_mono HO431.out (fun _ hk => hk.1.2)⟩, ⟨by (with_reducible repeat (first | apply Kd.V_alloc | apply Kd.V_drewN | apply Kd.V_drew)); exact Kd.V_mono HO424.out (fun _ hk => ⟨hk.1.2, ⟨hk.1.1.1, hk.1.1.2⟩⟩)⟩, ⟨by (with_reducible repeat (first | apply Kd.Q_alloc | apply Kd.Q_drewN | apply Kd.Q_drew)); exact Kd.Q_mono HO427.out (fun _ hk => hk.1.2)⟩, ⟨pb BK428.out⟩, ⟨bg1 HB.out GE428.out⟩⟩
 case rest =>
  clear HC5
  obtain ⟨kq, x25_4, rfl, HA, HJ4, HO_4, HO_429000, HO_429001, BK428, HB⟩ := hcut
  cases kq with
  | zero => exact absurd HA.out (by simp [laws_FnDirty.j0])
  | succ kj4 =>
   have H := HA.out
   clear HA
   simp only [laws_FnDirty.j0] at H
   by_cases c26 : x25_4 = true
   · subst c26
     rw [if_pos rfl] at H
     replace H := Option.bind_eq_some_iff.mp H
     obtain ⟨t437, A270, H⟩ := H
     have A27 := am A270
     clear A270
     replace H := Option.bind_eq_some_iff.mp H
     obtain ⟨t440, A280, H⟩ := H
     have A28 := am A280
     clear A280
     obtain rfl := Option.some.inj H
     obtain ⟨hcz29_0, hcz29_1⟩ := b2 BK428.out
     obtain ⟨hfz29_0, hfz29_1⟩ := f2 BK428.out
     go_wp2_with (first | (refine gl 28 Try.func7 #[.agg #[.slice Ao8 t422.length co8, .slice Ao10 t425.length co10]] rfl ?_; (with_reducible refine (spec_StoreDirty.calls kj4 _ _ t422 _ _ t425 t437 _ ?side1 ?side2 ?side3 ?side4 A27.out).mono ?_); (case side1 => repeat (first | exact (Kd.V_reads' HO_429000.out).2.2 | (with_reducible refine Kd.C_alloc ?_ _) | (with_reducible refine Kd.C_drewN ?_ _) | (with_reducible refine Kd.C_drew ?_))); (case side2 => exact (Kd.V_reads' HO_429000.out).2.1); (case side3 => repeat (first | exact (Kd.Q_reads' HO_429001.out).2.2 | (with_reducible refine Kd.C_alloc ?_ _) | (with_reducible refine Kd.C_drewN ?_ _) | (with_reducible refine Kd.C_drew ?_))); (case side4 => exact (Kd.Q_reads' HO_429001.out).2.1); rintro e w30 ⟨v438, rfl, ho0, hb⟩; refine ⟨_, rfl, ?_⟩; replace HO_429000 := am (Kd.V_elder' (by (with_reducible repeat (first | apply Kd.V_alloc | apply Kd.V_drewN | apply Kd.V_drew)); exact HO_429000.out) (Kd.R_base ho0) hb); have HO439 := am (Kd.R_lower (Kd.R_new' (Kd.R_new' ho0 (Kd.R_lt (pr HO_4.out))) (Kd.Q_lt (by (with_reducible repeat (first | apply Kd.Q_alloc | apply Kd.Q_drewN | apply Kd.Q_drew)); exact HO_429001.out))) (below_size (bg1 HB.out GE428.out))); replace HO_4 := am (Kd.R_elder' (pr HO_4.out) (Kd.R_base ho0) hb); replace HO_429001 := am (Kd.Q_elder' (by (with_reducible repeat (first | apply Kd.Q_alloc | apply Kd.Q_drewN | apply Kd.Q_drew)); exact HO_429001.out) (Kd.R_base ho0) hb); replace BK428 := am (blk_below (pb BK428.out) hb); replace HB := am (below_step (bg1 HB.out GE428.out) hb); (try clear hb); (try clear hb2); (try clear hk); (try clear hi); (try clear ho0); obtain ⟨Ao31, co31, eo31⟩ := Kd.R_slice HO_4.out; subst eo31; obtain ⟨Ao32, co32, eo32⟩ := Kd.R_slice HO439.out; subst eo32) | (refine gl 29 Try.func6 #[.slice Ao31 t429.length co31, .slice Ao32 t437.length co32] rfl ?_; (with_reducible refine (laws_lqInts.calls kj4 _ _ t429 _ _ t437 t440 _ ?side1 ?side2 ?side3 ?side4 A28.out).mono ?_); (case side1 => repeat (first | exact (Kd.R_reads' HO_4.out).2.2 | (with_reducible refine Kd.C_alloc ?_ _) | (with_reducible refine Kd.C_drewN ?_ _) | (with_reducible refine Kd.C_drew ?_))); (case side2 => exact (Kd.R_reads' HO_4.out).2.1); (case side3 => repeat (first | exact (Kd.R_reads' HO439.out).2.2 | (with_reducible refine Kd.C_alloc ?_ _) | (with_reducible refine Kd.C_drewN ?_ _) | (with_reducible refine Kd.C_drew ?_))); (case side4 => exact (Kd.R_reads' HO439.out).2.1); rintro e w' ⟨rfl, ⟨nd, rfl⟩⟩; refine ⟨_, rfl, ?_⟩))
     go_ret
     exact (rq (bg1 HB.out GE428.out))
   replace c26 := Bool.eq_false_iff.mpr c26
   subst c26
   rw [if_neg (show ¬ (false = true) by decide)] at H
   have H' := am H
   clear H
   go_wp2
   go_loopg [5, 6] kj4 (fun kq v5 v6 w' => ∃ (x5_2 : Int) (x6_2 : Int), v5 = .int .i64 x5_2 ∧ v6 = .int .i64 x6_2 ∧ Aside0 (laws_FnDirty.l0 kq t429 x5_2 x6_2 t422 t425 = some r) ∧ Aside0 (kq ≤ kj4) ∧ Aside0 (Kd.R (Kd.int .i64) 3 w' w.heap.size (fun k_ => some k_ ≠ ((.slice Ao10 t425.length co10) : Value).ownBlock) v430 t429) ∧ Aside0 (Kd.V k62 62 w' w.heap.size (fun k_ => some k_ ≠ (v430 : Value).ownBlock ∧ some k_ ≠ ((.slice Ao10 t425.length co10) : Value).ownBlock ∧ k_ ≠ gb428) (.slice Ao8 t422.length co8) t422) ∧ Aside0 (Kd.Q (Kd.int .i64) 3 w' w.heap.size (fun k_ => some k_ ≠ (v430 : Value).ownBlock) (.slice Ao10 t425.length co10) t425) ∧ Aside0 (w'.heap[gb428]? = some (.cells #[(.slice Ao8 t422.length co8), (.slice Ao10 t425.length co10)] 26 (0, 0))) ∧ Aside0 (Below w.heap.size w w'))
   case atStart => exact ⟨(0), (1), rf, rf, H', ⟨Nat.le_refl _⟩, ⟨pr HO_4.out⟩, ⟨by (with_reducible repeat (first | apply Kd.V_alloc | apply Kd.V_drewN | apply Kd.V_drew)); exact HO_429000.out⟩, ⟨by (with_reducible repeat (first | apply Kd.Q_alloc | apply Kd.Q_drewN | apply Kd.Q_drew)); exact HO_429001.out⟩, ⟨pb BK428.out⟩, ⟨bg1 HB.out GE428.out⟩⟩
   case round =>
    clear H'
    obtain ⟨x5_2, x6_2, rfl, rfl, HA, HK2, HO_4, HO_429000, HO_429001, BK428, HB⟩ := hrel
    cases gk with
    | zero => exact absurd HA.out (by simp [laws_FnDirty.l0])
    | succ k2 =>
     have H := HA.out
     clear HA
     simp only [laws_FnDirty.l0] at H
     by_cases c33 : x6_2 ≤ 6
     rotate_left
     · rw [if_neg c33] at H
       have c33b0 := decide_eq_false c33
       clear c33
       obtain rfl := Option.some.inj H
       obtain ⟨Ao61, co61, eo61⟩ := Kd.R_slice HO_4.out
       subst eo61
       go_wp2
       go_ret
       exact (rq (bg1 HB.out GE428.out))
     rw [if_pos c33] at H
     have c33b0 := decide_eq_true c33
     clear c33
     replace H := Option.bind_eq_some_iff.mp H
     obtain ⟨⟨t441, t442, t443, t444, t445⟩, A340, H⟩ := H
     have A34 := am A340
     clear A340
     have HC35 := am H
     clear H
     obtain ⟨hcz36_0, hcz36_1⟩ := b2 BK428.out
     obtain ⟨hfz36_0, hfz36_1⟩ := f2 BK428.out
     go_upto_region 12 with (first | (refine gl 38 Try.func9 #[.slice Ao8 t422.length co8, .int .i64 x6_2] rfl ?_; (with_reducible refine (impl_FindLast.calls _ _ t422 x6_2 t441 t442 t443 t444 t445 _ ?side1 ?side2 A34.out).mono ?_); (case side1 => repeat (first | exact (Kd.V_reads' HO_429000.out).2.2 | (with_reducible refine Kd.C_alloc ?_ _) | (with_reducible refine Kd.C_drewN ?_ _) | (with_reducible refine Kd.C_drew ?_))); (case side2 => exact (Kd.V_reads' HO_429000.out).2.1); rintro e w37 ⟨rfl, hb⟩; refine ⟨_, rfl, ?_⟩; replace HO_4 := am (Kd.R_below (pr HO_4.out) hb); replace HO_429000 := am (Kd.V_below (by (with_reducible repeat (first | apply Kd.V_alloc | apply Kd.V_drewN | apply Kd.V_drew)); exact HO_429000.out) hb); replace HO_429001 := am (Kd.Q_below (by (with_reducible repeat (first | apply Kd.Q_alloc | apply Kd.Q_drewN | apply Kd.Q_drew)); exact HO_429001.out) hb); replace BK428 := am (blk_below (pb BK428.out) hb); replace HB := am (below_step (bg1 HB.out GE428.out) hb); (try clear hb); (try clear hb2); (try clear hk); (try clear hi)) | (refine bx 7 #[.int .i64 0, .int .i64 0, .int .i64 0, .int .i64 0] 32 rfl ?_; intro gb446 hg w38 hbox hb; replace HO_4 := am (Kd.R_below (pr HO_4.out) hb); replace HO_429000 := am (Kd.V_below (Kd.V_elderB (by (with_reducible repeat (first | apply Kd.V_alloc | apply Kd.V_drewN | apply Kd.V_drew)); exact HO_429000.out) gb446 (Nat.le_of_eq hg.symm)) hb); replace HO_429001 := am (Kd.Q_below (by (with_reducible repeat (first | apply Kd.Q_alloc | apply Kd.Q_drewN | apply Kd.Q_drew)); exact HO_429001.out) hb); have BK446 := am (hbox); have GW446 := am (ge hg (bg1 HB.out GE428.out)); have GE446 := GW446; replace HB := am (below_step (bg1 HB.out GE428.out) hb); have NB428_446 := am (nb hg (pb BK428.out)); have NB446_428 := am (Ne.symm NB428_446.out); replace BK428 := am (blk_below (pb BK428.out) hb); clear hb hbox hg; have hnb39 := NB446_428.out; have hnc39 := NB428_446.out; obtain ⟨hcz40_0, hcz40_1, hcz40_2, hcz40_3⟩ := b4 BK446.out; obtain ⟨hfz40_0, hfz40_1, hfz40_2, hfz40_3⟩ := f4 BK446.out))
     (try simp only [Act.put, List.setIfInBounds_toArray, List.set_cons_zero, List.set_cons_succ])
     go_cut [46] (fun v46 wc => ∃ (kq : Nat) (x46_34 : Bool), v46 = .bool x46_34 ∧ Aside0 (laws_FnDirty.j2 kq t429 x5_2 x6_2 x46_34 t422 t425 = some r) ∧ Aside0 (kq ≤ k2) ∧ Aside0 (Kd.R (Kd.int .i64) 3 wc w.heap.size (fun k_ => some k_ ≠ ((.slice Ao10 t425.length co10) : Value).ownBlock) v430 t429) ∧ Aside0 (Kd.V k62 62 wc w.heap.size (fun k_ => some k_ ≠ (v430 : Value).ownBlock ∧ some k_ ≠ ((.slice Ao10 t425.length co10) : Value).ownBlock ∧ k_ ≠ gb428 ∧ k_ ≠ gb446) (.slice Ao8 t422.length co8) t422) ∧ Aside0 (Kd.Q (Kd.int .i64) 3 wc w.heap.size (fun k_ => some k_ ≠ (v430 : Value).ownBlock) (.slice Ao10 t425.length co10) t425) ∧ Aside0 (wc.heap[gb428]? = some (.cells #[(.slice Ao8 t422.length co8), (.slice Ao10 t425.length co10)] 26 (0, 0))) ∧ Aside0 (wc.heap[gb446]? = some (.cells #[.int .i64 t441, .int .i64 t442, .int .i64 t443, .int .i64 t444] 32 (0, 0))) ∧ Aside0 (Below w.heap.size w wc))
     case first =>
      have H := HC35.out
      clear HC35
      by_cases c41 : t445 = true
      rotate_left
      · replace c41 := Bool.eq_false_iff.mpr c41
        subst c41
        rw [if_neg (show ¬ (false = true) by decide)] at H
        have H' := am H
        clear H
        go_wp2
        go_meet
        case rel => exact ⟨_, (false), rf, H', ⟨by have := HJ4.out; have := HK2.out; first | omega | exact Nat.le_refl _⟩, ⟨by (with_reducible repeat (first | apply Kd.R_alloc | apply Kd.R_drewN | apply Kd.R_drew)); exact Kd.R_mono (Kd.R_far (p := ⟨gb446, 3, none⟩) (Kd.R_far (p := ⟨gb446, 2, none⟩) (Kd.R_far (p := ⟨gb446, 1, none⟩) (Kd.R_far (p := ⟨gb446, 0, none⟩) (Kd.R_types HO_4.out BK446.out (by decide)) (fun _ hk => hk.2) (.int .i64 t441)) (fun _ hk => hk.2) (.int .i64 t442)) (fun _ hk => hk.2) (.int .i64 t443)) (fun _ hk => hk.2) (.int .i64 t444)) (fun _ hk => hk.1)⟩, ⟨by (with_reducible repeat (first | apply Kd.V_alloc | apply Kd.V_drewN | apply Kd.V_drew)); exact Kd.V_mono (Kd.V_far (p := ⟨gb446, 3, none⟩) (Kd.V_far (p := ⟨gb446, 2, none⟩) (Kd.V_far (p := ⟨gb446, 1, none⟩) (Kd.V_far (p := ⟨gb446, 0, none⟩) (Kd.V_mono HO_429000.out (fun k_ hk => (⟨hk, hk.2⟩ : _ ∧ k_ ≠ gb446))) (fun _ hk => hk.2) (.int .i64 t441)) (fun _ hk => hk.2) (.int .i64 t442)) (fun _ hk => hk.2) (.int .i64 t443)) (fun _ hk => hk.2) (.int .i64 t444)) (fun _ hk => ⟨hk.1.1.1, ⟨hk.1.1.2.1, ⟨hk.1.1.2.2, hk.1.2⟩⟩⟩)⟩, ⟨by (with_reducible repeat (first | apply Kd.Q_alloc | apply Kd.Q_drewN | apply Kd.Q_drew)); exact Kd.Q_mono (Kd.Q_far (p := ⟨gb446, 3, none⟩) (Kd.Q_far (p := ⟨gb446, 2, none⟩) (Kd.Q_far (p := ⟨gb446, 1, none⟩) (Kd.Q_far (p := ⟨gb446, 0, none⟩) (Kd.Q_types HO_429001.out BK446.out (by decide)) (fun _ hk => hk.2) (.int .i64 t441)) (fun _ hk => hk.2) (.int .i64 t442)) (fun _ hk => hk.2) (.int .i64 t443)) (fun _ hk => hk.2) (.int .i64 t444)) (fun _ hk => hk.1)⟩, ⟨bf4 (pb BK428.out) NB428_446.out⟩, ⟨bp4 (pb BK446.out)⟩, ⟨bg2 HB.out GE428.out GE446.out⟩⟩
      subst c41
      rw [if_pos rfl] at H
      have H' := am H
      clear H
      have hnb42 := NB446_428.out
      have hnc42 := NB428_446.out
      obtain ⟨hcz43_0, hcz43_1, hcz43_2, hcz43_3⟩ := b4 BK446.out
      obtain ⟨hfz43_0, hfz43_1, hfz43_2, hfz43_3⟩ := f4 BK446.out
      go_wp2
      go_meet
      case rel => exact ⟨_, ((t441 == 1)), rf, H', ⟨by have := HJ4.out; have := HK2.out; first | omega | exact Nat.le_refl _⟩, ⟨by (with_reducible repeat (first | apply Kd.R_alloc | apply Kd.R_drewN | apply Kd.R_drew)); exact Kd.R_mono (Kd.R_far (p := ⟨gb446, 3, none⟩) (Kd.R_far (p := ⟨gb446, 2, none⟩) (Kd.R_far (p := ⟨gb446, 1, none⟩) (Kd.R_far (p := ⟨gb446, 0, none⟩) (Kd.R_types HO_4.out BK446.out (by decide)) (fun _ hk => hk.2) (.int .i64 t441)) (fun _ hk => hk.2) (.int .i64 t442)) (fun _ hk => hk.2) (.int .i64 t443)) (fun _ hk => hk.2) (.int .i64 t444)) (fun _ hk => hk.1)⟩, ⟨by (with_reducible repeat (first | apply Kd.V_alloc | apply Kd.V_drewN | apply Kd.V_drew)); exact Kd.V_mono (Kd.V_far (p := ⟨gb446, 3, none⟩) (Kd.V_far (p := ⟨gb446, 2, none⟩) (Kd.V_far (p := ⟨gb446, 1, none⟩) (Kd.V_far (p := ⟨gb446, 0, none⟩) (Kd.V_mono HO_429000.out (fun k_ hk => (⟨hk, hk.2⟩ : _ ∧ k_ ≠ gb446))) (fun _ hk => hk.2) (.int .i64 t441)) (fun _ hk => hk.2) (.int .i64 t442)) (fun _ hk => hk.2) (.int .i64 t443)) (fun _ hk => hk.2) (.int .i64 t444)) (fun _ hk => ⟨hk.1.1.1, ⟨hk.1.1.2.1, ⟨hk.1.1.2.2, hk.1.2⟩⟩⟩)⟩, ⟨by (with_reducible repeat (first | apply Kd.Q_alloc | apply Kd.Q_drewN | apply Kd.Q_drew)); exact Kd.Q_mono (Kd.Q_far (p := ⟨gb446, 3, none⟩) (Kd.Q_far (p := ⟨gb446, 2, none⟩) (Kd.Q_far (p := ⟨gb446, 1, none⟩) (Kd.Q_far (p := ⟨gb446, 0, none⟩) (Kd.Q_types HO_429001.out BK446.out (by decide)) (fun _ hk => hk.2) (.int .i64 t441)) (fun _ hk => hk.2) (.int .i64 t442)) (fun _ hk => hk.2) (.int .i64 t443)) (fun _ hk => hk.2) (.int .i64 t444)) (fun _ hk => hk.1)⟩, ⟨bf4 (pb BK428.out) NB428_446.out⟩, ⟨bp4 (pb BK446.out)⟩, ⟨bg2 HB.out GE428.out GE446.out⟩⟩
     case rest =>
      clear HC35
      obtain ⟨kq, x46_34, rfl, HA, HJ34, HO_4, HO_429000, HO_429001, BK428, BK446, HB⟩ := hcut
      cases kq with
      | zero => exact absurd HA.out (by simp [laws_FnDirty.j2])
      | succ kj34 =>
       have H := HA.out
       clear HA
       simp only [laws_FnDirty.j2] at H
       by_cases c44 : x46_34 = true
       · subst c44
         rw [if_pos rfl] at H
         by_cases c45 : x5_2 ≥ (t429.length : Int)
         · rw [if_pos c45] at H
           have c45b0 := decide_eq_true c45
           clear c45
           obtain rfl := Option.some.inj H
           obtain ⟨Ao46, co46, eo46⟩ := Kd.R_slice HO_4.out
           subst eo46
           go_wp2
           go_ret
           exact (rq (bg2 HB.out GE428.out GE446.out))
         rw [if_neg c45] at H
         have c45b0 := decide_eq_false c45
         clear c45
         by_cases c47 : 0 ≤ x5_2
         rotate_left
         · rw [if_neg c47] at H
           exact absurd H (by simp)
         rw [if_pos c47] at H
         have c47b0 := decide_eq_true c47
         clear c47
         by_cases c48 : x5_2 < (t429.length : Int)
         rotate_left
         · rw [if_neg c48] at H
           exact absurd H (by simp)
         rw [if_pos c48] at H
         have c48b0 := decide_eq_true c48
         clear c48
         by_cases c49 : (rd t429 x5_2) = x6_2
         rotate_left
         · rw [if_neg c49] at H
           have c49b0 : ((rd t429 x5_2) == x6_2) = false := beq_eq_false_iff_ne.mpr c49
           have c49b1 : ((rd t429 x5_2) != x6_2) = true := bne_iff_ne.mpr c49
           obtain rfl := Option.some.inj H
           obtain ⟨Ao51, co51, eo51⟩ := Kd.R_slice HO_4.out
           subst eo51
           have p447 : 0 ≤ (x5_2 : Int) := ofb
           have q447 : x5_2 < (t429.length : Int) := ofb
           obtain ⟨ad447, e447, hx447_0⟩ := Kd.at_int (Kd.R_reads' HO_4.out).2.2 x5_2 p447 q447
           cases e447
           replace p447 := eq_true p447
           replace q447 := eq_true q447
           go_wp2
           go_ret
           exact (rq (bg2 HB.out GE428.out GE446.out))
         rw [if_pos c49] at H
         have c49b0 : ((rd t429 x5_2) == x6_2) = true := beq_iff_eq.mpr c49
         have c49b1 : ((rd t429 x5_2) != x6_2) = false := bne_eq_false_iff_eq.mpr c49
         clear c49
         have H' := am H
         clear H
         obtain ⟨Ao50, co50, eo50⟩ := Kd.R_slice HO_4.out
         subst eo50
         have p447 : 0 ≤ (x5_2 : Int) := ofb
         have q447 : x5_2 < (t429.length : Int) := ofb
         obtain ⟨ad447, e447, hx447_0⟩ := Kd.at_int (Kd.R_reads' HO_4.out).2.2 x5_2 p447 q447
         cases e447
         replace p447 := eq_true p447
         replace q447 := eq_true q447
         go_wp2
         go_roundg kj34
         case measure => have := HJ4.out; have := HK2.out; have := HJ34.out; omega
         case rel => exact ⟨(wrap64 (x5_2 + 1)), (wrap64 (x6_2 + 1)), rf, rf, H', ⟨by have := HJ4.out; have := HK2.out; have := HJ34.out; omega⟩, ⟨pr HO_4.out⟩, ⟨by (with_reducible repeat (first | apply Kd.V_alloc | apply Kd.V_drewN | apply Kd.V_drew)); exact Kd.V_mono HO_429000.out (fun _ hk => ⟨hk.1, ⟨hk.2.1, hk.2.2.1⟩⟩)⟩, ⟨by (with_reducible repeat (first | apply Kd.Q_alloc | apply Kd.Q_drewN | apply Kd.Q_drew)); exact HO_429001.out⟩, ⟨pb BK428.out⟩, ⟨bg2 HB.out GE428.out GE446.out⟩⟩
       replace c44 := Bool.eq_false_iff.mpr c44
       subst c44
       rw [if_neg (show ¬ (false = true) by decide)] at H
       obtain ⟨ji52, hji52⟩ : ∃ j_ : Int, (wrap64 (x6_2 - 1)) = j_ := ⟨_, rfl⟩
       replace H : (if 0 ≤ (ji52) then (if (ji52) < (t425.length : Int) then ((impl_StoreRead.f t422 t425 x6_2).bind fun t449 => (if (rd t425 (ji52)) = t449 then (laws_FnDirty.l0 kj34 t429 x5_2 (wrap64 (x6_2 + 1)) t422 t425) else (some false))) else (none)) else (none)) = some r := by first | (rw [hji52] at H; exact H) | (simp only [hji52] at H ⊢; exact H)
       have hji52w : (IntKind.i64.wrap (x6_2 - 1)) = ji52 := (i64_w _).trans hji52
       by_cases c53 : 0 ≤ (ji52)
       rotate_left
       · rw [if_neg c53] at H
         exact absurd H (by simp)
       rw [if_pos c53] at H
       have c53b0 := decide_eq_true c53
       clear c53
       by_cases c54 : (ji52) < (t425.length : Int)
       rotate_left
       · rw [if_neg c54] at H
         exact absurd H (by simp)
       rw [if_pos c54] at H
       have c54b0 := decide_eq_true c54
       clear c54
       replace H := Option.bind_eq_some_iff.mp H
       obtain ⟨t449, A550, H⟩ := H
       have A55 := am A550
       clear A550
       by_cases c56 : (rd t425 (ji52)) = t449
       rotate_left
       · rw [if_neg c56] at H
         have c56b0 : ((rd t425 (ji52)) == t449) = false := beq_eq_false_iff_ne.mpr c56
         have c56b1 : ((rd t425 (ji52)) != t449) = true := bne_iff_ne.mpr c56
         obtain rfl := Option.some.inj H
         try go_wp2
         replace HO_4 := am (Kd.R_drew HO_4.out)
         replace HO_429000 := am (Kd.V_drew HO_429000.out)
         replace HO_429001 := am (Kd.Q_drew HO_429001.out)
         replace BK428 := am (blk_drew BK428.out)
         replace BK446 := am (blk_drew BK446.out)
         replace HB := am (below_drew1 HB.out)
         have p448 : 0 ≤ ((ji52) : Int) := ofb
         have q448 : (ji52) < (t425.length : Int) := ofb
         obtain ⟨ad448, e448, hx448_0⟩ := Kd.at_int (Kd.Q_reads' HO_429001.out).2.2 (ji52) p448 q448
         cases e448
         replace p448 := eq_true p448
         replace q448 := eq_true q448
         refine start_ (n := 10) (S := fun w' => w'.cell? ⟨gb428, 0, none⟩ = some (.slice Ao8 t422.length co8) ∧ w'.cell? ⟨gb428, 1, none⟩ = some (.slice (some ad448) t425.length co10) ∧ w'.cell? (ad448.add ((ji52)).toNat) = some (.int .i64 (rd t425 (ji52)))) (ds := []) (bt 10 0) (by kernel_rfl) rfl rfl ⟨(blk_cell BK428.out 0).trans rfl, (blk_cell BK428.out 1).trans rfl, hx448_0⟩ (fun hHeld => ?_); refine with_tabW laws_FnDirty.tab16 laws_FnDirty.bits16 (fun HT_ HW_ => ?_)
         generalize wc.drew = w59 at HO_4 HO_429000 HO_429001 BK428 BK446 HB hx448_0 hHeld ⊢
         refine qj 0 61 (bt 10 1) rfl rfl HT_.out ?_
         refine qj 2 63 (bt 10 5) rfl rfl HT_.out ?_
         refine qj 3 64 (bt 10 13) rfl rfl HT_.out ?_
         refine qj 7 68 (bt 10 141) rfl rfl HT_.out ?_
         refine qm 1 62 (bt 10 143) rfl rfl HT_.out HW_.out hHeld ?_
         refine qj 4 65 (bt 10 159) rfl rfl HT_.out ?_
         refine qm 5 66 (bt 10 191) rfl rfl HT_.out HW_.out hHeld ?_
         refine qm 6 67 (bt 10 255) rfl rfl HT_.out HW_.out hHeld ?_
         refine qo 8 (some 69) (bt 10 511) rfl rfl HT_.out fun K hK => ?_
         refine qg Try.func10 #[.agg #[.slice Ao8 t422.length co8, .slice (some ad448) t425.length co10], .int .i64 x6_2] rfl rfl ?_
         with_reducible refine (impl_StoreRead.calls _ _ t422 _ _ t425 x6_2 t449 _ ?side1 ?side2 ?side3 ?side4 A55.out).mono ?_
         (case side1 => repeat (first | exact (Kd.V_reads' HO_429000.out).2.2 | (with_reducible refine Kd.C_alloc ?_ _) | (with_reducible refine Kd.C_drewN ?_ _) | (with_reducible refine Kd.C_drew ?_)))
         (case side2 => exact (Kd.V_reads' HO_429000.out).2.1)
         (case side3 => repeat (first | exact (Kd.Q_reads' HO_429001.out).2.2 | (with_reducible refine Kd.C_alloc ?_ _) | (with_reducible refine Kd.C_drewN ?_ _) | (with_reducible refine Kd.C_drew ?_)))
         (case side4 => exact (Kd.Q_reads' HO_429001.out).2.1)
         rintro e w60 ⟨rfl, hb⟩
         have HS2_ := (hb.cell (World.block_lt_of_cell? _ _ (hHeld.2.2))).trans (hHeld.2.2)
         refine ⟨_, rfl, ?_⟩
         replace HO_4 := am (Kd.R_below (pr HO_4.out) hb)
         replace HO_429000 := am (Kd.V_below (by (with_reducible repeat (first | apply Kd.V_alloc | apply Kd.V_drewN | apply Kd.V_drew)); exact HO_429000.out) hb)
         replace HO_429001 := am (Kd.Q_below (by (with_reducible repeat (first | apply Kd.Q_alloc | apply Kd.Q_drewN | apply Kd.Q_drew)); exact HO_429001.out) hb)
         replace BK428 := am (blk_below (pb BK428.out) hb)
         replace BK446 := am (blk_below (pb BK446.out) hb)
         replace HB := am (below_step (bg2 HB.out GE428.out GE446.out) hb)
         (try clear hb)
         (try clear hb2)
         (try clear hk)
         (try clear hi)
         refine hK.out _ _ ⟨(blk_cell BK428.out 0).trans rfl, (blk_cell BK428.out 1).trans rfl, HS2_⟩ (fun hHeld => ?_)
         clear hK K
         refine qn (some 69) ?_
         refine qj 9 70 (bt 10 1023) rfl rfl HT_.out ?_
         refine done_ (done_of HT_.out (by kernel_rfl)) ?_
         try go_wp2
         go_ret
         exact ⟨by first | rfl | (simp [errW_none, errW_some] <;> rfl) | (simp only [← hji52]; first | rfl | (simp [errW_none, errW_some] <;> rfl)) | (simp [*, errW_none, errW_some] <;> rfl), bg2 HB.out GE428.out GE446.out⟩
       rw [if_pos c56] at H
       have c56b0 : ((rd t425 (ji52)) == t449) = true := beq_iff_eq.mpr c56
       have c56b1 : ((rd t425 (ji52)) != t449) = false := bne_eq_false_iff_eq.mpr c56
       clear c56
       have H' := am H
       clear H
       try go_wp2
       replace HO_4 := am (Kd.R_drew HO_4.out)
       replace HO_429000 := am (Kd.V_drew HO_429000.out)
       replace HO_429001 := am (Kd.Q_drew HO_429001.out)
       replace BK428 := am (blk_drew BK428.out)
       replace BK446 := am (blk_drew BK446.out)
       replace HB := am (below_drew1 HB.out)
       have p448 : 0 ≤ ((ji52) : Int) := ofb
       have q448 : (ji52) < (t425.length : Int) := ofb
       obtain ⟨ad448, e448, hx448_0⟩ := Kd.at_int (Kd.Q_reads' HO_429001.out).2.2 (ji52) p448 q448
       cases e448
       replace p448 := eq_true p448
       replace q448 := eq_true q448
       refine start_ (n := 10) (S := fun w' => w'.cell? ⟨gb428, 0, none⟩ = some (.slice Ao8 t422.length co8) ∧ w'.cell? ⟨gb428, 1, none⟩ = some (.slice (some ad448) t425.length co10) ∧ w'.cell? (ad448.add ((ji52)).toNat) = some (.int .i64 (rd t425 (ji52)))) (ds := []) (bt 10 0) (by kernel_rfl) rfl rfl ⟨(blk_cell BK428.out 0).trans rfl, (blk_cell BK428.out 1).trans rfl, hx448_0⟩ (fun hHeld => ?_); refine with_tabW laws_FnDirty.tab16 laws_FnDirty.bits16 (fun HT_ HW_ => ?_)
       generalize wc.drew = w57 at HO_4 HO_429000 HO_429001 BK428 BK446 HB hx448_0 hHeld ⊢
       refine qj 0 61 (bt 10 1) rfl rfl HT_.out ?_
       refine qj 2 63 (bt 10 5) rfl rfl HT_.out ?_
       refine qj 3 64 (bt 10 13) rfl rfl HT_.out ?_
       refine qj 7 68 (bt 10 141) rfl rfl HT_.out ?_
       refine qm 1 62 (bt 10 143) rfl rfl HT_.out HW_.out hHeld ?_
       refine qj 4 65 (bt 10 159) rfl rfl HT_.out ?_
       refine qm 5 66 (bt 10 191) rfl rfl HT_.out HW_.out hHeld ?_
       refine qm 6 67 (bt 10 255) rfl rfl HT_.out HW_.out hHeld ?_
       refine qo 8 (some 69) (bt 10 511) rfl rfl HT_.out fun K hK => ?_
       refine qg Try.func10 #[.agg #[.slice Ao8 t422.length co8, .slice (some ad448) t425.length co10], .int .i64 x6_2] rfl rfl ?_
       with_reducible refine (impl_StoreRead.calls _ _ t422 _ _ t425 x6_2 t449 _ ?side1 ?side2 ?side3 ?side4 A55.out).mono ?_
       (case side1 => repeat (first | exact (Kd.V_reads' HO_429000.out).2.2 | (with_reducible refine Kd.C_alloc ?_ _) | (with_reducible refine Kd.C_drewN ?_ _) | (with_reducible refine Kd.C_drew ?_)))
       (case side2 => exact (Kd.V_reads' HO_429000.out).2.1)
       (case side3 => repeat (first | exact (Kd.Q_reads' HO_429001.out).2.2 | (with_reducible refine Kd.C_alloc ?_ _) | (with_reducible refine Kd.C_drewN ?_ _) | (with_reducible refine Kd.C_drew ?_)))
       (case side4 => exact (Kd.Q_reads' HO_429001.out).2.1)
       rintro e w58 ⟨rfl, hb⟩
       have HS2_ := (hb.cell (World.block_lt_of_cell? _ _ (hHeld.2.2))).trans (hHeld.2.2)
       refine ⟨_, rfl, ?_⟩
       replace HO_4 := am (Kd.R_below (pr HO_4.out) hb)
       replace HO_429000 := am (Kd.V_below (by (with_reducible repeat (first | apply Kd.V_alloc | apply Kd.V_drewN | apply Kd.V_drew)); exact HO_429000.out) hb)
       replace HO_429001 := am (Kd.Q_below (by (with_reducible repeat (first | apply Kd.Q_alloc | apply Kd.Q_drewN | apply Kd.Q_drew)); exact HO_429001.out) hb)
       replace BK428 := am (blk_below (pb BK428.out) hb)
       replace BK446 := am (blk_below (pb BK446.out) hb)
       replace HB := am (below_step (bg2 HB.out GE428.out GE446.out) hb)
       (try clear hb)
       (try clear hb2)
       (try clear hk)
       (try clear hi)
       refine hK.out _ _ ⟨(blk_cell BK428.out 0).trans rfl, (blk_cell BK428.out 1).trans rfl, HS2_⟩ (fun hHeld => ?_)
       clear hK K
       refine qn (some 69) ?_
       refine qj 9 70 (bt 10 1023) rfl rfl HT_.out ?_
       refine done_ (done_of HT_.out (by kernel_rfl)) ?_
       try go_wp2
       go_roundg kj34
       case measure => have := HJ4.out; have := HK2.out; have := HJ34.out; omega
       case rel => exact ⟨(x5_2), (wrap64 (x6_2 + 1)), rf, rf, H', ⟨by have := HJ4.out; have := HK2.out; have := HJ34.out; omega⟩, ⟨pr HO_4.out⟩, ⟨by (with_reducible repeat (first | apply Kd.V_alloc | apply Kd.V_drewN | apply Kd.V_drew)); exact Kd.V_mono HO_429000.out (fun _ hk => ⟨hk.1, ⟨hk.2.1, hk.2.2.1⟩⟩)⟩, ⟨by (with_reducible repeat (first | apply Kd.Q_alloc | apply Kd.Q_drewN | apply Kd.Q_drew)); exact HO_429001.out⟩, ⟨pb BK428.out⟩, ⟨bg2 HB.out GE428.out GE446.out⟩⟩
def laws_FnDirty.Pure : Prop := ∀ (l0 : List Int), l0.length ≤ maxLen → l0.length * 1 ≤ 140737488351232 → (∀ x ∈ l0, (Lit.int .u8 x).wf = true) → ∃ k, laws_FnDirty.f k l0 = some true
theorem laws_FnDirty.walk (P : laws_FnDirty.Pure) (a0 : Option Addr) (len0 cap0 : Nat) (z0 : List Int) (w : World) (w0 : (a0 = none ∧ len0 = 0 ∧ cap0 = 0 ∧ z0 = []) ∨ ∃ x, a0 = some x ∧ len0 ≤ cap0 ∧ cap0 ≤ maxLen ∧ z0.length = cap0 ∧ (∀ i, i < z0.length → w.cell? (x.add i) = some (.int .u8 (z0.getD i 0))) ∧ ∀ n ∈ z0, (Lit.int .u8 n).wf = true) (y0 : len0 * 1 ≤ 140737488351232) :
 Calls Try.prog 3 #[.slice a0 len0 cap0] w fun e w' => e = .returned (.bool true) ∧ Below w.heap.size w w' := by
 obtain ⟨l0, rfl, hr0, hm0, hw0, hc0⟩ := ReadsInt.ofRowC w0
 obtain ⟨k, h⟩ := P l0 hm0 y0 hw0
 refine (laws_FnDirty.calls k _ _ l0 true w (Kd.C_of_reads (d := (0 : Int)) (h1 := fun _ => rfl) hr0) hc0 h).mono ?_
 rintro e w' ⟨rfl, hd⟩
 exact ⟨rfl, hd⟩
end Go.Proofs.Ytjlmndgpmhbdlaa.Rz
