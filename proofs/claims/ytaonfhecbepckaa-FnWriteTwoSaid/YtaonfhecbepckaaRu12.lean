-- printed by wip/pp/pp.py
import Derived.Test.YtaonfhecbepckaaRu0
import Derived.Test.YtaonfhecbepckaaRu9
import Derived.Test.YtaonfhecbepckaaRu11
namespace Go.Proofs.Ytaonfhecbepckaa.Ru
open Go.RowKit Go.Proofs.YtaonfhecbepckaaW.PrintWords Go.Proofs.YtaonfhecbepckaaW.PrintLast Go.Proofs.YtaonfhecbepckaaW.PrintMore
attribute [local go_sem] max2_int min2_int max_two min_two max_three min_three max_four min_four
set_option linter.unusedVariables false
set_option linter.unusedSimpArgs false
mutual
def laws_FnWriteTwo.j0 : Nat → List Int → List Int → Bool → Option (Bool)
 | 0, _, _, _ => none
 | k + 1, x0, x1, x28 => if x28 = true then (some true) else ((spec_DrawFlashWrite.f k x0).bind fun bt443 => ((spec_FlashWrite.f k bt443.1 bt443.2.1 bt443.2.2.1 bt443.2.2.2.1 bt443.2.2.2.2.1 bt443.2.2.2.2.2.1 bt443.2.2.2.2.2.2).bind fun bt453 => ((impl_FlashWrite.f k bt443.1 bt443.2.1 bt443.2.2.1 bt443.2.2.2.1 bt443.2.2.2.2.1 bt443.2.2.2.2.2.1 bt443.2.2.2.2.2.2).bind fun bt457 => (if (bt457.2 != bt453.2) = true then (laws_FnWriteTwo.j1 k x1 bt443.1 bt443.2.1 bt443.2.2.2.2.2.2 bt453.1 bt453.2 bt457.1 bt457.2 true bt443.2.2.1 bt443.2.2.2.1 bt443.2.2.2.2.1 bt443.2.2.2.2.2.1) else ((laws_lqFlash.f k bt457.1 bt453.1).bind fun t461 => (if t461 = true then (if bt457.2 = true then (laws_FnWriteTwo.j1 k x1 bt443.1 bt443.2.1 bt443.2.2.2.2.2.2 bt453.1 bt453.2 bt457.1 bt457.2 (bt443.2.2.2.1 == 600) bt443.2.2.1 bt443.2.2.2.1 bt443.2.2.2.2.1 bt443.2.2.2.2.2.1) else (laws_FnWriteTwo.j1 k x1 bt443.1 bt443.2.1 bt443.2.2.2.2.2.2 bt453.1 bt453.2 bt457.1 bt457.2 true bt443.2.2.1 bt443.2.2.2.1 bt443.2.2.2.2.1 bt443.2.2.2.2.2.1)) else (laws_FnWriteTwo.j1 k x1 bt443.1 bt443.2.1 bt443.2.2.2.2.2.2 bt453.1 bt453.2 bt457.1 bt457.2 true bt443.2.2.1 bt443.2.2.2.1 bt443.2.2.2.2.1 bt443.2.2.2.2.2.1)))))))
def laws_FnWriteTwo.j1 : Nat → List Int → List (S47) → Int → Bool → List (S47) → Bool → List (S47) → Bool → Bool → Int → Int → Int → Int → Option (Bool)
 | 0, _, _, _, _, _, _, _, _, _, _, _, _, _ => none
 | k + 1, x1, x5, x6, x8, x9, x10, x11, x12, x69, x453000, x453001, x453002, x453003 => if x69 = true then (if (x12 == x10) = true then ((laws_lqFlash.f k x11 x9).bind fun t462 => (some t462)) else (some false)) else ((impl_FlashWrite.f k x5 (Int.tmod (wrap64 ((wrap64 (x6 + 1)) + ((x1.length : Int) % 3))) 4) 2 600 2 3 false).bind fun bt464 => ((impl_FlashWrite.f k x11 (Int.tmod (wrap64 ((wrap64 (x6 + 1)) + ((x1.length : Int) % 3))) 4) 2 600 2 3 false).bind fun bt468 => (if bt464.2 = true then (laws_FnWriteTwo.j2 k x6 x8 bt464.1 bt464.2 bt468.1 bt468.2 (!bt468.2) x453000 x453001 x453002 x453003) else (laws_FnWriteTwo.j2 k x6 x8 bt464.1 bt464.2 bt468.1 bt468.2 true x453000 x453001 x453002 x453003))))
def laws_FnWriteTwo.j2 : Nat → Int → Bool → List (S47) → Bool → List (S47) → Bool → Bool → Int → Int → Int → Int → Option (Bool)
 | 0, _, _, _, _, _, _, _, _, _, _, _ => none
 | k + 1, x6, x8, x15, x16, x17, x18, x105, x453000, x453001, x453002, x453003 => if x105 = true then (some (x16 == x18)) else ((impl_FlashWrite.f k x15 x6 x453000 x453001 x453002 x453003 x8).bind fun bt472 => (if bt472.2 = true then ((laws_lqFlash.f k x17 bt472.1).bind fun t476 => (some t476)) else (some false)))
end
def laws_FnWriteTwo.f (k : Nat) (l0 : List Int) (l1 : List Int) : Option (Bool) := if (l0.length : Int) > 1048576 then (laws_FnWriteTwo.j0 k l0 l1 true) else (laws_FnWriteTwo.j0 k l0 l1 (decide ((l1.length : Int) > 1048576)))
theorem laws_FnWriteTwo.mono_l : ∀ k, (∀ y0 y1 y2, LeO (laws_FnWriteTwo.j0 k y0 y1 y2) (laws_FnWriteTwo.j0 (k + 1) y0 y1 y2)) ∧ (∀ y0 y1 y2 y3 y4 y5 y6 y7 y8 y9 y10 y11 y12, LeO (laws_FnWriteTwo.j1 k y0 y1 y2 y3 y4 y5 y6 y7 y8 y9 y10 y11 y12) (laws_FnWriteTwo.j1 (k + 1) y0 y1 y2 y3 y4 y5 y6 y7 y8 y9 y10 y11 y12)) ∧ (∀ y0 y1 y2 y3 y4 y5 y6 y7 y8 y9 y10, LeO (laws_FnWriteTwo.j2 k y0 y1 y2 y3 y4 y5 y6 y7 y8 y9 y10) (laws_FnWriteTwo.j2 (k + 1) y0 y1 y2 y3 y4 y5 y6 y7 y8 y9 y10))
 | 0 => ⟨fun _ _ _ r h => by simp [laws_FnWriteTwo.j0] at h, fun _ _ _ _ _ _ _ _ _ _ _ _ _ r h => by simp [laws_FnWriteTwo.j1] at h, fun _ _ _ _ _ _ _ _ _ _ _ r h => by simp [laws_FnWriteTwo.j2] at h⟩
 | k + 1 => by
  obtain ⟨ih0, ih1, ih2⟩ := laws_FnWriteTwo.mono_l k
  refine ⟨?_, ?_, ?_⟩
  · intro y0 y1 y2
    unfold laws_FnWriteTwo.j0
    with_reducible repeat' first | exact ih0 _ _ _ | exact ih1 _ _ _ _ _ _ _ _ _ _ _ _ _ | exact ih2 _ _ _ _ _ _ _ _ _ _ _ | exact impl_FlashWrite.mono _ _ _ _ _ _ _ _ | exact laws_lqFlash.mono _ _ _ | exact spec_DrawFlashWrite.mono _ _ | exact spec_FlashWrite.mono _ _ _ _ _ _ _ _ | exact LeO.refl _ | exact LeO.none _ | refine LeO.ite ?_ ?_ | refine LeO.bind ?_ (fun _ => ?_)
  · intro y0 y1 y2 y3 y4 y5 y6 y7 y8 y9 y10 y11 y12
    unfold laws_FnWriteTwo.j1
    with_reducible repeat' first | exact ih0 _ _ _ | exact ih1 _ _ _ _ _ _ _ _ _ _ _ _ _ | exact ih2 _ _ _ _ _ _ _ _ _ _ _ | exact impl_FlashWrite.mono _ _ _ _ _ _ _ _ | exact laws_lqFlash.mono _ _ _ | exact spec_DrawFlashWrite.mono _ _ | exact spec_FlashWrite.mono _ _ _ _ _ _ _ _ | exact LeO.refl _ | exact LeO.none _ | refine LeO.ite ?_ ?_ | refine LeO.bind ?_ (fun _ => ?_)
  · intro y0 y1 y2 y3 y4 y5 y6 y7 y8 y9 y10
    unfold laws_FnWriteTwo.j2
    with_reducible repeat' first | exact ih0 _ _ _ | exact ih1 _ _ _ _ _ _ _ _ _ _ _ _ _ | exact ih2 _ _ _ _ _ _ _ _ _ _ _ | exact impl_FlashWrite.mono _ _ _ _ _ _ _ _ | exact laws_lqFlash.mono _ _ _ | exact spec_DrawFlashWrite.mono _ _ | exact spec_FlashWrite.mono _ _ _ _ _ _ _ _ | exact LeO.refl _ | exact LeO.none _ | refine LeO.ite ?_ ?_ | refine LeO.bind ?_ (fun _ => ?_)
theorem laws_FnWriteTwo.mono : ∀ a0 a1 k, LeO (laws_FnWriteTwo.f k a0 a1) (laws_FnWriteTwo.f (k + 1) a0 a1) := by
 intro a0 a1 k
 obtain ⟨ih0, ih1, ih2⟩ := laws_FnWriteTwo.mono_l k
 unfold laws_FnWriteTwo.f
 with_reducible repeat' first | exact ih0 _ _ _ | exact ih1 _ _ _ _ _ _ _ _ _ _ _ _ _ | exact ih2 _ _ _ _ _ _ _ _ _ _ _ | exact impl_FlashWrite.mono _ _ _ _ _ _ _ _ | exact laws_lqFlash.mono _ _ _ | exact spec_DrawFlashWrite.mono _ _ | exact spec_FlashWrite.mono _ _ _ _ _ _ _ _ | exact LeO.refl _ | exact LeO.none _ | refine LeO.ite ?_ ?_ | refine LeO.bind ?_ (fun _ => ?_)
set_option maxHeartbeats 8000000 in
set_option maxRecDepth 100000 in
theorem laws_FnWriteTwo.calls (k : Nat) (A0 : Option Addr) (c0 : Nat) (l0 : List Int) (A1 : Option Addr) (c1 : Nat) (l1 : List Int) (r : Bool) (w : World) (hr0 : Kd.C (Kd.int .u8) w A0 l0.length l0) (hc0 : l0.length ≤ c0) (hr1 : Kd.C (Kd.int .u8) w A1 l1.length l1) (hc1 : l1.length ≤ c1) (h : laws_FnWriteTwo.f k l0 l1 = some r) :
 Calls Try.prog 3 #[.slice A0 l0.length c0, .slice A1 l1.length c1] w fun e w' => e = .returned (.bool r) ∧ Below w.heap.size w w' := by
 have hu25 := Try.underlying25
 have HR0 := am hr0
 have HC0 := am hc0
 clear hr0 hc0
 have HR1 := am hr1
 have HC1 := am hc1
 clear hr1 hc1
 have HB := am (Below.refl w.heap.size w)
 have H : (if (l0.length : Int) > 1048576 then (laws_FnWriteTwo.j0 k l0 l1 true) else (laws_FnWriteTwo.j0 k l0 l1 (decide ((l1.length : Int) > 1048576)))) = some r := h
 clear h
 have HC3 := am H
 clear H
 go_enter Try.func3, Try.ntmps3
 go_upto_region 1 with (fail)
 go_cut [28] (fun v28 wc => ∃ (kq : Nat) (x28_2 : Bool), v28 = .bool x28_2 ∧ Aside0 (laws_FnWriteTwo.j0 kq l0 l1 x28_2 = some r) ∧ Aside0 (kq ≤ k) ∧ Aside0 (Below w.heap.size w wc))
 case first =>
  have H := HC3.out
  clear HC3
  by_cases c4 : (l0.length : Int) > 1048576
  · rw [if_pos c4] at H
    have c4b0 := decide_eq_true c4
    have c4b1 : decide (1048576 < l0.length) = true := decide_eq_true (by omega)
    clear c4
    (first | rw [c4b0] | (simp only [i64_w, i32_w]; rw [c4b0]) | skip)
    have H' := am H
    clear H
    go_wp2
    go_meet
    case rel => exact ⟨_, (true), rf, H', ⟨by first | omega | exact Nat.le_refl _⟩, ⟨ph HB.out⟩⟩
  rw [if_neg c4] at H
  have c4b0 := decide_eq_false c4
  have c4b1 : decide (1048576 < l0.length) = false := decide_eq_false (by omega)
  clear c4
  (first | rw [c4b0] | (simp only [i64_w, i32_w]; rw [c4b0]) | skip)
  have H' := am H
  clear H
  go_wp2
  go_meet
  case rel => exact ⟨_, (decide ((l1.length : Int) > 1048576)), rf, H', ⟨by first | omega | exact Nat.le_refl _⟩, ⟨ph HB.out⟩⟩
 case rest =>
  clear HC3
  obtain ⟨kq, x28_2, rfl, HA, HJ2, HB⟩ := hcut
  cases kq with
  | zero => exact absurd HA.out (by simp [laws_FnWriteTwo.j0])
  | succ kj2 =>
   have H := HA.out
   clear HA
   simp only [laws_FnWriteTwo.j0] at H
   by_cases c5 : x28_2 = true
   · subst c5
     rw [if_pos rfl] at H
     obtain rfl := Option.some.inj H
     go_wp2
     go_ret
     exact (rq (ph HB.out))
   replace c5 := Bool.eq_false_iff.mpr c5
   subst c5
   rw [if_neg (show ¬ (false = true) by decide)] at H
   replace H := Option.bind_eq_some_iff.mp H
   obtain ⟨⟨t443, t446, t447, t448, t449, t450, t451⟩, A60, H⟩ := H
   have A6 := am A60
   clear A60
   replace H := Option.bind_eq_some_iff.mp H
   obtain ⟨⟨t453, t456⟩, A70, H⟩ := H
   have A7 := am A70
   clear A70
   replace H := Option.bind_eq_some_iff.mp H
   obtain ⟨⟨t457, t460⟩, A80, H⟩ := H
   have A8 := am A80
   clear A80
   have HC9 := am H
   clear H
   go_upto_region 6 with (first | (refine gl 31 Try.func4 #[.slice A0 l0.length c0] rfl ?_; (with_reducible refine (spec_DrawFlashWrite.calls kj2 _ _ l0 t443 t446 t447 t448 t449 t450 t451 _ ?side1 ?side2 A6.out).mono ?_); (case side1 => exact pc (Kd.C_below HR0.out HB.out)); (case side2 => exact HC0.out); rintro e w10 ⟨v444, rfl, ho0, hb⟩; refine ⟨_, rfl, ?_⟩; have HO445 := am (Kd.V_lower (Kd.V_mono (ok' := fun k_ => True) ho0 (fun k_ hk_ => trivial)) (below_size (ph HB.out))); replace HB := am (below_step (ph HB.out) hb); (try clear hb); (try clear hb2); (try clear hk); (try clear hi); (try clear ho0)) | ((with_reducible refine gate_dst (N := 7) rfl ?_); (try (refine gate_guard (by rfl) ?_; dsimp only)); refine box_event ?hg (N := 7) ?hd (cs := #[.int .i64 0, .int .i64 0, .int .i64 0, .int .i64 0]) (t := 25) ?hr ?_; (case hd => rfl); (case hg => rfl); (case hr => first | (go_simp; done) | (go_simp; rfl)); intro gb452 hg w11 hbox hb; replace HO445 := am (Kd.V_below (Kd.V_elderB (by (with_reducible repeat (first | apply Kd.V_alloc | apply Kd.V_drewN | apply Kd.V_drew)); exact HO445.out) gb452 (Nat.le_of_eq hg.symm)) hb); have BK452 := am (hbox); have GW452 := am (ge hg (ph HB.out)); have GE452 := GW452; replace HB := am (below_step (ph HB.out) hb); clear hb hbox hg; obtain ⟨hcz12_0, hcz12_1, hcz12_2, hcz12_3⟩ := b4 BK452.out; obtain ⟨hfz12_0, hfz12_1, hfz12_2, hfz12_3⟩ := f4 BK452.out; obtain ⟨Ao13, co13, eo13⟩ := Kd.V_slice HO445.out; subst eo13) | (refine gl 41 Try.func5 #[.slice Ao13 t443.length co13, .int .i64 t446, .agg #[.int .i64 t447, .int .i64 t448, .int .i64 t449, .int .i64 t450], .bool t451] rfl ?_; (with_reducible refine (spec_FlashWrite.calls kj2 _ _ t443 t446 t447 t448 t449 t450 t451 t453 t456 _ ?side1 ?side2 A7.out).mono ?_); (case side1 => refine (Kd.V_reads' (e := 47) (base := w.heap.size) (ok := fun k_ => (True ∧ k_ ≠ gb452)) (n := t443.length) (c := co13) ?_).2.2; exact (by (with_reducible repeat (first | apply Kd.V_alloc | apply Kd.V_drewN | apply Kd.V_drew)); exact (Kd.V_mono (Kd.V_far (p := ⟨gb452, 3, none⟩) (Kd.V_far (p := ⟨gb452, 2, none⟩) (Kd.V_far (p := ⟨gb452, 1, none⟩) (Kd.V_far (p := ⟨gb452, 0, none⟩) (Kd.V_mono HO445.out (fun k_ hk => (⟨hk, hk.2⟩ : _ ∧ k_ ≠ gb452))) (fun _ hk => hk.2) (.int .i64 t447)) (fun _ hk => hk.2) (.int .i64 t448)) (fun _ hk => hk.2) (.int .i64 t449)) (fun _ hk => hk.2) (.int .i64 t450)) (fun _ h_ => h_.1)))); (case side2 => exact (Kd.V_reads' HO445.out).2.1); rintro e w14 ⟨v454, rfl, ho0, hb⟩; refine ⟨_, rfl, ?_⟩; replace HO445 := am (Kd.V_elder' (by (with_reducible repeat (first | apply Kd.V_alloc | apply Kd.V_drewN | apply Kd.V_drew)); exact (Kd.V_mono (Kd.V_far (p := ⟨gb452, 3, none⟩) (Kd.V_far (p := ⟨gb452, 2, none⟩) (Kd.V_far (p := ⟨gb452, 1, none⟩) (Kd.V_far (p := ⟨gb452, 0, none⟩) (Kd.V_mono HO445.out (fun k_ hk => (⟨hk, hk.2⟩ : _ ∧ k_ ≠ gb452))) (fun _ hk => hk.2) (.int .i64 t447)) (fun _ hk => hk.2) (.int .i64 t448)) (fun _ hk => hk.2) (.int .i64 t449)) (fun _ hk => hk.2) (.int .i64 t450)) (fun _ h_ => h_.1))) (Kd.S_base ho0) hb); have HO455 := am (Kd.S_lower ho0 (below_size (bg1 HB.out GE452.out))); replace BK452 := am (blk_below (bp4 (pb BK452.out)) hb); replace HB := am (below_step (bg1 HB.out GE452.out) hb); (try clear hb); (try clear hb2); (try clear hk); (try clear hi); (try clear ho0); obtain ⟨hcz15_0, hcz15_1, hcz15_2, hcz15_3⟩ := b4 BK452.out; obtain ⟨hfz15_0, hfz15_1, hfz15_2, hfz15_3⟩ := f4 BK452.out) | (refine gl 49 Try.func6 #[.slice Ao13 t443.length co13, .int .i64 t446, .agg #[.int .i64 t447, .int .i64 t448, .int .i64 t449, .int .i64 t450], .bool t451] rfl ?_; (with_reducible refine (impl_FlashWrite.calls kj2 _ _ t443 t446 t447 t448 t449 t450 t451 t457 t460 _ ?side1 ?side2 A8.out).mono ?_); (case side1 => repeat (first | exact (Kd.V_reads' HO445.out).2.2 | (with_reducible refine Kd.C_alloc ?_ _) | (with_reducible refine Kd.C_drewN ?_ _) | (with_reducible refine Kd.C_drew ?_))); (case side2 => exact (Kd.V_reads' HO445.out).2.1); rintro e w16 ⟨v458, rfl, ho0, hb⟩; refine ⟨_, rfl, ?_⟩; replace HO445 := am (Kd.V_below (by (with_reducible repeat (first | apply Kd.V_alloc | apply Kd.V_drewN | apply Kd.V_drew)); exact HO445.out) hb); have HO459 := am (Kd.V_lower (Kd.V_mono (ok' := fun k_ => some k_ ≠ (v454 : Value).ownBlock ∧ k_ ≠ gb452) ho0 (fun k_ hk_ => ⟨(Kd.fresh' (Kd.S_lt (ps HO455.out)) k_ hk_), (Kd.freshB (g := gb452) (o := .cells #[.int .i64 t447, .int .i64 t448, .int .i64 t449, .int .i64 t450] 25 (0, 0)) (pb BK452.out) k_ hk_)⟩)) (below_size (bg1 HB.out GE452.out))); replace HO455 := am (Kd.S_below (ps HO455.out) hb); replace BK452 := am (blk_below (pb BK452.out) hb); replace HB := am (below_step (bg1 HB.out GE452.out) hb); (try clear hb); (try clear hb2); (try clear hk); (try clear hi); (try clear ho0)))
   (try simp only [Act.put, List.setIfInBounds_toArray, List.set_cons_zero, List.set_cons_succ])
   go_cut [69] (fun v69 wc => ∃ (kq : Nat) (x69_8 : Bool), v69 = .bool x69_8 ∧ Aside0 (laws_FnWriteTwo.j1 kq l1 t443 t446 t451 t453 t456 t457 t460 x69_8 t447 t448 t449 t450 = some r) ∧ Aside0 (kq ≤ kj2) ∧ Aside0 (Kd.V k47 47 wc w.heap.size (fun k_ => some k_ ≠ (v454 : Value).ownBlock ∧ k_ ≠ gb452) (.slice Ao13 t443.length co13) t443) ∧ Aside0 (Kd.S k47 47 wc w.heap.size (fun _ => True) v454 t453) ∧ Aside0 (Kd.V k47 47 wc w.heap.size (fun k_ => some k_ ≠ (v454 : Value).ownBlock ∧ k_ ≠ gb452) v458 t457) ∧ Aside0 (wc.heap[gb452]? = some (.cells #[.int .i64 t447, .int .i64 t448, .int .i64 t449, .int .i64 t450] 25 (0, 0))) ∧ Aside0 (Below w.heap.size w wc))
   case first =>
    have H := HC9.out
    clear HC9
    by_cases c17 : (t460 != t456) = true
    · rw [if_pos c17] at H
      have c17b0 : (t460 != t456) = true := c17
      (try (have c17b1 : decide (t460 = t456) = false := by simpa using c17))
      (try (have c17b2 : (t460 == t456) = false := by simpa using c17))
      (try (have c17b3 : ¬ (t460 = t456) := by simpa using c17))
      clear c17
      (first | rw [c17b0] | (simp only [i64_w, i32_w]; rw [c17b0]) | skip)
      have H' := am H
      clear H
      go_wp2
      go_meet
      case rel => exact ⟨_, (true), rf, H', ⟨by have := HJ2.out; first | omega | exact Nat.le_refl _⟩, ⟨by (with_reducible repeat (first | apply Kd.V_alloc | apply Kd.V_drewN | apply Kd.V_drew)); exact Kd.V_mono HO445.out (fun _ hk => ⟨hk.2, hk.1.2⟩)⟩, ⟨ps HO455.out⟩, ⟨by (with_reducible repeat (first | apply Kd.V_alloc | apply Kd.V_drewN | apply Kd.V_drew)); exact HO459.out⟩, ⟨pb BK452.out⟩, ⟨bg1 HB.out GE452.out⟩⟩
    rw [if_neg c17] at H
    have c17b0 : (t460 != t456) = false := by simpa using c17
    (try (have c17b1 : decide (t460 = t456) = true := by simpa using c17))
    (try (have c17b2 : (t460 == t456) = true := by simpa using c17))
    clear c17
    (first | rw [c17b0] | (simp only [i64_w, i32_w]; rw [c17b0]) | skip)
    replace H := Option.bind_eq_some_iff.mp H
    obtain ⟨t461, A180, H⟩ := H
    have A18 := am A180
    clear A180
    by_cases c19 : t461 = true
    rotate_left
    · replace c19 := Bool.eq_false_iff.mpr c19
      subst c19
      rw [if_neg (show ¬ (false = true) by decide)] at H
      have H' := am H
      clear H
      obtain ⟨Ao26, co26, eo26⟩ := Kd.V_slice HO459.out
      subst eo26
      obtain ⟨Ao27, co27, eo27⟩ := Kd.S_slice HO455.out
      subst eo27
      go_wp2_with (first | (go_at_call 7; (with_reducible refine (laws_lqFlash.calls kj2 _ _ t457 _ _ t453 false _ ?side1 ?side2 ?side3 ?side4 A18.out).mono ?_); (case side1 => repeat (first | exact (Kd.V_reads' HO459.out).2.2 | (with_reducible refine Kd.C_alloc ?_ _) | (with_reducible refine Kd.C_drewN ?_ _) | (with_reducible refine Kd.C_drew ?_))); (case side2 => exact (Kd.V_reads' HO459.out).2.1); (case side3 => repeat (first | exact (Kd.S_reads' HO455.out).2.2 | (with_reducible refine Kd.C_alloc ?_ _) | (with_reducible refine Kd.C_drewN ?_ _) | (with_reducible refine Kd.C_drew ?_))); (case side4 => exact (Kd.S_reads' HO455.out).2.1); rintro e w' ⟨rfl, ⟨nd, rfl⟩⟩))
      go_meet
      case rel => exact ⟨_, (true), rf, H', ⟨by have := HJ2.out; first | omega | exact Nat.le_refl _⟩, ⟨by (with_reducible repeat (first | apply Kd.V_alloc | apply Kd.V_drewN | apply Kd.V_drew)); exact Kd.V_mono HO445.out (fun _ hk => ⟨hk.2, hk.1.2⟩)⟩, ⟨ps HO455.out⟩, ⟨by (with_reducible repeat (first | apply Kd.V_alloc | apply Kd.V_drewN | apply Kd.V_drew)); exact HO459.out⟩, ⟨pb BK452.out⟩, ⟨bg1 HB.out GE452.out⟩⟩
    subst c19
    rw [if_pos rfl] at H
    by_cases c20 : t460 = true
    rotate_left
    · replace c20 := Bool.eq_false_iff.mpr c20
      subst c20
      rw [if_neg (show ¬ (false = true) by decide)] at H
      have H' := am H
      clear H
      obtain ⟨Ao24, co24, eo24⟩ := Kd.V_slice HO459.out
      subst eo24
      obtain ⟨Ao25, co25, eo25⟩ := Kd.S_slice HO455.out
      subst eo25
      go_wp2_with (first | (go_at_call 7; (with_reducible refine (laws_lqFlash.calls kj2 _ _ t457 _ _ t453 true _ ?side1 ?side2 ?side3 ?side4 A18.out).mono ?_); (case side1 => repeat (first | exact (Kd.V_reads' HO459.out).2.2 | (with_reducible refine Kd.C_alloc ?_ _) | (with_reducible refine Kd.C_drewN ?_ _) | (with_reducible refine Kd.C_drew ?_))); (case side2 => exact (Kd.V_reads' HO459.out).2.1); (case side3 => repeat (first | exact (Kd.S_reads' HO455.out).2.2 | (with_reducible refine Kd.C_alloc ?_ _) | (with_reducible refine Kd.C_drewN ?_ _) | (with_reducible refine Kd.C_drew ?_))); (case side4 => exact (Kd.S_reads' HO455.out).2.1); rintro e w' ⟨rfl, ⟨nd, rfl⟩⟩))
      go_meet
      case rel => exact ⟨_, (true), rf, H', ⟨by have := HJ2.out; first | omega | exact Nat.le_refl _⟩, ⟨by (with_reducible repeat (first | apply Kd.V_alloc | apply Kd.V_drewN | apply Kd.V_drew)); exact Kd.V_mono HO445.out (fun _ hk => ⟨hk.2, hk.1.2⟩)⟩, ⟨ps HO455.out⟩, ⟨by (with_reducible repeat (first | apply Kd.V_alloc | apply Kd.V_drewN | apply Kd.V_drew)); exact HO459.out⟩, ⟨pb BK452.out⟩, ⟨bg1 HB.out GE452.out⟩⟩
    subst c20
    rw [if_pos rfl] at H
    have H' := am H
    clear H
    obtain ⟨Ao21, co21, eo21⟩ := Kd.V_slice HO459.out
    subst eo21
    obtain ⟨Ao22, co22, eo22⟩ := Kd.S_slice HO455.out
    subst eo22
    go_wp2_with (first | (go_at_call 7; (with_reducible refine (laws_lqFlash.calls kj2 _ _ t457 _ _ t453 true _ ?side1 ?side2 ?side3 ?side4 A18.out).mono ?_); (case side1 => repeat (first | exact (Kd.V_reads' HO459.out).2.2 | (with_reducible refine Kd.C_alloc ?_ _) | (with_reducible refine Kd.C_drewN ?_ _) | (with_reducible refine Kd.C_drew ?_))); (case side2 => exact (Kd.V_reads' HO459.out).2.1); (case side3 => repeat (first | exact (Kd.S_reads' HO455.out).2.2 | (with_reducible refine Kd.C_alloc ?_ _) | (with_reducible refine Kd.C_drewN ?_ _) | (with_reducible refine Kd.C_drew ?_))); (case side4 => exact (Kd.S_reads' HO455.out).2.1); rintro e w' ⟨rfl, ⟨nd, rfl⟩⟩; obtain ⟨hcz23_0, hcz23_1, hcz23_2, hcz23_3⟩ := b4 BK452.out; obtain ⟨hfz23_0, hfz23_1, hfz23_2, hfz23_3⟩ := f4 BK452.out))
    go_meet
    case rel => exact ⟨_, ((t448 == 600)), rf, H', ⟨by have := HJ2.out; first | omega | exact Nat.le_refl _⟩, ⟨by (with_reducible repeat (first | apply Kd.V_alloc | apply Kd.V_drewN | apply Kd.V_drew)); exact Kd.V_mono HO445.out (fun _ hk => ⟨hk.2, hk.1.2⟩)⟩, ⟨ps HO455.out⟩, ⟨by (with_reducible repeat (first | apply Kd.V_alloc | apply Kd.V_drewN | apply Kd.V_drew)); exact HO459.out⟩, ⟨pb BK452.out⟩, ⟨bg1 HB.out GE452.out⟩⟩
   case rest =>
    clear HC9
    obtain ⟨kq, x69_8, rfl, HA, HJ8, HO_5, HO_9, HO_11, BK452, HB⟩ := hcut
    cases kq with
    | zero => exact absurd HA.out (by simp [laws_FnWriteTwo.j1])
    | succ kj8 =>
     have H := HA.out
     clear HA
     simp only [laws_FnWriteTwo.j1] at H
     by_cases c28 : x69_8 = true
     · subst c28
       rw [if_pos rfl] at H
       by_cases c29 : (t460 == t456) = true
       rotate_left
       · rw [if_neg c29] at H
         have c29b0 : (t460 == t456) = false := by simpa using c29
         (try (have c29b1 : decide (t460 = t456) = false := by simpa using c29))
         (try (have c29b2 : (t460 == t456) = false := by simpa using c29))
         (try (have c29b3 : ¬ (t460 = t456) := by simpa using c29))
         clear c29
         obtain rfl := Option.some.inj H
         go_wp2
         go_ret
         exact (rq (bg1 HB.out GE452.out))
       rw [if_pos c29] at H
       have c29b0 : (t460 == t456) = true := c29
       (try (have c29b1 : decide (t460 = t456) = true := by simpa using c29))
       (try (have c29b2 : (t460 == t456) = true := by simpa using c29))
       clear c29
       replace H := Option.bind_eq_some_iff.mp H
       obtain ⟨t462, A300, H⟩ := H
       have A30 := am A300
       clear A300
       obtain rfl := Option.some.inj H
       obtain ⟨Ao31, co31, eo31⟩ := Kd.V_slice HO_11.out
       subst eo31
       obtain ⟨Ao32, co32, eo32⟩ := Kd.S_slice HO_9.out
       subst eo32
       go_wp2_with (first | (go_at_call 7; (with_reducible refine (laws_lqFlash.calls kj8 _ _ t457 _ _ t453 t462 _ ?side1 ?side2 ?side3 ?side4 A30.out).mono ?_); (case side1 => repeat (first | exact (Kd.V_reads' HO_11.out).2.2 | (with_reducible refine Kd.C_alloc ?_ _) | (with_reducible refine Kd.C_drewN ?_ _) | (with_reducible refine Kd.C_drew ?_))); (case side2 => exact (Kd.V_reads' HO_11.out).2.1); (case side3 => repeat (first | exact (Kd.S_reads' HO_9.out).2.2 | (with_reducible refine Kd.C_alloc ?_ _) | (with_reducible refine Kd.C_drewN ?_ _) | (with_reducible refine Kd.C_drew ?_))); (case side4 => exact (Kd.S_reads' HO_9.out).2.1); rintro e w' ⟨rfl, ⟨nd, rfl⟩⟩))
       go_ret
       exact (rq (bg1 HB.out GE452.out))
     replace c28 := Bool.eq_false_iff.mpr c28
     subst c28
     rw [if_neg (show ¬ (false = true) by decide)] at H
     replace H := Option.bind_eq_some_iff.mp H
     obtain ⟨⟨t464, t467⟩, A330, H⟩ := H
     have A33 := am A330
     clear A330
     replace H := Option.bind_eq_some_iff.mp H
     obtain ⟨⟨t468, t471⟩, A340, H⟩ := H
     have A34 := am A340
     clear A340
     have HC35 := am H
     clear H
     go_upto_region 12 with (first | ((with_reducible refine gate_dst (N := 14) rfl ?_); (try (refine gate_guard (by rfl) ?_; dsimp only)); refine box_event ?hg (N := 14) ?hd (cs := #[.int .i64 0, .int .i64 0, .int .i64 0, .int .i64 0]) (t := 25) ?hr ?_; (case hd => rfl); (case hg => rfl); (case hr => first | (go_simp; done) | (go_simp; rfl)); intro gb463 hg w36 hbox hb; replace HO_5 := am (Kd.V_below (Kd.V_elderB (by (with_reducible repeat (first | apply Kd.V_alloc | apply Kd.V_drewN | apply Kd.V_drew)); exact HO_5.out) gb463 (Nat.le_of_eq hg.symm)) hb); replace HO_9 := am (Kd.S_below (ps HO_9.out) hb); replace HO_11 := am (Kd.V_below (Kd.V_elderB (by (with_reducible repeat (first | apply Kd.V_alloc | apply Kd.V_drewN | apply Kd.V_drew)); exact HO_11.out) gb463 (Nat.le_of_eq hg.symm)) hb); have BK463 := am (hbox); have GW463 := am (ge hg (bg1 HB.out GE452.out)); have GE463 := GW463; replace HB := am (below_step (bg1 HB.out GE452.out) hb); have NB452_463 := am (nb hg (pb BK452.out)); have NB463_452 := am (Ne.symm NB452_463.out); replace BK452 := am (blk_below (pb BK452.out) hb); clear hb hbox hg; have hnb37 := NB463_452.out; have hnc37 := NB452_463.out; obtain ⟨hcz38_0, hcz38_1, hcz38_2, hcz38_3⟩ := b4 BK463.out; obtain ⟨hfz38_0, hfz38_1, hfz38_2, hfz38_3⟩ := f4 BK463.out) | (refine gl 90 Try.func6 #[.slice Ao13 t443.length co13, .int .i64 (Int.tmod (wrap64 ((wrap64 (t446 + 1)) + ((l1.length : Int) % 3))) 4), .agg #[.int .i64 2, .int .i64 600, .int .i64 2, .int .i64 3], .bool false] rfl ?_; (with_reducible refine (impl_FlashWrite.calls kj8 _ _ t443 (Int.tmod (wrap64 ((wrap64 (t446 + 1)) + ((l1.length : Int) % 3))) 4) 2 600 2 3 false t464 t467 _ ?side1 ?side2 A33.out).mono ?_); (case side1 => refine (Kd.V_reads' (e := 47) (base := w.heap.size) (ok := fun k_ => ((some k_ ≠ (v454 : Value).ownBlock ∧ k_ ≠ gb452) ∧ k_ ≠ gb463)) (n := t443.length) (c := co13) ?_).2.2; exact (by (with_reducible repeat (first | apply Kd.V_alloc | apply Kd.V_drewN | apply Kd.V_drew)); exact (Kd.V_mono (Kd.V_far (p := ⟨gb463, 3, none⟩) (Kd.V_far (p := ⟨gb463, 2, none⟩) (Kd.V_far (p := ⟨gb463, 1, none⟩) (Kd.V_far (p := ⟨gb463, 0, none⟩) (Kd.V_mono HO_5.out (fun k_ hk => (⟨hk, hk.2⟩ : _ ∧ k_ ≠ gb463))) (fun _ hk => hk.2) (.int .i64 2)) (fun _ hk => hk.2) (.int .i64 600)) (fun _ hk => hk.2) (.int .i64 2)) (fun _ hk => hk.2) (.int .i64 3)) (fun _ h_ => h_.1)))); (case side2 => exact (Kd.V_reads' HO_5.out).2.1); rintro e w39 ⟨v465, rfl, ho0, hb⟩; refine ⟨_, rfl, ?_⟩; replace HO_5 := am (Kd.V_below (by (with_reducible repeat (first | apply Kd.V_alloc | apply Kd.V_drewN | apply Kd.V_drew)); exact (Kd.V_mono (Kd.V_far (p := ⟨gb463, 3, none⟩) (Kd.V_far (p := ⟨gb463, 2, none⟩) (Kd.V_far (p := ⟨gb463, 1, none⟩) (Kd.V_far (p := ⟨gb463, 0, none⟩) (Kd.V_mono HO_5.out (fun k_ hk => (⟨hk, hk.2⟩ : _ ∧ k_ ≠ gb463))) (fun _ hk => hk.2) (.int .i64 2)) (fun _ hk => hk.2) (.int .i64 600)) (fun _ hk => hk.2) (.int .i64 2)) (fun _ hk => hk.2) (.int .i64 3)) (fun _ h_ => h_.1))) hb); replace HO_11 := am (Kd.V_below (by (with_reducible repeat (first | apply Kd.V_alloc | apply Kd.V_drewN | apply Kd.V_drew)); exact (Kd.V_mono (Kd.V_far (p := ⟨gb463, 3, none⟩) (Kd.V_far (p := ⟨gb463, 2, none⟩) (Kd.V_far (p := ⟨gb463, 1, none⟩) (Kd.V_far (p := ⟨gb463, 0, none⟩) (Kd.V_mono HO_11.out (fun k_ hk => (⟨hk, hk.2⟩ : _ ∧ k_ ≠ gb463))) (fun _ hk => hk.2) (.int .i64 2)) (fun _ hk => hk.2) (.int .i64 600)) (fun _ hk => hk.2) (.int .i64 2)) (fun _ hk => hk.2) (.int .i64 3)) (fun _ h_ => h_.1))) hb); have HO466 := am (Kd.V_lower (Kd.V_mono (ok' := fun k_ => some k_ ≠ (v454 : Value).ownBlock ∧ k_ ≠ gb452 ∧ k_ ≠ gb463) ho0 (fun k_ hk_ => ⟨(Kd.fresh' (Kd.S_lt (by (with_reducible repeat (first | apply Kd.S_alloc | apply Kd.S_drewN | apply Kd.S_drew)); exact (Kd.S_mono (Kd.S_far (p := ⟨gb463, 3, none⟩) (Kd.S_far (p := ⟨gb463, 2, none⟩) (Kd.S_far (p := ⟨gb463, 1, none⟩) (Kd.S_far (p := ⟨gb463, 0, none⟩) (Kd.S_types HO_9.out BK463.out (by decide)) (fun _ hk => hk.2) (.int .i64 2)) (fun _ hk => hk.2) (.int .i64 600)) (fun _ hk => hk.2) (.int .i64 2)) (fun _ hk => hk.2) (.int .i64 3)) (fun _ h_ => h_.1)))) k_ hk_), (Kd.freshB (g := gb452) (o := .cells #[.int .i64 t447, .int .i64 t448, .int .i64 t449, .int .i64 t450] 25 (0, 0)) (bf4 (pb BK452.out) NB452_463.out) k_ hk_), (Kd.freshB (g := gb463) (o := .cells #[.int .i64 2, .int .i64 600, .int .i64 2, .int .i64 3] 25 (0, 0)) (bp4 (pb BK463.out)) k_ hk_)⟩)) (below_size (bg2 HB.out GE452.out GE463.out))); replace HO_9 := am (Kd.S_below (by (with_reducible repeat (first | apply Kd.S_alloc | apply Kd.S_drewN | apply Kd.S_drew)); exact (Kd.S_mono (Kd.S_far (p := ⟨gb463, 3, none⟩) (Kd.S_far (p := ⟨gb463, 2, none⟩) (Kd.S_far (p := ⟨gb463, 1, none⟩) (Kd.S_far (p := ⟨gb463, 0, none⟩) (Kd.S_types HO_9.out BK463.out (by decide)) (fun _ hk => hk.2) (.int .i64 2)) (fun _ hk => hk.2) (.int .i64 600)) (fun _ hk => hk.2) (.int .i64 2)) (fun _ hk => hk.2) (.int .i64 3)) (fun _ h_ => h_.1))) hb); replace BK452 := am (blk_below (bf4 (pb BK452.out) NB452_463.out) hb); replace BK463 := am (blk_below (bp4 (pb BK463.out)) hb); replace HB := am (below_step (bg2 HB.out GE452.out GE463.out) hb); (try clear hb); (try clear hb2); (try clear hk); (try clear hi); (try clear ho0); obtain ⟨hcz40_0, hcz40_1, hcz40_2, hcz40_3⟩ := b4 BK463.out; obtain ⟨hfz40_0, hfz40_1, hfz40_2, hfz40_3⟩ := f4 BK463.out; obtain ⟨Ao41, co41, eo41⟩ := Kd.V_slice HO_11.out; subst eo41) | (refine gl 97 Try.func6 #[.slice Ao41 t457.length co41, .int .i64 (Int.tmod (wrap64 ((wrap64 (t446 + 1)) + ((l1.length : Int) % 3))) 4), .agg #[.int .i64 2, .int .i64 600, .int .i64 2, .int .i64 3], .bool false] rfl ?_; (with_reducible refine (impl_FlashWrite.calls kj8 _ _ t457 (Int.tmod (wrap64 ((wrap64 (t446 + 1)) + ((l1.length : Int) % 3))) 4) 2 600 2 3 false t468 t471 _ ?side1 ?side2 A34.out).mono ?_); (case side1 => repeat (first | exact (Kd.V_reads' HO_11.out).2.2 | (with_reducible refine Kd.C_alloc ?_ _) | (with_reducible refine Kd.C_drewN ?_ _) | (with_reducible refine Kd.C_drew ?_))); (case side2 => exact (Kd.V_reads' HO_11.out).2.1); rintro e w42 ⟨v469, rfl, ho0, hb⟩; refine ⟨_, rfl, ?_⟩; replace HO_5 := am (Kd.V_below (by (with_reducible repeat (first | apply Kd.V_alloc | apply Kd.V_drewN | apply Kd.V_drew)); exact HO_5.out) hb); replace HO_11 := am (Kd.V_below (by (with_reducible repeat (first | apply Kd.V_alloc | apply Kd.V_drewN | apply Kd.V_drew)); exact HO_11.out) hb); replace HO466 := am (Kd.V_below (by (with_reducible repeat (first | apply Kd.V_alloc | apply Kd.V_drewN | apply Kd.V_drew)); exact HO466.out) hb); have HO470 := am (Kd.V_lower (Kd.V_mono (ok' := fun k_ => some k_ ≠ (v454 : Value).ownBlock ∧ k_ ≠ gb452 ∧ k_ ≠ gb463) ho0 (fun k_ hk_ => ⟨(Kd.fresh' (Kd.S_lt (ps HO_9.out)) k_ hk_), (Kd.freshB (g := gb452) (o := .cells #[.int .i64 t447, .int .i64 t448, .int .i64 t449, .int .i64 t450] 25 (0, 0)) (pb BK452.out) k_ hk_), (Kd.freshB (g := gb463) (o := .cells #[.int .i64 2, .int .i64 600, .int .i64 2, .int .i64 3] 25 (0, 0)) (pb BK463.out) k_ hk_)⟩)) (below_size (bg2 HB.out GE452.out GE463.out))); replace HO_9 := am (Kd.S_below (ps HO_9.out) hb); replace BK452 := am (blk_below (pb BK452.out) hb); replace BK463 := am (blk_below (pb BK463.out) hb); replace HB := am (below_step (bg2 HB.out GE452.out GE463.out) hb); (try clear hb); (try clear hb2); (try clear hk); (try clear hi); (try clear ho0)))
     (try simp only [Act.put, List.setIfInBounds_toArray, List.set_cons_zero, List.set_cons_succ])
     go_cut [105] (fun v105 wc => ∃ (kq : Nat) (x105_34 : Bool), v105 = .bool x105_34 ∧ Aside0 (laws_FnWriteTwo.j2 kq t446 t451 t464 t467 t468 t471 x105_34 t447 t448 t449 t450 = some r) ∧ Aside0 (kq ≤ kj8) ∧ Aside0 (Kd.V k47 47 wc w.heap.size (fun k_ => k_ ≠ gb452 ∧ k_ ≠ gb463) v465 t464) ∧ Aside0 (Kd.V k47 47 wc w.heap.size (fun k_ => k_ ≠ gb452 ∧ k_ ≠ gb463) v469 t468) ∧ Aside0 (wc.heap[gb452]? = some (.cells #[.int .i64 t447, .int .i64 t448, .int .i64 t449, .int .i64 t450] 25 (0, 0))) ∧ Aside0 (wc.heap[gb463]? = some (.cells #[.int .i64 2, .int .i64 600, .int .i64 2, .int .i64 3] 25 (0, 0))) ∧ Aside0 (Below w.heap.size w wc))
     case first =>
      have H := HC35.out
      clear HC35
      by_cases c43 : t467 = true
      · subst c43
        rw [if_pos rfl] at H
        have H' := am H
        clear H
        go_wp2
        go_meet
        case rel => exact ⟨_, (!t471), rf, H', ⟨by have := HJ2.out; have := HJ8.out; first | omega | exact Nat.le_refl _⟩, ⟨by (with_reducible repeat (first | apply Kd.V_alloc | apply Kd.V_drewN | apply Kd.V_drew)); exact Kd.V_mono HO466.out (fun _ hk => ⟨hk.2.1, hk.2.2⟩)⟩, ⟨by (with_reducible repeat (first | apply Kd.V_alloc | apply Kd.V_drewN | apply Kd.V_drew)); exact Kd.V_mono HO470.out (fun _ hk => ⟨hk.2.1, hk.2.2⟩)⟩, ⟨pb BK452.out⟩, ⟨pb BK463.out⟩, ⟨bg2 HB.out GE452.out GE463.out⟩⟩
      replace c43 := Bool.eq_false_iff.mpr c43
      subst c43
      rw [if_neg (show ¬ (false = true) by decide)] at H
      have H' := am H
      clear H
      go_wp2
      go_meet
      case rel => exact ⟨_, (true), rf, H', ⟨by have := HJ2.out; have := HJ8.out; first | omega | exact Nat.le_refl _⟩, ⟨by (with_reducible repeat (first | apply Kd.V_alloc | apply Kd.V_drewN | apply Kd.V_drew)); exact Kd.V_mono HO466.out (fun _ hk => ⟨hk.2.1, hk.2.2⟩)⟩, ⟨by (with_reducible repeat (first | apply Kd.V_alloc | apply Kd.V_drewN | apply Kd.V_drew)); exact Kd.V_mono HO470.out (fun _ hk => ⟨hk.2.1, hk.2.2⟩)⟩, ⟨pb BK452.out⟩, ⟨pb BK463.out⟩, ⟨bg2 HB.out GE452.out GE463.out⟩⟩
     case rest =>
      clear HC35
      obtain ⟨kq, x105_34, rfl, HA, HJ34, HO_15, HO_17, BK452, BK463, HB⟩ := hcut
      cases kq with
      | zero => exact absurd HA.out (by simp [laws_FnWriteTwo.j2])
      | succ kj34 =>
       have H := HA.out
       clear HA
       simp only [laws_FnWriteTwo.j2] at H
       by_cases c44 : x105_34 = true
       · subst c44
         rw [if_pos rfl] at H
         obtain rfl := Option.some.inj H
         go_wp2
         go_ret
         exact (rq (bg2 HB.out GE452.out GE463.out))
       replace c44 := Bool.eq_false_iff.mpr c44
       subst c44
       rw [if_neg (show ¬ (false = true) by decide)] at H
       replace H := Option.bind_eq_some_iff.mp H
       obtain ⟨⟨t472, t475⟩, A450, H⟩ := H
       have A45 := am A450
       clear A450
       by_cases c46 : t475 = true
       rotate_left
       · replace c46 := Bool.eq_false_iff.mpr c46
         subst c46
         rw [if_neg (show ¬ (false = true) by decide)] at H
         obtain rfl := Option.some.inj H
         have hnb54 := NB452_463.out
         have hnc54 := NB463_452.out
         obtain ⟨hcz55_0, hcz55_1, hcz55_2, hcz55_3⟩ := b4 BK452.out
         obtain ⟨hfz55_0, hfz55_1, hfz55_2, hfz55_3⟩ := f4 BK452.out
         obtain ⟨Ao56, co56, eo56⟩ := Kd.V_slice HO_15.out
         subst eo56
         go_wp2_with (first | (refine gl 114 Try.func6 #[.slice Ao56 t464.length co56, .int .i64 t446, .agg #[.int .i64 t447, .int .i64 t448, .int .i64 t449, .int .i64 t450], .bool t451] rfl ?_; (with_reducible refine (impl_FlashWrite.calls kj34 _ _ t464 t446 t447 t448 t449 t450 t451 t472 false _ ?side1 ?side2 A45.out).mono ?_); (case side1 => repeat (first | exact (Kd.V_reads' HO_15.out).2.2 | (with_reducible refine Kd.C_alloc ?_ _) | (with_reducible refine Kd.C_drewN ?_ _) | (with_reducible refine Kd.C_drew ?_))); (case side2 => exact (Kd.V_reads' HO_15.out).2.1); rintro e w57 ⟨v473, rfl, ho0, hb⟩; refine ⟨_, rfl, ?_⟩; replace HO_15 := am (Kd.V_below (by (with_reducible repeat (first | apply Kd.V_alloc | apply Kd.V_drewN | apply Kd.V_drew)); exact HO_15.out) hb); replace HO_17 := am (Kd.V_below (by (with_reducible repeat (first | apply Kd.V_alloc | apply Kd.V_drewN | apply Kd.V_drew)); exact HO_17.out) hb); have HO474 := am (Kd.V_lower (Kd.V_mono (ok' := fun k_ => k_ ≠ gb452 ∧ k_ ≠ gb463) ho0 (fun k_ hk_ => ⟨(Kd.freshB (g := gb452) (o := .cells #[.int .i64 t447, .int .i64 t448, .int .i64 t449, .int .i64 t450] 25 (0, 0)) (pb BK452.out) k_ hk_), (Kd.freshB (g := gb463) (o := .cells #[.int .i64 2, .int .i64 600, .int .i64 2, .int .i64 3] 25 (0, 0)) (pb BK463.out) k_ hk_)⟩)) (below_size (bg2 HB.out GE452.out GE463.out))); replace BK452 := am (blk_below (pb BK452.out) hb); replace BK463 := am (blk_below (pb BK463.out) hb); replace HB := am (below_step (bg2 HB.out GE452.out GE463.out) hb); (try clear hb); (try clear hb2); (try clear hk); (try clear hi); (try clear ho0)))
         go_ret
         exact (rq (bg2 HB.out GE452.out GE463.out))
       subst c46
       rw [if_pos rfl] at H
       replace H := Option.bind_eq_some_iff.mp H
       obtain ⟨t476, A470, H⟩ := H
       have A47 := am A470
       clear A470
       obtain rfl := Option.some.inj H
       have hnb48 := NB452_463.out
       have hnc48 := NB463_452.out
       obtain ⟨hcz49_0, hcz49_1, hcz49_2, hcz49_3⟩ := b4 BK452.out
       obtain ⟨hfz49_0, hfz49_1, hfz49_2, hfz49_3⟩ := f4 BK452.out
       obtain ⟨Ao50, co50, eo50⟩ := Kd.V_slice HO_15.out
       subst eo50
       go_wp2_with (first | (refine gl 114 Try.func6 #[.slice Ao50 t464.length co50, .int .i64 t446, .agg #[.int .i64 t447, .int .i64 t448, .int .i64 t449, .int .i64 t450], .bool t451] rfl ?_; (with_reducible refine (impl_FlashWrite.calls kj34 _ _ t464 t446 t447 t448 t449 t450 t451 t472 true _ ?side1 ?side2 A45.out).mono ?_); (case side1 => repeat (first | exact (Kd.V_reads' HO_15.out).2.2 | (with_reducible refine Kd.C_alloc ?_ _) | (with_reducible refine Kd.C_drewN ?_ _) | (with_reducible refine Kd.C_drew ?_))); (case side2 => exact (Kd.V_reads' HO_15.out).2.1); rintro e w51 ⟨v473, rfl, ho0, hb⟩; refine ⟨_, rfl, ?_⟩; replace HO_15 := am (Kd.V_below (by (with_reducible repeat (first | apply Kd.V_alloc | apply Kd.V_drewN | apply Kd.V_drew)); exact HO_15.out) hb); replace HO_17 := am (Kd.V_below (by (with_reducible repeat (first | apply Kd.V_alloc | apply Kd.V_drewN | apply Kd.V_drew)); exact HO_17.out) hb); have HO474 := am (Kd.V_lower (Kd.V_mono (ok' := fun k_ => k_ ≠ gb452 ∧ k_ ≠ gb463) ho0 (fun k_ hk_ => ⟨(Kd.freshB (g := gb452) (o := .cells #[.int .i64 t447, .int .i64 t448, .int .i64 t449, .int .i64 t450] 25 (0, 0)) (pb BK452.out) k_ hk_), (Kd.freshB (g := gb463) (o := .cells #[.int .i64 2, .int .i64 600, .int .i64 2, .int .i64 3] 25 (0, 0)) (pb BK463.out) k_ hk_)⟩)) (below_size (bg2 HB.out GE452.out GE463.out))); replace BK452 := am (blk_below (pb BK452.out) hb); replace BK463 := am (blk_below (pb BK463.out) hb); replace HB := am (below_step (bg2 HB.out GE452.out GE463.out) hb); (try clear hb); (try clear hb2); (try clear hk); (try clear hi); (try clear ho0); obtain ⟨Ao52, co52, eo52⟩ := Kd.V_slice HO_17.out; subst eo52; obtain ⟨Ao53, co53, eo53⟩ := Kd.V_slice HO474.out; subst eo53) | (go_at_call 7; (with_reducible refine (laws_lqFlash.calls kj34 _ _ t468 _ _ t472 t476 _ ?side1 ?side2 ?side3 ?side4 A47.out).mono ?_); (case side1 => repeat (first | exact (Kd.V_reads' HO_17.out).2.2 | (with_reducible refine Kd.C_alloc ?_ _) | (with_reducible refine Kd.C_drewN ?_ _) | (with_reducible refine Kd.C_drew ?_))); (case side2 => exact (Kd.V_reads' HO_17.out).2.1); (case side3 => repeat (first | exact (Kd.V_reads' HO474.out).2.2 | (with_reducible refine Kd.C_alloc ?_ _) | (with_reducible refine Kd.C_drewN ?_ _) | (with_reducible refine Kd.C_drew ?_))); (case side4 => exact (Kd.V_reads' HO474.out).2.1); rintro e w' ⟨rfl, ⟨nd, rfl⟩⟩))
       go_ret
       exact (rq (bg2 HB.out GE452.out GE463.out))
def laws_FnWriteTwo.Pure : Prop := ∀ (l0 : List Int) (l1 : List Int), l0.length ≤ maxLen → l0.length * 1 ≤ 140737488351232 → (∀ x ∈ l0, (Lit.int .u8 x).wf = true) → l1.length ≤ maxLen → l1.length * 1 ≤ 140737488351232 → (∀ x ∈ l1, (Lit.int .u8 x).wf = true) → ∃ k, laws_FnWriteTwo.f k l0 l1 = some true
theorem laws_FnWriteTwo.walk (P : laws_FnWriteTwo.Pure) (a0 : Option Addr) (len0 cap0 : Nat) (z0 : List Int) (a1 : Option Addr) (len1 cap1 : Nat) (z1 : List Int) (w : World) (w0 : (a0 = none ∧ len0 = 0 ∧ cap0 = 0 ∧ z0 = []) ∨ ∃ x, a0 = some x ∧ len0 ≤ cap0 ∧ cap0 ≤ maxLen ∧ z0.length = cap0 ∧ (∀ i, i < z0.length → w.cell? (x.add i) = some (.int .u8 (z0.getD i 0))) ∧ ∀ n ∈ z0, (Lit.int .u8 n).wf = true) (y0 : len0 * 1 ≤ 140737488351232) (w1 : (a1 = none ∧ len1 = 0 ∧ cap1 = 0 ∧ z1 = []) ∨ ∃ x, a1 = some x ∧ len1 ≤ cap1 ∧ cap1 ≤ maxLen ∧ z1.length = cap1 ∧ (∀ i, i < z1.length → w.cell? (x.add i) = some (.int .u8 (z1.getD i 0))) ∧ ∀ n ∈ z1, (Lit.int .u8 n).wf = true) (y1 : len1 * 1 ≤ 140737488351232) :
 Calls Try.prog 3 #[.slice a0 len0 cap0, .slice a1 len1 cap1] w fun e w' => e = .returned (.bool true) ∧ Below w.heap.size w w' := by
 obtain ⟨l0, rfl, hr0, hm0, hw0, hc0⟩ := ReadsInt.ofRowC w0
 obtain ⟨l1, rfl, hr1, hm1, hw1, hc1⟩ := ReadsInt.ofRowC w1
 obtain ⟨k, h⟩ := P l0 l1 hm0 y0 hw0 hm1 y1 hw1
 refine (laws_FnWriteTwo.calls k _ _ l0 _ _ l1 true w (Kd.C_of_reads (d := (0 : Int)) (h1 := fun _ => rfl) hr0) hc0 (Kd.C_of_reads (d := (0 : Int)) (h1 := fun _ => rfl) hr1) hc1 h).mono ?_
 rintro e w' ⟨rfl, hd⟩
 exact ⟨rfl, hd⟩
end Go.Proofs.Ytaonfhecbepckaa.Ru
