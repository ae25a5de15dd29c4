-- printed by wip/pp/pp.py
import Derived.Test.YtghmnlcmhpdcaaaR50
import Derived.Test.YtghmnlcmhpdcaaaR510
import Derived.Test.YtghmnlcmhpdcaaaR511
import Derived.Test.YtghmnlcmhpdcaaaR513
import Derived.Test.YtghmnlcmhpdcaaaR514
import Derived.Test.YtghmnlcmhpdcaaaR515
namespace Go.Proofs.Ytghmnlcmhpdcaaa.R5
open Go.RowKit Go.Proofs.YtghmnlcmhpdcaaaW.PrintWords Go.Proofs.YtghmnlcmhpdcaaaW.PrintLast Go.Proofs.YtghmnlcmhpdcaaaW.PrintMore
attribute [local go_sem] max2_int min2_int max_two min_two max_three min_three max_four min_four
set_option linter.unusedVariables false
set_option linter.unusedSimpArgs false
mutual
def laws_FnReadWrite.j0 : Nat → List Int → List Int → Bool → Option (Bool)
 | 0, _, _, _ => none
 | k + 1, x0, x1, x23 => if x23 = true then (some true) else ((spec_DrawStoreRead.f k x0).bind fun bt407 => ((impl_StoreRead.f bt407.1 bt407.2.1 bt407.2.2).bind fun t415 => ((spec_StoreRead.f k bt407.1 bt407.2.1 bt407.2.2).bind fun t416 => (if t415 = t416 then ((spec_StoreOk.f k bt407.1 bt407.2.1).bind fun t417 => (if t417 = true then (if bt407.2.2 < 1 then (laws_FnReadWrite.j1 k x1 bt407.2.2 t415 true bt407.1 bt407.2.1) else (laws_FnReadWrite.j1 k x1 bt407.2.2 t415 (decide (bt407.2.2 > 6)) bt407.1 bt407.2.1)) else (laws_FnReadWrite.j1 k x1 bt407.2.2 t415 true bt407.1 bt407.2.1))) else (laws_FnReadWrite.j1 k x1 bt407.2.2 t415 true bt407.1 bt407.2.1)))))
def laws_FnReadWrite.j1 : Nat → List Int → Int → Int → Bool → List (S54) → List Int → Option (Bool)
 | 0, _, _, _, _, _, _ => none
 | k + 1, x1, x6, x7, x49, x415000, x415001 => if x49 = true then ((spec_StoreRead.f k x415000 x415001 x6).bind fun t418 => (some (x7 == t418))) else ((impl_FindOpen.f k x415000).bind fun bt419 => ((impl_FindNext.f x415000).bind fun t421 => (if bt419.2 = true then (laws_FnReadWrite.j2 k x1 x6 bt419.1 t421 (decide (t421 > 600)) x415000 x415001) else (laws_FnReadWrite.j2 k x1 x6 bt419.1 t421 true x415000 x415001))))
def laws_FnReadWrite.j2 : Nat → List Int → Int → Int → Int → Bool → List (S54) → List Int → Option (Bool)
 | 0, _, _, _, _, _, _, _ => none
 | k + 1, x1, x6, x8, x10, x69, x415000, x415001 => if x69 = true then (some true) else ((impl_FlashWrite.f k x415000 x8 1 x10 x6 ((x1.length : Int) % 10) false).bind fun bt422 => ((impl_StoreAll.f x415000 x415001).bind fun t427 => (if 0 ≤ (wrap64 (x6 - 1)) then (if (wrap64 (x6 - 1)) < (t427.length : Int) then (if bt422.2 = true then ((impl_StoreOk.f bt422.1 x415001).bind fun t431 => (if t431 = true then ((impl_StoreAll.f bt422.1 x415001).bind fun t432 => ((laws_lqInts.f k t432 (t427.set ((wrap64 (x6 - 1)) : Int).toNat ((x1.length : Int) % 10))).bind fun t435 => (some t435))) else (some false))) else (some false)) else (none)) else (none))))
end
def laws_FnReadWrite.f (k : Nat) (l0 : List Int) (l1 : List Int) : Option (Bool) := if (l0.length : Int) > 1048576 then (laws_FnReadWrite.j0 k l0 l1 true) else (laws_FnReadWrite.j0 k l0 l1 (decide ((l1.length : Int) > 1048576)))
set_option maxHeartbeats 8000000 in
set_option maxRecDepth 100000 in
theorem laws_FnReadWrite.calls (k : Nat) (A0 : Option Addr) (c0 : Nat) (l0 : List Int) (A1 : Option Addr) (c1 : Nat) (l1 : List Int) (r : Bool) (w : World) (hr0 : Kd.C (Kd.int .u8) w A0 l0.length l0) (hc0 : l0.length ≤ c0) (hr1 : Kd.C (Kd.int .u8) w A1 l1.length l1) (hc1 : l1.length ≤ c1) (h : laws_FnReadWrite.f k l0 l1 = some r) :
 Calls Try.prog 3 #[.slice A0 l0.length c0, .slice A1 l1.length c1] w fun e w' => e = .returned (.bool r) ∧ Below w.heap.size w w' := by
 have hu26 := Try.underlying26
 have hu37 := Try.underlying37
 have HR0 := am hr0
 have HC0 := am hc0
 clear hr0 hc0
 have HR1 := am hr1
 have HC1 := am hc1
 clear hr1 hc1
 have HB := am (Below.refl w.heap.size w)
 have H : (if (l0.length : Int) > 1048576 then (laws_FnReadWrite.j0 k l0 l1 true) else (laws_FnReadWrite.j0 k l0 l1 (decide ((l1.length : Int) > 1048576)))) = some r := h
 clear h
 have HC3 := am H
 clear H
 go_enter Try.func3, Try.ntmps3
 go_upto_region 1 with (fail)
 go_cut [23] (fun v23 wc => ∃ (kq : Nat) (x23_2 : Bool), v23 = .bool x23_2 ∧ Aside0 (laws_FnReadWrite.j0 kq l0 l1 x23_2 = some r) ∧ Aside0 (kq ≤ k) ∧ Aside0 (Below w.heap.size w wc))
 case first =>
  have H := HC3.out
  clear HC3
  by_cases c4 : (l0.length : Int) > 1048576
  · rw [if_pos c4] at H
    have c4b0 := decide_eq_true c4
    have c4b1 : decide (1048576 < l0.length) = true := decide_eq_true (by omega)
    clear c4
    (first | rw [c4b0] | (simp only [i64_w, i32_w]; rw [c4b0]) | skip)
    have H' := am H
    clear H
    go_wp2
    go_meet
    case rel => exact ⟨_, (true), rf, H', ⟨by first | omega | exact Nat.le_refl _⟩, ⟨ph HB.out⟩⟩
  rw [if_neg c4] at H
  have c4b0 := decide_eq_false c4
  have c4b1 : decide (1048576 < l0.length) = false := decide_eq_false (by omega)
  clear c4
  (first | rw [c4b0] | (simp only [i64_w, i32_w]; rw [c4b0]) | skip)
  have H' := am H
  clear H
  go_wp2
  go_meet
  case rel => exact ⟨_, (decide ((l1.length : Int) > 1048576)), rf, H', ⟨by first | omega | exact Nat.le_refl _⟩, ⟨ph HB.out⟩⟩
 case rest =>
  clear HC3
  obtain ⟨kq, x23_2, rfl, HA, HJ2, HB⟩ := hcut
  cases kq with
  | zero => exact absurd HA.out (by simp [laws_FnReadWrite.j0])
  | succ kj2 =>
   have H := HA.out
   clear HA
   simp only [laws_FnReadWrite.j0] at H
   by_cases c5 : x23_2 = true
   · subst c5
     rw [if_pos rfl] at H
     obtain rfl := Option.some.inj H
     go_wp2
     go_ret
     exact (rq (ph HB.out))
   replace c5 := Bool.eq_false_iff.mpr c5
   subst c5
   rw [if_neg (show ¬ (false = true) by decide)] at H
   replace H := Option.bind_eq_some_iff.mp H
   obtain ⟨⟨t407, t410, t413⟩, A60, H⟩ := H
   have A6 := am A60
   clear A60
   replace H := Option.bind_eq_some_iff.mp H
   obtain ⟨t415, A70, H⟩ := H
   have A7 := am A70
   clear A70
   have HC8 := am H
   clear H
   go_upto_region 5 with (first | (refine gl 26 Try.func4 #[.slice A0 l0.length c0] rfl ?_; (with_reducible refine (spec_DrawStoreRead.calls kj2 _ _ l0 t407 t410 t413 _ ?side1 ?side2 A6.out).mono ?_); (case side1 => exact pc (Kd.C_below HR0.out HB.out)); (case side2 => exact HC0.out); rintro e w9 ⟨v408, v411, rfl, ho0, ho1, hb⟩; refine ⟨_, rfl, ?_⟩; have HO409 := am (Kd.V_lower (Kd.V_mono (ok' := fun k_ => some k_ ≠ (v411 : Value).ownBlock) ho0 (fun k_ hk_ => hk_.2)) (below_size (ph HB.out))); have HO412 := am (Kd.Q_lower (Kd.Q_mono (ok' := fun k_ => True) ho1 (fun _ hk_ => trivial)) (below_size (ph HB.out))); replace HB := am (below_step (ph HB.out) hb); clear hb ho0 ho1) | ((with_reducible refine gate_dst (N := 5) rfl ?_); (try (refine gate_guard (by rfl) ?_; dsimp only)); refine box_event ?hg (N := 5) ?hd (cs := #[.slice none 0 0, .slice none 0 0]) (t := 26) ?hr ?_; (case hd => rfl); (case hg => rfl); (case hr => first | (go_simp; done) | (go_simp; rfl)); intro gb414 hg w10 hbox hb; replace HO409 := am (Kd.V_below (Kd.V_elderB (pv HO409.out) gb414 (Nat.le_of_eq hg.symm)) hb); replace HO412 := am (Kd.Q_below (pq HO412.out) hb); have BK414 := am (hbox); have GW414 := am (ge hg (ph HB.out)); have GE414 := GW414; replace HB := am (below_step (ph HB.out) hb); clear hb hbox hg; obtain ⟨Ao11, co11, eo11⟩ := Kd.V_slice HO409.out; subst eo11; obtain ⟨hcz12_0, hcz12_1⟩ := b2 BK414.out; obtain ⟨hfz12_0, hfz12_1⟩ := f2 BK414.out; obtain ⟨Ao13, co13, eo13, _⟩ := Kd.Q_slice HO412.out; subst eo13) | (refine gl 31 Try.func5 #[.agg #[.slice Ao11 t407.length co11, .slice Ao13 t410.length co13], .int .i64 t413] rfl ?_; (with_reducible refine (impl_StoreRead.calls _ _ t407 _ _ t410 t413 t415 _ ?side1 ?side2 ?side3 ?side4 A7.out).mono ?_); (case side1 => refine (Kd.V_reads' (e := 54) (base := w.heap.size) (ok := fun k_ => (some k_ ≠ (.slice Ao13 t410.length co13 : Value).ownBlock ∧ k_ ≠ gb414)) (n := t407.length) (c := co11) ?_).2.2; exact (pv ((Kd.V_mono (Kd.V_far (p := ⟨gb414, 1, none⟩) (Kd.V_far (p := ⟨gb414, 0, none⟩) (Kd.V_mono HO409.out (fun k_ hk => (⟨hk, hk.2⟩ : _ ∧ k_ ≠ gb414))) (fun _ hk => hk.2) (.slice Ao11 t407.length co11)) (fun _ hk => hk.2) (.slice Ao13 t410.length co13)) (fun _ h_ => h_.1))))); (case side2 => exact (Kd.V_reads' HO409.out).2.1); (case side3 => refine (Kd.Q_reads' (e := 3) (base := w.heap.size) (ok := fun k_ => True) (n := t410.length) (c := co13) ?_).2.2; exact (pq ((Kd.Q_mono (Kd.Q_far (p := ⟨gb414, 1, none⟩) (Kd.Q_far (p := ⟨gb414, 0, none⟩) (Kd.Q_types HO412.out BK414.out (by decide)) (fun _ hk => hk.2) (.slice Ao11 t407.length co11)) (fun _ hk => hk.2) (.slice Ao13 t410.length co13)) (fun _ h_ => h_.1))))); (case side4 => exact (Kd.Q_reads' HO412.out).2.1); rintro e w14 ⟨rfl, hb⟩; refine ⟨_, rfl, ?_⟩; replace HO409 := am (Kd.V_below (pv ((Kd.V_mono (Kd.V_far (p := ⟨gb414, 1, none⟩) (Kd.V_far (p := ⟨gb414, 0, none⟩) (Kd.V_mono HO409.out (fun k_ hk => (⟨hk, hk.2⟩ : _ ∧ k_ ≠ gb414))) (fun _ hk => hk.2) (.slice Ao11 t407.length co11)) (fun _ hk => hk.2) (.slice Ao13 t410.length co13)) (fun _ h_ => h_.1)))) hb); replace HO412 := am (Kd.Q_below (pq ((Kd.Q_mono (Kd.Q_far (p := ⟨gb414, 1, none⟩) (Kd.Q_far (p := ⟨gb414, 0, none⟩) (Kd.Q_types HO412.out BK414.out (by decide)) (fun _ hk => hk.2) (.slice Ao11 t407.length co11)) (fun _ hk => hk.2) (.slice Ao13 t410.length co13)) (fun _ h_ => h_.1)))) hb); replace BK414 := am (blk_below (bp2 (pb BK414.out)) hb); replace HB := am (below_step (bg1 HB.out GE414.out) hb); clear hb))
   (try simp only [Act.put, List.setIfInBounds_toArray, List.set_cons_zero, List.set_cons_succ])
   go_cut [49] (fun v49 wc => ∃ (kq : Nat) (x49_7 : Bool), v49 = .bool x49_7 ∧ Aside0 (laws_FnReadWrite.j1 kq l1 t413 t415 x49_7 t407 t410 = some r) ∧ Aside0 (kq ≤ kj2) ∧ Aside0 (Kd.V k54 54 wc w.heap.size (fun k_ => some k_ ≠ ((.slice Ao13 t410.length co13) : Value).ownBlock ∧ k_ ≠ gb414) (.slice Ao11 t407.length co11) t407) ∧ Aside0 (Kd.Q (Kd.int .i64) 3 wc w.heap.size (fun _ => True) (.slice Ao13 t410.length co13) t410) ∧ Aside0 (wc.heap[gb414]? = some (.cells #[(.slice Ao11 t407.length co11), (.slice Ao13 t410.length co13)] 26 (0, 0))) ∧ Aside0 (Below w.heap.size w wc))
   case first =>
    have H := HC8.out
    clear HC8
    replace H := Option.bind_eq_some_iff.mp H
    obtain ⟨t416, A150, H⟩ := H
    have A15 := am A150
    clear A150
    by_cases c16 : t415 = t416
    rotate_left
    · rw [if_neg c16] at H
      have c16b0 : (t415 == t416) = false := beq_eq_false_iff_ne.mpr c16
      have c16b1 : (t415 != t416) = true := bne_iff_ne.mpr c16
      (first | rw [c16b0] | (simp only [i64_w, i32_w]; rw [c16b0]) | skip)
      have H' := am H
      clear H
      obtain ⟨hcz32_0, hcz32_1⟩ := b2 BK414.out
      obtain ⟨hfz32_0, hfz32_1⟩ := f2 BK414.out
      go_wp2_with (first | (refine gl 35 Try.func6 #[.agg #[.slice Ao11 t407.length co11, .slice Ao13 t410.length co13], .int .i64 t413] rfl ?_; (with_reducible refine (spec_StoreRead.calls kj2 _ _ t407 _ _ t410 t413 t416 _ ?side1 ?side2 ?side3 ?side4 A15.out).mono ?_); (case side1 => exact pc ((Kd.V_reads' HO409.out).2.2)); (case side2 => exact (Kd.V_reads' HO409.out).2.1); (case side3 => exact pc ((Kd.Q_reads' HO412.out).2.2)); (case side4 => exact (Kd.Q_reads' HO412.out).2.1); rintro e w33 ⟨rfl, hb⟩; refine ⟨_, rfl, ?_⟩; replace HO409 := am (Kd.V_below (pv HO409.out) hb); replace HO412 := am (Kd.Q_below (pq HO412.out) hb); replace BK414 := am (blk_below (pb BK414.out) hb); replace HB := am (below_step (bg1 HB.out GE414.out) hb); clear hb))
      go_meet
      case rel => exact ⟨_, (true), rf, H', ⟨by have := HJ2.out; first | omega | exact Nat.le_refl _⟩, ⟨pv HO409.out⟩, ⟨pq HO412.out⟩, ⟨pb BK414.out⟩, ⟨bg1 HB.out GE414.out⟩⟩
    rw [if_pos c16] at H
    have c16b0 : (t415 == t416) = true := beq_iff_eq.mpr c16
    have c16b1 : (t415 != t416) = false := bne_eq_false_iff_eq.mpr c16
    clear c16
    (first | rw [c16b0] | (simp only [i64_w, i32_w]; rw [c16b0]) | skip)
    replace H := Option.bind_eq_some_iff.mp H
    obtain ⟨t417, A170, H⟩ := H
    have A17 := am A170
    clear A170
    by_cases c18 : t417 = true
    rotate_left
    · replace c18 := Bool.eq_false_iff.mpr c18
      subst c18
      rw [if_neg (show ¬ (false = true) by decide)] at H
      have H' := am H
      clear H
      obtain ⟨hcz28_0, hcz28_1⟩ := b2 BK414.out
      obtain ⟨hfz28_0, hfz28_1⟩ := f2 BK414.out
      go_wp2_with (first | (refine gl 35 Try.func6 #[.agg #[.slice Ao11 t407.length co11, .slice Ao13 t410.length co13], .int .i64 t413] rfl ?_; (with_reducible refine (spec_StoreRead.calls kj2 _ _ t407 _ _ t410 t413 t416 _ ?side1 ?side2 ?side3 ?side4 A15.out).mono ?_); (case side1 => exact pc ((Kd.V_reads' HO409.out).2.2)); (case side2 => exact (Kd.V_reads' HO409.out).2.1); (case side3 => exact pc ((Kd.Q_reads' HO412.out).2.2)); (case side4 => exact (Kd.Q_reads' HO412.out).2.1); rintro e w29 ⟨rfl, hb⟩; refine ⟨_, rfl, ?_⟩; replace HO409 := am (Kd.V_below (pv HO409.out) hb); replace HO412 := am (Kd.Q_below (pq HO412.out) hb); replace BK414 := am (blk_below (pb BK414.out) hb); replace HB := am (below_step (bg1 HB.out GE414.out) hb); clear hb; obtain ⟨hcz30_0, hcz30_1⟩ := b2 BK414.out; obtain ⟨hfz30_0, hfz30_1⟩ := f2 BK414.out) | (go_at_call 7; (with_reducible refine (spec_StoreOk.calls kj2 _ _ t407 _ _ t410 false _ ?side1 ?side2 ?side3 ?side4 A17.out).mono ?_); (case side1 => exact pc ((Kd.V_reads' HO409.out).2.2)); (case side2 => exact (Kd.V_reads' HO409.out).2.1); (case side3 => exact pc ((Kd.Q_reads' HO412.out).2.2)); (case side4 => exact (Kd.Q_reads' HO412.out).2.1); rintro e w31 ⟨rfl, hb⟩; replace HO409 := am (Kd.V_below (pv HO409.out) hb); replace HO412 := am (Kd.Q_below (pq HO412.out) hb); replace BK414 := am (blk_below (pb BK414.out) hb); replace HB := am (below_step (bg1 HB.out GE414.out) hb); clear hb))
      go_meet
      case rel => exact ⟨_, (true), rf, H', ⟨by have := HJ2.out; first | omega | exact Nat.le_refl _⟩, ⟨pv HO409.out⟩, ⟨pq HO412.out⟩, ⟨pb BK414.out⟩, ⟨bg1 HB.out GE414.out⟩⟩
    subst c18
    rw [if_pos rfl] at H
    by_cases c19 : t413 < 1
    · rw [if_pos c19] at H
      have c19b0 := decide_eq_true c19
      clear c19
      have H' := am H
      clear H
      obtain ⟨hcz20_0, hcz20_1⟩ := b2 BK414.out
      obtain ⟨hfz20_0, hfz20_1⟩ := f2 BK414.out
      go_wp2_with (first | (refine gl 35 Try.func6 #[.agg #[.slice Ao11 t407.length co11, .slice Ao13 t410.length co13], .int .i64 t413] rfl ?_; (with_reducible refine (spec_StoreRead.calls kj2 _ _ t407 _ _ t410 t413 t416 _ ?side1 ?side2 ?side3 ?side4 A15.out).mono ?_); (case side1 => exact pc ((Kd.V_reads' HO409.out).2.2)); (case side2 => exact (Kd.V_reads' HO409.out).2.1); (case side3 => exact pc ((Kd.Q_reads' HO412.out).2.2)); (case side4 => exact (Kd.Q_reads' HO412.out).2.1); rintro e w21 ⟨rfl, hb⟩; refine ⟨_, rfl, ?_⟩; replace HO409 := am (Kd.V_below (pv HO409.out) hb); replace HO412 := am (Kd.Q_below (pq HO412.out) hb); replace BK414 := am (blk_below (pb BK414.out) hb); replace HB := am (below_step (bg1 HB.out GE414.out) hb); clear hb; obtain ⟨hcz22_0, hcz22_1⟩ := b2 BK414.out; obtain ⟨hfz22_0, hfz22_1⟩ := f2 BK414.out) | (go_at_call 7; (with_reducible refine (spec_StoreOk.calls kj2 _ _ t407 _ _ t410 true _ ?side1 ?side2 ?side3 ?side4 A17.out).mono ?_); (case side1 => exact pc ((Kd.V_reads' HO409.out).2.2)); (case side2 => exact (Kd.V_reads' HO409.out).2.1); (case side3 => exact pc ((Kd.Q_reads' HO412.out).2.2)); (case side4 => exact (Kd.Q_reads' HO412.out).2.1); rintro e w23 ⟨rfl, hb⟩; replace HO409 := am (Kd.V_below (pv HO409.out) hb); replace HO412 := am (Kd.Q_below (pq HO412.out) hb); replace BK414 := am (blk_below (pb BK414.out) hb); replace HB := am (below_step (bg1 HB.out GE414.out) hb); clear hb))
      go_meet
      case rel => exact ⟨_, (true), rf, H', ⟨by have := HJ2.out; first | omega | exact Nat.le_refl _⟩, ⟨pv HO409.out⟩, ⟨pq HO412.out⟩, ⟨pb BK414.out⟩, ⟨bg1 HB.out GE414.out⟩⟩
    rw [if_neg c19] at H
    have c19b0 := decide_eq_false c19
    clear c19
    have H' := am H
    clear H
    obtain ⟨hcz24_0, hcz24_1⟩ := b2 BK414.out
    obtain ⟨hfz24_0, hfz24_1⟩ := f2 BK414.out
    go_wp2_with (first | (refine gl 35 Try.func6 #[.agg #[.slice Ao11 t407.length co11, .slice Ao13 t410.length co13], .int .i64 t413] rfl ?_; (with_reducible refine (spec_StoreRead.calls kj2 _ _ t407 _ _ t410 t413 t416 _ ?side1 ?side2 ?side3 ?side4 A15.out).mono ?_); (case side1 => exact pc ((Kd.V_reads' HO409.out).2.2)); (case side2 => exact (Kd.V_reads' HO409.out).2.1); (case side3 => exact pc ((Kd.Q_reads' HO412.out).2.2)); (case side4 => exact (Kd.Q_reads' HO412.out).2.1); rintro e w25 ⟨rfl, hb⟩; refine ⟨_, rfl, ?_⟩; replace HO409 := am (Kd.V_below (pv HO409.out) hb); replace HO412 := am (Kd.Q_below (pq HO412.out) hb); replace BK414 := am (blk_below (pb BK414.out) hb); replace HB := am (below_step (bg1 HB.out GE414.out) hb); clear hb; obtain ⟨hcz26_0, hcz26_1⟩ := b2 BK414.out; obtain ⟨hfz26_0, hfz26_1⟩ := f2 BK414.out) | (go_at_call 7; (with_reducible refine (spec_StoreOk.calls kj2 _ _ t407 _ _ t410 true _ ?side1 ?side2 ?side3 ?side4 A17.out).mono ?_); (case side1 => exact pc ((Kd.V_reads' HO409.out).2.2)); (case side2 => exact (Kd.V_reads' HO409.out).2.1); (case side3 => exact pc ((Kd.Q_reads' HO412.out).2.2)); (case side4 => exact (Kd.Q_reads' HO412.out).2.1); rintro e w27 ⟨rfl, hb⟩; replace HO409 := am (Kd.V_below (pv HO409.out) hb); replace HO412 := am (Kd.Q_below (pq HO412.out) hb); replace BK414 := am (blk_below (pb BK414.out) hb); replace HB := am (below_step (bg1 HB.out GE414.out) hb); clear hb))
    go_meet
    case rel => exact ⟨_, (decide (t413 > 6)), rf, H', ⟨by have := HJ2.out; first | omega | exact Nat.le_refl _⟩, ⟨pv HO409.out⟩, ⟨pq HO412.out⟩, ⟨pb BK414.out⟩, ⟨bg1 HB.out GE414.out⟩⟩
   case rest =>
    clear HC8
    obtain ⟨kq, x49_7, rfl, HA, HJ7, HO_415000, HO_415001, BK414, HB⟩ := hcut
    cases kq with
    | zero => exact absurd HA.out (by simp [laws_FnReadWrite.j1])
    | succ kj7 =>
     have H := HA.out
     clear HA
     simp only [laws_FnReadWrite.j1] at H
     by_cases c34 : x49_7 = true
     · subst c34
       rw [if_pos rfl] at H
       replace H := Option.bind_eq_some_iff.mp H
       obtain ⟨t418, A350, H⟩ := H
       have A35 := am A350
       clear A350
       obtain rfl := Option.some.inj H
       obtain ⟨hcz36_0, hcz36_1⟩ := b2 BK414.out
       obtain ⟨hfz36_0, hfz36_1⟩ := f2 BK414.out
       go_wp2_with (first | (refine gl 53 Try.func6 #[.agg #[.slice Ao11 t407.length co11, .slice Ao13 t410.length co13], .int .i64 t413] rfl ?_; (with_reducible refine (spec_StoreRead.calls kj7 _ _ t407 _ _ t410 t413 t418 _ ?side1 ?side2 ?side3 ?side4 A35.out).mono ?_); (case side1 => exact pc ((Kd.V_reads' HO_415000.out).2.2)); (case side2 => exact (Kd.V_reads' HO_415000.out).2.1); (case side3 => exact pc ((Kd.Q_reads' HO_415001.out).2.2)); (case side4 => exact (Kd.Q_reads' HO_415001.out).2.1); rintro e w37 ⟨rfl, hb⟩; refine ⟨_, rfl, ?_⟩; replace HO_415000 := am (Kd.V_below (pv HO_415000.out) hb); replace HO_415001 := am (Kd.Q_below (pq HO_415001.out) hb); replace BK414 := am (blk_below (pb BK414.out) hb); replace HB := am (below_step (bg1 HB.out GE414.out) hb); clear hb))
       go_ret
       exact (rq (bg1 HB.out GE414.out))
     replace c34 := Bool.eq_false_iff.mpr c34
     subst c34
     rw [if_neg (show ¬ (false = true) by decide)] at H
     replace H := Option.bind_eq_some_iff.mp H
     obtain ⟨⟨t419, t420⟩, A380, H⟩ := H
     have A38 := am A380
     clear A380
     replace H := Option.bind_eq_some_iff.mp H
     obtain ⟨t421, A390, H⟩ := H
     have A39 := am A390
     clear A390
     have HC40 := am H
     clear H
     obtain ⟨hcz41_0, hcz41_1⟩ := b2 BK414.out
     obtain ⟨hfz41_0, hfz41_1⟩ := f2 BK414.out
     go_upto_region 9 with (first | (refine gl 58 Try.func8 #[.slice Ao11 t407.length co11] rfl ?_; (with_reducible refine (impl_FindOpen.calls kj7 _ _ t407 t419 t420 _ ?side1 ?side2 A38.out).mono ?_); (case side1 => exact pc ((Kd.V_reads' HO_415000.out).2.2)); (case side2 => exact (Kd.V_reads' HO_415000.out).2.1); rintro e w42 ⟨rfl, hb⟩; refine ⟨_, rfl, ?_⟩; replace HO_415000 := am (Kd.V_below (pv HO_415000.out) hb); replace HO_415001 := am (Kd.Q_below (pq HO_415001.out) hb); replace BK414 := am (blk_below (pb BK414.out) hb); replace HB := am (below_step (bg1 HB.out GE414.out) hb); clear hb; obtain ⟨hcz43_0, hcz43_1⟩ := b2 BK414.out; obtain ⟨hfz43_0, hfz43_1⟩ := f2 BK414.out) | (refine gl 63 Try.func9 #[.slice Ao11 t407.length co11] rfl ?_; (with_reducible refine (impl_FindNext.calls _ _ t407 t421 _ ?side1 ?side2 A39.out).mono ?_); (case side1 => exact pc ((Kd.V_reads' HO_415000.out).2.2)); (case side2 => exact (Kd.V_reads' HO_415000.out).2.1); rintro e w44 ⟨rfl, hb⟩; refine ⟨_, rfl, ?_⟩; replace HO_415000 := am (Kd.V_below (pv HO_415000.out) hb); replace HO_415001 := am (Kd.Q_below (pq HO_415001.out) hb); replace BK414 := am (blk_below (pb BK414.out) hb); replace HB := am (below_step (bg1 HB.out GE414.out) hb); clear hb))
     (try simp only [Act.put, List.setIfInBounds_toArray, List.set_cons_zero, List.set_cons_succ])
     go_cut [69] (fun v69 wc => ∃ (kq : Nat) (x69_39 : Bool), v69 = .bool x69_39 ∧ Aside0 (laws_FnReadWrite.j2 kq l1 t413 t419 t421 x69_39 t407 t410 = some r) ∧ Aside0 (kq ≤ kj7) ∧ Aside0 (Kd.V k54 54 wc w.heap.size (fun k_ => some k_ ≠ ((.slice Ao13 t410.length co13) : Value).ownBlock ∧ k_ ≠ gb414) (.slice Ao11 t407.length co11) t407) ∧ Aside0 (Kd.Q (Kd.int .i64) 3 wc w.heap.size (fun _ => True) (.slice Ao13 t410.length co13) t410) ∧ Aside0 (wc.heap[gb414]? = some (.cells #[(.slice Ao11 t407.length co11), (.slice Ao13 t410.length co13)] 26 (0, 0))) ∧ Aside0 (Below w.heap.size w wc))
     case first =>
      have H := HC40.out
      clear HC40
      by_cases c45 : t420 = true
      · subst c45
        rw [if_pos rfl] at H
        have H' := am H
        clear H
        go_wp2
        go_meet
        case rel => exact ⟨_, (decide (t421 > 600)), rf, H', ⟨by have := HJ2.out; have := HJ7.out; first | omega | exact Nat.le_refl _⟩, ⟨pv HO_415000.out⟩, ⟨pq HO_415001.out⟩, ⟨pb BK414.out⟩, ⟨bg1 HB.out GE414.out⟩⟩
      replace c45 := Bool.eq_false_iff.mpr c45
      subst c45
      rw [if_neg (show ¬ (false = true) by decide)] at H
      have H' := am H
      clear H
      go_wp2
      go_meet
      case rel => exact ⟨_, (true), rf, H', ⟨by have := HJ2.out; have := HJ7.out; first | omega | exact Nat.le_refl _⟩, ⟨pv HO_415000.out⟩, ⟨pq HO_415001.out⟩, ⟨pb BK414.out⟩, ⟨bg1 HB.out GE414.out⟩⟩
     case rest =>
      clear HC40
      obtain ⟨kq, x69_39, rfl, HA, HJ39, HO_415000, HO_415001, BK414, HB⟩ := hcut
      cases kq with
      | zero => exact absurd HA.out (by simp [laws_FnReadWrite.j2])
      | succ kj39 =>
       have H := HA.out
       clear HA
       simp only [laws_FnReadWrite.j2] at H
       by_cases c46 : x69_39 = true
       · subst c46
         rw [if_pos rfl] at H
         obtain rfl := Option.some.inj H
         go_wp2
         go_ret
         exact (rq (bg1 HB.out GE414.out))
       replace c46 := Bool.eq_false_iff.mpr c46
       subst c46
       rw [if_neg (show ¬ (false = true) by decide)] at H
       replace H := Option.bind_eq_some_iff.mp H
       obtain ⟨⟨t422, t425⟩, A470, H⟩ := H
       have A47 := am A470
       clear A470
       replace H := Option.bind_eq_some_iff.mp H
       obtain ⟨t427, A480, H⟩ := H
       have A48 := am A480
       clear A480
       obtain ⟨ji49, hji49⟩ : ∃ j_ : Int, (wrap64 (t413 - 1)) = j_ := ⟨_, rfl⟩
       replace H : (if 0 ≤ (ji49) then (if (ji49) < (t427.length : Int) then (if t425 = true then ((impl_StoreOk.f t422 t410).bind fun t431 => (if t431 = true then ((impl_StoreAll.f t422 t410).bind fun t432 => ((laws_lqInts.f kj39 t432 (t427.set ((ji49) : Int).toNat ((l1.length : Int) % 10))).bind fun t435 => (some t435))) else (some false))) else (some false)) else (none)) else (none)) = some r := by first | (rw [hji49] at H; exact H) | (simp only [hji49] at H ⊢; exact H)
       (try rw [hji49] at A47)
       (try rw [hji49] at A48)
       have hji49w : (IntKind.i64.wrap (t413 - 1)) = ji49 := (i64_w _).trans hji49
       obtain ⟨c50b0, H⟩ := ifd H
       obtain ⟨c51b0, H⟩ := ifd H
       obtain ⟨y430, hy430⟩ : ∃ y_ : List Int, y_ = (t427.set ((ji49) : Int).toNat ((l1.length : Int) % 10)) := ⟨_, rfl⟩
       replace H : (if t425 = true then ((impl_StoreOk.f t422 t410).bind fun t431 => (if t431 = true then ((impl_StoreAll.f t422 t410).bind fun t432 => ((laws_lqInts.f kj39 t432 y430).bind fun t435 => (some t435))) else (some false))) else (some false)) = some r := yy hy430 H
       have Ny430 := am hy430
       clear hy430
       by_cases c53 : t425 = true
       rotate_left
       · replace c53 := Bool.eq_false_iff.mpr c53
         subst c53
         rw [if_neg (show ¬ (false = true) by decide)] at H
         obtain rfl := Option.some.inj H
         obtain ⟨hcz87_0, hcz87_1⟩ := b2 BK414.out
         obtain ⟨hfz87_0, hfz87_1⟩ := f2 BK414.out
         go_wp2_with (first | (refine gl 81 Try.func10 #[.slice Ao11 t407.length co11, .int .i64 t419, .agg #[.int .i64 1, .int .i64 t421, .int .i64 t413, .int .i64 ((l1.length : Int) % 10)], .bool false] rfl ?_; (with_reducible refine (impl_FlashWrite.calls kj39 _ _ t407 t419 1 t421 t413 ((l1.length : Int) % 10) false t422 false _ ?side1 ?side2 A47.out).mono ?_); (case side1 => exact pc ((Kd.V_reads' HO_415000.out).2.2)); (case side2 => exact (Kd.V_reads' HO_415000.out).2.1); rintro e w88 ⟨v423, rfl, ho0, hb⟩; refine ⟨_, rfl, ?_⟩; have hstv423 := Kd.V_stored ho0 Try.prog; replace HO_415000 := am (Kd.V_below (pv HO_415000.out) hb); have HO424 := am (Kd.V_lower (Kd.V_mono (ok' := fun k_ => some k_ ≠ (.slice Ao13 t410.length co13 : Value).ownBlock ∧ k_ ≠ gb414) ho0 (fun k_ hk_ => ⟨(Kd.fresh' (Kd.Q_lt (pq HO_415001.out)) k_ hk_), (Kd.freshB (g := gb414) (o := .cells #[.slice Ao11 t407.length co11, .slice Ao13 t410.length co13] 26 (0, 0)) (pb BK414.out) k_ hk_)⟩)) (below_size (bg1 HB.out GE414.out))); replace HO_415001 := am (Kd.Q_below (pq HO_415001.out) hb); replace BK414 := am (blk_below (pb BK414.out) hb); replace HB := am (below_step (bg1 HB.out GE414.out) hb); clear hb ho0; obtain ⟨hcz89_0, hcz89_1⟩ := b2 BK414.out; obtain ⟨hfz89_0, hfz89_1⟩ := f2 BK414.out; obtain ⟨Ao90, co90, eo90⟩ := Kd.V_slice HO424.out; subst eo90) | ((with_reducible refine gate_dst (N := 14) rfl ?_); (try (refine gate_guard (by rfl) ?_; dsimp only)); refine box_event ?hg (N := 14) ?hd (cs := #[.slice none 0 0, .slice none 0 0]) (t := 26) ?hr ?_; (case hd => rfl); (case hg => rfl); (case hr => first | (go_simp; done) | (go_simp; rfl)); intro gb426 hg w91 hbox hb; replace HO_415000 := am (Kd.V_below (Kd.V_elderB (pv HO_415000.out) gb426 (Nat.le_of_eq hg.symm)) hb); replace HO_415001 := am (Kd.Q_below (pq HO_415001.out) hb); replace HO424 := am (Kd.V_below (Kd.V_elderB (pv HO424.out) gb426 (Nat.le_of_eq hg.symm)) hb); have BK426 := am (hbox); have GW426 := am (ge hg (bg1 HB.out GE414.out)); have GE426 := GW426; replace HB := am (below_step (bg1 HB.out GE414.out) hb); have NB414_426 := am (nb hg (pb BK414.out)); have NB426_414 := am (Ne.symm NB414_426.out); replace BK414 := am (blk_below (pb BK414.out) hb); clear hb hbox hg; have hnb92 := NB426_414.out; have hnc92 := NB414_426.out; obtain ⟨hcz93_0, hcz93_1⟩ := b2 BK426.out; obtain ⟨hfz93_0, hfz93_1⟩ := f2 BK426.out; obtain ⟨hcz94_0, hcz94_1⟩ := b2 BK414.out; obtain ⟨hfz94_0, hfz94_1⟩ := f2 BK414.out) | (refine gl 89 Try.func11 #[.agg #[.slice Ao11 t407.length co11, .slice Ao13 t410.length co13]] rfl ?_; (with_reducible refine (impl_StoreAll.calls _ _ t407 _ _ t410 t427 _ ?side1 ?side2 ?side3 ?side4 A48.out).mono ?_); (case side1 => refine (Kd.V_reads' (e := 54) (base := w.heap.size) (ok := fun k_ => ((some k_ ≠ (.slice Ao13 t410.length co13 : Value).ownBlock ∧ k_ ≠ gb414) ∧ k_ ≠ gb426)) (n := t407.length) (c := co11) ?_).2.2; exact (pv ((Kd.V_mono (Kd.V_far (p := ⟨gb426, 1, none⟩) (Kd.V_far (p := ⟨gb426, 0, none⟩) (Kd.V_mono HO_415000.out (fun k_ hk => (⟨hk, hk.2⟩ : _ ∧ k_ ≠ gb426))) (fun _ hk => hk.2) (.slice Ao90 t422.length co90)) (fun _ hk => hk.2) (.slice Ao13 t410.length co13)) (fun _ h_ => h_.1))))); (case side2 => exact (Kd.V_reads' HO_415000.out).2.1); (case side3 => refine (Kd.Q_reads' (e := 3) (base := w.heap.size) (ok := fun k_ => True) (n := t410.length) (c := co13) ?_).2.2; exact (pq ((Kd.Q_mono (Kd.Q_far (p := ⟨gb426, 1, none⟩) (Kd.Q_far (p := ⟨gb426, 0, none⟩) (Kd.Q_types HO_415001.out BK426.out (by decide)) (fun _ hk => hk.2) (.slice Ao90 t422.length co90)) (fun _ hk => hk.2) (.slice Ao13 t410.length co13)) (fun _ h_ => h_.1))))); (case side4 => exact (Kd.Q_reads' HO_415001.out).2.1); rintro e w95 ⟨v428, rfl, ho0, hb⟩; refine ⟨_, rfl, ?_⟩; have hstv428 := Kd.R_stored ho0 Try.prog; replace HO_415000 := am (Kd.V_elder' (pv ((Kd.V_mono (Kd.V_far (p := ⟨gb426, 1, none⟩) (Kd.V_far (p := ⟨gb426, 0, none⟩) (Kd.V_mono HO_415000.out (fun k_ hk => (⟨hk, hk.2⟩ : _ ∧ k_ ≠ gb426))) (fun _ hk => hk.2) (.slice Ao90 t422.length co90)) (fun _ hk => hk.2) (.slice Ao13 t410.length co13)) (fun _ h_ => h_.1)))) (Kd.R_base ho0) hb); replace HO424 := am (Kd.V_elder' (pv ((Kd.V_mono (Kd.V_far (p := ⟨gb426, 1, none⟩) (Kd.V_far (p := ⟨gb426, 0, none⟩) (Kd.V_mono HO424.out (fun k_ hk => (⟨hk, hk.2⟩ : _ ∧ k_ ≠ gb426))) (fun _ hk => hk.2) (.slice Ao90 t422.length co90)) (fun _ hk => hk.2) (.slice Ao13 t410.length co13)) (fun _ h_ => h_.1)))) (Kd.R_base ho0) hb); have HO429 := am (Kd.R_lower (Kd.R_new' ho0 (Kd.Q_lt (pq ((Kd.Q_mono (Kd.Q_far (p := ⟨gb426, 1, none⟩) (Kd.Q_far (p := ⟨gb426, 0, none⟩) (Kd.Q_types HO_415001.out BK426.out (by decide)) (fun _ hk => hk.2) (.slice Ao90 t422.length co90)) (fun _ hk => hk.2) (.slice Ao13 t410.length co13)) (fun _ h_ => h_.1)))))) (below_size (bg2 HB.out GE414.out GE426.out))); replace HO_415001 := am (Kd.Q_elder' (pq ((Kd.Q_mono (Kd.Q_far (p := ⟨gb426, 1, none⟩) (Kd.Q_far (p := ⟨gb426, 0, none⟩) (Kd.Q_types HO_415001.out BK426.out (by decide)) (fun _ hk => hk.2) (.slice Ao90 t422.length co90)) (fun _ hk => hk.2) (.slice Ao13 t410.length co13)) (fun _ h_ => h_.1)))) (Kd.R_base ho0) hb); replace BK414 := am (blk_below (bf2 (pb BK414.out) NB414_426.out) hb); replace BK426 := am (blk_below (bp2 (pb BK426.out)) hb); replace HB := am (below_step (bg2 HB.out GE414.out GE426.out) hb); clear hb ho0; have p52 : 0 ≤ ((ji49) : Int) := ofb; have q52 : ((ji49) : Int) < ((t427.length : Int) : Int) := ofb; obtain ⟨go52, co52, eo52, gb52, gl52, cl52, HG52⟩ := Kd.R_form HO429.out (by omega); (first | cases eo52 | (injection eo52 with ea_ en_ ec_; (first | subst ea_ | (injection ea_ with ea_; subst ea_)); subst ec_; clear en_)); have GB52 := am gb52; have GG52 := am HG52; clear gb52 gl52 HG52; obtain ⟨hx52_0, hf52_0⟩ := Kd.R_celln 0 HO429.out ((ji49) : Int) p52 q52; replace p52 := eq_true p52; replace q52 := eq_true q52; have n_ := am (Kd.R_mono (ok' := (fun k_ => some k_ ≠ (.slice Ao13 t410.length co13 : Value).ownBlock)) HO429.out (fun k_ hk => hk.2)); clear HO429; have HO429 := n_; clear n_; obtain ⟨hy96_, hz96_⟩ := Kd.R_celln 0 HO429.out ((ji49) : Int) (ofb) (ofb); have HP96 := Kd.R_putg HO429.out ((ji49) : Int) ((l1.length : Int) % 10)) | ((with_reducible refine gate_store (t := 3) (p := 94) rfl ?_); refine store_event (t := 3) (p := 94) (v := ?vo_w97) (w1 := (w95.setCell ⟨go52, ((ji49) : Int).toNat, none⟩ (.int .i64 ((l1.length : Int) % 10)))) ?hg ?ho ?hn ?hr ?_; (case ho => rfl); (case hg => rfl); (case hn => rfl); (case hr => first | (go_simp; done) | (go_simp; rfl)); intro w97 hw; have hg : w95.grownBy w97 (some go52) := (by rw [hw]; exact HP96.2); have hp_ : Kd.R (Kd.int .i64) 3 w97 w.heap.size (fun k_ => some k_ ≠ (.slice Ao13 t410.length co13 : Value).ownBlock) (.slice (some ⟨go52, 0, none⟩) t427.length co52) y430 := (by rw [hw, Ny430.out]; exact HP96.1); clear HP96; replace HO_415000 := am (Kd.V_afterv (v := (.slice (some ⟨go52, 0, none⟩) t427.length co52)) (v1 := (.slice (some ⟨go52, 0, none⟩) t427.length co52)) (ok := (fun k_ => some k_ ≠ (.slice Ao13 t410.length co13 : Value).ownBlock ∧ k_ ≠ gb414 ∧ k_ ≠ gb426)) (pv (Kd.V_mono HO_415000.out (fun _ hk => ⟨⟨hk.1.1.1, ⟨hk.1.1.2, hk.1.2⟩⟩, hk.2⟩))) hg (.inl rfl)); replace HO_415001 := am (Kd.Q_after (v := (.slice (some ⟨go52, 0, none⟩) t427.length co52)) (v1 := (.slice (some ⟨go52, 0, none⟩) t427.length co52)) (ok := (fun _ => True)) (pq HO_415001.out) hg (.inl rfl)); replace BK414 := am (blk_grown (g := gb414) (o := .cells #[.slice Ao11 t407.length co11, .slice Ao13 t410.length co13] 26 (0, 0)) (pb BK414.out) hg (Kd.R_ne HO429.out BK414.out (by decide))); replace HO424 := am (Kd.V_afterv (v := (.slice (some ⟨go52, 0, none⟩) t427.length co52)) (v1 := (.slice (some ⟨go52, 0, none⟩) t427.length co52)) (ok := (fun k_ => some k_ ≠ (.slice Ao13 t410.length co13 : Value).ownBlock ∧ k_ ≠ gb414 ∧ k_ ≠ gb426)) (pv (Kd.V_mono HO424.out (fun _ hk => ⟨⟨hk.1.1.1, ⟨hk.1.1.2, hk.1.2⟩⟩, hk.2⟩))) hg (.inl rfl)); replace BK426 := am (blk_grown (g := gb426) (o := .cells #[.slice Ao90 t422.length co90, .slice Ao13 t410.length co13] 26 (0, 0)) (pb BK426.out) hg (Kd.R_ne HO429.out BK426.out (by decide))); replace HO429 := am (hp_); replace HB := am ((by rw [hw]; exact below_set (HB.out) GB52.out : Below w.heap.size w w97)); clear hg hw hp_))
         go_ret
         exact ⟨by first | rfl | (simp [errW_none, errW_some] <;> rfl) | (simp only [← hji49]; first | rfl | (simp [errW_none, errW_some] <;> rfl)) | (simp [*, errW_none, errW_some] <;> rfl), bg2 HB.out GE414.out GE426.out⟩
       subst c53
       rw [if_pos rfl] at H
       replace H := Option.bind_eq_some_iff.mp H
       obtain ⟨t431, A540, H⟩ := H
       have A54 := am A540
       clear A540
       by_cases c55 : t431 = true
       rotate_left
       · replace c55 := Bool.eq_false_iff.mpr c55
         subst c55
         rw [if_neg (show ¬ (false = true) by decide)] at H
         obtain rfl := Option.some.inj H
         obtain ⟨hcz74_0, hcz74_1⟩ := b2 BK414.out
         obtain ⟨hfz74_0, hfz74_1⟩ := f2 BK414.out
         go_wp2_with (first | (refine gl 81 Try.func10 #[.slice Ao11 t407.length co11, .int .i64 t419, .agg #[.int .i64 1, .int .i64 t421, .int .i64 t413, .int .i64 ((l1.length : Int) % 10)], .bool false] rfl ?_; (with_reducible refine (impl_FlashWrite.calls kj39 _ _ t407 t419 1 t421 t413 ((l1.length : Int) % 10) false t422 true _ ?side1 ?side2 A47.out).mono ?_); (case side1 => exact pc ((Kd.V_reads' HO_415000.out).2.2)); (case side2 => exact (Kd.V_reads' HO_415000.out).2.1); rintro e w75 ⟨v423, rfl, ho0, hb⟩; refine ⟨_, rfl, ?_⟩; have hstv423 := Kd.V_stored ho0 Try.prog; replace HO_415000 := am (Kd.V_below (pv HO_415000.out) hb); have HO424 := am (Kd.V_lower (Kd.V_mono (ok' := fun k_ => some k_ ≠ (.slice Ao13 t410.length co13 : Value).ownBlock ∧ k_ ≠ gb414) ho0 (fun k_ hk_ => ⟨(Kd.fresh' (Kd.Q_lt (pq HO_415001.out)) k_ hk_), (Kd.freshB (g := gb414) (o := .cells #[.slice Ao11 t407.length co11, .slice Ao13 t410.length co13] 26 (0, 0)) (pb BK414.out) k_ hk_)⟩)) (below_size (bg1 HB.out GE414.out))); replace HO_415001 := am (Kd.Q_below (pq HO_415001.out) hb); replace BK414 := am (blk_below (pb BK414.out) hb); replace HB := am (below_step (bg1 HB.out GE414.out) hb); clear hb ho0; obtain ⟨hcz76_0, hcz76_1⟩ := b2 BK414.out; obtain ⟨hfz76_0, hfz76_1⟩ := f2 BK414.out; obtain ⟨Ao77, co77, eo77⟩ := Kd.V_slice HO424.out; subst eo77) | ((with_reducible refine gate_dst (N := 14) rfl ?_); (try (refine gate_guard (by rfl) ?_; dsimp only)); refine box_event ?hg (N := 14) ?hd (cs := #[.slice none 0 0, .slice none 0 0]) (t := 26) ?hr ?_; (case hd => rfl); (case hg => rfl); (case hr => first | (go_simp; done) | (go_simp; rfl)); intro gb426 hg w78 hbox hb; replace HO_415000 := am (Kd.V_below (Kd.V_elderB (pv HO_415000.out) gb426 (Nat.le_of_eq hg.symm)) hb); replace HO_415001 := am (Kd.Q_below (pq HO_415001.out) hb); replace HO424 := am (Kd.V_below (Kd.V_elderB (pv HO424.out) gb426 (Nat.le_of_eq hg.symm)) hb); have BK426 := am (hbox); have GW426 := am (ge hg (bg1 HB.out GE414.out)); have GE426 := GW426; replace HB := am (below_step (bg1 HB.out GE414.out) hb); have NB414_426 := am (nb hg (pb BK414.out)); have NB426_414 := am (Ne.symm NB414_426.out); replace BK414 := am (blk_below (pb BK414.out) hb); clear hb hbox hg; have hnb79 := NB426_414.out; have hnc79 := NB414_426.out; obtain ⟨hcz80_0, hcz80_1⟩ := b2 BK426.out; obtain ⟨hfz80_0, hfz80_1⟩ := f2 BK426.out; obtain ⟨hcz81_0, hcz81_1⟩ := b2 BK414.out; obtain ⟨hfz81_0, hfz81_1⟩ := f2 BK414.out) | (refine gl 89 Try.func11 #[.agg #[.slice Ao11 t407.length co11, .slice Ao13 t410.length co13]] rfl ?_; (with_reducible refine (impl_StoreAll.calls _ _ t407 _ _ t410 t427 _ ?side1 ?side2 ?side3 ?side4 A48.out).mono ?_); (case side1 => refine (Kd.V_reads' (e := 54) (base := w.heap.size) (ok := fun k_ => ((some k_ ≠ (.slice Ao13 t410.length co13 : Value).ownBlock ∧ k_ ≠ gb414) ∧ k_ ≠ gb426)) (n := t407.length) (c := co11) ?_).2.2; exact (pv ((Kd.V_mono (Kd.V_far (p := ⟨gb426, 1, none⟩) (Kd.V_far (p := ⟨gb426, 0, none⟩) (Kd.V_mono HO_415000.out (fun k_ hk => (⟨hk, hk.2⟩ : _ ∧ k_ ≠ gb426))) (fun _ hk => hk.2) (.slice Ao77 t422.length co77)) (fun _ hk => hk.2) (.slice Ao13 t410.length co13)) (fun _ h_ => h_.1))))); (case side2 => exact (Kd.V_reads' HO_415000.out).2.1); (case side3 => refine (Kd.Q_reads' (e := 3) (base := w.heap.size) (ok := fun k_ => True) (n := t410.length) (c := co13) ?_).2.2; exact (pq ((Kd.Q_mono (Kd.Q_far (p := ⟨gb426, 1, none⟩) (Kd.Q_far (p := ⟨gb426, 0, none⟩) (Kd.Q_types HO_415001.out BK426.out (by decide)) (fun _ hk => hk.2) (.slice Ao77 t422.length co77)) (fun _ hk => hk.2) (.slice Ao13 t410.length co13)) (fun _ h_ => h_.1))))); (case side4 => exact (Kd.Q_reads' HO_415001.out).2.1); rintro e w82 ⟨v428, rfl, ho0, hb⟩; refine ⟨_, rfl, ?_⟩; have hstv428 := Kd.R_stored ho0 Try.prog; replace HO_415000 := am (Kd.V_elder' (pv ((Kd.V_mono (Kd.V_far (p := ⟨gb426, 1, none⟩) (Kd.V_far (p := ⟨gb426, 0, none⟩) (Kd.V_mono HO_415000.out (fun k_ hk => (⟨hk, hk.2⟩ : _ ∧ k_ ≠ gb426))) (fun _ hk => hk.2) (.slice Ao77 t422.length co77)) (fun _ hk => hk.2) (.slice Ao13 t410.length co13)) (fun _ h_ => h_.1)))) (Kd.R_base ho0) hb); replace HO424 := am (Kd.V_elder' (pv ((Kd.V_mono (Kd.V_far (p := ⟨gb426, 1, none⟩) (Kd.V_far (p := ⟨gb426, 0, none⟩) (Kd.V_mono HO424.out (fun k_ hk => (⟨hk, hk.2⟩ : _ ∧ k_ ≠ gb426))) (fun _ hk => hk.2) (.slice Ao77 t422.length co77)) (fun _ hk => hk.2) (.slice Ao13 t410.length co13)) (fun _ h_ => h_.1)))) (Kd.R_base ho0) hb); have HO429 := am (Kd.R_lower (Kd.R_new' ho0 (Kd.Q_lt (pq ((Kd.Q_mono (Kd.Q_far (p := ⟨gb426, 1, none⟩) (Kd.Q_far (p := ⟨gb426, 0, none⟩) (Kd.Q_types HO_415001.out BK426.out (by decide)) (fun _ hk => hk.2) (.slice Ao77 t422.length co77)) (fun _ hk => hk.2) (.slice Ao13 t410.length co13)) (fun _ h_ => h_.1)))))) (below_size (bg2 HB.out GE414.out GE426.out))); replace HO_415001 := am (Kd.Q_elder' (pq ((Kd.Q_mono (Kd.Q_far (p := ⟨gb426, 1, none⟩) (Kd.Q_far (p := ⟨gb426, 0, none⟩) (Kd.Q_types HO_415001.out BK426.out (by decide)) (fun _ hk => hk.2) (.slice Ao77 t422.length co77)) (fun _ hk => hk.2) (.slice Ao13 t410.length co13)) (fun _ h_ => h_.1)))) (Kd.R_base ho0) hb); replace BK414 := am (blk_below (bf2 (pb BK414.out) NB414_426.out) hb); replace BK426 := am (blk_below (bp2 (pb BK426.out)) hb); replace HB := am (below_step (bg2 HB.out GE414.out GE426.out) hb); clear hb ho0; have p52 : 0 ≤ ((ji49) : Int) := ofb; have q52 : ((ji49) : Int) < ((t427.length : Int) : Int) := ofb; obtain ⟨go52, co52, eo52, gb52, gl52, cl52, HG52⟩ := Kd.R_form HO429.out (by omega); (first | cases eo52 | (injection eo52 with ea_ en_ ec_; (first | subst ea_ | (injection ea_ with ea_; subst ea_)); subst ec_; clear en_)); have GB52 := am gb52; have GG52 := am HG52; clear gb52 gl52 HG52; obtain ⟨hx52_0, hf52_0⟩ := Kd.R_celln 0 HO429.out ((ji49) : Int) p52 q52; replace p52 := eq_true p52; replace q52 := eq_true q52; have n_ := am (Kd.R_mono (ok' := (fun k_ => some k_ ≠ (.slice Ao13 t410.length co13 : Value).ownBlock)) HO429.out (fun k_ hk => hk.2)); clear HO429; have HO429 := n_; clear n_; obtain ⟨hy83_, hz83_⟩ := Kd.R_celln 0 HO429.out ((ji49) : Int) (ofb) (ofb); have HP83 := Kd.R_putg HO429.out ((ji49) : Int) ((l1.length : Int) % 10)) | ((with_reducible refine gate_store (t := 3) (p := 94) rfl ?_); refine store_event (t := 3) (p := 94) (v := ?vo_w84) (w1 := (w82.setCell ⟨go52, ((ji49) : Int).toNat, none⟩ (.int .i64 ((l1.length : Int) % 10)))) ?hg ?ho ?hn ?hr ?_; (case ho => rfl); (case hg => rfl); (case hn => rfl); (case hr => first | (go_simp; done) | (go_simp; rfl)); intro w84 hw; have hg : w82.grownBy w84 (some go52) := (by rw [hw]; exact HP83.2); have hp_ : Kd.R (Kd.int .i64) 3 w84 w.heap.size (fun k_ => some k_ ≠ (.slice Ao13 t410.length co13 : Value).ownBlock) (.slice (some ⟨go52, 0, none⟩) t427.length co52) y430 := (by rw [hw, Ny430.out]; exact HP83.1); clear HP83; replace HO_415000 := am (Kd.V_afterv (v := (.slice (some ⟨go52, 0, none⟩) t427.length co52)) (v1 := (.slice (some ⟨go52, 0, none⟩) t427.length co52)) (ok := (fun k_ => some k_ ≠ (.slice Ao13 t410.length co13 : Value).ownBlock ∧ k_ ≠ gb414 ∧ k_ ≠ gb426)) (pv (Kd.V_mono HO_415000.out (fun _ hk => ⟨⟨hk.1.1.1, ⟨hk.1.1.2, hk.1.2⟩⟩, hk.2⟩))) hg (.inl rfl)); replace HO_415001 := am (Kd.Q_after (v := (.slice (some ⟨go52, 0, none⟩) t427.length co52)) (v1 := (.slice (some ⟨go52, 0, none⟩) t427.length co52)) (ok := (fun _ => True)) (pq HO_415001.out) hg (.inl rfl)); replace BK414 := am (blk_grown (g := gb414) (o := .cells #[.slice Ao11 t407.length co11, .slice Ao13 t410.length co13] 26 (0, 0)) (pb BK414.out) hg (Kd.R_ne HO429.out BK414.out (by decide))); replace HO424 := am (Kd.V_afterv (v := (.slice (some ⟨go52, 0, none⟩) t427.length co52)) (v1 := (.slice (some ⟨go52, 0, none⟩) t427.length co52)) (ok := (fun k_ => some k_ ≠ (.slice Ao13 t410.length co13 : Value).ownBlock ∧ k_ ≠ gb414 ∧ k_ ≠ gb426)) (pv (Kd.V_mono HO424.out (fun _ hk => ⟨⟨hk.1.1.1, ⟨hk.1.1.2, hk.1.2⟩⟩, hk.2⟩))) hg (.inl rfl)); replace BK426 := am (blk_grown (g := gb426) (o := .cells #[.slice Ao77 t422.length co77, .slice Ao13 t410.length co13] 26 (0, 0)) (pb BK426.out) hg (Kd.R_ne HO429.out BK426.out (by decide))); replace HO429 := am (hp_); replace HB := am ((by rw [hw]; exact below_set (HB.out) GB52.out : Below w.heap.size w w84)); clear hg hw hp_; obtain ⟨hcz85_0, hcz85_1⟩ := b2 BK426.out; obtain ⟨hfz85_0, hfz85_1⟩ := f2 BK426.out) | (go_at_call 12; (with_reducible refine (impl_StoreOk.calls _ _ t422 _ _ t410 false _ ?side1 ?side2 ?side3 ?side4 A54.out).mono ?_); (case side1 => exact pc ((Kd.V_reads' HO424.out).2.2)); (case side2 => exact (Kd.V_reads' HO424.out).2.1); (case side3 => exact pc ((Kd.Q_reads' HO_415001.out).2.2)); (case side4 => exact (Kd.Q_reads' HO_415001.out).2.1); rintro e w86 ⟨rfl, hb⟩; replace HO_415000 := am (Kd.V_below (pv HO_415000.out) hb); replace HO_415001 := am (Kd.Q_below (pq HO_415001.out) hb); replace HO424 := am (Kd.V_below (pv HO424.out) hb); replace HO429 := am (Kd.R_below (pr HO429.out) hb); replace BK414 := am (blk_below (pb BK414.out) hb); replace BK426 := am (blk_below (pb BK426.out) hb); replace HB := am (below_step (bg2 HB.out GE414.out GE426.out) hb); clear hb))
         go_ret
         exact ⟨by first | rfl | (simp [errW_none, errW_some] <;> rfl) | (simp only [← hji49]; first | rfl | (simp [errW_none, errW_some] <;> rfl)) | (simp [*, errW_none, errW_some] <;> rfl), bg2 HB.out GE414.out GE426.out⟩
       subst c55
       rw [if_pos rfl] at H
       replace H := Option.bind_eq_some_iff.mp H
       obtain ⟨t432, A560, H⟩ := H
       have A56 := am A560
       clear A560
       replace H := Option.bind_eq_some_iff.mp H
       obtain ⟨t435, A570, H⟩ := H
       have A57 := am A570
       clear A570
       obtain rfl := Option.some.inj H
       obtain ⟨hcz58_0, hcz58_1⟩ := b2 BK414.out
       obtain ⟨hfz58_0, hfz58_1⟩ := f2 BK414.out
       go_wp2_with (first | (refine gl 81 Try.func10 #[.slice Ao11 t407.length co11, .int .i64 t419, .agg #[.int .i64 1, .int .i64 t421, .int .i64 t413, .int .i64 ((l1.length : Int) % 10)], .bool false] rfl ?_; (with_reducible refine (impl_FlashWrite.calls kj39 _ _ t407 t419 1 t421 t413 ((l1.length : Int) % 10) false t422 true _ ?side1 ?side2 A47.out).mono ?_); (case side1 => exact pc ((Kd.V_reads' HO_415000.out).2.2)); (case side2 => exact (Kd.V_reads' HO_415000.out).2.1); rintro e w59 ⟨v423, rfl, ho0, hb⟩; refine ⟨_, rfl, ?_⟩; have hstv423 := Kd.V_stored ho0 Try.prog; replace HO_415000 := am (Kd.V_below (pv HO_415000.out) hb); have HO424 := am (Kd.V_lower (Kd.V_mono (ok' := fun k_ => some k_ ≠ (.slice Ao13 t410.length co13 : Value).ownBlock ∧ k_ ≠ gb414) ho0 (fun k_ hk_ => ⟨(Kd.fresh' (Kd.Q_lt (pq HO_415001.out)) k_ hk_), (Kd.freshB (g := gb414) (o := .cells #[.slice Ao11 t407.length co11, .slice Ao13 t410.length co13] 26 (0, 0)) (pb BK414.out) k_ hk_)⟩)) (below_size (bg1 HB.out GE414.out))); replace HO_415001 := am (Kd.Q_below (pq HO_415001.out) hb); replace BK414 := am (blk_below (pb BK414.out) hb); replace HB := am (below_step (bg1 HB.out GE414.out) hb); clear hb ho0; obtain ⟨hcz60_0, hcz60_1⟩ := b2 BK414.out; obtain ⟨hfz60_0, hfz60_1⟩ := f2 BK414.out; obtain ⟨Ao61, co61, eo61⟩ := Kd.V_slice HO424.out; subst eo61) | ((with_reducible refine gate_dst (N := 14) rfl ?_); (try (refine gate_guard (by rfl) ?_; dsimp only)); refine box_event ?hg (N := 14) ?hd (cs := #[.slice none 0 0, .slice none 0 0]) (t := 26) ?hr ?_; (case hd => rfl); (case hg => rfl); (case hr => first | (go_simp; done) | (go_simp; rfl)); intro gb426 hg w62 hbox hb; replace HO_415000 := am (Kd.V_below (Kd.V_elderB (pv HO_415000.out) gb426 (Nat.le_of_eq hg.symm)) hb); replace HO_415001 := am (Kd.Q_below (pq HO_415001.out) hb); replace HO424 := am (Kd.V_below (Kd.V_elderB (pv HO424.out) gb426 (Nat.le_of_eq hg.symm)) hb); have BK426 := am (hbox); have GW426 := am (ge hg (bg1 HB.out GE414.out)); have GE426 := GW426; replace HB := am (below_step (bg1 HB.out GE414.out) hb); have NB414_426 := am (nb hg (pb BK414.out)); have NB426_414 := am (Ne.symm NB414_426.out); replace BK414 := am (blk_below (pb BK414.out) hb); clear hb hbox hg; have hnb63 := NB426_414.out; have hnc63 := NB414_426.out; obtain ⟨hcz64_0, hcz64_1⟩ := b2 BK426.out; obtain ⟨hfz64_0, hfz64_1⟩ := f2 BK426.out; obtain ⟨hcz65_0, hcz65_1⟩ := b2 BK414.out; obtain ⟨hfz65_0, hfz65_1⟩ := f2 BK414.out) | (refine gl 89 Try.func11 #[.agg #[.slice Ao11 t407.length co11, .slice Ao13 t410.length co13]] rfl ?_; (with_reducible refine (impl_StoreAll.calls _ _ t407 _ _ t410 t427 _ ?side1 ?side2 ?side3 ?side4 A48.out).mono ?_); (case side1 => refine (Kd.V_reads' (e := 54) (base := w.heap.size) (ok := fun k_ => ((some k_ ≠ (.slice Ao13 t410.length co13 : Value).ownBlock ∧ k_ ≠ gb414) ∧ k_ ≠ gb426)) (n := t407.length) (c := co11) ?_).2.2; exact (pv ((Kd.V_mono (Kd.V_far (p := ⟨gb426, 1, none⟩) (Kd.V_far (p := ⟨gb426, 0, none⟩) (Kd.V_mono HO_415000.out (fun k_ hk => (⟨hk, hk.2⟩ : _ ∧ k_ ≠ gb426))) (fun _ hk => hk.2) (.slice Ao61 t422.length co61)) (fun _ hk => hk.2) (.slice Ao13 t410.length co13)) (fun _ h_ => h_.1))))); (case side2 => exact (Kd.V_reads' HO_415000.out).2.1); (case side3 => refine (Kd.Q_reads' (e := 3) (base := w.heap.size) (ok := fun k_ => True) (n := t410.length) (c := co13) ?_).2.2; exact (pq ((Kd.Q_mono (Kd.Q_far (p := ⟨gb426, 1, none⟩) (Kd.Q_far (p := ⟨gb426, 0, none⟩) (Kd.Q_types HO_415001.out BK426.out (by decide)) (fun _ hk => hk.2) (.slice Ao61 t422.length co61)) (fun _ hk => hk.2) (.slice Ao13 t410.length co13)) (fun _ h_ => h_.1))))); (case side4 => exact (Kd.Q_reads' HO_415001.out).2.1); rintro e w66 ⟨v428, rfl, ho0, hb⟩; refine ⟨_, rfl, ?_⟩; have hstv428 := Kd.R_stored ho0 Try.prog; replace HO_415000 := am (Kd.V_elder' (pv ((Kd.V_mono (Kd.V_far (p := ⟨gb426, 1, none⟩) (Kd.V_far (p := ⟨gb426, 0, none⟩) (Kd.V_mono HO_415000.out (fun k_ hk => (⟨hk, hk.2⟩ : _ ∧ k_ ≠ gb426))) (fun _ hk => hk.2) (.slice Ao61 t422.length co61)) (fun _ hk => hk.2) (.slice Ao13 t410.length co13)) (fun _ h_ => h_.1)))) (Kd.R_base ho0) hb); replace HO424 := am (Kd.V_elder' (pv ((Kd.V_mono (Kd.V_far (p := ⟨gb426, 1, none⟩) (Kd.V_far (p := ⟨gb426, 0, none⟩) (Kd.V_mono HO424.out (fun k_ hk => (⟨hk, hk.2⟩ : _ ∧ k_ ≠ gb426))) (fun _ hk => hk.2) (.slice Ao61 t422.length co61)) (fun _ hk => hk.2) (.slice Ao13 t410.length co13)) (fun _ h_ => h_.1)))) (Kd.R_base ho0) hb); have HO429 := am (Kd.R_lower (Kd.R_new' ho0 (Kd.Q_lt (pq ((Kd.Q_mono (Kd.Q_far (p := ⟨gb426, 1, none⟩) (Kd.Q_far (p := ⟨gb426, 0, none⟩) (Kd.Q_types HO_415001.out BK426.out (by decide)) (fun _ hk => hk.2) (.slice Ao61 t422.length co61)) (fun _ hk => hk.2) (.slice Ao13 t410.length co13)) (fun _ h_ => h_.1)))))) (below_size (bg2 HB.out GE414.out GE426.out))); replace HO_415001 := am (Kd.Q_elder' (pq ((Kd.Q_mono (Kd.Q_far (p := ⟨gb426, 1, none⟩) (Kd.Q_far (p := ⟨gb426, 0, none⟩) (Kd.Q_types HO_415001.out BK426.out (by decide)) (fun _ hk => hk.2) (.slice Ao61 t422.length co61)) (fun _ hk => hk.2) (.slice Ao13 t410.length co13)) (fun _ h_ => h_.1)))) (Kd.R_base ho0) hb); replace BK414 := am (blk_below (bf2 (pb BK414.out) NB414_426.out) hb); replace BK426 := am (blk_below (bp2 (pb BK426.out)) hb); replace HB := am (below_step (bg2 HB.out GE414.out GE426.out) hb); clear hb ho0; have p52 : 0 ≤ ((ji49) : Int) := ofb; have q52 : ((ji49) : Int) < ((t427.length : Int) : Int) := ofb; obtain ⟨go52, co52, eo52, gb52, gl52, cl52, HG52⟩ := Kd.R_form HO429.out (by omega); (first | cases eo52 | (injection eo52 with ea_ en_ ec_; (first | subst ea_ | (injection ea_ with ea_; subst ea_)); subst ec_; clear en_)); have GB52 := am gb52; have GG52 := am HG52; clear gb52 gl52 HG52; obtain ⟨hx52_0, hf52_0⟩ := Kd.R_celln 0 HO429.out ((ji49) : Int) p52 q52; replace p52 := eq_true p52; replace q52 := eq_true q52; have n_ := am (Kd.R_mono (ok' := (fun k_ => some k_ ≠ (.slice Ao13 t410.length co13 : Value).ownBlock)) HO429.out (fun k_ hk => hk.2)); clear HO429; have HO429 := n_; clear n_; obtain ⟨hy67_, hz67_⟩ := Kd.R_celln 0 HO429.out ((ji49) : Int) (ofb) (ofb); have HP67 := Kd.R_putg HO429.out ((ji49) : Int) ((l1.length : Int) % 10)) | ((with_reducible refine gate_store (t := 3) (p := 94) rfl ?_); refine store_event (t := 3) (p := 94) (v := ?vo_w68) (w1 := (w66.setCell ⟨go52, ((ji49) : Int).toNat, none⟩ (.int .i64 ((l1.length : Int) % 10)))) ?hg ?ho ?hn ?hr ?_; (case ho => rfl); (case hg => rfl); (case hn => rfl); (case hr => first | (go_simp; done) | (go_simp; rfl)); intro w68 hw; have hg : w66.grownBy w68 (some go52) := (by rw [hw]; exact HP67.2); have hp_ : Kd.R (Kd.int .i64) 3 w68 w.heap.size (fun k_ => some k_ ≠ (.slice Ao13 t410.length co13 : Value).ownBlock) (.slice (some ⟨go52, 0, none⟩) t427.length co52) y430 := (by rw [hw, Ny430.out]; exact HP67.1); clear HP67; replace HO_415000 := am (Kd.V_afterv (v := (.slice (some ⟨go52, 0, none⟩) t427.length co52)) (v1 := (.slice (some ⟨go52, 0, none⟩) t427.length co52)) (ok := (fun k_ => some k_ ≠ (.slice Ao13 t410.length co13 : Value).ownBlock ∧ k_ ≠ gb414 ∧ k_ ≠ gb426)) (pv (Kd.V_mono HO_415000.out (fun _ hk => ⟨⟨hk.1.1.1, ⟨hk.1.1.2, hk.1.2⟩⟩, hk.2⟩))) hg (.inl rfl)); replace HO_415001 := am (Kd.Q_after (v := (.slice (some ⟨go52, 0, none⟩) t427.length co52)) (v1 := (.slice (some ⟨go52, 0, none⟩) t427.length co52)) (ok := (fun _ => True)) (pq HO_415001.out) hg (.inl rfl)); replace BK414 := am (blk_grown (g := gb414) (o := .cells #[.slice Ao11 t407.length co11, .slice Ao13 t410.length co13] 26 (0, 0)) (pb BK414.out) hg (Kd.R_ne HO429.out BK414.out (by decide))); replace HO424 := am (Kd.V_afterv (v := (.slice (some ⟨go52, 0, none⟩) t427.length co52)) (v1 := (.slice (some ⟨go52, 0, none⟩) t427.length co52)) (ok := (fun k_ => some k_ ≠ (.slice Ao13 t410.length co13 : Value).ownBlock ∧ k_ ≠ gb414 ∧ k_ ≠ gb426)) (pv (Kd.V_mono HO424.out (fun _ hk => ⟨⟨hk.1.1.1, ⟨hk.1.1.2, hk.1.2⟩⟩, hk.2⟩))) hg (.inl rfl)); replace BK426 := am (blk_grown (g := gb426) (o := .cells #[.slice Ao61 t422.length co61, .slice Ao13 t410.length co13] 26 (0, 0)) (pb BK426.out) hg (Kd.R_ne HO429.out BK426.out (by decide))); replace HO429 := am (hp_); replace HB := am ((by rw [hw]; exact below_set (HB.out) GB52.out : Below w.heap.size w w68)); clear hg hw hp_; obtain ⟨hcz69_0, hcz69_1⟩ := b2 BK426.out; obtain ⟨hfz69_0, hfz69_1⟩ := f2 BK426.out) | (go_at_call 12; (with_reducible refine (impl_StoreOk.calls _ _ t422 _ _ t410 true _ ?side1 ?side2 ?side3 ?side4 A54.out).mono ?_); (case side1 => exact pc ((Kd.V_reads' HO424.out).2.2)); (case side2 => exact (Kd.V_reads' HO424.out).2.1); (case side3 => exact pc ((Kd.Q_reads' HO_415001.out).2.2)); (case side4 => exact (Kd.Q_reads' HO_415001.out).2.1); rintro e w70 ⟨rfl, hb⟩; replace HO_415000 := am (Kd.V_below (pv HO_415000.out) hb); replace HO_415001 := am (Kd.Q_below (pq HO_415001.out) hb); replace HO424 := am (Kd.V_below (pv HO424.out) hb); replace HO429 := am (Kd.R_below (pr HO429.out) hb); replace BK414 := am (blk_below (pb BK414.out) hb); replace BK426 := am (blk_below (pb BK426.out) hb); replace HB := am (below_step (bg2 HB.out GE414.out GE426.out) hb); clear hb; obtain ⟨hcz71_0, hcz71_1⟩ := b2 BK426.out; obtain ⟨hfz71_0, hfz71_1⟩ := f2 BK426.out) | (go_at_call 11; (with_reducible refine (impl_StoreAll.calls _ _ t422 _ _ t410 t432 _ ?side1 ?side2 ?side3 ?side4 A56.out).mono ?_); (case side1 => exact pc ((Kd.V_reads' HO424.out).2.2)); (case side2 => exact (Kd.V_reads' HO424.out).2.1); (case side3 => exact pc ((Kd.Q_reads' HO_415001.out).2.2)); (case side4 => exact (Kd.Q_reads' HO_415001.out).2.1); rintro e w72 ⟨v433, rfl, ho0, hb⟩; replace HO_415000 := am (Kd.V_elder' (pv HO_415000.out) (Kd.R_base ho0) hb); replace HO424 := am (Kd.V_elder' (pv HO424.out) (Kd.R_base ho0) hb); have HO434 := am (Kd.R_lower (Kd.R_new' (Kd.R_new' ho0 (Kd.Q_lt (pq HO_415001.out))) (Kd.R_lt (pr HO429.out))) (below_size (bg2 HB.out GE414.out GE426.out))); replace HO_415001 := am (Kd.Q_elder' (pq HO_415001.out) (Kd.R_base ho0) hb); replace HO429 := am (Kd.R_elder' (pr HO429.out) (Kd.R_base ho0) hb); replace BK414 := am (blk_below (pb BK414.out) hb); replace BK426 := am (blk_below (pb BK426.out) hb); replace HB := am (below_step (bg2 HB.out GE414.out GE426.out) hb); clear hb ho0; obtain ⟨Ao73, co73, eo73⟩ := Kd.R_slice HO434.out; subst eo73) | (go_at_call 13; refine calls_of_args (args' := #[.slice Ao73 t432.length co73, .slice (some ⟨go52, 0, none⟩) y430.length co52]) (by first | (rw [show y430.length = t427.length from (Kd.R_reads' HO429.out).1.symm] <;> rfl) | rfl) ?_; (with_reducible refine (laws_lqInts.calls kj39 _ _ t432 _ _ y430 t435 _ ?side1 ?side2 ?side3 ?side4 A57.out).mono ?_); (case side1 => exact pc ((Kd.R_reads' HO434.out).2.2)); (case side2 => exact (Kd.R_reads' HO434.out).2.1); (case side3 => exact pc ((Kd.R_reads' HO429.out).2.2)); (case side4 => rw [show y430.length = t427.length from (Kd.R_reads' HO429.out).1.symm]; exact (Kd.R_reads' HO429.out).2.1); rintro e w' ⟨rfl, ⟨nd, rfl⟩⟩))
       go_ret
       exact ⟨by first | rfl | (simp [errW_none, errW_some] <;> rfl) | (simp only [← hji49]; first | rfl | (simp [errW_none, errW_some] <;> rfl)) | (simp [*, errW_none, errW_some] <;> rfl), bg2 HB.out GE414.out GE426.out⟩
def laws_FnReadWrite.Pure : Prop := ∀ (l0 : List Int) (l1 : List Int), l0.length ≤ maxLen → l0.length * 1 ≤ 140737488351232 → (∀ x ∈ l0, (Lit.int .u8 x).wf = true) → l1.length ≤ maxLen → l1.length * 1 ≤ 140737488351232 → (∀ x ∈ l1, (Lit.int .u8 x).wf = true) → ∃ k, laws_FnReadWrite.f k l0 l1 = some true
theorem laws_FnReadWrite.walk (P : laws_FnReadWrite.Pure) (a0 : Option Addr) (len0 cap0 : Nat) (z0 : List Int) (a1 : Option Addr) (len1 cap1 : Nat) (z1 : List Int) (w : World) (w0 : (a0 = none ∧ len0 = 0 ∧ cap0 = 0 ∧ z0 = []) ∨ ∃ x, a0 = some x ∧ len0 ≤ cap0 ∧ cap0 ≤ maxLen ∧ z0.length = cap0 ∧ (∀ i, i < z0.length → w.cell? (x.add i) = some (.int .u8 (z0.getD i 0))) ∧ ∀ n ∈ z0, (Lit.int .u8 n).wf = true) (y0 : len0 * 1 ≤ 140737488351232) (w1 : (a1 = none ∧ len1 = 0 ∧ cap1 = 0 ∧ z1 = []) ∨ ∃ x, a1 = some x ∧ len1 ≤ cap1 ∧ cap1 ≤ maxLen ∧ z1.length = cap1 ∧ (∀ i, i < z1.length → w.cell? (x.add i) = some (.int .u8 (z1.getD i 0))) ∧ ∀ n ∈ z1, (Lit.int .u8 n).wf = true) (y1 : len1 * 1 ≤ 140737488351232) :
 Calls Try.prog 3 #[.slice a0 len0 cap0, .slice a1 len1 cap1] w fun e w' => e = .returned (.bool true) ∧ Below w.heap.size w w' := by
 obtain ⟨l0, rfl, hr0, hm0, hw0, hc0⟩ := ReadsInt.ofRowC w0
 obtain ⟨l1, rfl, hr1, hm1, hw1, hc1⟩ := ReadsInt.ofRowC w1
 obtain ⟨k, h⟩ := P l0 l1 hm0 y0 hw0 hm1 y1 hw1
 refine (laws_FnReadWrite.calls k _ _ l0 _ _ l1 true w (Kd.C_of_reads (d := (0 : Int)) (h1 := fun _ => rfl) hr0) hc0 (Kd.C_of_reads (d := (0 : Int)) (h1 := fun _ => rfl) hr1) hc1 h).mono ?_
 rintro e w' ⟨rfl, hd⟩
 exact ⟨rfl, hd⟩
end Go.Proofs.Ytghmnlcmhpdcaaa.R5
