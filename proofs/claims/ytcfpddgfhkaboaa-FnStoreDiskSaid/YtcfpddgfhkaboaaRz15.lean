-- printed by wip/pp/pp.py
import Derived.Test.YtcfpddgfhkaboaaRz0
import Derived.Test.YtcfpddgfhkaboaaRz10
import Derived.Test.YtcfpddgfhkaboaaRz11
import Derived.Test.YtcfpddgfhkaboaaRz14
namespace Go.Proofs.Ytcfpddgfhkaboaa.Rz
open Go.RowKit Go.Proofs.YtcfpddgfhkaboaaW.PrintWords Go.Proofs.YtcfpddgfhkaboaaW.PrintLast Go.Proofs.YtcfpddgfhkaboaaW.PrintMore
attribute [local go_sem] max2_int min2_int max_two min_two max_three min_three max_four min_four
set_option linter.unusedVariables false
set_option linter.unusedSimpArgs false
mutual
def laws_FnStoreDisk.j0 : Nat → List Int → List Int → Bool → Option (Bool)
 | 0, _, _, _ => none
 | k + 1, x0, x1, x18 => if x18 = true then (some true) else ((spec_DrawStoreOk.f k x0).bind fun bt413 => ((impl_StoreOk.f bt413.1 bt413.2).bind fun t420 => ((spec_StoreOk.f k bt413.1 bt413.2).bind fun t421 => (if (t420 != t421) = true then (laws_FnStoreDisk.j1 k x1 t420 true bt413.1 bt413.2) else (laws_FnStoreDisk.j1 k x1 t420 (!t420) bt413.1 bt413.2)))))
def laws_FnStoreDisk.j1 : Nat → List Int → Bool → Bool → List (S60) → List Int → Option (Bool)
 | 0, _, _, _, _, _ => none
 | k + 1, x1, x6, x30, x420000, x420001 => if x30 = true then ((spec_StoreOk.f k x420000 x420001).bind fun t422 => (some (x6 == t422))) else ((some (([] : List Int) : List Int)).bind fun y424 => (if y424.length + x420001.length < 17592186044416 then ((some (y424 ++ x420001 : List Int)).bind fun y427 => (if 0 ≤ ((1 + ((x1.length : Int) % 6)) - 1) then (if ((1 + ((x1.length : Int) % 6)) - 1) < (x420001.length : Int) then (if ((1 + ((x1.length : Int) % 6)) - 1) < (y427.length : Int) then ((some (y427.set (((1 + ((x1.length : Int) % 6)) - 1) : Int).toNat (Int.tmod (wrap64 ((rd x420001 ((1 + ((x1.length : Int) % 6)) - 1)) + 1)) 10) : List Int)).bind fun y431 => ((impl_FindLast.f x420000 (1 + ((x1.length : Int) % 6))).bind fun bt432 => (if bt432.2.2.2.2 = true then (laws_FnStoreDisk.j2 k bt432.2.2.2.2 (bt432.1 == 2) x420000 x420001 x420000 y431) else (laws_FnStoreDisk.j2 k bt432.2.2.2.2 false x420000 x420001 x420000 y431)))) else (none)) else (none)) else (none))) else (none)))
def laws_FnStoreDisk.j2 : Nat → Bool → Bool → List (S60) → List Int → List (S60) → List Int → Option (Bool)
 | 0, _, _, _, _, _, _ => none
 | k + 1, x10, x70, x420000, x420001, x424000, x424001 => if x70 = true then ((impl_StoreOk.f x424000 x424001).bind fun t438 => (some (!t438))) else ((impl_StoreOk.f x424000 x424001).bind fun t439 => (if t439 = true then (if x10 = true then ((impl_StoreAll.f x424000 x424001).bind fun t440 => ((impl_StoreAll.f x420000 x420001).bind fun t443 => ((laws_lqInts.f k t440 t443).bind fun t446 => (some t446)))) else (some true)) else (some false)))
end
def laws_FnStoreDisk.f (k : Nat) (l0 : List Int) (l1 : List Int) : Option (Bool) := if (l0.length : Int) > 1048576 then (laws_FnStoreDisk.j0 k l0 l1 true) else (laws_FnStoreDisk.j0 k l0 l1 (decide ((l1.length : Int) > 1048576)))
theorem laws_FnStoreDisk.mono_l : ∀ k, (∀ y0 y1 y2, LeO (laws_FnStoreDisk.j0 k y0 y1 y2) (laws_FnStoreDisk.j0 (k + 1) y0 y1 y2)) ∧ (∀ y0 y1 y2 y3 y4, LeO (laws_FnStoreDisk.j1 k y0 y1 y2 y3 y4) (laws_FnStoreDisk.j1 (k + 1) y0 y1 y2 y3 y4)) ∧ (∀ y0 y1 y2 y3 y4 y5, LeO (laws_FnStoreDisk.j2 k y0 y1 y2 y3 y4 y5) (laws_FnStoreDisk.j2 (k + 1) y0 y1 y2 y3 y4 y5))
 | 0 => ⟨fun _ _ _ r h => by simp [laws_FnStoreDisk.j0] at h, fun _ _ _ _ _ r h => by simp [laws_FnStoreDisk.j1] at h, fun _ _ _ _ _ _ r h => by simp [laws_FnStoreDisk.j2] at h⟩
 | k + 1 => by
  obtain ⟨ih0, ih1, ih2⟩ := laws_FnStoreDisk.mono_l k
  refine ⟨?_, ?_, ?_⟩
  · intro y0 y1 y2
    unfold laws_FnStoreDisk.j0
    with_reducible repeat' first | exact ih0 _ _ _ | exact ih1 _ _ _ _ _ | exact ih2 _ _ _ _ _ _ | exact laws_lqInts.mono _ _ _ | exact spec_DrawStoreOk.mono _ _ | exact spec_StoreOk.mono _ _ _ | exact LeO.refl _ | exact LeO.none _ | refine LeO.ite ?_ ?_ | refine LeO.bind ?_ (fun _ => ?_)
  · intro y0 y1 y2 y3 y4
    unfold laws_FnStoreDisk.j1
    with_reducible repeat' first | exact ih0 _ _ _ | exact ih1 _ _ _ _ _ | exact ih2 _ _ _ _ _ _ | exact laws_lqInts.mono _ _ _ | exact spec_DrawStoreOk.mono _ _ | exact spec_StoreOk.mono _ _ _ | exact LeO.refl _ | exact LeO.none _ | refine LeO.ite ?_ ?_ | refine LeO.bind ?_ (fun _ => ?_)
  · intro y0 y1 y2 y3 y4 y5
    unfold laws_FnStoreDisk.j2
    with_reducible repeat' first | exact ih0 _ _ _ | exact ih1 _ _ _ _ _ | exact ih2 _ _ _ _ _ _ | exact laws_lqInts.mono _ _ _ | exact spec_DrawStoreOk.mono _ _ | exact spec_StoreOk.mono _ _ _ | exact LeO.refl _ | exact LeO.none _ | refine LeO.ite ?_ ?_ | refine LeO.bind ?_ (fun _ => ?_)
theorem laws_FnStoreDisk.mono : ∀ a0 a1 k, LeO (laws_FnStoreDisk.f k a0 a1) (laws_FnStoreDisk.f (k + 1) a0 a1) := by
 intro a0 a1 k
 obtain ⟨ih0, ih1, ih2⟩ := laws_FnStoreDisk.mono_l k
 unfold laws_FnStoreDisk.f
 with_reducible repeat' first | exact ih0 _ _ _ | exact ih1 _ _ _ _ _ | exact ih2 _ _ _ _ _ _ | exact laws_lqInts.mono _ _ _ | exact spec_DrawStoreOk.mono _ _ | exact spec_StoreOk.mono _ _ _ | exact LeO.refl _ | exact LeO.none _ | refine LeO.ite ?_ ?_ | refine LeO.bind ?_ (fun _ => ?_)
def laws_FnStoreDisk.T10 : Bool × List (List Nat × List Nat) := (true, [([], []), ([0], [0]), ([], []), ([2], [2]), ([], []), ([4], [4]), ([], []), ([6], [6]), ([5, 7], [5, 7]), ([8], [8]), ([9], [9]), ([10], [10]), ([1, 3, 0, 1, 2, 3, 4, 5, 6, 7, 8, 9, 10, 11], [1, 3]), ([12, 11, 0, 1, 2, 3, 4, 5, 6, 7, 8, 9, 10, 11], [11, 12])])
def laws_FnStoreDisk.B10 : List Nat := [0, 1, 0, 4, 0, 16, 0, 64, 240, 496, 1008, 2032, 4095, 8191]
theorem laws_FnStoreDisk.tab10 : rtab .any (opsOf Try.f3 10) = laws_FnStoreDisk.T10 := by kernel_rfl
theorem laws_FnStoreDisk.bits10 : waitsOk laws_FnStoreDisk.T10.2 laws_FnStoreDisk.B10 = true := by kernel_rfl
def laws_FnStoreDisk.T14 : Bool × List (List Nat × List Nat) := (true, [([], []), ([0], [0]), ([1, 1], [1]), ([2], [2]), ([3, 2], [2, 3]), ([4, 2, 2], [2, 4]), ([5], [5]), ([6, 5, 5], [5, 6]), ([5], [5]), ([8, 7, 5], [5, 8]), ([7, 9, 9, 5], [5, 7, 9]), ([5, 10, 2], [2, 5, 10]), ([2, 11], [2, 11]), ([12, 10, 0, 1, 2, 3, 4, 5, 6, 7, 8, 9, 10, 11, 12], [12])])
def laws_FnStoreDisk.B14 : List Nat := [0, 1, 3, 7, 15, 31, 63, 127, 63, 511, 1023, 2047, 4095, 8191]
theorem laws_FnStoreDisk.tab14 : rtab .any (opsOf Try.f3 14) = laws_FnStoreDisk.T14 := by kernel_rfl
theorem laws_FnStoreDisk.bits14 : waitsOk laws_FnStoreDisk.T14.2 laws_FnStoreDisk.B14 = true := by kernel_rfl
set_option maxHeartbeats 8000000 in
set_option maxRecDepth 100000 in
theorem laws_FnStoreDisk.calls (k : Nat) (A0 : Option Addr) (c0 : Nat) (l0 : List Int) (A1 : Option Addr) (c1 : Nat) (l1 : List Int) (r : Bool) (w : World) (hr0 : Kd.C (Kd.int .u8) w A0 l0.length l0) (hc0 : l0.length ≤ c0) (hr1 : Kd.C (Kd.int .u8) w A1 l1.length l1) (hc1 : l1.length ≤ c1) (h : laws_FnStoreDisk.f k l0 l1 = some r) :
 Calls Try.prog 3 #[.slice A0 l0.length c0, .slice A1 l1.length c1] w fun e w' => e = .returned (.bool r) ∧ Below w.heap.size w w' := by
 have hu26 := Try.underlying26
 have hu30 := Try.underlying30
 have HR0 := am hr0
 have HC0 := am hc0
 clear hr0 hc0
 have HR1 := am hr1
 have HC1 := am hc1
 clear hr1 hc1
 have HB := am (Below.refl w.heap.size w)
 have H : (if (l0.length : Int) > 1048576 then (laws_FnStoreDisk.j0 k l0 l1 true) else (laws_FnStoreDisk.j0 k l0 l1 (decide ((l1.length : Int) > 1048576)))) = some r := h
 clear h
 have HC3 := am H
 clear H
 go_enter Try.func3, Try.ntmps3
 go_upto_region 1 with (fail)
 go_cut [18] (fun v18 wc => ∃ (kq : Nat) (x18_2 : Bool), v18 = .bool x18_2 ∧ Aside0 (laws_FnStoreDisk.j0 kq l0 l1 x18_2 = some r) ∧ Aside0 (kq ≤ k) ∧ Aside0 (Below w.heap.size w wc))
 case first =>
  have H := HC3.out
  clear HC3
  by_cases c4 : (l0.length : Int) > 1048576
  · rw [if_pos c4] at H
    have c4b0 := decide_eq_true c4
    have c4b1 : decide (1048576 < l0.length) = true := decide_eq_true (by omega)
    clear c4
    (first | rw [c4b0] | (simp only [i64_w, i32_w]; rw [c4b0]) | skip)
    have H' := am H
    clear H
    go_wp2
    go_meet
    case rel => exact ⟨_, (true), rf, H', ⟨by first | omega | exact Nat.le_refl _⟩, ⟨ph HB.out⟩⟩
  rw [if_neg c4] at H
  have c4b0 := decide_eq_false c4
  have c4b1 : decide (1048576 < l0.length) = false := decide_eq_false (by omega)
  clear c4
  (first | rw [c4b0] | (simp only [i64_w, i32_w]; rw [c4b0]) | skip)
  have H' := am H
  clear H
  go_wp2
  go_meet
  case rel => exact ⟨_, (decide ((l1.length : Int) > 1048576)), rf, H', ⟨by first | omega | exact Nat.le_refl _⟩, ⟨ph HB.out⟩⟩
 case rest =>
  clear HC3
  obtain ⟨kq, x18_2, rfl, HA, HJ2, HB⟩ := hcut
  cases kq with
  | zero => exact absurd HA.out (by simp [laws_FnStoreDisk.j0])
  | succ kj2 =>
   have H := HA.out
   clear HA
   simp only [laws_FnStoreDisk.j0] at H
   by_cases c5 : x18_2 = true
   · subst c5
     rw [if_pos rfl] at H
     obtain rfl := Option.some.inj H
     go_wp2
     go_ret
     exact (rq (ph HB.out))
   replace c5 := Bool.eq_false_iff.mpr c5
   subst c5
   rw [if_neg (show ¬ (false = true) by decide)] at H
   replace H := Option.bind_eq_some_iff.mp H
   obtain ⟨⟨t413, t416⟩, A60, H⟩ := H
   have A6 := am A60
   clear A60
   replace H := Option.bind_eq_some_iff.mp H
   obtain ⟨t420, A70, H⟩ := H
   have A7 := am A70
   clear A70
   have HC8 := am H
   clear H
   go_upto_region 5 with (first | (refine gl 20 Try.func4 #[.slice A0 l0.length c0] rfl ?_; (with_reducible refine (spec_DrawStoreOk.calls kj2 _ _ l0 t413 t416 _ ?side1 ?side2 A6.out).mono ?_); (case side1 => exact pc (Kd.C_below HR0.out HB.out)); (case side2 => exact HC0.out); rintro e w9 ⟨v414, v417, rfl, ho0, ho1, hb⟩; refine ⟨_, rfl, ?_⟩; have HO415 := am (Kd.V_lower (Kd.V_mono (ok' := fun k_ => some k_ ≠ (v417 : Value).ownBlock) ho0 (fun k_ hk_ => hk_.2)) (below_size (ph HB.out))); have HO418 := am (Kd.Q_lower (Kd.Q_mono (ok' := fun k_ => True) ho1 (fun _ hk_ => trivial)) (below_size (ph HB.out))); replace HB := am (below_step (ph HB.out) hb); clear hb ho0 ho1) | ((with_reducible refine gate_dst (N := 5) rfl ?_); (try (refine gate_guard (by rfl) ?_; dsimp only)); refine box_event ?hg (N := 5) ?hd (cs := #[.slice none 0 0, .slice none 0 0]) (t := 26) ?hr ?_; (case hd => rfl); (case hg => rfl); (case hr => first | (go_simp; done) | (go_simp; rfl)); intro gb419 hg w10 hbox hb; replace HO415 := am (Kd.V_below (Kd.V_elderB (pv HO415.out) gb419 (Nat.le_of_eq hg.symm)) hb); replace HO418 := am (Kd.Q_below (pq HO418.out) hb); have BK419 := am (hbox); have GW419 := am (ge hg (ph HB.out)); have GE419 := GW419; replace HB := am (below_step (ph HB.out) hb); clear hb hbox hg; obtain ⟨Ao11, co11, eo11⟩ := Kd.V_slice HO415.out; subst eo11; obtain ⟨hcz12_0, hcz12_1⟩ := b2 BK419.out; obtain ⟨hfz12_0, hfz12_1⟩ := f2 BK419.out; obtain ⟨Ao13, co13, eo13, _⟩ := Kd.Q_slice HO418.out; subst eo13) | (refine gl 22 Try.func5 #[.agg #[.slice Ao11 t413.length co11, .slice Ao13 t416.length co13]] rfl ?_; (with_reducible refine (impl_StoreOk.calls _ _ t413 _ _ t416 t420 _ ?side1 ?side2 ?side3 ?side4 A7.out).mono ?_); (case side1 => refine (Kd.V_reads' (e := 60) (base := w.heap.size) (ok := fun k_ => (some k_ ≠ (.slice Ao13 t416.length co13 : Value).ownBlock ∧ k_ ≠ gb419)) (n := t413.length) (c := co11) ?_).2.2; exact (pv ((Kd.V_mono (Kd.V_far (p := ⟨gb419, 1, none⟩) (Kd.V_far (p := ⟨gb419, 0, none⟩) (Kd.V_mono HO415.out (fun k_ hk => (⟨hk, hk.2⟩ : _ ∧ k_ ≠ gb419))) (fun _ hk => hk.2) (.slice Ao11 t413.length co11)) (fun _ hk => hk.2) (.slice Ao13 t416.length co13)) (fun _ h_ => h_.1))))); (case side2 => exact (Kd.V_reads' HO415.out).2.1); (case side3 => refine (Kd.Q_reads' (e := 3) (base := w.heap.size) (ok := fun k_ => True) (n := t416.length) (c := co13) ?_).2.2; exact (pq ((Kd.Q_mono (Kd.Q_far (p := ⟨gb419, 1, none⟩) (Kd.Q_far (p := ⟨gb419, 0, none⟩) (Kd.Q_types HO418.out BK419.out (by decide)) (fun _ hk => hk.2) (.slice Ao11 t413.length co11)) (fun _ hk => hk.2) (.slice Ao13 t416.length co13)) (fun _ h_ => h_.1))))); (case side4 => exact (Kd.Q_reads' HO418.out).2.1); rintro e w14 ⟨rfl, hb⟩; refine ⟨_, rfl, ?_⟩; replace HO415 := am (Kd.V_below (pv ((Kd.V_mono (Kd.V_far (p := ⟨gb419, 1, none⟩) (Kd.V_far (p := ⟨gb419, 0, none⟩) (Kd.V_mono HO415.out (fun k_ hk => (⟨hk, hk.2⟩ : _ ∧ k_ ≠ gb419))) (fun _ hk => hk.2) (.slice Ao11 t413.length co11)) (fun _ hk => hk.2) (.slice Ao13 t416.length co13)) (fun _ h_ => h_.1)))) hb); replace HO418 := am (Kd.Q_below (pq ((Kd.Q_mono (Kd.Q_far (p := ⟨gb419, 1, none⟩) (Kd.Q_far (p := ⟨gb419, 0, none⟩) (Kd.Q_types HO418.out BK419.out (by decide)) (fun _ hk => hk.2) (.slice Ao11 t413.length co11)) (fun _ hk => hk.2) (.slice Ao13 t416.length co13)) (fun _ h_ => h_.1)))) hb); replace BK419 := am (blk_below (bp2 (pb BK419.out)) hb); replace HB := am (below_step (bg1 HB.out GE419.out) hb); clear hb))
   (try simp only [Act.put, List.setIfInBounds_toArray, List.set_cons_zero, List.set_cons_succ])
   go_cut [30] (fun v30 wc => ∃ (kq : Nat) (x30_7 : Bool), v30 = .bool x30_7 ∧ Aside0 (laws_FnStoreDisk.j1 kq l1 t420 x30_7 t413 t416 = some r) ∧ Aside0 (kq ≤ kj2) ∧ Aside0 (Kd.V k60 60 wc w.heap.size (fun k_ => some k_ ≠ ((.slice Ao13 t416.length co13) : Value).ownBlock ∧ k_ ≠ gb419) (.slice Ao11 t413.length co11) t413) ∧ Aside0 (Kd.Q (Kd.int .i64) 3 wc w.heap.size (fun _ => True) (.slice Ao13 t416.length co13) t416) ∧ Aside0 (wc.heap[gb419]? = some (.cells #[(.slice Ao11 t413.length co11), (.slice Ao13 t416.length co13)] 26 (0, 0))) ∧ Aside0 (Below w.heap.size w wc))
   case first =>
    have H := HC8.out
    clear HC8
    replace H := Option.bind_eq_some_iff.mp H
    obtain ⟨t421, A150, H⟩ := H
    have A15 := am A150
    clear A150
    by_cases c16 : (t420 != t421) = true
    rotate_left
    · rw [if_neg c16] at H
      have c16b0 : (t420 != t421) = false := by simpa using c16
      (try (have c16b1 : decide (t420 = t421) = true := by simpa using c16))
      (try (have c16b2 : (t420 == t421) = true := by simpa using c16))
      clear c16
      (first | rw [c16b0] | (simp only [i64_w, i32_w]; rw [c16b0]) | skip)
      have H' := am H
      clear H
      obtain ⟨hcz19_0, hcz19_1⟩ := b2 BK419.out
      obtain ⟨hfz19_0, hfz19_1⟩ := f2 BK419.out
      go_wp2_with (first | (refine gl 25 Try.func6 #[.agg #[.slice Ao11 t413.length co11, .slice Ao13 t416.length co13]] rfl ?_; (with_reducible refine (spec_StoreOk.calls kj2 _ _ t413 _ _ t416 t421 _ ?side1 ?side2 ?side3 ?side4 A15.out).mono ?_); (case side1 => exact pc ((Kd.V_reads' HO415.out).2.2)); (case side2 => exact (Kd.V_reads' HO415.out).2.1); (case side3 => exact pc ((Kd.Q_reads' HO418.out).2.2)); (case side4 => exact (Kd.Q_reads' HO418.out).2.1); rintro e w20 ⟨rfl, hb⟩; refine ⟨_, rfl, ?_⟩; replace HO415 := am (Kd.V_below (pv HO415.out) hb); replace HO418 := am (Kd.Q_below (pq HO418.out) hb); replace BK419 := am (blk_below (pb BK419.out) hb); replace HB := am (below_step (bg1 HB.out GE419.out) hb); clear hb))
      go_meet
      case rel => exact ⟨_, (!t420), rf, H', ⟨by have := HJ2.out; first | omega | exact Nat.le_refl _⟩, ⟨pv HO415.out⟩, ⟨pq HO418.out⟩, ⟨pb BK419.out⟩, ⟨bg1 HB.out GE419.out⟩⟩
    rw [if_pos c16] at H
    have c16b0 : (t420 != t421) = true := c16
    (try (have c16b1 : decide (t420 = t421) = false := by simpa using c16))
    (try (have c16b2 : (t420 == t421) = false := by simpa using c16))
    (try (have c16b3 : ¬ (t420 = t421) := by simpa using c16))
    clear c16
    (first | rw [c16b0] | (simp only [i64_w, i32_w]; rw [c16b0]) | skip)
    have H' := am H
    clear H
    obtain ⟨hcz17_0, hcz17_1⟩ := b2 BK419.out
    obtain ⟨hfz17_0, hfz17_1⟩ := f2 BK419.out
    go_wp2_with (first | (refine gl 25 Try.func6 #[.agg #[.slice Ao11 t413.length co11, .slice Ao13 t416.length co13]] rfl ?_; (with_reducible refine (spec_StoreOk.calls kj2 _ _ t413 _ _ t416 t421 _ ?side1 ?side2 ?side3 ?side4 A15.out).mono ?_); (case side1 => exact pc ((Kd.V_reads' HO415.out).2.2)); (case side2 => exact (Kd.V_reads' HO415.out).2.1); (case side3 => exact pc ((Kd.Q_reads' HO418.out).2.2)); (case side4 => exact (Kd.Q_reads' HO418.out).2.1); rintro e w18 ⟨rfl, hb⟩; refine ⟨_, rfl, ?_⟩; replace HO415 := am (Kd.V_below (pv HO415.out) hb); replace HO418 := am (Kd.Q_below (pq HO418.out) hb); replace BK419 := am (blk_below (pb BK419.out) hb); replace HB := am (below_step (bg1 HB.out GE419.out) hb); clear hb))
    go_meet
    case rel => exact ⟨_, (true), rf, H', ⟨by have := HJ2.out; first | omega | exact Nat.le_refl _⟩, ⟨pv HO415.out⟩, ⟨pq HO418.out⟩, ⟨pb BK419.out⟩, ⟨bg1 HB.out GE419.out⟩⟩
   case rest =>
    clear HC8
    obtain ⟨kq, x30_7, rfl, HA, HJ7, HO_420000, HO_420001, BK419, HB⟩ := hcut
    cases kq with
    | zero => exact absurd HA.out (by simp [laws_FnStoreDisk.j1])
    | succ kj7 =>
     have H := HA.out
     clear HA
     simp only [laws_FnStoreDisk.j1] at H
     by_cases c21 : x30_7 = true
     · subst c21
       rw [if_pos rfl] at H
       replace H := Option.bind_eq_some_iff.mp H
       obtain ⟨t422, A220, H⟩ := H
       have A22 := am A220
       clear A220
       obtain rfl := Option.some.inj H
       obtain ⟨hcz23_0, hcz23_1⟩ := b2 BK419.out
       obtain ⟨hfz23_0, hfz23_1⟩ := f2 BK419.out
       go_wp2_with (first | (refine gl 33 Try.func6 #[.agg #[.slice Ao11 t413.length co11, .slice Ao13 t416.length co13]] rfl ?_; (with_reducible refine (spec_StoreOk.calls kj7 _ _ t413 _ _ t416 t422 _ ?side1 ?side2 ?side3 ?side4 A22.out).mono ?_); (case side1 => exact pc ((Kd.V_reads' HO_420000.out).2.2)); (case side2 => exact (Kd.V_reads' HO_420000.out).2.1); (case side3 => exact pc ((Kd.Q_reads' HO_420001.out).2.2)); (case side4 => exact (Kd.Q_reads' HO_420001.out).2.1); rintro e w24 ⟨rfl, hb⟩; refine ⟨_, rfl, ?_⟩; replace HO_420000 := am (Kd.V_below (pv HO_420000.out) hb); replace HO_420001 := am (Kd.Q_below (pq HO_420001.out) hb); replace BK419 := am (blk_below (pb BK419.out) hb); replace HB := am (below_step (bg1 HB.out GE419.out) hb); clear hb))
       go_ret
       exact (rq (bg1 HB.out GE419.out))
     replace c21 := Bool.eq_false_iff.mpr c21
     subst c21
     rw [if_neg (show ¬ (false = true) by decide)] at H
     obtain ⟨y424, hy424⟩ : ∃ y_ : List Int, y_ = (([] : List Int)) := ⟨_, rfl⟩
     replace H : (if y424.length + t416.length < 17592186044416 then ((some (y424 ++ t416 : List Int)).bind fun y427 => (if 0 ≤ ((1 + ((l1.length : Int) % 6)) - 1) then (if ((1 + ((l1.length : Int) % 6)) - 1) < (t416.length : Int) then (if ((1 + ((l1.length : Int) % 6)) - 1) < (y427.length : Int) then ((some (y427.set (((1 + ((l1.length : Int) % 6)) - 1) : Int).toNat (Int.tmod (wrap64 ((rd t416 ((1 + ((l1.length : Int) % 6)) - 1)) + 1)) 10) : List Int)).bind fun y431 => ((impl_FindLast.f t413 (1 + ((l1.length : Int) % 6))).bind fun bt432 => (if bt432.2.2.2.2 = true then (laws_FnStoreDisk.j2 kj7 bt432.2.2.2.2 (bt432.1 == 2) t413 t416 t413 y431) else (laws_FnStoreDisk.j2 kj7 bt432.2.2.2.2 false t413 t416 t413 y431)))) else (none)) else (none)) else (none))) else (none)) = some r := yy hy424 H
     have Ny424 := am hy424
     clear hy424
     by_cases c25 : y424.length + t416.length < 17592186044416
     rotate_left
     · rw [if_neg c25] at H
       exact absurd H (by simp)
     rw [if_pos c25] at H
     have LMc25 := am c25
     clear c25
     obtain ⟨y427, hy427⟩ : ∃ y_ : List Int, y_ = (y424 ++ t416) := ⟨_, rfl⟩
     replace H : (if 0 ≤ ((1 + ((l1.length : Int) % 6)) - 1) then (if ((1 + ((l1.length : Int) % 6)) - 1) < (t416.length : Int) then (if ((1 + ((l1.length : Int) % 6)) - 1) < (y427.length : Int) then ((some (y427.set (((1 + ((l1.length : Int) % 6)) - 1) : Int).toNat (Int.tmod (wrap64 ((rd t416 ((1 + ((l1.length : Int) % 6)) - 1)) + 1)) 10) : List Int)).bind fun y431 => ((impl_FindLast.f t413 (1 + ((l1.length : Int) % 6))).bind fun bt432 => (if bt432.2.2.2.2 = true then (laws_FnStoreDisk.j2 kj7 bt432.2.2.2.2 (bt432.1 == 2) t413 t416 t413 y431) else (laws_FnStoreDisk.j2 kj7 bt432.2.2.2.2 false t413 t416 t413 y431)))) else (none)) else (none)) else (none)) = some r := yy hy427 H
     have Ny427 := am hy427
     clear hy427
     obtain ⟨ji26, hji26⟩ : ∃ j_ : Int, ((1 + ((l1.length : Int) % 6)) - 1) = j_ := ⟨_, rfl⟩
     have hjw26 : wrap64 ji26 = ji26 := by unfold wrap64; omega
     replace H : (if 0 ≤ (ji26) then (if (ji26) < (t416.length : Int) then (if (ji26) < (y427.length : Int) then ((some (y427.set ((ji26) : Int).toNat (Int.tmod (wrap64 ((rd t416 (ji26)) + 1)) 10) : List Int)).bind fun y431 => ((impl_FindLast.f t413 (1 + ((l1.length : Int) % 6))).bind fun bt432 => (if bt432.2.2.2.2 = true then (laws_FnStoreDisk.j2 kj7 bt432.2.2.2.2 (bt432.1 == 2) t413 t416 t413 y431) else (laws_FnStoreDisk.j2 kj7 bt432.2.2.2.2 false t413 t416 t413 y431)))) else (none)) else (none)) else (none)) = some r := by first | (rw [hji26] at H; exact H) | (simp only [hji26] at H ⊢; exact H)
     obtain ⟨c27b0, H⟩ := ifd H
     obtain ⟨c28b0, H⟩ := ifd H
     obtain ⟨c29b0, H⟩ := ifd H
     obtain ⟨y431, hy431⟩ : ∃ y_ : List Int, y_ = (y427.set ((ji26) : Int).toNat (Int.tmod (wrap64 ((rd t416 (ji26)) + 1)) 10)) := ⟨_, rfl⟩
     replace H : ((impl_FindLast.f t413 (1 + ((l1.length : Int) % 6))).bind fun bt432 => (if bt432.2.2.2.2 = true then (laws_FnStoreDisk.j2 kj7 bt432.2.2.2.2 (bt432.1 == 2) t413 t416 t413 y431) else (laws_FnStoreDisk.j2 kj7 bt432.2.2.2.2 false t413 t416 t413 y431))) = some r := yy hy431 H
     have Ny431 := am hy431
     clear hy431
     replace H := Option.bind_eq_some_iff.mp H
     obtain ⟨⟨t432, t433, t434, t435, t436⟩, A310, H⟩ := H
     have A31 := am A310
     clear A310
     have HC32 := am H
     clear H
     obtain ⟨hcz33_0, hcz33_1⟩ := b2 BK419.out
     obtain ⟨hfz33_0, hfz33_1⟩ := f2 BK419.out
     try go_wp2_with (first | ((with_reducible refine gate_dst (N := 8) rfl ?_); (try (refine gate_guard (by rfl) ?_; dsimp only)); refine box_event ?hg (N := 8) ?hd (cs := #[.slice none 0 0, .slice none 0 0]) (t := 26) ?hr ?_; (case hd => rfl); (case hg => rfl); (case hr => first | (go_simp; done) | (go_simp; rfl)); intro gb423 hg w34 hbox hb; replace HO_420000 := am (Kd.V_below (Kd.V_elderB (pv HO_420000.out) gb423 (Nat.le_of_eq hg.symm)) hb); replace HO_420001 := am (Kd.Q_below (pq HO_420001.out) hb); have BK423 := am (hbox); have GW423 := am (ge hg (bg1 HB.out GE419.out)); have GE423 := GW423; replace HB := am (below_step (bg1 HB.out GE419.out) hb); have NB419_423 := am (nb hg (pb BK419.out)); have NB423_419 := am (Ne.symm NB419_423.out); replace BK419 := am (blk_below (pb BK419.out) hb); clear hb hbox hg; have hnb35 := NB423_419.out; have hnc35 := NB419_423.out; obtain ⟨hcz36_0, hcz36_1⟩ := b2 BK423.out; obtain ⟨hfz36_0, hfz36_1⟩ := f2 BK423.out) | ((with_reducible refine gate_dst (N := 40) rfl ?_); (try (refine gate_guard (by rfl) ?_; dsimp only)); refine Kd.R_lit (Kd.int .i64) _ 3 ?hg (N := 40) ?hd (xs := ([] : List Int)) (inner := []) (ok := fun _ => True) (okp := fun _ => True) ?hr ?hp (fun _ hk => hk) trivial (Below.refl _ _) (Nat.le_refl _) (by simp) ?_; (case hd => rfl); (case hg => rfl); (case hr => first | (go_simp; done) | (go_simp; rfl)); (case hp => exact (Reps.none _ _)); intro v425 w37 ho38 hb hg_ hnew_; clear hg_ hnew_; (first | rw [← Ny424.out] at ho38 | (simp only [Int.reduceToNat] at ho38; rw [← Ny424.out] at ho38)); replace HO_420000 := am (Kd.V_elder' (pv ((Kd.V_mono (Kd.V_far (p := ⟨gb423, 1, none⟩) (Kd.V_far (p := ⟨gb423, 0, none⟩) (Kd.V_mono HO_420000.out (fun k_ hk => (⟨hk, hk.2⟩ : _ ∧ k_ ≠ gb423))) (fun _ hk => hk.2) (.slice Ao11 t413.length co11)) (fun _ hk => hk.2) (.slice Ao13 t416.length co13)) (fun _ h_ => h_.1)))) (Kd.R_base ho38) hb); have HO426 := am (Kd.R_lower (Kd.R_new' ho38 (Kd.Q_lt (pq ((Kd.Q_mono (Kd.Q_far (p := ⟨gb423, 1, none⟩) (Kd.Q_far (p := ⟨gb423, 0, none⟩) (Kd.Q_types HO_420001.out BK423.out (by decide)) (fun _ hk => hk.2) (.slice Ao11 t413.length co11)) (fun _ hk => hk.2) (.slice Ao13 t416.length co13)) (fun _ h_ => h_.1)))))) (below_size (bg2 HB.out GE419.out GE423.out))); replace HO_420001 := am (Kd.Q_elder' (pq ((Kd.Q_mono (Kd.Q_far (p := ⟨gb423, 1, none⟩) (Kd.Q_far (p := ⟨gb423, 0, none⟩) (Kd.Q_types HO_420001.out BK423.out (by decide)) (fun _ hk => hk.2) (.slice Ao11 t413.length co11)) (fun _ hk => hk.2) (.slice Ao13 t416.length co13)) (fun _ h_ => h_.1)))) (Kd.R_base ho38) hb); replace BK419 := am (blk_below (bf2 (pb BK419.out) NB419_423.out) hb); replace BK423 := am (blk_below (bp2 (pb BK423.out)) hb); replace HB := am (below_step (bg2 HB.out GE419.out GE423.out) hb); clear hb ho38; obtain ⟨hcz39_0, hcz39_1⟩ := b2 BK419.out; obtain ⟨hfz39_0, hfz39_1⟩ := f2 BK419.out) | ((with_reducible refine gate_builtin (b := .append) (xs := #[.tmp 40, .tmp 42]) rfl ?_); (try (refine gate_guard (by rfl) ?_; dsimp only)); at_builtin; refine Kd.R_append_rows (Kd.int .i64) (w0 := w) w.heap.size rfl (.tmp 40) (.tmp 42) 24 3 (.int .i64 0) 8 rfl Try.underlying24 info3 rfl (by decide) (by omega) v425 y424 t416 _ _ _ (fun k_ => some k_ ≠ (.slice Ao13 t416.length co13 : Value).ownBlock) (fun _ => False) rfl rfl ?aO ?aR (fun _ _ h => h) (fun _ h => h.elim) ?aF ?aB ?aS ?aL ?_; (case aR => exact pc ((Kd.Q_reads' HO_420001.out).2.2)); (case aB => exact (bg2 HB.out GE419.out GE423.out)); (case aF => exact (fun k_ hk => Kd.fresh' (Kd.Q_lt (pq HO_420001.out)) k_ hk)); (case aO => exact (pr (Kd.R_mono HO426.out (fun _ hk => hk.2)))); (case aS => exact (below_size (bg2 HB.out GE419.out GE423.out))); (case aL => have := LMc25.out; omega); intro v428 w40 ho hb hg hat; rw [← Ny427.out] at ho; replace HO_420000 := am (Kd.V_afterv (ok := (fun k_ => some k_ ≠ (.slice Ao13 t416.length co13 : Value).ownBlock ∧ k_ ≠ gb419 ∧ k_ ≠ gb423)) (pv (Kd.V_mono HO_420000.out (fun _ hk => ⟨⟨hk.1.1.1, ⟨hk.1.1.2, hk.1.2⟩⟩, hk.2⟩))) hg hat); replace HO_420001 := am (Kd.Q_after (ok := (fun _ => True)) (pq HO_420001.out) hg hat); replace BK419 := am (blk_grown (g := gb419) (o := .cells #[.slice Ao11 t413.length co11, .slice Ao13 t416.length co13] 26 (0, 0)) (pb BK419.out) hg (Kd.R_ne HO426.out BK419.out (by decide))); replace BK423 := am (blk_grown (g := gb423) (o := .cells #[.slice Ao11 t413.length co11, .slice Ao13 t416.length co13] 26 (0, 0)) (pb BK423.out) hg (Kd.R_ne HO426.out BK423.out (by decide))); replace HB := am (hb); have HO429 := am (ho); clear HO426; clear ho hb hg hat; obtain ⟨Ao41, co41, eo41⟩ := Kd.R_slice HO429.out; subst eo41; obtain ⟨hcz42_0, hcz42_1⟩ := b2 BK423.out; obtain ⟨hfz42_0, hfz42_1⟩ := f2 BK423.out))
     have n0_ : Aside0 (Kd.V k60 60 (w40.setCell ⟨gb423, 1, none⟩ (.slice Ao41 y427.length co41)) w.heap.size (fun k_ => some k_ ≠ (.slice Ao13 t416.length co13 : Value).ownBlock ∧ some k_ ≠ (.slice Ao41 y427.length co41 : Value).ownBlock ∧ k_ ≠ gb419 ∧ k_ ≠ gb423) (.slice Ao11 t413.length co11) t413) := ⟨pv (Kd.V_mono (Kd.V_far (p := ⟨gb423, 1, none⟩) (Kd.V_mono HO_420000.out (fun k_ hk => (⟨hk, hk.1.2.2⟩ : _ ∧ k_ ≠ gb423))) (fun _ hk => hk.2) (.slice Ao41 y427.length co41)) (fun _ hk => ⟨hk.1.1.1, ⟨hk.1.2, ⟨hk.1.1.2.1, hk.1.1.2.2⟩⟩⟩))⟩
     have n1_ : Aside0 (Kd.Q (Kd.int .i64) 3 (w40.setCell ⟨gb423, 1, none⟩ (.slice Ao41 y427.length co41)) w.heap.size (fun k_ => some k_ ≠ (.slice Ao41 y427.length co41 : Value).ownBlock) (.slice Ao13 t416.length co13) t416) := ⟨pq (Kd.Q_mono (Kd.Q_far (p := ⟨gb423, 1, none⟩) (Kd.Q_types HO_420001.out BK423.out (by decide)) (fun _ hk => hk.2) (.slice Ao41 y427.length co41)) (fun _ hk => hk.1.2))⟩
     have n2_ : Aside0 (Kd.R (Kd.int .i64) 3 (w40.setCell ⟨gb423, 1, none⟩ (.slice Ao41 y427.length co41)) w.heap.size (fun k_ => some k_ ≠ (.slice Ao13 t416.length co13 : Value).ownBlock) (.slice Ao41 y427.length co41) y427) := ⟨pr (Kd.R_mono (Kd.R_far (p := ⟨gb423, 1, none⟩) (Kd.R_types HO429.out BK423.out (by decide)) (fun _ hk => hk.2) (.slice Ao41 y427.length co41)) (fun _ hk => hk.1))⟩
     have n3_ : Aside0 ((w40.setCell ⟨gb423, 1, none⟩ (.slice Ao41 y427.length co41)).heap[gb419]? = some (.cells #[.slice Ao11 t413.length co11, .slice Ao13 t416.length co13] 26 (0, 0))) := ⟨bf1 (pb BK419.out) NB419_423.out⟩
     have n4_ : Aside0 ((w40.setCell ⟨gb423, 1, none⟩ (.slice Ao41 y427.length co41)).heap[gb423]? = some (.cells #[.slice Ao11 t413.length co11, .slice Ao41 y427.length co41] 26 (0, 0))) := ⟨by (with_reducible repeat (first | refine blk_drewN ?_ _ | refine blk_drew ?_ | refine blk_alloc ?_ _)); refine blk_put (cs := #[.slice Ao11 t413.length co11, .slice Ao13 t416.length co13]) ?_ 1 _ rfl; (with_reducible repeat (first | refine blk_drewN ?_ _ | refine blk_drew ?_ | refine blk_alloc ?_ _)); exact BK423.out⟩
     have n5_ : Aside0 (Below w.heap.size w (w40.setCell ⟨gb423, 1, none⟩ (.slice Ao41 y427.length co41))) := ⟨bg2 HB.out GE419.out GE423.out⟩
     (try clear HO_420000)
     (try clear HO_420001)
     (try clear HO429)
     (try clear BK419)
     (try clear BK423)
     (try clear HB)
     generalize (w40.setCell ⟨gb423, 1, none⟩ (.slice Ao41 y427.length co41)) = w43 at n0_ n1_ n2_ n3_ n4_ n5_ ⊢
     have HO_420000 := n0_
     have HO_420001 := n1_
     have HO429 := n2_
     have BK419 := n3_
     have BK423 := n4_
     have HB := n5_
     clear n0_ n1_ n2_ n3_ n4_ n5_
     replace HO_420000 := am (Kd.V_drew HO_420000.out)
     replace HO_420001 := am (Kd.Q_drew HO_420001.out)
     replace HO429 := am (Kd.R_drew HO429.out)
     replace BK419 := am (blk_drew BK419.out)
     replace BK423 := am (blk_drew BK423.out)
     replace HB := am (below_drew1 HB.out)
     have p430 : 0 ≤ ((ji26) : Int) := ofb
     have q430 : (ji26) < (t416.length : Int) := ofb
     obtain ⟨ad430, e430, hx430_0⟩ := Kd.at_int (Kd.Q_reads' HO_420001.out).2.2 (ji26) p430 q430
     cases e430
     replace p430 := eq_true p430
     replace q430 := eq_true q430
     have p30 : 0 ≤ ((ji26) : Int) := ofb
     have q30 : ((ji26) : Int) < ((y427.length : Int) : Int) := ofb
     obtain ⟨go30, co30, eo30, gb30, gl30, cl30, HG30⟩ := Kd.R_form HO429.out (by omega)
     (first | cases eo30 | (injection eo30 with ea_ en_ ec_; (first | subst ea_ | (injection ea_ with ea_; subst ea_)); subst ec_; clear en_))
     have GB30 := am gb30
     have GG30 := am HG30
     clear gb30 gl30 HG30
     obtain ⟨hx30_0, hf30_0⟩ := Kd.R_celln 0 HO429.out ((ji26) : Int) p30 q30
     replace p30 := eq_true p30
     replace q30 := eq_true q30
     have HP45 := Kd.R_putn HO429.out ((ji26) : Int) (Int.tmod (wrap64 ((rd t416 (ji26)) + 1)) 10)
     rw [← Ny431.out] at HP45
     have HQ45 := am HP45
     clear HP45
     refine start_ (n := 14) (S := fun w' => w'.cell? ⟨gb423, 0, none⟩ = some (.slice Ao11 t413.length co11) ∧ w'.cell? ⟨gb423, 1, none⟩ = some (.slice (some ⟨go30, 0, none⟩) y427.length co41) ∧ w'.cell? ⟨gb419, 0, none⟩ = some (.slice Ao11 t413.length co11) ∧ w'.cell? ⟨gb419, 1, none⟩ = some (.slice (some ad430) t416.length co13) ∧ w'.cell? (ad430.add ((ji26)).toNat) = some (.int .i64 (rd t416 (ji26)))) (ds := [13]) (bt 14 0) (by kernel_rfl) rfl rfl ⟨(blk_cell BK423.out 0).trans rfl, (blk_cell BK423.out 1).trans rfl, (blk_cell BK419.out 0).trans rfl, (blk_cell BK419.out 1).trans rfl, hx430_0⟩ (fun hHeld => ?_); refine with_tabW laws_FnStoreDisk.tab10 laws_FnStoreDisk.bits10 (fun HT_ HW_ => ?_)
     generalize w43.drew = w44 at HO_420000 HO_420001 HO429 BK419 BK423 HB GG30 HQ45 hf30_0 hx30_0 hx430_0 hHeld ⊢
     refine qj 0 45 (bt 14 1) rfl rfl HT_.out ?_
     refine qj 2 47 (bt 14 5) rfl rfl HT_.out ?_
     refine qj 3 48 (bt 14 13) rfl rfl HT_.out ?_
     refine qj 4 49 (bt 14 29) rfl rfl HT_.out ?_
     refine qj 6 51 (bt 14 93) rfl rfl HT_.out ?_
     refine qj 7 52 (bt 14 221) rfl rfl HT_.out ?_
     refine qm 1 46 (bt 14 223) rfl rfl HT_.out HW_.out hHeld ?_
     refine qm 5 50 (bt 14 255) rfl rfl HT_.out HW_.out hHeld ?_
     refine qj 8 53 (bt 14 511) rfl rfl HT_.out ?_
     refine qm 9 54 (bt 14 1023) rfl rfl HT_.out HW_.out hHeld ?_
     refine qj 10 55 (bt 14 2047) rfl rfl HT_.out ?_
     refine qj 11 56 (bt 14 4095) rfl rfl HT_.out ?_
     refine qj 12 57 (bt 14 8191) rfl rfl HT_.out ?_
     refine last_ (i := 13) (N := none) (bt 14 16383) rfl rfl (one_of HT_.out (by kernel_rfl)) (by decide) (fun K hK => ?_)
     refine qs rfl ?_
     refine hK.out _ _ ?_
     clear hK K
     refine done_ (done_of HT_.out (by kernel_rfl)) ?_
     have n0_ : Aside0 (Kd.V k60 60 (w44.setCell ⟨go30, ((ji26) : Int).toNat, none⟩ (.int .i64 (Int.tmod (wrap64 ((rd t416 (ji26)) + 1)) 10))) w.heap.size (fun k_ => some k_ ≠ (.slice (some ad430) t416.length co13 : Value).ownBlock ∧ some k_ ≠ (.slice (some ⟨go30, 0, none⟩) y427.length co41 : Value).ownBlock ∧ k_ ≠ gb419 ∧ k_ ≠ gb423) (.slice Ao11 t413.length co11) t413) := ⟨pv (Kd.V_mono (Kd.V_far (p := ⟨go30, ((ji26) : Int).toNat, none⟩) (Kd.V_mono HO_420000.out (fun k_ hk => (⟨hk, fun e_ => hk.2.1 (by rw [e_]; rfl)⟩ : _ ∧ k_ ≠ go30))) (fun _ hk => hk.2) (.int .i64 (Int.tmod (wrap64 ((rd t416 (ji26)) + 1)) 10))) (fun _ hk => ⟨hk.1.1, ⟨hk.1.2.1, ⟨hk.1.2.2.1, hk.1.2.2.2⟩⟩⟩))⟩
     have n1_ : Aside0 (Kd.Q (Kd.int .i64) 3 (w44.setCell ⟨go30, ((ji26) : Int).toNat, none⟩ (.int .i64 (Int.tmod (wrap64 ((rd t416 (ji26)) + 1)) 10))) w.heap.size (fun k_ => some k_ ≠ (.slice (some ⟨go30, 0, none⟩) y427.length co41 : Value).ownBlock) (.slice (some ad430) t416.length co13) t416) := ⟨pq (Kd.Q_mono (Kd.Q_far (p := ⟨go30, ((ji26) : Int).toNat, none⟩) (Kd.Q_mono HO_420001.out (fun k_ hk => (⟨hk, fun e_ => hk (by rw [e_]; rfl)⟩ : _ ∧ k_ ≠ go30))) (fun _ hk => hk.2) (.int .i64 (Int.tmod (wrap64 ((rd t416 (ji26)) + 1)) 10))) (fun _ hk => hk.1))⟩
     have n2_ : Aside0 (Kd.R (Kd.int .i64) 3 (w44.setCell ⟨go30, ((ji26) : Int).toNat, none⟩ (.int .i64 (Int.tmod (wrap64 ((rd t416 (ji26)) + 1)) 10))) w.heap.size (fun k_ => some k_ ≠ (.slice (some ad430) t416.length co13 : Value).ownBlock) (.slice (some ⟨go30, 0, none⟩) y427.length co41) y431) := ⟨pr HQ45.out⟩
     have n3_ : Aside0 ((w44.setCell ⟨go30, ((ji26) : Int).toNat, none⟩ (.int .i64 (Int.tmod (wrap64 ((rd t416 (ji26)) + 1)) 10))).heap[gb419]? = some (.cells #[.slice Ao11 t413.length co11, .slice (some ad430) t416.length co13] 26 (0, 0))) := ⟨by (with_reducible repeat (first | refine blk_drewN ?_ _ | refine blk_drew ?_ | refine blk_alloc ?_ _)); refine blk_far ?_ (by have h_ := Kd.R_ne HO429.out BK419.out (by decide); intro e_; exact h_ (by rw [e_]; rfl)) _; (with_reducible repeat (first | refine blk_drewN ?_ _ | refine blk_drew ?_ | refine blk_alloc ?_ _)); exact BK419.out⟩
     have n4_ : Aside0 ((w44.setCell ⟨go30, ((ji26) : Int).toNat, none⟩ (.int .i64 (Int.tmod (wrap64 ((rd t416 (ji26)) + 1)) 10))).heap[gb423]? = some (.cells #[.slice Ao11 t413.length co11, .slice (some ⟨go30, 0, none⟩) y427.length co41] 26 (0, 0))) := ⟨by (with_reducible repeat (first | refine blk_drewN ?_ _ | refine blk_drew ?_ | refine blk_alloc ?_ _)); refine blk_far ?_ (by have h_ := Kd.R_ne HO429.out BK423.out (by decide); intro e_; exact h_ (by rw [e_]; rfl)) _; (with_reducible repeat (first | refine blk_drewN ?_ _ | refine blk_drew ?_ | refine blk_alloc ?_ _)); exact BK423.out⟩
     have n5_ : Aside0 (Below w.heap.size w (w44.setCell ⟨go30, ((ji26) : Int).toNat, none⟩ (.int .i64 (Int.tmod (wrap64 ((rd t416 (ji26)) + 1)) 10)))) := ⟨bg3 HB.out GB30.out GE419.out GE423.out⟩
     (try clear HO_420000)
     (try clear HO_420001)
     (try clear HO429)
     (try clear BK419)
     (try clear BK423)
     (try clear HB)
     generalize (w44.setCell ⟨go30, ((ji26) : Int).toNat, none⟩ (.int .i64 (Int.tmod (wrap64 ((rd t416 (ji26)) + 1)) 10))) = w46 at n0_ n1_ n2_ n3_ n4_ n5_ ⊢
     have HO_420000 := n0_
     have HO_420001 := n1_
     have HO429 := n2_
     have BK419 := n3_
     have BK423 := n4_
     have HB := n5_
     clear n0_ n1_ n2_ n3_ n4_ n5_
     obtain ⟨hcz47_0, hcz47_1⟩ := b2 BK419.out
     obtain ⟨hfz47_0, hfz47_1⟩ := f2 BK419.out
     go_upto_region 12 with (first | (refine gl 62 Try.func7 #[.slice Ao11 t413.length co11, .int .i64 (1 + ((l1.length : Int) % 6))] rfl ?_; (with_reducible refine (impl_FindLast.calls _ _ t413 (1 + ((l1.length : Int) % 6)) t432 t433 t434 t435 t436 _ ?side1 ?side2 A31.out).mono ?_); (case side1 => exact pc ((Kd.V_reads' HO_420000.out).2.2)); (case side2 => exact (Kd.V_reads' HO_420000.out).2.1); rintro e w48 ⟨rfl, hb⟩; refine ⟨_, rfl, ?_⟩; replace HO_420000 := am (Kd.V_below (pv HO_420000.out) hb); replace HO_420001 := am (Kd.Q_below (pq HO_420001.out) hb); replace HO429 := am (Kd.R_below (pr HO429.out) hb); replace BK419 := am (blk_below (pb BK419.out) hb); replace BK423 := am (blk_below (pb BK423.out) hb); replace HB := am (below_step (bg2 HB.out GE419.out GE423.out) hb); clear hb) | ((with_reducible refine gate_dst (N := 9) rfl ?_); (try (refine gate_guard (by rfl) ?_; dsimp only)); refine box_event ?hg (N := 9) ?hd (cs := #[.int .i64 0, .int .i64 0, .int .i64 0, .int .i64 0]) (t := 30) ?hr ?_; (case hd => rfl); (case hg => rfl); (case hr => first | (go_simp; done) | (go_simp; rfl)); intro gb437 hg w49 hbox hb; replace HO_420000 := am (Kd.V_below (Kd.V_elderB (pv HO_420000.out) gb437 (Nat.le_of_eq hg.symm)) hb); replace HO_420001 := am (Kd.Q_below (pq HO_420001.out) hb); replace HO429 := am (Kd.R_below (pr HO429.out) hb); have BK437 := am (hbox); have GW437 := am (ge hg (bg2 HB.out GE419.out GE423.out)); have GE437 := GW437; replace HB := am (below_step (bg2 HB.out GE419.out GE423.out) hb); have NB419_437 := am (nb hg (pb BK419.out)); have NB437_419 := am (Ne.symm NB419_437.out); replace BK419 := am (blk_below (pb BK419.out) hb); have NB423_437 := am (nb hg (pb BK423.out)); have NB437_423 := am (Ne.symm NB423_437.out); replace BK423 := am (blk_below (pb BK423.out) hb); clear hb hbox hg; have hnb50 := NB437_419.out; have hnc50 := NB419_437.out; have hnb51 := NB437_423.out; have hnc51 := NB423_437.out; obtain ⟨hcz52_0, hcz52_1, hcz52_2, hcz52_3⟩ := b4 BK437.out; obtain ⟨hfz52_0, hfz52_1, hfz52_2, hfz52_3⟩ := f4 BK437.out))
     (try simp only [Act.put, List.setIfInBounds_toArray, List.set_cons_zero, List.set_cons_succ])
     go_cut [70] (fun v70 wc => ∃ (kq : Nat) (x70_31 : Bool), v70 = .bool x70_31 ∧ Aside0 (laws_FnStoreDisk.j2 kq t436 x70_31 t413 t416 t413 y431 = some r) ∧ Aside0 (kq ≤ kj7) ∧ Aside0 (Kd.V k60 60 wc w.heap.size (fun k_ => some k_ ≠ ((.slice (some ad430) t416.length co13) : Value).ownBlock ∧ some k_ ≠ ((.slice (some ⟨go30, 0, none⟩) y427.length co41) : Value).ownBlock ∧ k_ ≠ gb419 ∧ k_ ≠ gb423 ∧ k_ ≠ gb437) (.slice Ao11 t413.length co11) t413) ∧ Aside0 (Kd.Q (Kd.int .i64) 3 wc w.heap.size (fun k_ => some k_ ≠ ((.slice (some ⟨go30, 0, none⟩) y427.length co41) : Value).ownBlock) (.slice (some ad430) t416.length co13) t416) ∧ Aside0 (Kd.V k60 60 wc w.heap.size (fun k_ => some k_ ≠ ((.slice (some ad430) t416.length co13) : Value).ownBlock ∧ some k_ ≠ ((.slice (some ⟨go30, 0, none⟩) y427.length co41) : Value).ownBlock ∧ k_ ≠ gb419 ∧ k_ ≠ gb423 ∧ k_ ≠ gb437) (.slice Ao11 t413.length co11) t413) ∧ Aside0 (Kd.Q (Kd.int .i64) 3 wc w.heap.size (fun k_ => some k_ ≠ ((.slice (some ad430) t416.length co13) : Value).ownBlock) (.slice (some ⟨go30, 0, none⟩) y427.length co41) y431) ∧ Aside0 (wc.heap[gb419]? = some (.cells #[(.slice Ao11 t413.length co11), (.slice (some ad430) t416.length co13)] 26 (0, 0))) ∧ Aside0 (wc.heap[gb423]? = some (.cells #[(.slice Ao11 t413.length co11), (.slice (some ⟨go30, 0, none⟩) y427.length co41)] 26 (0, 0))) ∧ Aside0 (wc.heap[gb437]? = some (.cells #[.int .i64 t432, .int .i64 t433, .int .i64 t434, .int .i64 t435] 30 (0, 0))) ∧ Aside0 (Below w.heap.size w wc))
     case first =>
      have H := HC32.out
      clear HC32
      by_cases c53 : t436 = true
      rotate_left
      · replace c53 := Bool.eq_false_iff.mpr c53
        subst c53
        rw [if_neg (show ¬ (false = true) by decide)] at H
        have H' := am H
        clear H
        go_wp2
        go_meet
        case rel => exact ⟨_, (false), rf, H', ⟨by have := HJ2.out; have := HJ7.out; first | omega | exact Nat.le_refl _⟩, ⟨pv (Kd.V_mono (Kd.V_far (p := ⟨gb437, 3, none⟩) (Kd.V_far (p := ⟨gb437, 2, none⟩) (Kd.V_far (p := ⟨gb437, 1, none⟩) (Kd.V_far (p := ⟨gb437, 0, none⟩) (Kd.V_mono HO_420000.out (fun k_ hk => (⟨hk, hk.2⟩ : _ ∧ k_ ≠ gb437))) (fun _ hk => hk.2) (.int .i64 t432)) (fun _ hk => hk.2) (.int .i64 t433)) (fun _ hk => hk.2) (.int .i64 t434)) (fun _ hk => hk.2) (.int .i64 t435)) (fun _ hk => ⟨hk.1.1.1, ⟨hk.1.1.2.1, ⟨hk.1.1.2.2.1, ⟨hk.1.1.2.2.2, hk.1.2⟩⟩⟩⟩))⟩, ⟨pq (Kd.Q_mono (Kd.Q_far (p := ⟨gb437, 3, none⟩) (Kd.Q_far (p := ⟨gb437, 2, none⟩) (Kd.Q_far (p := ⟨gb437, 1, none⟩) (Kd.Q_far (p := ⟨gb437, 0, none⟩) (Kd.Q_types HO_420001.out BK437.out (by decide)) (fun _ hk => hk.2) (.int .i64 t432)) (fun _ hk => hk.2) (.int .i64 t433)) (fun _ hk => hk.2) (.int .i64 t434)) (fun _ hk => hk.2) (.int .i64 t435)) (fun _ hk => hk.1))⟩, ⟨pv (Kd.V_mono (Kd.V_far (p := ⟨gb437, 3, none⟩) (Kd.V_far (p := ⟨gb437, 2, none⟩) (Kd.V_far (p := ⟨gb437, 1, none⟩) (Kd.V_far (p := ⟨gb437, 0, none⟩) (Kd.V_mono HO_420000.out (fun k_ hk => (⟨hk, hk.2⟩ : _ ∧ k_ ≠ gb437))) (fun _ hk => hk.2) (.int .i64 t432)) (fun _ hk => hk.2) (.int .i64 t433)) (fun _ hk => hk.2) (.int .i64 t434)) (fun _ hk => hk.2) (.int .i64 t435)) (fun _ hk => ⟨hk.1.1.1, ⟨hk.1.1.2.1, ⟨hk.1.1.2.2.1, ⟨hk.1.1.2.2.2, hk.1.2⟩⟩⟩⟩))⟩, ⟨Kd.Q_of_R (pr (Kd.R_mono (Kd.R_far (p := ⟨gb437, 3, none⟩) (Kd.R_far (p := ⟨gb437, 2, none⟩) (Kd.R_far (p := ⟨gb437, 1, none⟩) (Kd.R_far (p := ⟨gb437, 0, none⟩) (Kd.R_types HO429.out BK437.out (by decide)) (fun _ hk => hk.2) (.int .i64 t432)) (fun _ hk => hk.2) (.int .i64 t433)) (fun _ hk => hk.2) (.int .i64 t434)) (fun _ hk => hk.2) (.int .i64 t435)) (fun _ hk => hk.1)))⟩, ⟨bf4 (pb BK419.out) NB419_437.out⟩, ⟨bf4 (pb BK423.out) NB423_437.out⟩, ⟨bp4 (pb BK437.out)⟩, ⟨bg3 HB.out GE419.out GE423.out GE437.out⟩⟩
      subst c53
      rw [if_pos rfl] at H
      have H' := am H
      clear H
      have hnb54 := NB437_419.out
      have hnc54 := NB419_437.out
      have hnb55 := NB437_423.out
      have hnc55 := NB423_437.out
      obtain ⟨hcz56_0, hcz56_1, hcz56_2, hcz56_3⟩ := b4 BK437.out
      obtain ⟨hfz56_0, hfz56_1, hfz56_2, hfz56_3⟩ := f4 BK437.out
      go_wp2
      go_meet
      case rel => exact ⟨_, ((t432 == 2)), rf, H', ⟨by have := HJ2.out; have := HJ7.out; first | omega | exact Nat.le_refl _⟩, ⟨pv (Kd.V_mono (Kd.V_far (p := ⟨gb437, 3, none⟩) (Kd.V_far (p := ⟨gb437, 2, none⟩) (Kd.V_far (p := ⟨gb437, 1, none⟩) (Kd.V_far (p := ⟨gb437, 0, none⟩) (Kd.V_mono HO_420000.out (fun k_ hk => (⟨hk, hk.2⟩ : _ ∧ k_ ≠ gb437))) (fun _ hk => hk.2) (.int .i64 t432)) (fun _ hk => hk.2) (.int .i64 t433)) (fun _ hk => hk.2) (.int .i64 t434)) (fun _ hk => hk.2) (.int .i64 t435)) (fun _ hk => ⟨hk.1.1.1, ⟨hk.1.1.2.1, ⟨hk.1.1.2.2.1, ⟨hk.1.1.2.2.2, hk.1.2⟩⟩⟩⟩))⟩, ⟨pq (Kd.Q_mono (Kd.Q_far (p := ⟨gb437, 3, none⟩) (Kd.Q_far (p := ⟨gb437, 2, none⟩) (Kd.Q_far (p := ⟨gb437, 1, none⟩) (Kd.Q_far (p := ⟨gb437, 0, none⟩) (Kd.Q_types HO_420001.out BK437.out (by decide)) (fun _ hk => hk.2) (.int .i64 t432)) (fun _ hk => hk.2) (.int .i64 t433)) (fun _ hk => hk.2) (.int .i64 t434)) (fun _ hk => hk.2) (.int .i64 t435)) (fun _ hk => hk.1))⟩, ⟨pv (Kd.V_mono (Kd.V_far (p := ⟨gb437, 3, none⟩) (Kd.V_far (p := ⟨gb437, 2, none⟩) (Kd.V_far (p := ⟨gb437, 1, none⟩) (Kd.V_far (p := ⟨gb437, 0, none⟩) (Kd.V_mono HO_420000.out (fun k_ hk => (⟨hk, hk.2⟩ : _ ∧ k_ ≠ gb437))) (fun _ hk => hk.2) (.int .i64 t432)) (fun _ hk => hk.2) (.int .i64 t433)) (fun _ hk => hk.2) (.int .i64 t434)) (fun _ hk => hk.2) (.int .i64 t435)) (fun _ hk => ⟨hk.1.1.1, ⟨hk.1.1.2.1, ⟨hk.1.1.2.2.1, ⟨hk.1.1.2.2.2, hk.1.2⟩⟩⟩⟩))⟩, ⟨Kd.Q_of_R (pr (Kd.R_mono (Kd.R_far (p := ⟨gb437, 3, none⟩) (Kd.R_far (p := ⟨gb437, 2, none⟩) (Kd.R_far (p := ⟨gb437, 1, none⟩) (Kd.R_far (p := ⟨gb437, 0, none⟩) (Kd.R_types HO429.out BK437.out (by decide)) (fun _ hk => hk.2) (.int .i64 t432)) (fun _ hk => hk.2) (.int .i64 t433)) (fun _ hk => hk.2) (.int .i64 t434)) (fun _ hk => hk.2) (.int .i64 t435)) (fun _ hk => hk.1)))⟩, ⟨bf4 (pb BK419.out) NB419_437.out⟩, ⟨bf4 (pb BK423.out) NB423_437.out⟩, ⟨bp4 (pb BK437.out)⟩, ⟨bg3 HB.out GE419.out GE423.out GE437.out⟩⟩
     case rest =>
      clear HC32
      obtain ⟨kq, x70_31, rfl, HA, HJ31, HO_420000, HO_420001, HO_424000, HO_424001, BK419, BK423, BK437, HB⟩ := hcut
      have hl424001_31 := (Kd.Q_reads' HO_424001.out).1
      rw [hl424001_31] at HO_424001
      (try simp only [hl424001_31])
      (try simp only [hl424001_31] at BK419)
      (try simp only [hl424001_31] at BK423)
      (try simp only [hl424001_31] at BK437)
      (try simp only [hl424001_31] at HO_420000)
      (try simp only [hl424001_31] at HO_420001)
      (try simp only [hl424001_31] at HO_424000)
      cases kq with
      | zero => exact absurd HA.out (by simp [laws_FnStoreDisk.j2])
      | succ kj31 =>
       have H := HA.out
       clear HA
       simp only [laws_FnStoreDisk.j2] at H
       by_cases c57 : x70_31 = true
       · subst c57
         rw [if_pos rfl] at H
         replace H := Option.bind_eq_some_iff.mp H
         obtain ⟨t438, A580, H⟩ := H
         have A58 := am A580
         clear A580
         obtain rfl := Option.some.inj H
         have hnb59 := NB423_419.out
         have hnc59 := NB419_423.out
         have hnb60 := NB423_437.out
         have hnc60 := NB437_423.out
         obtain ⟨hcz61_0, hcz61_1⟩ := b2 BK423.out
         obtain ⟨hfz61_0, hfz61_1⟩ := f2 BK423.out
         go_wp2_with (first | (refine gl 72 Try.func5 #[.agg #[.slice Ao11 t413.length co11, .slice (some ⟨go30, 0, none⟩) y431.length co41]] rfl ?_; (with_reducible refine (impl_StoreOk.calls _ _ t413 _ _ y431 t438 _ ?side1 ?side2 ?side3 ?side4 A58.out).mono ?_); (case side1 => exact pc ((Kd.V_reads' HO_424000.out).2.2)); (case side2 => exact (Kd.V_reads' HO_424000.out).2.1); (case side3 => exact pc ((Kd.Q_reads' HO_424001.out).2.2)); (case side4 => exact (Kd.Q_reads' HO_424001.out).2.1); rintro e w62 ⟨rfl, hb⟩; refine ⟨_, rfl, ?_⟩; replace HO_420000 := am (Kd.V_below (pv HO_420000.out) hb); replace HO_420001 := am (Kd.Q_below (pq HO_420001.out) hb); replace HO_424000 := am (Kd.V_below (pv HO_424000.out) hb); replace HO_424001 := am (Kd.Q_below (pq HO_424001.out) hb); replace BK419 := am (blk_below (pb BK419.out) hb); replace BK423 := am (blk_below (pb BK423.out) hb); replace BK437 := am (blk_below (pb BK437.out) hb); replace HB := am (below_step (bg3 HB.out GE419.out GE423.out GE437.out) hb); clear hb))
         go_ret
         exact ⟨by first | rfl | (simp [errW_none, errW_some] <;> rfl) | (simp only [← hji26]; first | rfl | (simp [errW_none, errW_some] <;> rfl)) | (simp [*, errW_none, errW_some] <;> rfl), bg3 HB.out GE419.out GE423.out GE437.out⟩
       replace c57 := Bool.eq_false_iff.mpr c57
       subst c57
       rw [if_neg (show ¬ (false = true) by decide)] at H
       replace H := Option.bind_eq_some_iff.mp H
       obtain ⟨t439, A630, H⟩ := H
       have A63 := am A630
       clear A630
       by_cases c64 : t439 = true
       rotate_left
       · replace c64 := Bool.eq_false_iff.mpr c64
         subst c64
         rw [if_neg (show ¬ (false = true) by decide)] at H
         obtain rfl := Option.some.inj H
         try go_wp2
         replace HO_420000 := am (Kd.V_drew HO_420000.out)
         replace HO_420001 := am (Kd.Q_drew HO_420001.out)
         replace HO_424000 := am (Kd.V_drew HO_424000.out)
         replace HO_424001 := am (Kd.Q_drew HO_424001.out)
         replace BK419 := am (blk_drew BK419.out)
         replace BK423 := am (blk_drew BK423.out)
         replace BK437 := am (blk_drew BK437.out)
         replace HB := am (below_drew1 HB.out)
         refine start_ (n := 14) (S := fun w' => w'.cell? ⟨gb423, 0, none⟩ = some (.slice Ao11 t413.length co11) ∧ w'.cell? ⟨gb423, 1, none⟩ = some (.slice (some ⟨go30, 0, none⟩) y431.length co41)) (ds := []) (bt 14 0) (by kernel_rfl) rfl rfl ⟨(blk_cell BK423.out 0).trans rfl, (blk_cell BK423.out 1).trans rfl⟩ (fun hHeld => ?_); refine with_tabW laws_FnStoreDisk.tab14 laws_FnStoreDisk.bits14 (fun HT_ HW_ => ?_)
         generalize wc.drew = w77 at HO_420000 HO_420001 HO_424000 HO_424001 BK419 BK423 BK437 HB hHeld ⊢
         refine qm 0 74 (bt 14 1) rfl rfl HT_.out HW_.out hHeld ?_
         refine qo 1 (some 75) (bt 14 3) rfl rfl HT_.out fun K hK => ?_
         refine qg Try.func5 #[.agg #[.slice Ao11 t413.length co11, .slice (some ⟨go30, 0, none⟩) y431.length co41]] rfl rfl ?_
         with_reducible refine (impl_StoreOk.calls _ _ t413 _ _ y431 false _ ?side1 ?side2 ?side3 ?side4 A63.out).mono ?_
         (case side1 => exact pc ((Kd.V_reads' HO_424000.out).2.2))
         (case side2 => exact (Kd.V_reads' HO_424000.out).2.1)
         (case side3 => exact pc ((Kd.Q_reads' HO_424001.out).2.2))
         (case side4 => exact (Kd.Q_reads' HO_424001.out).2.1)
         rintro e w78 ⟨rfl, hb⟩
         refine ⟨_, rfl, ?_⟩
         replace HO_420000 := am (Kd.V_below (pv HO_420000.out) hb)
         replace HO_420001 := am (Kd.Q_below (pq HO_420001.out) hb)
         replace HO_424000 := am (Kd.V_below (pv HO_424000.out) hb)
         replace HO_424001 := am (Kd.Q_below (pq HO_424001.out) hb)
         replace BK419 := am (blk_below (pb BK419.out) hb)
         replace BK423 := am (blk_below (pb BK423.out) hb)
         replace BK437 := am (blk_below (pb BK437.out) hb)
         replace HB := am (below_step (bg3 HB.out GE419.out GE423.out GE437.out) hb)
         clear hb
         refine hK.out _ _ ⟨(blk_cell BK423.out 0).trans rfl, (blk_cell BK423.out 1).trans rfl⟩ (fun hHeld => ?_)
         clear hK K
         refine qn (some 75) ?_
         refine qj 2 76 (bt 14 7) rfl rfl HT_.out ?_
         refine qv 3 77 (bt 14 15) rfl rfl HT_.out ?_
         refine qv 4 78 (bt 14 31) rfl rfl HT_.out ?_
         refine qv 5 79 (bt 14 63) rfl rfl HT_.out ?_
         refine qv 6 80 (bt 14 127) rfl rfl HT_.out ?_
         refine qv 7 81 (bt 14 255) rfl rfl HT_.out ?_
         refine qv 8 82 (bt 14 511) rfl rfl HT_.out ?_
         refine qv 9 83 (bt 14 1023) rfl rfl HT_.out ?_
         refine qv 10 84 (bt 14 2047) rfl rfl HT_.out ?_
         refine qv 11 85 (bt 14 4095) rfl rfl HT_.out ?_
         refine qj 12 86 (bt 14 8191) rfl rfl HT_.out ?_
         refine qj 13 4 (bt 14 16383) rfl rfl HT_.out ?_
         refine done_ (done_of HT_.out (by kernel_rfl)) ?_
         try go_wp2
         go_ret
         exact ⟨by first | rfl | (simp [errW_none, errW_some] <;> rfl) | (simp only [← hji26]; first | rfl | (simp [errW_none, errW_some] <;> rfl)) | (simp [*, errW_none, errW_some] <;> rfl), bg3 HB.out GE419.out GE423.out GE437.out⟩
       subst c64
       rw [if_pos rfl] at H
       by_cases c65 : t436 = true
       rotate_left
       · replace c65 := Bool.eq_false_iff.mpr c65
         subst c65
         rw [if_neg (show ¬ (false = true) by decide)] at H
         obtain rfl := Option.some.inj H
         try go_wp2
         replace HO_420000 := am (Kd.V_drew HO_420000.out)
         replace HO_420001 := am (Kd.Q_drew HO_420001.out)
         replace HO_424000 := am (Kd.V_drew HO_424000.out)
         replace HO_424001 := am (Kd.Q_drew HO_424001.out)
         replace BK419 := am (blk_drew BK419.out)
         replace BK423 := am (blk_drew BK423.out)
         replace BK437 := am (blk_drew BK437.out)
         replace HB := am (below_drew1 HB.out)
         refine start_ (n := 14) (S := fun w' => w'.cell? ⟨gb423, 0, none⟩ = some (.slice Ao11 t413.length co11) ∧ w'.cell? ⟨gb423, 1, none⟩ = some (.slice (some ⟨go30, 0, none⟩) y431.length co41)) (ds := []) (bt 14 0) (by kernel_rfl) rfl rfl ⟨(blk_cell BK423.out 0).trans rfl, (blk_cell BK423.out 1).trans rfl⟩ (fun hHeld => ?_); refine with_tabW laws_FnStoreDisk.tab14 laws_FnStoreDisk.bits14 (fun HT_ HW_ => ?_)
         generalize wc.drew = w75 at HO_420000 HO_420001 HO_424000 HO_424001 BK419 BK423 BK437 HB hHeld ⊢
         refine qm 0 74 (bt 14 1) rfl rfl HT_.out HW_.out hHeld ?_
         refine qo 1 (some 75) (bt 14 3) rfl rfl HT_.out fun K hK => ?_
         refine qg Try.func5 #[.agg #[.slice Ao11 t413.length co11, .slice (some ⟨go30, 0, none⟩) y431.length co41]] rfl rfl ?_
         with_reducible refine (impl_StoreOk.calls _ _ t413 _ _ y431 true _ ?side1 ?side2 ?side3 ?side4 A63.out).mono ?_
         (case side1 => exact pc ((Kd.V_reads' HO_424000.out).2.2))
         (case side2 => exact (Kd.V_reads' HO_424000.out).2.1)
         (case side3 => exact pc ((Kd.Q_reads' HO_424001.out).2.2))
         (case side4 => exact (Kd.Q_reads' HO_424001.out).2.1)
         rintro e w76 ⟨rfl, hb⟩
         refine ⟨_, rfl, ?_⟩
         replace HO_420000 := am (Kd.V_below (pv HO_420000.out) hb)
         replace HO_420001 := am (Kd.Q_below (pq HO_420001.out) hb)
         replace HO_424000 := am (Kd.V_below (pv HO_424000.out) hb)
         replace HO_424001 := am (Kd.Q_below (pq HO_424001.out) hb)
         replace BK419 := am (blk_below (pb BK419.out) hb)
         replace BK423 := am (blk_below (pb BK423.out) hb)
         replace BK437 := am (blk_below (pb BK437.out) hb)
         replace HB := am (below_step (bg3 HB.out GE419.out GE423.out GE437.out) hb)
         clear hb
         refine hK.out _ _ ⟨(blk_cell BK423.out 0).trans rfl, (blk_cell BK423.out 1).trans rfl⟩ (fun hHeld => ?_)
         clear hK K
         refine qn (some 75) ?_
         refine qj 2 76 (bt 14 7) rfl rfl HT_.out ?_
         refine qj 3 77 (bt 14 15) rfl rfl HT_.out ?_
         refine qj 4 78 (bt 14 31) rfl rfl HT_.out ?_
         refine qj 5 79 (bt 14 63) rfl rfl HT_.out ?_
         refine qv 6 80 (bt 14 127) rfl rfl HT_.out ?_
         refine qv 7 81 (bt 14 255) rfl rfl HT_.out ?_
         refine qv 8 82 (bt 14 511) rfl rfl HT_.out ?_
         refine qv 9 83 (bt 14 1023) rfl rfl HT_.out ?_
         refine qv 10 84 (bt 14 2047) rfl rfl HT_.out ?_
         refine qj 11 85 (bt 14 4095) rfl rfl HT_.out ?_
         refine qj 12 86 (bt 14 8191) rfl rfl HT_.out ?_
         refine qj 13 4 (bt 14 16383) rfl rfl HT_.out ?_
         refine done_ (done_of HT_.out (by kernel_rfl)) ?_
         try go_wp2
         go_ret
         exact ⟨by first | rfl | (simp [errW_none, errW_some] <;> rfl) | (simp only [← hji26]; first | rfl | (simp [errW_none, errW_some] <;> rfl)) | (simp [*, errW_none, errW_some] <;> rfl), bg3 HB.out GE419.out GE423.out GE437.out⟩
       subst c65
       rw [if_pos rfl] at H
       replace H := Option.bind_eq_some_iff.mp H
       obtain ⟨t440, A660, H⟩ := H
       have A66 := am A660
       clear A660
       replace H := Option.bind_eq_some_iff.mp H
       obtain ⟨t443, A670, H⟩ := H
       have A67 := am A670
       clear A670
       replace H := Option.bind_eq_some_iff.mp H
       obtain ⟨t446, A680, H⟩ := H
       have A68 := am A680
       clear A680
       obtain rfl := Option.some.inj H
       try go_wp2
       replace HO_420000 := am (Kd.V_drew HO_420000.out)
       replace HO_420001 := am (Kd.Q_drew HO_420001.out)
       replace HO_424000 := am (Kd.V_drew HO_424000.out)
       replace HO_424001 := am (Kd.Q_drew HO_424001.out)
       replace BK419 := am (blk_drew BK419.out)
       replace BK423 := am (blk_drew BK423.out)
       replace BK437 := am (blk_drew BK437.out)
       replace HB := am (below_drew1 HB.out)
       refine start_ (n := 14) (S := fun w' => w'.cell? ⟨gb423, 0, none⟩ = some (.slice Ao11 t413.length co11) ∧ w'.cell? ⟨gb423, 1, none⟩ = some (.slice (some ⟨go30, 0, none⟩) y431.length co41) ∧ w'.cell? ⟨gb419, 0, none⟩ = some (.slice Ao11 t413.length co11) ∧ w'.cell? ⟨gb419, 1, none⟩ = some (.slice (some ad430) t416.length co13)) (ds := []) (bt 14 0) (by kernel_rfl) rfl rfl ⟨(blk_cell BK423.out 0).trans rfl, (blk_cell BK423.out 1).trans rfl, (blk_cell BK419.out 0).trans rfl, (blk_cell BK419.out 1).trans rfl⟩ (fun hHeld => ?_); refine with_tabW laws_FnStoreDisk.tab14 laws_FnStoreDisk.bits14 (fun HT_ HW_ => ?_)
       generalize wc.drew = w69 at HO_420000 HO_420001 HO_424000 HO_424001 BK419 BK423 BK437 HB hHeld ⊢
       refine qm 0 74 (bt 14 1) rfl rfl HT_.out HW_.out hHeld ?_
       refine qo 1 (some 75) (bt 14 3) rfl rfl HT_.out fun K hK => ?_
       refine qg Try.func5 #[.agg #[.slice Ao11 t413.length co11, .slice (some ⟨go30, 0, none⟩) y431.length co41]] rfl rfl ?_
       with_reducible refine (impl_StoreOk.calls _ _ t413 _ _ y431 true _ ?side1 ?side2 ?side3 ?side4 A63.out).mono ?_
       (case side1 => exact pc ((Kd.V_reads' HO_424000.out).2.2))
       (case side2 => exact (Kd.V_reads' HO_424000.out).2.1)
       (case side3 => exact pc ((Kd.Q_reads' HO_424001.out).2.2))
       (case side4 => exact (Kd.Q_reads' HO_424001.out).2.1)
       rintro e w70 ⟨rfl, hb⟩
       refine ⟨_, rfl, ?_⟩
       replace HO_420000 := am (Kd.V_below (pv HO_420000.out) hb)
       replace HO_420001 := am (Kd.Q_below (pq HO_420001.out) hb)
       replace HO_424000 := am (Kd.V_below (pv HO_424000.out) hb)
       replace HO_424001 := am (Kd.Q_below (pq HO_424001.out) hb)
       replace BK419 := am (blk_below (pb BK419.out) hb)
       replace BK423 := am (blk_below (pb BK423.out) hb)
       replace BK437 := am (blk_below (pb BK437.out) hb)
       replace HB := am (below_step (bg3 HB.out GE419.out GE423.out GE437.out) hb)
       clear hb
       refine hK.out _ _ ⟨(blk_cell BK423.out 0).trans rfl, (blk_cell BK423.out 1).trans rfl, (blk_cell BK419.out 0).trans rfl, (blk_cell BK419.out 1).trans rfl⟩ (fun hHeld => ?_)
       clear hK K
       refine qn (some 75) ?_
       refine qj 2 76 (bt 14 7) rfl rfl HT_.out ?_
       refine qj 3 77 (bt 14 15) rfl rfl HT_.out ?_
       refine qj 4 78 (bt 14 31) rfl rfl HT_.out ?_
       refine qj 5 79 (bt 14 63) rfl rfl HT_.out ?_
       refine qm 6 80 (bt 14 127) rfl rfl HT_.out HW_.out hHeld ?_
       refine qm 8 82 (bt 14 383) rfl rfl HT_.out HW_.out hHeld ?_
       refine qo 7 (some 81) (bt 14 511) rfl rfl HT_.out fun K hK => ?_
       refine qg Try.func9 #[.agg #[.slice Ao11 t413.length co11, .slice (some ⟨go30, 0, none⟩) y431.length co41]] rfl rfl ?_
       with_reducible refine (impl_StoreAll.calls _ _ t413 _ _ y431 t440 _ ?side1 ?side2 ?side3 ?side4 A66.out).mono ?_
       (case side1 => exact pc ((Kd.V_reads' HO_424000.out).2.2))
       (case side2 => exact (Kd.V_reads' HO_424000.out).2.1)
       (case side3 => exact pc ((Kd.Q_reads' HO_424001.out).2.2))
       (case side4 => exact (Kd.Q_reads' HO_424001.out).2.1)
       rintro e w71 ⟨v441, rfl, ho0, hb⟩
       refine ⟨_, rfl, ?_⟩
       replace HO_420000 := am (Kd.V_elder' (pv HO_420000.out) (Kd.R_base ho0) hb)
       replace HO_424000 := am (Kd.V_elder' (pv HO_424000.out) (Kd.R_base ho0) hb)
       have HO442 := am (Kd.R_lower (Kd.R_new' (Kd.R_new' ho0 (Kd.Q_lt (pq HO_420001.out))) (Kd.Q_lt (pq HO_424001.out))) (below_size (bg3 HB.out GE419.out GE423.out GE437.out)))
       replace HO_420001 := am (Kd.Q_elder' (pq HO_420001.out) (Kd.R_base ho0) hb)
       replace HO_424001 := am (Kd.Q_elder' (pq HO_424001.out) (Kd.R_base ho0) hb)
       replace BK419 := am (blk_below (pb BK419.out) hb)
       replace BK423 := am (blk_below (pb BK423.out) hb)
       replace BK437 := am (blk_below (pb BK437.out) hb)
       replace HB := am (below_step (bg3 HB.out GE419.out GE423.out GE437.out) hb)
       clear hb ho0
       refine hK.out _ _ ⟨(blk_cell BK423.out 0).trans rfl, (blk_cell BK423.out 1).trans rfl, (blk_cell BK419.out 0).trans rfl, (blk_cell BK419.out 1).trans rfl⟩ (fun hHeld => ?_)
       clear hK K
       refine qn (some 81) ?_
       refine qo 9 (some 83) (bt 14 1023) rfl rfl HT_.out fun K hK => ?_
       refine qg Try.func9 #[.agg #[.slice Ao11 t413.length co11, .slice (some ad430) t416.length co13]] rfl rfl ?_
       with_reducible refine (impl_StoreAll.calls _ _ t413 _ _ t416 t443 _ ?side1 ?side2 ?side3 ?side4 A67.out).mono ?_
       (case side1 => exact pc ((Kd.V_reads' HO_420000.out).2.2))
       (case side2 => exact (Kd.V_reads' HO_420000.out).2.1)
       (case side3 => exact pc ((Kd.Q_reads' HO_420001.out).2.2))
       (case side4 => exact (Kd.Q_reads' HO_420001.out).2.1)
       rintro e w72 ⟨v444, rfl, ho0, hb⟩
       refine ⟨_, rfl, ?_⟩
       replace HO_420000 := am (Kd.V_elder' (pv HO_420000.out) (Kd.R_base ho0) hb)
       replace HO_424000 := am (Kd.V_elder' (pv HO_424000.out) (Kd.R_base ho0) hb)
       have HO445 := am (Kd.R_lower (Kd.R_new' (Kd.R_new' (Kd.R_new' ho0 (Kd.Q_lt (pq HO_420001.out))) (Kd.Q_lt (pq HO_424001.out))) (Kd.R_lt (pr HO442.out))) (below_size (bg3 HB.out GE419.out GE423.out GE437.out)))
       replace HO_420001 := am (Kd.Q_elder' (pq HO_420001.out) (Kd.R_base ho0) hb)
       replace HO_424001 := am (Kd.Q_elder' (pq HO_424001.out) (Kd.R_base ho0) hb)
       replace HO442 := am (Kd.R_elder' (pr HO442.out) (Kd.R_base ho0) hb)
       replace BK419 := am (blk_below (pb BK419.out) hb)
       replace BK423 := am (blk_below (pb BK423.out) hb)
       replace BK437 := am (blk_below (pb BK437.out) hb)
       replace HB := am (below_step (bg3 HB.out GE419.out GE423.out GE437.out) hb)
       clear hb ho0
       obtain ⟨Ao73, co73, eo73⟩ := Kd.R_slice HO442.out
       (first | subst eo73 | (injection eo73 with f1_ f2_ f3_; have f4_ := f1_.symm; have f5_ := f3_.symm; clear f1_ f2_ f3_; subst f4_; subst f5_))
       obtain ⟨Ao74, co74, eo74⟩ := Kd.R_slice HO445.out
       (first | subst eo74 | (injection eo74 with f1_ f2_ f3_; have f4_ := f1_.symm; have f5_ := f3_.symm; clear f1_ f2_ f3_; subst f4_; subst f5_))
       refine hK.out _ _ ⟨(blk_cell BK423.out 0).trans rfl, (blk_cell BK423.out 1).trans rfl, (blk_cell BK419.out 0).trans rfl, (blk_cell BK419.out 1).trans rfl⟩ (fun hHeld => ?_)
       clear hK K
       refine qn (some 83) ?_
       refine qo 10 (some 84) (bt 14 2047) rfl rfl HT_.out fun K hK => ?_
       refine qg Try.func8 #[.slice Ao73 t440.length co73, .slice Ao74 t443.length co74] rfl rfl ?_
       with_reducible refine (laws_lqInts.calls kj31 _ _ t440 _ _ t443 t446 _ ?side1 ?side2 ?side3 ?side4 A68.out).mono ?_
       (case side1 => exact pc ((Kd.R_reads' HO442.out).2.2))
       (case side2 => exact (Kd.R_reads' HO442.out).2.1)
       (case side3 => exact pc ((Kd.R_reads' HO445.out).2.2))
       (case side4 => exact (Kd.R_reads' HO445.out).2.1)
       rintro e w' ⟨rfl, ⟨nd, rfl⟩⟩
       refine ⟨_, rfl, ?_⟩
       refine hK.out _ _ ⟨(blk_cell BK423.out 0).trans rfl, (blk_cell BK423.out 1).trans rfl, (blk_cell BK419.out 0).trans rfl, (blk_cell BK419.out 1).trans rfl⟩ (fun hHeld => ?_)
       clear hK K
       refine qn (some 84) ?_
       refine qj 11 85 (bt 14 4095) rfl rfl HT_.out ?_
       refine qj 12 86 (bt 14 8191) rfl rfl HT_.out ?_
       refine qj 13 4 (bt 14 16383) rfl rfl HT_.out ?_
       refine done_ (done_of HT_.out (by kernel_rfl)) ?_
       try go_wp2
       go_ret
       exact ⟨by first | rfl | (simp [errW_none, errW_some] <;> rfl) | (simp only [← hji26]; first | rfl | (simp [errW_none, errW_some] <;> rfl)) | (simp [*, errW_none, errW_some] <;> rfl), bg3 HB.out GE419.out GE423.out GE437.out⟩
def laws_FnStoreDisk.Pure : Prop := ∀ (l0 : List Int) (l1 : List Int), l0.length ≤ maxLen → l0.length * 1 ≤ 140737488351232 → (∀ x ∈ l0, (Lit.int .u8 x).wf = true) → l1.length ≤ maxLen → l1.length * 1 ≤ 140737488351232 → (∀ x ∈ l1, (Lit.int .u8 x).wf = true) → ∃ k, laws_FnStoreDisk.f k l0 l1 = some true
theorem laws_FnStoreDisk.walk (P : laws_FnStoreDisk.Pure) (a0 : Option Addr) (len0 cap0 : Nat) (z0 : List Int) (a1 : Option Addr) (len1 cap1 : Nat) (z1 : List Int) (w : World) (w0 : (a0 = none ∧ len0 = 0 ∧ cap0 = 0 ∧ z0 = []) ∨ ∃ x, a0 = some x ∧ len0 ≤ cap0 ∧ cap0 ≤ maxLen ∧ z0.length = cap0 ∧ (∀ i, i < z0.length → w.cell? (x.add i) = some (.int .u8 (z0.getD i 0))) ∧ ∀ n ∈ z0, (Lit.int .u8 n).wf = true) (y0 : len0 * 1 ≤ 140737488351232) (w1 : (a1 = none ∧ len1 = 0 ∧ cap1 = 0 ∧ z1 = []) ∨ ∃ x, a1 = some x ∧ len1 ≤ cap1 ∧ cap1 ≤ maxLen ∧ z1.length = cap1 ∧ (∀ i, i < z1.length → w.cell? (x.add i) = some (.int .u8 (z1.getD i 0))) ∧ ∀ n ∈ z1, (Lit.int .u8 n).wf = true) (y1 : len1 * 1 ≤ 140737488351232) :
 Calls Try.prog 3 #[.slice a0 len0 cap0, .slice a1 len1 cap1] w fun e w' => e = .returned (.bool true) ∧ Below w.heap.size w w' := by
 obtain ⟨l0, rfl, hr0, hm0, hw0, hc0⟩ := ReadsInt.ofRowC w0
 obtain ⟨l1, rfl, hr1, hm1, hw1, hc1⟩ := ReadsInt.ofRowC w1
 obtain ⟨k, h⟩ := P l0 l1 hm0 y0 hw0 hm1 y1 hw1
 refine (laws_FnStoreDisk.calls k _ _ l0 _ _ l1 true w (Kd.C_of_reads (d := (0 : Int)) (h1 := fun _ => rfl) hr0) hc0 (Kd.C_of_reads (d := (0 : Int)) (h1 := fun _ => rfl) hr1) hc1 h).mono ?_
 rintro e w' ⟨rfl, hd⟩
 exact ⟨rfl, hd⟩
end Go.Proofs.Ytcfpddgfhkaboaa.Rz
