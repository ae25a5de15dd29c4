-- printed by wip/pp/pp.py
import Derived.Test.YthmgdljblidgjaaRw0
import Derived.Test.YthmgdljblidgjaaRw8
import Derived.Test.YthmgdljblidgjaaWMap
import Derived.Maps.OwnOps
import Derived.Maps.Own
import Derived.IntWalk
import Derived.WalkArith
import Derived.Laws.CopyRow
import Derived.Deep.WholeRow
import Derived.Deep.RegionHeld3
import Derived.RegionTactic
namespace Go.Proofs.Ythmgdljblidgjaa.Rw
open Go.RowKit Go.Proofs.YthmgdljblidgjaaW.PrintWords Go.Proofs.YthmgdljblidgjaaW.PrintLast Go.Proofs.YthmgdljblidgjaaW.PrintMore
attribute [local go_sem] max2_int min2_int max_two min_two max_three min_three max_four min_four
set_option linter.unusedVariables false
set_option linter.unusedSimpArgs false
mutual
def impl_blockShape.j0 : Nat → Bool → List (S33) → Int → Option (Bool)
 | 0, _, _, _ => none
 | k + 1, x19, x420000, x420001 => if x19 = true then (some false) else (impl_blockShape.l0 k false x420000 (x420000.length : Int) 0)
def impl_blockShape.l0 : Nat → Bool → List (S33) → Int → Int → Option (Bool)
 | 0, _, _, _, _ => none
 | k + 1, x3, x21, x22, x23 => if x23 < x22 then (if 0 ≤ x23 then (if x23 < (x21.length : Int) then (if x3 = true then (if ((rd_T33 x21 x23).f0) = 0 then (impl_blockShape.l0 k (((rd_T33 x21 x23).f0) == 0) x21 x22 (wrap64 (x23 + 1))) else (some false)) else (impl_blockShape.l0 k (((rd_T33 x21 x23).f0) == 0) x21 x22 (wrap64 (x23 + 1)))) else (none)) else (none)) else (some true)
end
def impl_blockShape.f (k : Nat) (l0_0 : List (S33)) (a0_1 : Int) : Option (Bool) := if (l0_0.length : Int) = 4 then (if a0_1 < 0 then (impl_blockShape.j0 k true l0_0 a0_1) else (impl_blockShape.j0 k (decide (a0_1 > 200)) l0_0 a0_1)) else (impl_blockShape.j0 k true l0_0 a0_1)
theorem impl_blockShape.mono_l : ∀ k, (∀ y0 y1 y2, LeO (impl_blockShape.j0 k y0 y1 y2) (impl_blockShape.j0 (k + 1) y0 y1 y2)) ∧ (∀ y0 y1 y2 y3, LeO (impl_blockShape.l0 k y0 y1 y2 y3) (impl_blockShape.l0 (k + 1) y0 y1 y2 y3))
 | 0 => ⟨fun _ _ _ r h => by simp [impl_blockShape.j0] at h, fun _ _ _ _ r h => by simp [impl_blockShape.l0] at h⟩
 | k + 1 => by
  obtain ⟨ih0, ih1⟩ := impl_blockShape.mono_l k
  refine ⟨?_, ?_⟩
  · intro y0 y1 y2
    unfold impl_blockShape.j0
    with_reducible repeat' first | exact ih0 _ _ _ | exact ih1 _ _ _ _ | exact LeO.refl _ | exact LeO.none _ | refine LeO.ite ?_ ?_ | refine LeO.bind ?_ (fun _ => ?_)
  · intro y0 y1 y2 y3
    unfold impl_blockShape.l0
    with_reducible repeat' first | exact ih0 _ _ _ | exact ih1 _ _ _ _ | exact LeO.refl _ | exact LeO.none _ | refine LeO.ite ?_ ?_ | refine LeO.bind ?_ (fun _ => ?_)
theorem impl_blockShape.mono : ∀ a0 a1 k, LeO (impl_blockShape.f k a0 a1) (impl_blockShape.f (k + 1) a0 a1) := by
 intro a0 a1 k
 obtain ⟨ih0, ih1⟩ := impl_blockShape.mono_l k
 unfold impl_blockShape.f
 with_reducible repeat' first | exact ih0 _ _ _ | exact ih1 _ _ _ _ | exact LeO.refl _ | exact LeO.none _ | refine LeO.ite ?_ ?_ | refine LeO.bind ?_ (fun _ => ?_)
set_option maxHeartbeats 8000000 in
set_option maxRecDepth 100000 in
theorem impl_blockShape.calls (k : Nat) (A0_0 : Option Addr) (c0_0 : Nat) (l0_0 : List (S33)) (a0_1 : Int) (r : Bool) (w : World) (hr0_0 : Kd.C k33 w A0_0 l0_0.length l0_0) (hc0_0 : l0_0.length ≤ c0_0) (h : impl_blockShape.f k l0_0 a0_1 = some r) :
 Calls Try.prog 28 #[.agg #[.slice A0_0 l0_0.length c0_0, .int .i64 a0_1]] w fun e w' => e = .returned (.bool r) ∧ Below w.heap.size w w' := by
 have hu36 := Try.underlying36
 have hu33 := Try.underlying33
 have HR0_0 := am hr0_0
 have HC0_0 := am hc0_0
 clear hr0_0 hc0_0
 have HB := am (Below.refl w.heap.size w)
 have H : (if (l0_0.length : Int) = 4 then (if a0_1 < 0 then (impl_blockShape.j0 k true l0_0 a0_1) else (impl_blockShape.j0 k (decide (a0_1 > 200)) l0_0 a0_1)) else (impl_blockShape.j0 k true l0_0 a0_1)) = some r := h
 clear h
 have HC2 := am H
 clear H
 go_enter Try.func28, Try.ntmps28
 go_upto_region 1 with (first | (refine bx 1 #[.slice A0_0 l0_0.length c0_0, .int .i64 a0_1] 36 rfl ?_; intro gb419 hg w3 hbox hb; have BK419 := am (hbox); have GW419 := am (ge hg (ph HB.out)); have GE419 := GW419; replace HB := am (below_step (ph HB.out) hb); clear hb hbox hg))
 (try simp only [Act.put, List.setIfInBounds_toArray, List.set_cons_zero, List.set_cons_succ])
 go_cut [19] (fun v19 wc => ∃ (kq : Nat) (x19_1 : Bool), v19 = .bool x19_1 ∧ Aside0 (impl_blockShape.j0 kq x19_1 l0_0 a0_1 = some r) ∧ Aside0 (kq ≤ k) ∧ Aside0 (wc.heap[gb419]? = some (.cells #[(.slice A0_0 l0_0.length c0_0), .int .i64 a0_1] 36 (0, 0))) ∧ Aside0 (Below w.heap.size w wc))
 case first =>
  have H := HC2.out
  clear HC2
  by_cases c4 : (l0_0.length : Int) = 4
  rotate_left
  · rw [if_neg c4] at H
    have c4b0 : ((l0_0.length : Int) == 4) = false := beq_eq_false_iff_ne.mpr c4
    have c4b1 : ((l0_0.length : Int) != 4) = true := bne_iff_ne.mpr c4
    (first | rw [c4b0] | (simp only [i64_w, i32_w]; rw [c4b0]) | skip)
    have H' := am H
    clear H
    obtain ⟨hcz8_0, hcz8_1⟩ := b2 BK419.out
    obtain ⟨hfz8_0, hfz8_1⟩ := f2 BK419.out
    go_wp2
    go_meet
    case rel => exact ⟨_, (true), rf, H', ⟨by first | omega | exact Nat.le_refl _⟩, ⟨pb BK419.out⟩, ⟨bg1 HB.out GE419.out⟩⟩
  rw [if_pos c4] at H
  have c4b0 : ((l0_0.length : Int) == 4) = true := beq_iff_eq.mpr c4
  have c4b1 : ((l0_0.length : Int) != 4) = false := bne_eq_false_iff_eq.mpr c4
  clear c4
  (first | rw [c4b0] | (simp only [i64_w, i32_w]; rw [c4b0]) | skip)
  by_cases c5 : a0_1 < 0
  · rw [if_pos c5] at H
    have c5b0 := decide_eq_true c5
    clear c5
    have H' := am H
    clear H
    obtain ⟨hcz6_0, hcz6_1⟩ := b2 BK419.out
    obtain ⟨hfz6_0, hfz6_1⟩ := f2 BK419.out
    go_wp2
    go_meet
    case rel => exact ⟨_, (true), rf, H', ⟨by first | omega | exact Nat.le_refl _⟩, ⟨pb BK419.out⟩, ⟨bg1 HB.out GE419.out⟩⟩
  rw [if_neg c5] at H
  have c5b0 := decide_eq_false c5
  clear c5
  have H' := am H
  clear H
  obtain ⟨hcz7_0, hcz7_1⟩ := b2 BK419.out
  obtain ⟨hfz7_0, hfz7_1⟩ := f2 BK419.out
  go_wp2
  go_meet
  case rel => exact ⟨_, (decide (a0_1 > 200)), rf, H', ⟨by first | omega | exact Nat.le_refl _⟩, ⟨pb BK419.out⟩, ⟨bg1 HB.out GE419.out⟩⟩
 case rest =>
  clear HC2
  obtain ⟨kq, x19_1, rfl, HA, HJ1, BK419, HB⟩ := hcut
  cases kq with
  | zero => exact absurd HA.out (by simp [impl_blockShape.j0])
  | succ kj1 =>
   have H := HA.out
   clear HA
   simp only [impl_blockShape.j0] at H
   by_cases c9 : x19_1 = true
   · subst c9
     rw [if_pos rfl] at H
     obtain rfl := Option.some.inj H
     go_wp2
     go_ret
     exact (rq (bg1 HB.out GE419.out))
   replace c9 := Bool.eq_false_iff.mpr c9
   subst c9
   rw [if_neg (show ¬ (false = true) by decide)] at H
   have H' := am H
   clear H
   obtain ⟨hcz10_0, hcz10_1⟩ := b2 BK419.out
   obtain ⟨hfz10_0, hfz10_1⟩ := f2 BK419.out
   go_wp2
   go_loopg [3, 23] kj1 (fun kq v3 v23 w' => ∃ (x3_2 : Bool) (x23_2 : Int), v3 = .bool x3_2 ∧ v23 = .int .i64 x23_2 ∧ Aside0 (impl_blockShape.l0 kq x3_2 l0_0 (l0_0.length : Int) x23_2 = some r) ∧ Aside0 (kq ≤ kj1) ∧ Aside0 (w'.heap[gb419]? = some (.cells #[(.slice A0_0 l0_0.length c0_0), .int .i64 a0_1] 36 (0, 0))) ∧ Aside0 (Below w.heap.size w w'))
   case atStart => exact ⟨(false), (0), rf, rf, H', ⟨Nat.le_refl _⟩, ⟨pb BK419.out⟩, ⟨bg1 HB.out GE419.out⟩⟩
   case round =>
    clear H'
    obtain ⟨x3_2, x23_2, rfl, rfl, HA, HK2, BK419, HB⟩ := hrel
    cases gk with
    | zero => exact absurd HA.out (by simp [impl_blockShape.l0])
    | succ k2 =>
     have H := HA.out
     clear HA
     simp only [impl_blockShape.l0] at H
     by_cases c11 : x23_2 < (l0_0.length : Int)
     rotate_left
     · rw [if_neg c11] at H
       have c11b0 := decide_eq_false c11
       clear c11
       obtain rfl := Option.some.inj H
       go_wp2
       go_ret
       exact (rq (bg1 HB.out GE419.out))
     rw [if_pos c11] at H
     have c11b0 := decide_eq_true c11
     clear c11
     obtain ⟨c12b0, H⟩ := ifd H
     obtain ⟨c13b0, H⟩ := ifd H
     by_cases c14 : x3_2 = true
     rotate_left
     · replace c14 := Bool.eq_false_iff.mpr c14
       subst c14
       rw [if_neg (show ¬ (false = true) by decide)] at H
       have H' := am H
       clear H
       have p420 : 0 ≤ (x23_2 : Int) := ofb
       have q420 : x23_2 < (l0_0.length : Int) := ofb
       obtain ⟨ad420, e420, hx420_0, hx420_1, hx420_2, hx420_3, hx420_4⟩ := at_T33 HR0_0.out x23_2 p420 q420
       cases e420
       replace hx420_0 := up HB.out hx420_0
       replace hx420_1 := up HB.out hx420_1
       replace hx420_2 := up HB.out hx420_2
       replace hx420_3 := up HB.out hx420_3
       replace hx420_4 := up HB.out hx420_4
       replace p420 := eq_true p420
       replace q420 := eq_true q420
       go_wp2_with (first | (refine bx 5 #[.int .i64 0, .int .i64 0, .int .i64 0, .int .i64 0, .int .i64 0] 33 rfl ?_; intro gb421 hg w22 hbox hb; have BK421 := am (hbox); have GW421 := am (ge hg (bg1 HB.out GE419.out)); have GE421 := GW421; replace HB := am (below_step (bg1 HB.out GE419.out) hb); have NB419_421 := am (nb hg (pb BK419.out)); have NB421_419 := am (Ne.symm NB419_421.out); replace BK419 := am (blk_below (pb BK419.out) hb); clear hb hbox hg; have hnb23 := NB421_419.out; have hnc23 := NB419_421.out; obtain ⟨hcz24_0, hcz24_1, hcz24_2, hcz24_3, hcz24_4⟩ := b5 BK421.out; obtain ⟨hfz24_0, hfz24_1, hfz24_2, hfz24_3, hfz24_4⟩ := f5 BK421.out))
       go_roundg k2
       case measure => have := HJ1.out; have := HK2.out; omega
       case rel => exact ⟨((((rd_T33 l0_0 x23_2).f0) == 0)), (wrap64 (x23_2 + 1)), rf, rf, H', ⟨by have := HJ1.out; have := HK2.out; omega⟩, ⟨bf5 (pb BK419.out) NB419_421.out⟩, ⟨bg2 HB.out GE419.out GE421.out⟩⟩
     subst c14
     rw [if_pos rfl] at H
     by_cases c15 : ((rd_T33 l0_0 x23_2).f0) = 0
     rotate_left
     · rw [if_neg c15] at H
       have c15b0 : (((rd_T33 l0_0 x23_2).f0) == 0) = false := beq_eq_false_iff_ne.mpr c15
       have c15b1 : (((rd_T33 l0_0 x23_2).f0) != 0) = true := bne_iff_ne.mpr c15
       obtain rfl := Option.some.inj H
       have p420 : 0 ≤ (x23_2 : Int) := ofb
       have q420 : x23_2 < (l0_0.length : Int) := ofb
       obtain ⟨ad420, e420, hx420_0, hx420_1, hx420_2, hx420_3, hx420_4⟩ := at_T33 HR0_0.out x23_2 p420 q420
       cases e420
       replace hx420_0 := up HB.out hx420_0
       replace hx420_1 := up HB.out hx420_1
       replace hx420_2 := up HB.out hx420_2
       replace hx420_3 := up HB.out hx420_3
       replace hx420_4 := up HB.out hx420_4
       replace p420 := eq_true p420
       replace q420 := eq_true q420
       go_wp2_with (first | (refine bx 5 #[.int .i64 0, .int .i64 0, .int .i64 0, .int .i64 0, .int .i64 0] 33 rfl ?_; intro gb421 hg w19 hbox hb; have BK421 := am (hbox); have GW421 := am (ge hg (bg1 HB.out GE419.out)); have GE421 := GW421; replace HB := am (below_step (bg1 HB.out GE419.out) hb); have NB419_421 := am (nb hg (pb BK419.out)); have NB421_419 := am (Ne.symm NB419_421.out); replace BK419 := am (blk_below (pb BK419.out) hb); clear hb hbox hg; have hnb20 := NB421_419.out; have hnc20 := NB419_421.out; obtain ⟨hcz21_0, hcz21_1, hcz21_2, hcz21_3, hcz21_4⟩ := b5 BK421.out; obtain ⟨hfz21_0, hfz21_1, hfz21_2, hfz21_3, hfz21_4⟩ := f5 BK421.out))
       go_ret
       exact (rq (bg2 HB.out GE419.out GE421.out))
     rw [if_pos c15] at H
     have c15b0 : (((rd_T33 l0_0 x23_2).f0) == 0) = true := beq_iff_eq.mpr c15
     have c15b1 : (((rd_T33 l0_0 x23_2).f0) != 0) = false := bne_eq_false_iff_eq.mpr c15
     clear c15
     have H' := am H
     clear H
     have p420 : 0 ≤ (x23_2 : Int) := ofb
     have q420 : x23_2 < (l0_0.length : Int) := ofb
     obtain ⟨ad420, e420, hx420_0, hx420_1, hx420_2, hx420_3, hx420_4⟩ := at_T33 HR0_0.out x23_2 p420 q420
     cases e420
     replace hx420_0 := up HB.out hx420_0
     replace hx420_1 := up HB.out hx420_1
     replace hx420_2 := up HB.out hx420_2
     replace hx420_3 := up HB.out hx420_3
     replace hx420_4 := up HB.out hx420_4
     replace p420 := eq_true p420
     replace q420 := eq_true q420
     go_wp2_with (first | (refine bx 5 #[.int .i64 0, .int .i64 0, .int .i64 0, .int .i64 0, .int .i64 0] 33 rfl ?_; intro gb421 hg w16 hbox hb; have BK421 := am (hbox); have GW421 := am (ge hg (bg1 HB.out GE419.out)); have GE421 := GW421; replace HB := am (below_step (bg1 HB.out GE419.out) hb); have NB419_421 := am (nb hg (pb BK419.out)); have NB421_419 := am (Ne.symm NB419_421.out); replace BK419 := am (blk_below (pb BK419.out) hb); clear hb hbox hg; have hnb17 := NB421_419.out; have hnc17 := NB419_421.out; obtain ⟨hcz18_0, hcz18_1, hcz18_2, hcz18_3, hcz18_4⟩ := b5 BK421.out; obtain ⟨hfz18_0, hfz18_1, hfz18_2, hfz18_3, hfz18_4⟩ := f5 BK421.out))
     go_roundg k2
     case measure => have := HJ1.out; have := HK2.out; omega
     case rel => exact ⟨((((rd_T33 l0_0 x23_2).f0) == 0)), (wrap64 (x23_2 + 1)), rf, rf, H', ⟨by have := HJ1.out; have := HK2.out; omega⟩, ⟨bf5 (pb BK419.out) NB419_421.out⟩, ⟨bg2 HB.out GE419.out GE421.out⟩⟩
def impl_addrOk.f (a0 : Int) : Option (Bool) := if a0 ≥ 1 then (some (decide (a0 ≤ 6))) else (some false)
set_option maxHeartbeats 8000000 in
set_option maxRecDepth 100000 in
theorem impl_addrOk.calls (a0 : Int) (r : Bool) (w : World) (h : impl_addrOk.f a0 = some r) :
 Calls Try.prog 36 #[.int .i64 a0] w fun e w' => e = .returned (.bool r) ∧ Drawn0 w w' := by
 have H : (if a0 ≥ 1 then (some (decide (a0 ≤ 6))) else (some false)) = some r := h
 clear h
 by_cases c2 : a0 ≥ 1
 · rw [if_pos c2] at H
   have c2b0 := decide_eq_true c2
   clear c2
   obtain rfl := Option.some.inj H
   go_enter Try.func36, Try.ntmps36
   go_wp2
   go_ret
   exact ⟨by first | rfl | (simp; done) | (simp [*]; done), by repeat (first | exact Drawn0.refl _ | apply Drawn0.step)⟩
 rw [if_neg c2] at H
 have c2b0 := decide_eq_false c2
 clear c2
 obtain rfl := Option.some.inj H
 go_enter Try.func36, Try.ntmps36
 go_wp2
 go_ret
 exact ⟨by first | rfl | (simp; done) | (simp [*]; done), by repeat (first | exact Drawn0.refl _ | apply Drawn0.step)⟩
def impl_valOk.f (a0 : Int) : Option (Bool) := if a0 ≥ 0 then (some (decide (a0 ≤ 9))) else (some false)
set_option maxHeartbeats 8000000 in
set_option maxRecDepth 100000 in
theorem impl_valOk.calls (a0 : Int) (r : Bool) (w : World) (h : impl_valOk.f a0 = some r) :
 Calls Try.prog 37 #[.int .i64 a0] w fun e w' => e = .returned (.bool r) ∧ Drawn0 w w' := by
 have H : (if a0 ≥ 0 then (some (decide (a0 ≤ 9))) else (some false)) = some r := h
 clear h
 by_cases c2 : a0 ≥ 0
 · rw [if_pos c2] at H
   have c2b0 := decide_eq_true c2
   clear c2
   obtain rfl := Option.some.inj H
   go_enter Try.func37, Try.ntmps37
   go_wp2
   go_ret
   exact ⟨by first | rfl | (simp; done) | (simp [*]; done), by repeat (first | exact Drawn0.refl _ | apply Drawn0.step)⟩
 rw [if_neg c2] at H
 have c2b0 := decide_eq_false c2
 clear c2
 obtain rfl := Option.some.inj H
 go_enter Try.func37, Try.ntmps37
 go_wp2
 go_ret
 exact ⟨by first | rfl | (simp; done) | (simp [*]; done), by repeat (first | exact Drawn0.refl _ | apply Drawn0.step)⟩
def impl_RecOk.f (a0_0 : Int) (a0_1 : Int) (a0_2 : Int) (a0_3 : Int) : Option (Bool) := some (recOkB a0_0 a0_1 a0_2 a0_3)
theorem ret_bool {a b : Bool} (h : a = b) : Ending.returned (.bool a) = .returned (.bool b) := by rw [h]
def entryV (a b c d : Int) : Value := if a = 1 then .iface 75 (.agg #[.int .i64 a, .int .i64 b, .int .i64 c, .int .i64 d]) else if a = 2 then .iface 76 (.agg #[.int .i64 a, .int .i64 b, .int .i64 c, .int .i64 d]) else .nilIface
set_option maxHeartbeats 1000000 in
set_option maxRecDepth 100000 in
theorem entryOf_any (a b c d : Int) (w : World) :
 Calls Try.prog 35 #[.agg #[.int .i64 a, .int .i64 b, .int .i64 c, .int .i64 d]] w fun e w' => e = .returned (entryV a b c d) ∧ w' = w.alloc (.cells #[.int .i64 a, .int .i64 b, .int .i64 c, .int .i64 d] 25) := by
 have hu := Try.underlying25
 have hu2 := Try.underlying66
 by_cases c1 : a = 1
 · subst c1
   go_enter Try.func35, Try.ntmps35
   go_wp2
   go_ret
   exact ⟨rfl, rfl⟩
 by_cases c2 : a = 2
 · subst c2
   go_enter Try.func35, Try.ntmps35
   go_wp2
   go_ret
   exact ⟨rfl, rfl⟩
 have b1 : (a == 1) = false := by simpa using c1
 have b2 : (a == 2) = false := by simpa using c2
 have HV := am (show entryV a b c d = .nilIface by unfold entryV; rw [if_neg c1, if_neg c2])
 clear c1 c2
 go_enter Try.func35, Try.ntmps35
 go_wp2
 go_ret
 rw [HV.out]
 exact ⟨rfl, rfl⟩
def addrB (a : Int) : Bool := decide (1 ≤ a ∧ a ≤ 6)
def valB (a : Int) : Bool := decide (0 ≤ a ∧ a ≤ 9)
theorem addrOk_any (a : Int) (w : World) : Calls Try.prog 36 #[.int .i64 a] w fun e w' => e = .returned (.bool (addrB a)) ∧ w = w' := by
 go_enter Try.func36, Try.ntmps36
 go_wp2
 all_goals (go_ret; exact ⟨ret_bool (by unfold addrB; simp; try omega), rfl⟩)
theorem valOk_any (a : Int) (w : World) : Calls Try.prog 37 #[.int .i64 a] w fun e w' => e = .returned (.bool (valB a)) ∧ w = w' := by
 go_enter Try.func37, Try.ntmps37
 go_wp2
 all_goals (go_ret; exact ⟨ret_bool (by unfold valB; simp; try omega), rfl⟩)
theorem recOk_parts (a b c d : Int) : recOkB a b c d = ((decide (a = 1) || decide (a = 2)) && (decide (1 ≤ b) && (decide (b ≤ 600) && (addrB c && valB d)))) := by
 unfold recOkB addrB valB
 rw [Bool.eq_iff_iff]
 simp only [decide_eq_true_eq, Bool.and_eq_true, Bool.or_eq_true]
 constructor <;> rintro ⟨h0, h1, h2, h3, h4⟩ <;> omega
set_option maxHeartbeats 2000000 in
set_option maxRecDepth 100000 in
theorem impl_RecOk.calls (a0_0 : Int) (a0_1 : Int) (a0_2 : Int) (a0_3 : Int) (r : Bool) (w : World) (h : impl_RecOk.f a0_0 a0_1 a0_2 a0_3 = some r) :
 Calls Try.prog 24 #[.agg #[.int .i64 a0_0, .int .i64 a0_1, .int .i64 a0_2, .int .i64 a0_3]] w fun e w' => e = .returned (.bool r) ∧ Below w.heap.size w w' := by
 obtain rfl := Option.some.inj h
 clear h
 have hu := Try.underlying25
 have hu2 := Try.underlying66
 have hb2 : ∀ A B : Obj, Below w.heap.size w ((w.alloc A).alloc B) := fun A B => ((Below.refl _ w).alloc (Nat.le_refl _) A).alloc (by simp) B
 have HE := am hb2
 clear hb2
 have HP := am (recOk_parts a0_0 a0_1 a0_2 a0_3)
 rcases (show (a0_0 = 1 ∨ a0_0 = 2) ∨ (¬ a0_0 = 1 ∧ ¬ a0_0 = 2) by omega) with (c0 | c0) | ⟨c1, c2⟩
 · subst c0
   go_enter Try.func24, Try.ntmps24
   go_wp2_with (first | (go_at_call 35; refine (entryOf_any _ _ _ _ _).mono ?_; rintro e w' ⟨rfl, rfl⟩; simp only [entryV]) | (go_at_call 36; refine (addrOk_any _ _).mono ?_; rintro e w' ⟨rfl, rfl⟩) | (go_at_call 37; refine (valOk_any _ _).mono ?_; rintro e w' ⟨rfl, rfl⟩))
   all_goals go_ret
   all_goals exact ⟨ret_bool (by rw [HP.out]; simp [*]; try (intros; omega)), HE.out _ _⟩
 · subst c0
   go_enter Try.func24, Try.ntmps24
   go_wp2_with (first | (go_at_call 35; refine (entryOf_any _ _ _ _ _).mono ?_; rintro e w' ⟨rfl, rfl⟩; simp only [entryV]) | (go_at_call 36; refine (addrOk_any _ _).mono ?_; rintro e w' ⟨rfl, rfl⟩) | (go_at_call 37; refine (valOk_any _ _).mono ?_; rintro e w' ⟨rfl, rfl⟩))
   all_goals go_ret
   all_goals exact ⟨ret_bool (by rw [HP.out]; simp [*]; try (intros; omega)), HE.out _ _⟩
 · have HV := am (show entryV a0_0 a0_1 a0_2 a0_3 = .nilIface by unfold entryV; rw [if_neg c1, if_neg c2])
   have HF := am (show recOkB a0_0 a0_1 a0_2 a0_3 = false by rw [HP.out]; simp [c1, c2])
   clear c1 c2 HP
   go_enter Try.func24, Try.ntmps24
   go_wp2_with (go_at_call 35; refine (entryOf_any _ _ _ _ _).mono ?_; rintro e w' ⟨rfl, rfl⟩; rw [HV.out])
   all_goals go_ret
   all_goals exact ⟨ret_bool (by rw [HF.out]), HE.out _ _⟩
end Go.Proofs.Ythmgdljblidgjaa.Rw
namespace Go.Proofs.Ythmgdljblidgjaa.Rw
open Go.RowKit Go.Proofs.YthmgdljblidgjaaW.PrintWords Go.Proofs.YthmgdljblidgjaaW.PrintLast Go.Proofs.YthmgdljblidgjaaW.PrintMore
attribute [local go_sem] max2_int min2_int max_two min_two max_three min_three max_four min_four
set_option linter.unusedVariables false
set_option linter.unusedSimpArgs false
attribute [local go_sem high] eqA25
def impl_pageShape.f (a0_0 : Int) (a0_1 : Int) (a0_2 : Int) (a0_3 : Int) (a0_4 : Int) : Option (Bool) := if a0_0 = 1 then ((impl_RecOk.f a0_1 a0_2 a0_3 a0_4).bind fun t423 => (some t423)) else (if a0_0 = 0 then (some (a0_1 == 0 && (a0_2 == 0 && (a0_3 == 0 && (a0_4 == 0))))) else (if a0_0 = 2 then (some (a0_1 == 0 && (a0_2 == 0 && (a0_3 == 0 && (a0_4 == 0))))) else (some false)))
set_option maxHeartbeats 8000000 in
set_option maxRecDepth 100000 in
theorem impl_pageShape.calls (a0_0 : Int) (a0_1 : Int) (a0_2 : Int) (a0_3 : Int) (a0_4 : Int) (r : Bool) (w : World) (h : impl_pageShape.f a0_0 a0_1 a0_2 a0_3 a0_4 = some r) :
 Calls Try.prog 29 #[.agg #[.int .i64 a0_0, .int .i64 a0_1, .int .i64 a0_2, .int .i64 a0_3, .int .i64 a0_4]] w fun e w' => e = .returned (.bool r) ∧ Below w.heap.size w w' := by
 have hu33 := Try.underlying33
 have hu25 := Try.underlying25
 have HB := am (Below.refl w.heap.size w)
 have H : (if a0_0 = 1 then ((impl_RecOk.f a0_1 a0_2 a0_3 a0_4).bind fun t423 => (some t423)) else (if a0_0 = 0 then (some (a0_1 == 0 && (a0_2 == 0 && (a0_3 == 0 && (a0_4 == 0))))) else (if a0_0 = 2 then (some (a0_1 == 0 && (a0_2 == 0 && (a0_3 == 0 && (a0_4 == 0))))) else (some false)))) = some r := h
 clear h
 by_cases c2 : a0_0 = 1
 · rw [if_pos c2] at H
   have c2b0 : (a0_0 == 1) = true := beq_iff_eq.mpr c2
   have c2b1 : (a0_0 != 1) = false := bne_eq_false_iff_eq.mpr c2
   clear c2
   replace H := Option.bind_eq_some_iff.mp H
   obtain ⟨t423, A30, H⟩ := H
   have A3 := am A30
   clear A30
   obtain rfl := Option.some.inj H
   go_enter Try.func29, Try.ntmps29
   go_wp2_with (first | (refine bx 1 #[.int .i64 a0_0, .int .i64 a0_1, .int .i64 a0_2, .int .i64 a0_3, .int .i64 a0_4] 33 rfl ?_; intro gb422 hg w4 hbox hb; have BK422 := am (hbox); have GW422 := am (ge hg (ph HB.out)); have GE422 := GW422; replace HB := am (below_step (ph HB.out) hb); clear hb hbox hg; obtain ⟨hcz5_0, hcz5_1, hcz5_2, hcz5_3, hcz5_4⟩ := b5 BK422.out; obtain ⟨hfz5_0, hfz5_1, hfz5_2, hfz5_3, hfz5_4⟩ := f5 BK422.out) | (refine gl 9 Try.func24 #[.agg #[.int .i64 a0_1, .int .i64 a0_2, .int .i64 a0_3, .int .i64 a0_4]] rfl ?_; (with_reducible refine (impl_RecOk.calls a0_1 a0_2 a0_3 a0_4 t423 _ A3.out).mono ?_); rintro e w6 ⟨rfl, hb⟩; refine ⟨_, rfl, ?_⟩; replace BK422 := am (blk_below (pb BK422.out) hb); replace HB := am (below_step (bg1 HB.out GE422.out) hb); clear hb))
   go_ret
   exact (rq (bg1 HB.out GE422.out))
 rw [if_neg c2] at H
 have c2b0 : (a0_0 == 1) = false := beq_eq_false_iff_ne.mpr c2
 have c2b1 : (a0_0 != 1) = true := bne_iff_ne.mpr c2
 by_cases c7 : a0_0 = 0
 · rw [if_pos c7] at H
   have c7b0 : (a0_0 == 0) = true := beq_iff_eq.mpr c7
   have c7b1 : (a0_0 != 0) = false := bne_eq_false_iff_eq.mpr c7
   clear c7
   obtain rfl := Option.some.inj H
   go_enter Try.func29, Try.ntmps29
   go_wp2_with (first | (refine bx 1 #[.int .i64 a0_0, .int .i64 a0_1, .int .i64 a0_2, .int .i64 a0_3, .int .i64 a0_4] 33 rfl ?_; intro gb422 hg w8 hbox hb; have BK422 := am (hbox); have GW422 := am (ge hg (ph HB.out)); have GE422 := GW422; replace HB := am (below_step (ph HB.out) hb); clear hb hbox hg; obtain ⟨hcz9_0, hcz9_1, hcz9_2, hcz9_3, hcz9_4⟩ := b5 BK422.out; obtain ⟨hfz9_0, hfz9_1, hfz9_2, hfz9_3, hfz9_4⟩ := f5 BK422.out))
   go_ret
   exact (rq (bg1 HB.out GE422.out))
 rw [if_neg c7] at H
 have c7b0 : (a0_0 == 0) = false := beq_eq_false_iff_ne.mpr c7
 have c7b1 : (a0_0 != 0) = true := bne_iff_ne.mpr c7
 by_cases c10 : a0_0 = 2
 rotate_left
 · rw [if_neg c10] at H
   have c10b0 : (a0_0 == 2) = false := beq_eq_false_iff_ne.mpr c10
   have c10b1 : (a0_0 != 2) = true := bne_iff_ne.mpr c10
   obtain rfl := Option.some.inj H
   go_enter Try.func29, Try.ntmps29
   go_wp2_with (first | (refine bx 1 #[.int .i64 a0_0, .int .i64 a0_1, .int .i64 a0_2, .int .i64 a0_3, .int .i64 a0_4] 33 rfl ?_; intro gb422 hg w13 hbox hb; have BK422 := am (hbox); have GW422 := am (ge hg (ph HB.out)); have GE422 := GW422; replace HB := am (below_step (ph HB.out) hb); clear hb hbox hg; obtain ⟨hcz14_0, hcz14_1, hcz14_2, hcz14_3, hcz14_4⟩ := b5 BK422.out; obtain ⟨hfz14_0, hfz14_1, hfz14_2, hfz14_3, hfz14_4⟩ := f5 BK422.out))
   go_ret
   exact (rq (bg1 HB.out GE422.out))
 rw [if_pos c10] at H
 have c10b0 : (a0_0 == 2) = true := beq_iff_eq.mpr c10
 have c10b1 : (a0_0 != 2) = false := bne_eq_false_iff_eq.mpr c10
 clear c10
 obtain rfl := Option.some.inj H
 go_enter Try.func29, Try.ntmps29
 go_wp2_with (first | (refine bx 1 #[.int .i64 a0_0, .int .i64 a0_1, .int .i64 a0_2, .int .i64 a0_3, .int .i64 a0_4] 33 rfl ?_; intro gb422 hg w11 hbox hb; have BK422 := am (hbox); have GW422 := am (ge hg (ph HB.out)); have GE422 := GW422; replace HB := am (below_step (ph HB.out) hb); clear hb hbox hg; obtain ⟨hcz12_0, hcz12_1, hcz12_2, hcz12_3, hcz12_4⟩ := b5 BK422.out; obtain ⟨hfz12_0, hfz12_1, hfz12_2, hfz12_3, hfz12_4⟩ := f5 BK422.out))
 go_ret
 exact (rq (bg1 HB.out GE422.out))
end Go.Proofs.Ythmgdljblidgjaa.Rw
namespace Go.Proofs.Ythmgdljblidgjaa.Rw
open Go.RowKit Go.Proofs.YthmgdljblidgjaaW.PrintWords Go.Proofs.YthmgdljblidgjaaW.PrintLast Go.Proofs.YthmgdljblidgjaaW.PrintMore
attribute [local go_sem] max2_int min2_int max_two min_two max_three min_three max_four min_four
set_option linter.unusedVariables false
set_option linter.unusedSimpArgs false
theorem drop_T33 {l : List S33} {i : Nat} (h : i < l.length) : l.drop i = rd_T33 l (i : Int) :: l.drop (i + 1) := by
 rw [List.drop_eq_getElem_cons h]
 simp [rd_T33, List.getD_eq_getElem?_getD, h]
theorem drop_T36 {l : List S36} {i : Nat} (h : i < l.length) : l.drop i = rd_T36 l (i : Int) :: l.drop (i + 1) := by
 rw [List.drop_eq_getElem_cons h]
 simp [rd_T36, List.getD_eq_getElem?_getD, h]
theorem shape_loop (l : List S33) (hl : l.length ≤ maxLen) : ∀ (n i : Nat) (free : Bool), i + n = l.length → impl_blockShape.l0 (n + 1) free l (l.length : Int) (i : Int) = some (shapeB (l.drop i) free)
 | 0, i, free, h => by
  rw [impl_blockShape.l0, if_neg (by omega), List.drop_eq_nil_of_le (by omega)]
  rfl
 | n + 1, i, free, h => by
  have hw : wrap64 ((i : Int) + 1) = ((i + 1 : Nat) : Int) := by
   simp only [maxLen] at hl
   rw [IntWalk.wrap64_in _ (by omega)]
   omega
  rw [impl_blockShape.l0, if_pos (by omega), if_pos (by omega), if_pos (by omega), drop_T33 (by omega), shapeB, hw]
  have ih := fun f => shape_loop l hl n (i + 1) f (by omega)
  by_cases hf : free = true
  rotate_left
  · rw [if_neg hf, if_neg (fun h => hf h.1)]
    exact ih _
  by_cases hs : (rd_T33 l (i : Int)).f0 = 0
  rotate_left
  · rw [if_pos hf, if_neg hs, if_pos ⟨hf, hs⟩]
  rw [if_pos hf, if_pos hs, if_neg (by simp [hs])]
  exact ih _
theorem blockShape_ok (b : S36) (hl : b.f0.length ≤ maxLen) : ∃ k, impl_blockShape.f k b.f0 b.f1 = some (blockB b) := by
 refine ⟨b.f0.length + 2, ?_⟩
 have key := shape_loop b.f0 hl b.f0.length 0 false (by omega)
 unfold impl_blockShape.f blockB
 by_cases h1 : (b.f0.length : Int) = 4
 rotate_left
 · rw [if_neg h1, impl_blockShape.j0, if_pos rfl]
   simp [h1]
 rw [if_pos h1]
 by_cases h2 : b.f1 < 0
 · rw [if_pos h2, impl_blockShape.j0, if_pos rfl]
   simp
   intro _ h
   omega
 rw [if_neg h2]
 by_cases h3 : b.f1 > 200
 · rw [decide_eq_true h3, impl_blockShape.j0, if_pos rfl]
   simp
   intro _ _ h
   omega
 rw [decide_eq_false h3, impl_blockShape.j0, if_neg (by simp)]
 have : decide ((b.f0.length : Int) = 4 ∧ 0 ≤ b.f1 ∧ b.f1 ≤ 200) = true := decide_eq_true ⟨h1, by omega, by omega⟩
 rw [this, Bool.true_and]
 exact key
theorem pageShape_ok (p : S33) : impl_pageShape.f p.f0 p.f1.f0 p.f1.f1 p.f1.f2 p.f1.f3 = some (pageB p) := by
 unfold impl_pageShape.f pageB impl_RecOk.f
 by_cases h1 : p.f0 = 1
 · rw [if_pos h1, if_pos h1]
   rfl
 rw [if_neg h1, if_neg h1]
 by_cases h2 : p.f0 = 0
 · rw [if_pos h2, if_pos (Or.inl h2)]
 by_cases h3 : p.f0 = 2
 rotate_left
 · rw [if_neg h2, if_neg h3, if_neg (by omega)]
 rw [if_neg h2, if_pos h3, if_pos (Or.inr h3)]
def impl_FlashOk.f (l0 : List (S36)) : Option (Bool) := some (flashOkB l0)
set_option maxHeartbeats 8000000 in
set_option maxRecDepth 100000 in
theorem impl_FlashOk.calls (A0 : Option Addr) (c0 : Nat) (l0 : List (S36)) (r : Bool) (w : World) (hr0 : Kd.C k36 w A0 l0.length l0) (hc0 : l0.length ≤ c0) (h : impl_FlashOk.f l0 = some r) :
 Calls Try.prog 11 #[.slice A0 l0.length c0] w fun e w' => e = .returned (.bool r) ∧ Below w.heap.size w w' := by
 have hu36 := Try.underlying36
 have hu33 := Try.underlying33
 have hu25 := Try.underlying25
 obtain rfl : r = flashOkB l0 := (Option.some.inj h).symm
 clear h
 by_cases c : (l0.length : Int) = 4
 rotate_left
 · have cb : ((l0.length : Int) != 4) = true := by simp [c]
   go_enter Try.func11, Try.ntmps11
   go_wp2
   go_ret
   exact ⟨by simp [flashOkB, c], Below.refl _ _⟩
 have cb : ((l0.length : Int) != 4) = false := by simp [c]
 have HE : Aside0 (flashOkB l0 = blocksB l0 []) := ⟨by unfold flashOkB; rw [decide_eq_true c, Bool.true_and]⟩
 have C := am c
 clear c
 have hmm := @run_makeMap Try.prog
 go_enter Try.func11, Try.ntmps11
 go_wp2
 have HS := am (Go.Proofs.YthmgdljblidgjaaW.SeenIs.made (P := Try.prog) (K := 3) (E := 3) w)
 have HB : Aside0 (Below w.heap.size w (w.alloc (.map #[] 0))) := ⟨below_alloc (Below.refl _ _) _⟩
 generalize hB : w.heap.size = B at HS
 have HBB := am hB
 clear hB
 generalize w.alloc (.map #[] 0) = w1 at HS HB ⊢
 go_loopg [14, 5, 7] (l0.length + 1) (fun kq v14 v5 v7 w' => ∃ (i : Nat) (S : List Int), v14 = .int .i64 (i : Int) ∧ Aside0 (kq + i = l0.length + 1) ∧ Aside0 (i ≤ l0.length) ∧ Aside0 (blocksB (l0.drop i) S = blocksB l0 []) ∧ Aside0 (S.length ≤ 4 * i) ∧ Aside0 (Go.Proofs.YthmgdljblidgjaaW.SeenIs Try.prog 3 3 w' B S.length S) ∧ Aside0 (Below w.heap.size w w'))
 case atStart => exact ⟨0, [], rfl, ⟨rfl⟩, ⟨Nat.zero_le _⟩, ⟨by simp⟩, ⟨by simp⟩, HS, HB⟩
 case round =>
  clear HS HB
  obtain ⟨i, S, rfl, HK, HI, HP, HN, HS, HB⟩ := hrel
  obtain ⟨k1, rfl⟩ : ∃ k, gk = k + 1 := by
   have hsz : (l0.length : Int) = 4 := C.out
   have := HK.out
   have := HI.out
   exact ⟨gk - 1, by omega⟩
  have hsz : (l0.length : Int) = 4 := C.out
  have hw14 : wrap64 ((i : Int) + 1) = ((i + 1 : Nat) : Int) := by have := HI.out; rw [IntWalk.wrap64_in _ (by omega)]; omega
  by_cases ci : i < l0.length
  rotate_left
  · have cib : decide ((i : Int) < (l0.length : Int)) = false := decide_eq_false (by omega)
    have HP2 := HP.out
    rw [List.drop_eq_nil_of_le (by omega), blocksB] at HP2
    have HF : Aside0 (flashOkB l0 = true) := ⟨by rw [HE.out]; exact HP2.symm⟩
    have ci2 : ¬ ((i : Int) < (l0.length : Int)) := by omega
    clear hsz HP2
    go_wp2
    go_ret
    exact ⟨by rw [HF.out]; rfl, HB.out⟩
  have cib : decide ((i : Int) < (l0.length : Int)) = true := decide_eq_true (by omega)
  have p1 : 0 ≤ (i : Int) := by omega
  have q1 : (i : Int) < (l0.length : Int) := by omega
  obtain ⟨ad1, A1, c1, e1, hx1_0, hx1_1, hl1, hi1⟩ := at_T36 hr0 (i : Int) p1 q1
  cases e1
  have hlm1 : (rd_T36 l0 (i : Int)).f0.length ≤ maxLen := Kd.C_max hi1
  replace hx1_0 := up HB.out hx1_0
  replace hx1_1 := up HB.out hx1_1
  simp only [Int.toNat_natCast] at hx1_0 hx1_1
  obtain ⟨kb, hkb⟩ := blockShape_ok (rd_T36 l0 (i : Int)) hlm1
  replace hkb := am hkb
  have HP2 := HP.out
  rw [drop_T36 ci, blocksB] at HP2
  cases hbb : blockB (rd_T36 l0 (i : Int)) with
  | false =>
   rw [hbb] at hkb
   rw [hbb, Bool.false_and] at HP2
   have HF : Aside0 (flashOkB l0 = false) := ⟨by rw [HE.out]; exact HP2.symm⟩
   replace hi1 := am hi1
   replace p1 := eq_true p1
   replace q1 := eq_true q1
   clear hsz ci HP2 hbb
   go_wp2_with (first | (refine bx 5 #[.slice none 0 0, .int .i64 0] 36 rfl ?_; intro g1 hg w6 hbox hb; have n0_ := am (below_step HB.out hb); have n1_ := am hbox; have GE1 := am ((by rw [hg]; exact below_size HB.out) : w.heap.size ≤ g1); have NE1 := am ((by rw [hg]; exact Nat.ne_of_lt HS.out.lt) : B ≠ g1); have n2_ := am (HS.out.below hb); clear HB HS; have HB := n0_; have BK1 := n1_; have HS := n2_; clear n0_ n1_ n2_; obtain ⟨hczg1_0, hczg1_1⟩ := b2 hbox; obtain ⟨hfzg1_0, hfzg1_1⟩ := f2 hbox; clear hb hbox hg) | ((with_reducible refine gate_callee (f := 28) rfl ?_); refine goesL_ (some 19) rfl rfl Try.func28 (by kernel_rfl) rfl #[.agg #[.slice A1 (rd_T36 l0 (i : Int)).f0.length c1, .int .i64 (rd_T36 l0 (i : Int)).f1]] rfl (by (try simp only [List.map_toArray, List.map_cons, List.map_nil]); first | done | rfl) ?_; (with_reducible refine (impl_blockShape.calls kb _ _ _ _ _ _ ?side1 ?side2 hkb.out).mono ?_); (case side1 => exact Kd.C_below hi1.out (bg1 HB.out GE1.out)); (case side2 => exact hl1); rintro e w2 ⟨rfl, hb⟩; refine ⟨_, rfl, ?_⟩; have n0_ := am (below_step (bg1 HB.out GE1.out) hb); have n1_ := am (blk_below (blk_put (cs := #[.slice A1 (rd_T36 l0 (i : Int)).f0.length c1, .int .i64 0]) (blk_put (cs := #[.slice none 0 0, .int .i64 0]) BK1.out 0 _ rfl) 1 _ rfl) hb); have n2_ := am (((HS.out.far (p := ⟨g1, 0, none⟩) NE1.out _).far (p := ⟨g1, 1, none⟩) NE1.out _).below hb); clear HB BK1 HS; have HB := n0_; have BK1 := n1_; have HS := n2_; clear n0_ n1_ n2_; clear hb hczg1_0 hczg1_1 hfzg1_0 hfzg1_1; have hy1_0 := (blk_cell BK1.out 0).trans rfl; have hy1_1 := (blk_cell BK1.out 1).trans rfl))
   go_ret
   exact ⟨by rw [HF.out]; rfl, HB.out⟩
  | true =>
   rw [hbb] at hkb
   rw [hbb, Bool.true_and] at HP2
   replace HP2 := am HP2
   have hbl : (rd_T36 l0 (i : Int)).f0.length = 4 := by
    unfold blockB at hbb
    simp only [Bool.and_eq_true, decide_eq_true_eq] at hbb
    omega
   replace hbl := am hbl
   replace hi1 := am hi1
   replace p1 := eq_true p1
   replace q1 := eq_true q1
   have CI := am ci
   clear hsz ci hbb
   go_wp2_with (first | (refine bx 5 #[.slice none 0 0, .int .i64 0] 36 rfl ?_; intro g1 hg w6 hbox hb; have n0_ := am (below_step HB.out hb); have n1_ := am hbox; have GE1 := am ((by rw [hg]; exact below_size HB.out) : w.heap.size ≤ g1); have NE1 := am ((by rw [hg]; exact Nat.ne_of_lt HS.out.lt) : B ≠ g1); have n2_ := am (HS.out.below hb); clear HB HS; have HB := n0_; have BK1 := n1_; have HS := n2_; clear n0_ n1_ n2_; obtain ⟨hczg1_0, hczg1_1⟩ := b2 hbox; obtain ⟨hfzg1_0, hfzg1_1⟩ := f2 hbox; clear hb hbox hg) | ((with_reducible refine gate_callee (f := 28) rfl ?_); refine goesL_ (some 19) rfl rfl Try.func28 (by kernel_rfl) rfl #[.agg #[.slice A1 (rd_T36 l0 (i : Int)).f0.length c1, .int .i64 (rd_T36 l0 (i : Int)).f1]] rfl (by (try simp only [List.map_toArray, List.map_cons, List.map_nil]); first | done | rfl) ?_; (with_reducible refine (impl_blockShape.calls kb _ _ _ _ _ _ ?side1 ?side2 hkb.out).mono ?_); (case side1 => exact Kd.C_below hi1.out (bg1 HB.out GE1.out)); (case side2 => exact hl1); rintro e w2 ⟨rfl, hb⟩; refine ⟨_, rfl, ?_⟩; have n0_ := am (below_step (bg1 HB.out GE1.out) hb); have n1_ := am (blk_below (blk_put (cs := #[.slice A1 (rd_T36 l0 (i : Int)).f0.length c1, .int .i64 0]) (blk_put (cs := #[.slice none 0 0, .int .i64 0]) BK1.out 0 _ rfl) 1 _ rfl) hb); have n2_ := am (((HS.out.far (p := ⟨g1, 0, none⟩) NE1.out _).far (p := ⟨g1, 1, none⟩) NE1.out _).below hb); clear HB BK1 HS; have HB := n0_; have BK1 := n1_; have HS := n2_; clear n0_ n1_ n2_; clear hb hczg1_0 hczg1_1 hfzg1_0 hfzg1_1; have hy1_0 := (blk_cell BK1.out 0).trans rfl; have hy1_1 := (blk_cell BK1.out 1).trans rfl))
   have NB1 : Aside0 (some g1 ≠ some B) := ⟨fun e => NE1.out (by injection e with e; exact e.symm)⟩
   go_loopg [24, 7] ((rd_T36 l0 (i : Int)).f0.length + 1) (fun kq v24 v7 w' => ∃ (j : Nat) (S2 : List Int), v24 = .int .i64 (j : Int) ∧ Aside0 (kq + j = (rd_T36 l0 (i : Int)).f0.length + 1) ∧ Aside0 (j ≤ (rd_T36 l0 (i : Int)).f0.length) ∧ Aside0 (pagesB ((rd_T36 l0 (i : Int)).f0.drop j) S2 = pagesB (rd_T36 l0 (i : Int)).f0 S) ∧ Aside0 (S2.length ≤ 4 * i + j) ∧ Aside0 (Go.Proofs.YthmgdljblidgjaaW.SeenIs Try.prog 3 3 w' B S2.length S2) ∧ Aside0 (w'.heap[g1]? = some (.cells #[.slice A1 (rd_T36 l0 (i : Int)).f0.length c1, .int .i64 (rd_T36 l0 (i : Int)).f1] 36 (0, 0))) ∧ Aside0 (Below w.heap.size w w'))
   case atStart => exact ⟨0, S, rfl, ⟨rfl⟩, ⟨Nat.zero_le _⟩, ⟨by simp⟩, ⟨by have := HN.out; omega⟩, HS, BK1, HB⟩
   case round =>
    clear HS HB BK1 hy1_0 hy1_1
    obtain ⟨j, S2, rfl, HK2, HJ, HQ, HM, HS, BK1, HB⟩ := hrel
    have hbl' := hbl.out
    have hii : i < l0.length := CI.out
    have hsz : (l0.length : Int) = 4 := C.out
    obtain ⟨k2, rfl⟩ : ∃ k, gk = k + 1 := by
     have := HK2.out
     have := HJ.out
     exact ⟨gk - 1, by omega⟩
    by_cases cj : j < (rd_T36 l0 (i : Int)).f0.length
    rotate_left
    · have cjb : decide ((j : Int) < ((rd_T36 l0 (i : Int)).f0.length : Int)) = false := decide_eq_false (by omega)
      have HQ2 := HQ.out
      rw [List.drop_eq_nil_of_le (by omega), pagesB] at HQ2
      have HP3 := HP2.out
      rw [← HQ2] at HP3
      have HP4 := am HP3
      have hjl : j = (rd_T36 l0 (i : Int)).f0.length := by have := HJ.out; omega
      have HN2 : Aside0 (S2.length ≤ 4 * (i + 1)) := ⟨by have := HM.out; omega⟩
      have cj2 : ¬ ((j : Int) < ((rd_T36 l0 (i : Int)).f0.length : Int)) := by omega
      clear hsz hii hbl' HQ2 HP3 hjl
      go_wp2
      go_roundg k1
      case measure => omega
      case rel => exact ⟨i + 1, S2, by first | rfl | (simp; done) | (simp [*]; done), ⟨by have := HK.out; omega⟩, ⟨CI.out⟩, HP4, HN2, HS, HB⟩
    have cjb : decide ((j : Int) < ((rd_T36 l0 (i : Int)).f0.length : Int)) = true := decide_eq_true (by omega)
    have p2 : 0 ≤ (j : Int) := by omega
    have q2 : (j : Int) < ((rd_T36 l0 (i : Int)).f0.length : Int) := by omega
    obtain ⟨ad2, e2, hx2_0, hx2_1, hx2_2, hx2_3, hx2_4⟩ := at_T33 hi1.out (j : Int) p2 q2
    cases e2
    replace hx2_0 := up HB.out hx2_0
    replace hx2_1 := up HB.out hx2_1
    replace hx2_2 := up HB.out hx2_2
    replace hx2_3 := up HB.out hx2_3
    replace hx2_4 := up HB.out hx2_4
    simp only [Int.toNat_natCast] at hx2_0 hx2_1 hx2_2 hx2_3 hx2_4
    have hkp := am (pageShape_ok (rd_T33 (rd_T36 l0 (i : Int)).f0 (j : Int)))
    have HQ2 := HQ.out
    rw [drop_T33 cj, pagesB] at HQ2
    have hw24 : wrap64 ((j : Int) + 1) = ((j + 1 : Nat) : Int) := by rw [IntWalk.wrap64_in _ (by omega)]; omega
    have hnm : Aside0 (S2.length < maxLen) := ⟨by have := HM.out; simp only [maxLen]; omega⟩
    replace p2 := eq_true p2
    replace q2 := eq_true q2
    have CJ := am cj
    clear hsz hii hbl' cj
    cases hpb : pageB (rd_T33 (rd_T36 l0 (i : Int)).f0 (j : Int)) with
    | false =>
     rw [hpb] at hkp
     rw [hpb, if_neg (by simp)] at HQ2
     have HF : Aside0 (flashOkB l0 = false) := ⟨by rw [HE.out, ← HP2.out, ← HQ2]⟩
     clear HQ2 hpb
     go_wp2_with (first | (refine bx 7 #[.int .i64 0, .int .i64 0, .int .i64 0, .int .i64 0, .int .i64 0] 33 rfl ?_; intro g2 hg w7 hbox hb; have n0_ := am (below_step HB.out hb); have n1_ := am hbox; have GE2 := am ((by rw [hg]; exact below_size HB.out) : w.heap.size ≤ g2); have NE2 := am ((by rw [hg]; exact Nat.ne_of_lt HS.out.lt) : B ≠ g2); have NG2 := am ((by rw [hg]; exact Nat.ne_of_lt (blk_lt BK1.out)) : g1 ≠ g2); have n2_ := am (HS.out.below hb); have n3_ := am (blk_below BK1.out hb); clear HB HS BK1; have HB := n0_; have BK2 := n1_; have HS := n2_; have BK1 := n3_; clear n0_ n1_ n2_ n3_; have hnz2_0 := NG2.out; obtain ⟨hczg2_0, hczg2_1, hczg2_2, hczg2_3, hczg2_4⟩ := b5 hbox; obtain ⟨hfzg2_0, hfzg2_1, hfzg2_2, hfzg2_3, hfzg2_4⟩ := f5 hbox; clear hb hbox hg) | ((with_reducible refine gate_callee (f := 29) rfl ?_); refine goesL_ (some 29) rfl rfl Try.func29 (by kernel_rfl) rfl #[.agg #[.int .i64 (rd_T33 (rd_T36 l0 (i : Int)).f0 (j : Int)).f0, .int .i64 (rd_T33 (rd_T36 l0 (i : Int)).f0 (j : Int)).f1.f0, .int .i64 (rd_T33 (rd_T36 l0 (i : Int)).f0 (j : Int)).f1.f1, .int .i64 (rd_T33 (rd_T36 l0 (i : Int)).f0 (j : Int)).f1.f2, .int .i64 (rd_T33 (rd_T36 l0 (i : Int)).f0 (j : Int)).f1.f3]] rfl (by (try simp only [List.map_toArray, List.map_cons, List.map_nil]); first | done | rfl) ?_; (with_reducible refine (impl_pageShape.calls _ _ _ _ _ _ _ hkp.out).mono ?_); rintro e w3 ⟨rfl, hb⟩; refine ⟨_, rfl, ?_⟩; have n0_ := am (below_step (bg2 HB.out GE1.out GE2.out) hb); have n1_ := am (blk_below (blk_put (cs := #[.int .i64 (rd_T33 (rd_T36 l0 (i : Int)).f0 (j : Int)).f0, .int .i64 (rd_T33 (rd_T36 l0 (i : Int)).f0 (j : Int)).f1.f0, .int .i64 (rd_T33 (rd_T36 l0 (i : Int)).f0 (j : Int)).f1.f1, .int .i64 (rd_T33 (rd_T36 l0 (i : Int)).f0 (j : Int)).f1.f2, .int .i64 0]) (blk_put (cs := #[.int .i64 (rd_T33 (rd_T36 l0 (i : Int)).f0 (j : Int)).f0, .int .i64 (rd_T33 (rd_T36 l0 (i : Int)).f0 (j : Int)).f1.f0, .int .i64 (rd_T33 (rd_T36 l0 (i : Int)).f0 (j : Int)).f1.f1, .int .i64 0, .int .i64 0]) (blk_put (cs := #[.int .i64 (rd_T33 (rd_T36 l0 (i : Int)).f0 (j : Int)).f0, .int .i64 (rd_T33 (rd_T36 l0 (i : Int)).f0 (j : Int)).f1.f0, .int .i64 0, .int .i64 0, .int .i64 0]) (blk_put (cs := #[.int .i64 (rd_T33 (rd_T36 l0 (i : Int)).f0 (j : Int)).f0, .int .i64 0, .int .i64 0, .int .i64 0, .int .i64 0]) (blk_put (cs := #[.int .i64 0, .int .i64 0, .int .i64 0, .int .i64 0, .int .i64 0]) BK2.out 0 _ rfl) 1 _ rfl) 2 _ rfl) 3 _ rfl) 4 _ rfl) hb); have n2_ := am ((((((HS.out.far (p := ⟨g2, 0, none⟩) NE2.out _).far (p := ⟨g2, 1, none⟩) NE2.out _).far (p := ⟨g2, 2, none⟩) NE2.out _).far (p := ⟨g2, 3, none⟩) NE2.out _).far (p := ⟨g2, 4, none⟩) NE2.out _).below hb); have n3_ := am (blk_below (blk_far (blk_far (blk_far (blk_far (blk_far BK1.out (p := ⟨g2, 0, none⟩) NG2.out _) (p := ⟨g2, 1, none⟩) NG2.out _) (p := ⟨g2, 2, none⟩) NG2.out _) (p := ⟨g2, 3, none⟩) NG2.out _) (p := ⟨g2, 4, none⟩) NG2.out _) hb); clear HB BK1 BK2 HS; have HB := n0_; have BK2 := n1_; have HS := n2_; have BK1 := n3_; clear n0_ n1_ n2_ n3_; clear hb hczg2_0 hfzg2_0 hczg2_1 hfzg2_1 hczg2_2 hfzg2_2 hczg2_3 hfzg2_3 hczg2_4 hfzg2_4; have hy2_0 := (blk_cell BK2.out 0).trans rfl; have hy2_1 := (blk_cell BK2.out 1).trans rfl; have hy2_2 := (blk_cell BK2.out 2).trans rfl; have hy2_3 := (blk_cell BK2.out 3).trans rfl; have hy2_4 := (blk_cell BK2.out 4).trans rfl))
     go_ret
     exact ⟨by rw [HF.out]; rfl, HB.out⟩
    | true =>
     rw [hpb] at hkp
     rw [hpb, if_pos rfl] at HQ2
     by_cases cs : (rd_T33 (rd_T36 l0 (i : Int)).f0 (j : Int)).f0 = 1
     rotate_left
     · have cs0 : ((rd_T33 (rd_T36 l0 (i : Int)).f0 (j : Int)).f0 == 1) = false := beq_eq_false_iff_ne.mpr cs
       have cs1 : ((rd_T33 (rd_T36 l0 (i : Int)).f0 (j : Int)).f0 != 1) = true := bne_iff_ne.mpr cs
       rw [if_neg cs] at HQ2
       have HQ3 := am HQ2
       clear HQ2 hpb cs
       go_wp2_with (first | (refine bx 7 #[.int .i64 0, .int .i64 0, .int .i64 0, .int .i64 0, .int .i64 0] 33 rfl ?_; intro g2 hg w7 hbox hb; have n0_ := am (below_step HB.out hb); have n1_ := am hbox; have GE2 := am ((by rw [hg]; exact below_size HB.out) : w.heap.size ≤ g2); have NE2 := am ((by rw [hg]; exact Nat.ne_of_lt HS.out.lt) : B ≠ g2); have NG2 := am ((by rw [hg]; exact Nat.ne_of_lt (blk_lt BK1.out)) : g1 ≠ g2); have n2_ := am (HS.out.below hb); have n3_ := am (blk_below BK1.out hb); clear HB HS BK1; have HB := n0_; have BK2 := n1_; have HS := n2_; have BK1 := n3_; clear n0_ n1_ n2_ n3_; have hnz2_0 := NG2.out; obtain ⟨hczg2_0, hczg2_1, hczg2_2, hczg2_3, hczg2_4⟩ := b5 hbox; obtain ⟨hfzg2_0, hfzg2_1, hfzg2_2, hfzg2_3, hfzg2_4⟩ := f5 hbox; clear hb hbox hg) | ((with_reducible refine gate_callee (f := 29) rfl ?_); refine goesL_ (some 29) rfl rfl Try.func29 (by kernel_rfl) rfl #[.agg #[.int .i64 (rd_T33 (rd_T36 l0 (i : Int)).f0 (j : Int)).f0, .int .i64 (rd_T33 (rd_T36 l0 (i : Int)).f0 (j : Int)).f1.f0, .int .i64 (rd_T33 (rd_T36 l0 (i : Int)).f0 (j : Int)).f1.f1, .int .i64 (rd_T33 (rd_T36 l0 (i : Int)).f0 (j : Int)).f1.f2, .int .i64 (rd_T33 (rd_T36 l0 (i : Int)).f0 (j : Int)).f1.f3]] rfl (by (try simp only [List.map_toArray, List.map_cons, List.map_nil]); first | done | rfl) ?_; (with_reducible refine (impl_pageShape.calls _ _ _ _ _ _ _ hkp.out).mono ?_); rintro e w3 ⟨rfl, hb⟩; refine ⟨_, rfl, ?_⟩; have n0_ := am (below_step (bg2 HB.out GE1.out GE2.out) hb); have n1_ := am (blk_below (blk_put (cs := #[.int .i64 (rd_T33 (rd_T36 l0 (i : Int)).f0 (j : Int)).f0, .int .i64 (rd_T33 (rd_T36 l0 (i : Int)).f0 (j : Int)).f1.f0, .int .i64 (rd_T33 (rd_T36 l0 (i : Int)).f0 (j : Int)).f1.f1, .int .i64 (rd_T33 (rd_T36 l0 (i : Int)).f0 (j : Int)).f1.f2, .int .i64 0]) (blk_put (cs := #[.int .i64 (rd_T33 (rd_T36 l0 (i : Int)).f0 (j : Int)).f0, .int .i64 (rd_T33 (rd_T36 l0 (i : Int)).f0 (j : Int)).f1.f0, .int .i64 (rd_T33 (rd_T36 l0 (i : Int)).f0 (j : Int)).f1.f1, .int .i64 0, .int .i64 0]) (blk_put (cs := #[.int .i64 (rd_T33 (rd_T36 l0 (i : Int)).f0 (j : Int)).f0, .int .i64 (rd_T33 (rd_T36 l0 (i : Int)).f0 (j : Int)).f1.f0, .int .i64 0, .int .i64 0, .int .i64 0]) (blk_put (cs := #[.int .i64 (rd_T33 (rd_T36 l0 (i : Int)).f0 (j : Int)).f0, .int .i64 0, .int .i64 0, .int .i64 0, .int .i64 0]) (blk_put (cs := #[.int .i64 0, .int .i64 0, .int .i64 0, .int .i64 0, .int .i64 0]) BK2.out 0 _ rfl) 1 _ rfl) 2 _ rfl) 3 _ rfl) 4 _ rfl) hb); have n2_ := am ((((((HS.out.far (p := ⟨g2, 0, none⟩) NE2.out _).far (p := ⟨g2, 1, none⟩) NE2.out _).far (p := ⟨g2, 2, none⟩) NE2.out _).far (p := ⟨g2, 3, none⟩) NE2.out _).far (p := ⟨g2, 4, none⟩) NE2.out _).below hb); have n3_ := am (blk_below (blk_far (blk_far (blk_far (blk_far (blk_far BK1.out (p := ⟨g2, 0, none⟩) NG2.out _) (p := ⟨g2, 1, none⟩) NG2.out _) (p := ⟨g2, 2, none⟩) NG2.out _) (p := ⟨g2, 3, none⟩) NG2.out _) (p := ⟨g2, 4, none⟩) NG2.out _) hb); clear HB BK1 BK2 HS; have HB := n0_; have BK2 := n1_; have HS := n2_; have BK1 := n3_; clear n0_ n1_ n2_ n3_; clear hb hczg2_0 hfzg2_0 hczg2_1 hfzg2_1 hczg2_2 hfzg2_2 hczg2_3 hfzg2_3 hczg2_4 hfzg2_4; have hy2_0 := (blk_cell BK2.out 0).trans rfl; have hy2_1 := (blk_cell BK2.out 1).trans rfl; have hy2_2 := (blk_cell BK2.out 2).trans rfl; have hy2_3 := (blk_cell BK2.out 3).trans rfl; have hy2_4 := (blk_cell BK2.out 4).trans rfl))
       go_roundg k2
       case measure => omega
       case rel => exact ⟨j + 1, S2, by first | rfl | (simp; done) | (simp [*]; done), ⟨by have := HK2.out; omega⟩, ⟨CJ.out⟩, HQ3, ⟨by have := HM.out; omega⟩, HS, BK1, HB⟩
     have cs0 : ((rd_T33 (rd_T36 l0 (i : Int)).f0 (j : Int)).f0 == 1) = true := beq_iff_eq.mpr cs
     have cs1 : ((rd_T33 (rd_T36 l0 (i : Int)).f0 (j : Int)).f0 != 1) = false := bne_eq_false_iff_eq.mpr cs
     have hwf : Aside0 ((Lit.int .i64 (rd_T33 (rd_T36 l0 (i : Int)).f0 (j : Int)).f1.f1).wf = true) := ⟨by
      unfold pageB at hpb
      rw [if_pos cs] at hpb
      simp only [recOkB, decide_eq_true_eq] at hpb
      exact WalkArith.wf_i64 ⟨by omega, by omega⟩⟩
     rw [if_pos cs] at HQ2
     by_cases hm : (rd_T33 (rd_T36 l0 (i : Int)).f0 (j : Int)).f1.f1 ∈ S2
     · rw [if_pos hm] at HQ2
       have HF : Aside0 (flashOkB l0 = false) := ⟨by rw [HE.out, ← HP2.out, ← HQ2]⟩
       have HM2 := am hm
       clear HQ2 hpb cs hm
       go_wp2_with (first | (refine bx 7 #[.int .i64 0, .int .i64 0, .int .i64 0, .int .i64 0, .int .i64 0] 33 rfl ?_; intro g2 hg w7 hbox hb; have n0_ := am (below_step HB.out hb); have n1_ := am hbox; have GE2 := am ((by rw [hg]; exact below_size HB.out) : w.heap.size ≤ g2); have NE2 := am ((by rw [hg]; exact Nat.ne_of_lt HS.out.lt) : B ≠ g2); have NG2 := am ((by rw [hg]; exact Nat.ne_of_lt (blk_lt BK1.out)) : g1 ≠ g2); have n2_ := am (HS.out.below hb); have n3_ := am (blk_below BK1.out hb); clear HB HS BK1; have HB := n0_; have BK2 := n1_; have HS := n2_; have BK1 := n3_; clear n0_ n1_ n2_ n3_; have hnz2_0 := NG2.out; obtain ⟨hczg2_0, hczg2_1, hczg2_2, hczg2_3, hczg2_4⟩ := b5 hbox; obtain ⟨hfzg2_0, hfzg2_1, hfzg2_2, hfzg2_3, hfzg2_4⟩ := f5 hbox; clear hb hbox hg) | ((with_reducible refine gate_callee (f := 29) rfl ?_); refine goesL_ (some 29) rfl rfl Try.func29 (by kernel_rfl) rfl #[.agg #[.int .i64 (rd_T33 (rd_T36 l0 (i : Int)).f0 (j : Int)).f0, .int .i64 (rd_T33 (rd_T36 l0 (i : Int)).f0 (j : Int)).f1.f0, .int .i64 (rd_T33 (rd_T36 l0 (i : Int)).f0 (j : Int)).f1.f1, .int .i64 (rd_T33 (rd_T36 l0 (i : Int)).f0 (j : Int)).f1.f2, .int .i64 (rd_T33 (rd_T36 l0 (i : Int)).f0 (j : Int)).f1.f3]] rfl (by (try simp only [List.map_toArray, List.map_cons, List.map_nil]); first | done | rfl) ?_; (with_reducible refine (impl_pageShape.calls _ _ _ _ _ _ _ hkp.out).mono ?_); rintro e w3 ⟨rfl, hb⟩; refine ⟨_, rfl, ?_⟩; have n0_ := am (below_step (bg2 HB.out GE1.out GE2.out) hb); have n1_ := am (blk_below (blk_put (cs := #[.int .i64 (rd_T33 (rd_T36 l0 (i : Int)).f0 (j : Int)).f0, .int .i64 (rd_T33 (rd_T36 l0 (i : Int)).f0 (j : Int)).f1.f0, .int .i64 (rd_T33 (rd_T36 l0 (i : Int)).f0 (j : Int)).f1.f1, .int .i64 (rd_T33 (rd_T36 l0 (i : Int)).f0 (j : Int)).f1.f2, .int .i64 0]) (blk_put (cs := #[.int .i64 (rd_T33 (rd_T36 l0 (i : Int)).f0 (j : Int)).f0, .int .i64 (rd_T33 (rd_T36 l0 (i : Int)).f0 (j : Int)).f1.f0, .int .i64 (rd_T33 (rd_T36 l0 (i : Int)).f0 (j : Int)).f1.f1, .int .i64 0, .int .i64 0]) (blk_put (cs := #[.int .i64 (rd_T33 (rd_T36 l0 (i : Int)).f0 (j : Int)).f0, .int .i64 (rd_T33 (rd_T36 l0 (i : Int)).f0 (j : Int)).f1.f0, .int .i64 0, .int .i64 0, .int .i64 0]) (blk_put (cs := #[.int .i64 (rd_T33 (rd_T36 l0 (i : Int)).f0 (j : Int)).f0, .int .i64 0, .int .i64 0, .int .i64 0, .int .i64 0]) (blk_put (cs := #[.int .i64 0, .int .i64 0, .int .i64 0, .int .i64 0, .int .i64 0]) BK2.out 0 _ rfl) 1 _ rfl) 2 _ rfl) 3 _ rfl) 4 _ rfl) hb); have n2_ := am ((((((HS.out.far (p := ⟨g2, 0, none⟩) NE2.out _).far (p := ⟨g2, 1, none⟩) NE2.out _).far (p := ⟨g2, 2, none⟩) NE2.out _).far (p := ⟨g2, 3, none⟩) NE2.out _).far (p := ⟨g2, 4, none⟩) NE2.out _).below hb); have n3_ := am (blk_below (blk_far (blk_far (blk_far (blk_far (blk_far BK1.out (p := ⟨g2, 0, none⟩) NG2.out _) (p := ⟨g2, 1, none⟩) NG2.out _) (p := ⟨g2, 2, none⟩) NG2.out _) (p := ⟨g2, 3, none⟩) NG2.out _) (p := ⟨g2, 4, none⟩) NG2.out _) hb); clear HB BK1 BK2 HS; have HB := n0_; have BK2 := n1_; have HS := n2_; have BK1 := n3_; clear n0_ n1_ n2_ n3_; clear hb hczg2_0 hfzg2_0 hczg2_1 hfzg2_1 hczg2_2 hfzg2_2 hczg2_3 hfzg2_3 hczg2_4 hfzg2_4; have hy2_0 := (blk_cell BK2.out 0).trans rfl; have hy2_1 := (blk_cell BK2.out 1).trans rfl; have hy2_2 := (blk_cell BK2.out 2).trans rfl; have hy2_3 := (blk_cell BK2.out 3).trans rfl; have hy2_4 := (blk_cell BK2.out 4).trans rfl) | (at_lookup; refine Go.Proofs.YthmgdljblidgjaaW.wpList_seen_look _ rfl _ _ 53 rfl 3 3 Try.underlying3 Try.underlying3 Try.underlying53 (fun w => by go_simp) B _ S2 rfl HS.out (rd_T33 (rd_T36 l0 (i : Int)).f0 (j : Int)).f1.f1 rfl hwf.out ?_; rw [if_pos HM2.out]))
       go_ret
       exact ⟨by rw [HF.out]; rfl, HB.out⟩
     rw [if_neg hm] at HQ2
     have HM2 := am hm
     have HQ3 := am HQ2
     clear HQ2 hpb cs hm
     go_wp2_with (first | (refine bx 7 #[.int .i64 0, .int .i64 0, .int .i64 0, .int .i64 0, .int .i64 0] 33 rfl ?_; intro g2 hg w7 hbox hb; have n0_ := am (below_step HB.out hb); have n1_ := am hbox; have GE2 := am ((by rw [hg]; exact below_size HB.out) : w.heap.size ≤ g2); have NE2 := am ((by rw [hg]; exact Nat.ne_of_lt HS.out.lt) : B ≠ g2); have NG2 := am ((by rw [hg]; exact Nat.ne_of_lt (blk_lt BK1.out)) : g1 ≠ g2); have n2_ := am (HS.out.below hb); have n3_ := am (blk_below BK1.out hb); clear HB HS BK1; have HB := n0_; have BK2 := n1_; have HS := n2_; have BK1 := n3_; clear n0_ n1_ n2_ n3_; have hnz2_0 := NG2.out; obtain ⟨hczg2_0, hczg2_1, hczg2_2, hczg2_3, hczg2_4⟩ := b5 hbox; obtain ⟨hfzg2_0, hfzg2_1, hfzg2_2, hfzg2_3, hfzg2_4⟩ := f5 hbox; clear hb hbox hg) | ((with_reducible refine gate_callee (f := 29) rfl ?_); refine goesL_ (some 29) rfl rfl Try.func29 (by kernel_rfl) rfl #[.agg #[.int .i64 (rd_T33 (rd_T36 l0 (i : Int)).f0 (j : Int)).f0, .int .i64 (rd_T33 (rd_T36 l0 (i : Int)).f0 (j : Int)).f1.f0, .int .i64 (rd_T33 (rd_T36 l0 (i : Int)).f0 (j : Int)).f1.f1, .int .i64 (rd_T33 (rd_T36 l0 (i : Int)).f0 (j : Int)).f1.f2, .int .i64 (rd_T33 (rd_T36 l0 (i : Int)).f0 (j : Int)).f1.f3]] rfl (by (try simp only [List.map_toArray, List.map_cons, List.map_nil]); first | done | rfl) ?_; (with_reducible refine (impl_pageShape.calls _ _ _ _ _ _ _ hkp.out).mono ?_); rintro e w3 ⟨rfl, hb⟩; refine ⟨_, rfl, ?_⟩; have n0_ := am (below_step (bg2 HB.out GE1.out GE2.out) hb); have n1_ := am (blk_below (blk_put (cs := #[.int .i64 (rd_T33 (rd_T36 l0 (i : Int)).f0 (j : Int)).f0, .int .i64 (rd_T33 (rd_T36 l0 (i : Int)).f0 (j : Int)).f1.f0, .int .i64 (rd_T33 (rd_T36 l0 (i : Int)).f0 (j : Int)).f1.f1, .int .i64 (rd_T33 (rd_T36 l0 (i : Int)).f0 (j : Int)).f1.f2, .int .i64 0]) (blk_put (cs := #[.int .i64 (rd_T33 (rd_T36 l0 (i : Int)).f0 (j : Int)).f0, .int .i64 (rd_T33 (rd_T36 l0 (i : Int)).f0 (j : Int)).f1.f0, .int .i64 (rd_T33 (rd_T36 l0 (i : Int)).f0 (j : Int)).f1.f1, .int .i64 0, .int .i64 0]) (blk_put (cs := #[.int .i64 (rd_T33 (rd_T36 l0 (i : Int)).f0 (j : Int)).f0, .int .i64 (rd_T33 (rd_T36 l0 (i : Int)).f0 (j : Int)).f1.f0, .int .i64 0, .int .i64 0, .int .i64 0]) (blk_put (cs := #[.int .i64 (rd_T33 (rd_T36 l0 (i : Int)).f0 (j : Int)).f0, .int .i64 0, .int .i64 0, .int .i64 0, .int .i64 0]) (blk_put (cs := #[.int .i64 0, .int .i64 0, .int .i64 0, .int .i64 0, .int .i64 0]) BK2.out 0 _ rfl) 1 _ rfl) 2 _ rfl) 3 _ rfl) 4 _ rfl) hb); have n2_ := am ((((((HS.out.far (p := ⟨g2, 0, none⟩) NE2.out _).far (p := ⟨g2, 1, none⟩) NE2.out _).far (p := ⟨g2, 2, none⟩) NE2.out _).far (p := ⟨g2, 3, none⟩) NE2.out _).far (p := ⟨g2, 4, none⟩) NE2.out _).below hb); have n3_ := am (blk_below (blk_far (blk_far (blk_far (blk_far (blk_far BK1.out (p := ⟨g2, 0, none⟩) NG2.out _) (p := ⟨g2, 1, none⟩) NG2.out _) (p := ⟨g2, 2, none⟩) NG2.out _) (p := ⟨g2, 3, none⟩) NG2.out _) (p := ⟨g2, 4, none⟩) NG2.out _) hb); clear HB BK1 BK2 HS; have HB := n0_; have BK2 := n1_; have HS := n2_; have BK1 := n3_; clear n0_ n1_ n2_ n3_; clear hb hczg2_0 hfzg2_0 hczg2_1 hfzg2_1 hczg2_2 hfzg2_2 hczg2_3 hfzg2_3 hczg2_4 hfzg2_4; have hy2_0 := (blk_cell BK2.out 0).trans rfl; have hy2_1 := (blk_cell BK2.out 1).trans rfl; have hy2_2 := (blk_cell BK2.out 2).trans rfl; have hy2_3 := (blk_cell BK2.out 3).trans rfl; have hy2_4 := (blk_cell BK2.out 4).trans rfl) | (at_lookup; refine Go.Proofs.YthmgdljblidgjaaW.wpList_seen_look _ rfl _ _ 53 rfl 3 3 Try.underlying3 Try.underlying3 Try.underlying53 (fun w => by go_simp) B _ S2 rfl HS.out (rd_T33 (rd_T36 l0 (i : Int)).f0 (j : Int)).f1.f1 rfl hwf.out ?_; rw [if_neg HM2.out]) | (at_mapUpdate; refine Go.Proofs.YthmgdljblidgjaaW.wpList_seen_add _ rfl _ _ _ 53 rfl 3 3 Try.underlying3 Try.underlying3 Try.underlying53 B _ S2 rfl HS.out hnm.out (rd_T33 (rd_T36 l0 (i : Int)).f0 (j : Int)).f1.f1 rfl rfl hwf.out ?_; intro w4 hs4 hg4; have n0_ := am (pw_below_grown HB.out (some B) (below_size HB.out) hg4 (fun k e => by cases e; exact Nat.le_of_eq HBB.out)); have n1_ := am (blk_grown BK1.out hg4 NB1.out); clear HB BK1 HS; have HB := n0_; have BK1 := n1_; have HS := am hs4; clear n0_ n1_ hs4 hg4))
     go_roundg k2
     case measure => omega
     case rel => exact ⟨j + 1, _ :: S2, by first | rfl | (simp; done) | (simp [*]; done), ⟨by have := HK2.out; omega⟩, ⟨CJ.out⟩, HQ3, ⟨by have := HM.out; simp only [List.length_cons]; omega⟩, HS, BK1, HB⟩
def impl_blockOk.f (a0 : Int) : Option (Bool) := if a0 ≥ 0 then (some (decide (a0 < 4))) else (some false)
set_option maxHeartbeats 8000000 in
set_option maxRecDepth 100000 in
theorem impl_blockOk.calls (a0 : Int) (r : Bool) (w : World) (h : impl_blockOk.f a0 = some r) :
 Calls Try.prog 23 #[.int .i64 a0] w fun e w' => e = .returned (.bool r) ∧ Drawn0 w w' := by
 have H : (if a0 ≥ 0 then (some (decide (a0 < 4))) else (some false)) = some r := h
 clear h
 by_cases c2 : a0 ≥ 0
 · rw [if_pos c2] at H
   have c2b0 := decide_eq_true c2
   clear c2
   obtain rfl := Option.some.inj H
   go_enter Try.func23, Try.ntmps23
   go_wp2
   go_ret
   exact ⟨by first | rfl | (simp; done) | (simp [*]; done), by repeat (first | exact Drawn0.refl _ | apply Drawn0.step)⟩
 rw [if_neg c2] at H
 have c2b0 := decide_eq_false c2
 clear c2
 obtain rfl := Option.some.inj H
 go_enter Try.func23, Try.ntmps23
 go_wp2
 go_ret
 exact ⟨by first | rfl | (simp; done) | (simp [*]; done), by repeat (first | exact Drawn0.refl _ | apply Drawn0.step)⟩
def impl_freePages.l0 : Nat → Int → List (S33) → Int → Int → Option (Int)
 | 0, _, _, _, _ => none
 | k + 1, x3, x7, x8, x9 => if x9 < x8 then (if 0 ≤ x9 then (if x9 < (x7.length : Int) then (if ((rd_T33 x7 x9).f0) = 0 then (impl_freePages.l0 k (wrap64 (x3 + 1)) x7 x8 (wrap64 (x9 + 1))) else (impl_freePages.l0 k x3 x7 x8 (wrap64 (x9 + 1)))) else (none)) else (none)) else (some x3)
def impl_freePages.f (k : Nat) (l0_0 : List (S33)) (a0_1 : Int) : Option (Int) := impl_freePages.l0 k 0 l0_0 (l0_0.length : Int) 0
theorem impl_freePages.mono_l : ∀ k, (∀ y0 y1 y2 y3, LeO (impl_freePages.l0 k y0 y1 y2 y3) (impl_freePages.l0 (k + 1) y0 y1 y2 y3))
 | 0 => fun _ _ _ _ r h => by simp [impl_freePages.l0] at h
 | k + 1 => by
  have ih0 := impl_freePages.mono_l k
  · intro y0 y1 y2 y3
    unfold impl_freePages.l0
    with_reducible repeat' first | exact ih0 _ _ _ _ | exact LeO.refl _ | exact LeO.none _ | refine LeO.ite ?_ ?_ | refine LeO.bind ?_ (fun _ => ?_)
theorem impl_freePages.mono : ∀ a0 a1 k, LeO (impl_freePages.f k a0 a1) (impl_freePages.f (k + 1) a0 a1) := by
 intro a0 a1 k
 have ih0 := impl_freePages.mono_l k
 unfold impl_freePages.f
 with_reducible repeat' first | exact ih0 _ _ _ _ | exact LeO.refl _ | exact LeO.none _ | refine LeO.ite ?_ ?_ | refine LeO.bind ?_ (fun _ => ?_)
set_option maxHeartbeats 8000000 in
set_option maxRecDepth 100000 in
theorem impl_freePages.calls (k : Nat) (A0_0 : Option Addr) (c0_0 : Nat) (l0_0 : List (S33)) (a0_1 : Int) (r : Int) (w : World) (hr0_0 : Kd.C k33 w A0_0 l0_0.length l0_0) (hc0_0 : l0_0.length ≤ c0_0) (h : impl_freePages.f k l0_0 a0_1 = some r) :
 Calls Try.prog 26 #[.agg #[.slice A0_0 l0_0.length c0_0, .int .i64 a0_1]] w fun e w' => e = .returned (.int .i64 r) ∧ Below w.heap.size w w' := by
 have hu36 := Try.underlying36
 have hu33 := Try.underlying33
 have HR0_0 := am hr0_0
 have HC0_0 := am hc0_0
 clear hr0_0 hc0_0
 have HB := am (Below.refl w.heap.size w)
 have H : (impl_freePages.l0 k 0 l0_0 (l0_0.length : Int) 0) = some r := h
 clear h
 have H' := am H
 clear H
 go_enter Try.func26, Try.ntmps26
 go_wp2_with (first | (refine bx 1 #[.slice A0_0 l0_0.length c0_0, .int .i64 a0_1] 36 rfl ?_; intro gb429 hg w2 hbox hb; have BK429 := am (hbox); have GW429 := am (ge hg (ph HB.out)); have GE429 := GW429; replace HB := am (below_step (ph HB.out) hb); clear hb hbox hg; obtain ⟨hcz3_0, hcz3_1⟩ := b2 BK429.out; obtain ⟨hfz3_0, hfz3_1⟩ := f2 BK429.out))
 go_loopg [3, 9] k (fun kq v3 v9 w' => ∃ (x3_1 : Int) (x9_1 : Int), v3 = .int .i64 x3_1 ∧ v9 = .int .i64 x9_1 ∧ Aside0 (impl_freePages.l0 kq x3_1 l0_0 (l0_0.length : Int) x9_1 = some r) ∧ Aside0 (kq ≤ k) ∧ Aside0 (w'.heap[gb429]? = some (.cells #[(.slice A0_0 l0_0.length c0_0), .int .i64 a0_1] 36 (0, 0))) ∧ Aside0 (Below w.heap.size w w'))
 case atStart => exact ⟨(0), (0), rf, rf, H', ⟨Nat.le_refl _⟩, ⟨pb BK429.out⟩, ⟨bg1 HB.out GE429.out⟩⟩
 case round =>
  clear H'
  obtain ⟨x3_1, x9_1, rfl, rfl, HA, HK1, BK429, HB⟩ := hrel
  cases gk with
  | zero => exact absurd HA.out (by simp [impl_freePages.l0])
  | succ k1 =>
   have H := HA.out
   clear HA
   simp only [impl_freePages.l0] at H
   by_cases c4 : x9_1 < (l0_0.length : Int)
   rotate_left
   · rw [if_neg c4] at H
     have c4b0 := decide_eq_false c4
     clear c4
     obtain rfl := Option.some.inj H
     go_wp2
     go_ret
     exact (rq (bg1 HB.out GE429.out))
   rw [if_pos c4] at H
   have c4b0 := decide_eq_true c4
   clear c4
   obtain ⟨c5b0, H⟩ := ifd H
   obtain ⟨c6b0, H⟩ := ifd H
   by_cases c7 : ((rd_T33 l0_0 x9_1).f0) = 0
   rotate_left
   · rw [if_neg c7] at H
     have c7b0 : (((rd_T33 l0_0 x9_1).f0) == 0) = false := beq_eq_false_iff_ne.mpr c7
     have c7b1 : (((rd_T33 l0_0 x9_1).f0) != 0) = true := bne_iff_ne.mpr c7
     have H' := am H
     clear H
     have p430 : 0 ≤ (x9_1 : Int) := ofb
     have q430 : x9_1 < (l0_0.length : Int) := ofb
     obtain ⟨ad430, e430, hx430_0, hx430_1, hx430_2, hx430_3, hx430_4⟩ := at_T33 HR0_0.out x9_1 p430 q430
     cases e430
     replace hx430_0 := up HB.out hx430_0
     replace hx430_1 := up HB.out hx430_1
     replace hx430_2 := up HB.out hx430_2
     replace hx430_3 := up HB.out hx430_3
     replace hx430_4 := up HB.out hx430_4
     replace p430 := eq_true p430
     replace q430 := eq_true q430
     go_wp2_with (first | (refine bx 5 #[.int .i64 0, .int .i64 0, .int .i64 0, .int .i64 0, .int .i64 0] 33 rfl ?_; intro gb431 hg w11 hbox hb; have BK431 := am (hbox); have GW431 := am (ge hg (bg1 HB.out GE429.out)); have GE431 := GW431; replace HB := am (below_step (bg1 HB.out GE429.out) hb); have NB429_431 := am (nb hg (pb BK429.out)); have NB431_429 := am (Ne.symm NB429_431.out); replace BK429 := am (blk_below (pb BK429.out) hb); clear hb hbox hg; have hnb12 := NB431_429.out; have hnc12 := NB429_431.out; obtain ⟨hcz13_0, hcz13_1, hcz13_2, hcz13_3, hcz13_4⟩ := b5 BK431.out; obtain ⟨hfz13_0, hfz13_1, hfz13_2, hfz13_3, hfz13_4⟩ := f5 BK431.out))
     go_roundg k1
     case measure => have := HK1.out; omega
     case rel => exact ⟨(x3_1), (wrap64 (x9_1 + 1)), rf, rf, H', ⟨by have := HK1.out; omega⟩, ⟨bf5 (pb BK429.out) NB429_431.out⟩, ⟨bg2 HB.out GE429.out GE431.out⟩⟩
   rw [if_pos c7] at H
   have c7b0 : (((rd_T33 l0_0 x9_1).f0) == 0) = true := beq_iff_eq.mpr c7
   have c7b1 : (((rd_T33 l0_0 x9_1).f0) != 0) = false := bne_eq_false_iff_eq.mpr c7
   clear c7
   have H' := am H
   clear H
   have p430 : 0 ≤ (x9_1 : Int) := ofb
   have q430 : x9_1 < (l0_0.length : Int) := ofb
   obtain ⟨ad430, e430, hx430_0, hx430_1, hx430_2, hx430_3, hx430_4⟩ := at_T33 HR0_0.out x9_1 p430 q430
   cases e430
   replace hx430_0 := up HB.out hx430_0
   replace hx430_1 := up HB.out hx430_1
   replace hx430_2 := up HB.out hx430_2
   replace hx430_3 := up HB.out hx430_3
   replace hx430_4 := up HB.out hx430_4
   replace p430 := eq_true p430
   replace q430 := eq_true q430
   go_wp2_with (first | (refine bx 5 #[.int .i64 0, .int .i64 0, .int .i64 0, .int .i64 0, .int .i64 0] 33 rfl ?_; intro gb431 hg w8 hbox hb; have BK431 := am (hbox); have GW431 := am (ge hg (bg1 HB.out GE429.out)); have GE431 := GW431; replace HB := am (below_step (bg1 HB.out GE429.out) hb); have NB429_431 := am (nb hg (pb BK429.out)); have NB431_429 := am (Ne.symm NB429_431.out); replace BK429 := am (blk_below (pb BK429.out) hb); clear hb hbox hg; have hnb9 := NB431_429.out; have hnc9 := NB429_431.out; obtain ⟨hcz10_0, hcz10_1, hcz10_2, hcz10_3, hcz10_4⟩ := b5 BK431.out; obtain ⟨hfz10_0, hfz10_1, hfz10_2, hfz10_3, hfz10_4⟩ := f5 BK431.out))
   go_roundg k1
   case measure => have := HK1.out; omega
   case rel => exact ⟨(wrap64 (x3_1 + 1)), (wrap64 (x9_1 + 1)), rf, rf, H', ⟨by have := HK1.out; omega⟩, ⟨bf5 (pb BK429.out) NB429_431.out⟩, ⟨bg2 HB.out GE429.out GE431.out⟩⟩
mutual
def impl_seqUsed.l0 : Nat → Int → List (S36) → Int → Int → Option (Bool)
 | 0, _, _, _, _ => none
 | k + 1, x1, x9, x10, x11 => if x11 < x10 then (if 0 ≤ x11 then (if x11 < (x9.length : Int) then (impl_seqUsed.l1 k x1 x9 x10 x11 ((rd_T36 x9 x11).f0) (((rd_T36 x9 x11).f0).length : Int) 0) else (none)) else (none)) else (some false)
def impl_seqUsed.l1 : Nat → Int → List (S36) → Int → Int → List (S33) → Int → Int → Option (Bool)
 | 0, _, _, _, _, _, _, _ => none
 | k + 1, x1, x9, x10, x11, x16, x17, x18 => if x18 < x17 then (if 0 ≤ x18 then (if x18 < (x16.length : Int) then (if ((rd_T33 x16 x18).f0) = 1 then (if ((rd_T33 x16 x18).f1.f1) = x1 then (some true) else (impl_seqUsed.l1 k x1 x9 x10 x11 x16 x17 (wrap64 (x18 + 1)))) else (impl_seqUsed.l1 k x1 x9 x10 x11 x16 x17 (wrap64 (x18 + 1)))) else (none)) else (none)) else (impl_seqUsed.l0 k x1 x9 x10 (wrap64 (x11 + 1)))
end
def impl_seqUsed.f (k : Nat) (l0 : List (S36)) (a1 : Int) : Option (Bool) := impl_seqUsed.l0 k a1 l0 (l0.length : Int) 0
theorem impl_seqUsed.mono_l : ∀ k, (∀ y0 y1 y2 y3, LeO (impl_seqUsed.l0 k y0 y1 y2 y3) (impl_seqUsed.l0 (k + 1) y0 y1 y2 y3)) ∧ (∀ y0 y1 y2 y3 y4 y5 y6, LeO (impl_seqUsed.l1 k y0 y1 y2 y3 y4 y5 y6) (impl_seqUsed.l1 (k + 1) y0 y1 y2 y3 y4 y5 y6))
 | 0 => ⟨fun _ _ _ _ r h => by simp [impl_seqUsed.l0] at h, fun _ _ _ _ _ _ _ r h => by simp [impl_seqUsed.l1] at h⟩
 | k + 1 => by
  obtain ⟨ih0, ih1⟩ := impl_seqUsed.mono_l k
  refine ⟨?_, ?_⟩
  · intro y0 y1 y2 y3
    unfold impl_seqUsed.l0
    with_reducible repeat' first | exact ih0 _ _ _ _ | exact ih1 _ _ _ _ _ _ _ | exact LeO.refl _ | exact LeO.none _ | refine LeO.ite ?_ ?_ | refine LeO.bind ?_ (fun _ => ?_)
  · intro y0 y1 y2 y3 y4 y5 y6
    unfold impl_seqUsed.l1
    with_reducible repeat' first | exact ih0 _ _ _ _ | exact ih1 _ _ _ _ _ _ _ | exact LeO.refl _ | exact LeO.none _ | refine LeO.ite ?_ ?_ | refine LeO.bind ?_ (fun _ => ?_)
theorem impl_seqUsed.mono : ∀ a0 a1 k, LeO (impl_seqUsed.f k a0 a1) (impl_seqUsed.f (k + 1) a0 a1) := by
 intro a0 a1 k
 obtain ⟨ih0, ih1⟩ := impl_seqUsed.mono_l k
 unfold impl_seqUsed.f
 with_reducible repeat' first | exact ih0 _ _ _ _ | exact ih1 _ _ _ _ _ _ _ | exact LeO.refl _ | exact LeO.none _ | refine LeO.ite ?_ ?_ | refine LeO.bind ?_ (fun _ => ?_)
set_option maxHeartbeats 8000000 in
set_option maxRecDepth 100000 in
theorem impl_seqUsed.calls (k : Nat) (A0 : Option Addr) (c0 : Nat) (l0 : List (S36)) (a1 : Int) (r : Bool) (w : World) (hr0 : Kd.C k36 w A0 l0.length l0) (hc0 : l0.length ≤ c0) (h : impl_seqUsed.f k l0 a1 = some r) :
 Calls Try.prog 27 #[.slice A0 l0.length c0, .int .i64 a1] w fun e w' => e = .returned (.bool r) ∧ Below w.heap.size w w' := by
 have hu36 := Try.underlying36
 have hu33 := Try.underlying33
 have HR0 := am hr0
 have HC0 := am hc0
 clear hr0 hc0
 have HB := am (Below.refl w.heap.size w)
 have H : (impl_seqUsed.l0 k a1 l0 (l0.length : Int) 0) = some r := h
 clear h
 have H' := am H
 clear H
 go_enter Try.func27, Try.ntmps27
 go_wp2
 go_loopg [11] k (fun kq v11 w' => ∃ (x11_1 : Int), v11 = .int .i64 x11_1 ∧ Aside0 (impl_seqUsed.l0 kq a1 l0 (l0.length : Int) x11_1 = some r) ∧ Aside0 (kq ≤ k) ∧ Aside0 (Below w.heap.size w w'))
 case atStart => exact ⟨(0), rf, H', ⟨Nat.le_refl _⟩, ⟨ph HB.out⟩⟩
 case round =>
  clear H'
  obtain ⟨x11_1, rfl, HA, HK1, HB⟩ := hrel
  cases gk with
  | zero => exact absurd HA.out (by simp [impl_seqUsed.l0])
  | succ k1 =>
   have H := HA.out
   clear HA
   simp only [impl_seqUsed.l0] at H
   by_cases c3 : x11_1 < (l0.length : Int)
   rotate_left
   · rw [if_neg c3] at H
     have c3b0 := decide_eq_false c3
     clear c3
     obtain rfl := Option.some.inj H
     go_wp2
     go_ret
     exact (rq (ph HB.out))
   rw [if_pos c3] at H
   have c3b0 := decide_eq_true c3
   clear c3
   obtain ⟨c4b0, H⟩ := ifd H
   obtain ⟨c5b0, H⟩ := ifd H
   have H' := am H
   clear H
   have p432 : 0 ≤ (x11_1 : Int) := ofb
   have q432 : x11_1 < (l0.length : Int) := ofb
   obtain ⟨ad432, A432_0, c432_0, e432, hx432_0, hx432_1, hl432_0, hi432_0⟩ := at_T36 HR0.out x11_1 p432 q432
   cases e432
   replace hx432_0 := up HB.out hx432_0
   replace hx432_1 := up HB.out hx432_1
   have HR432_0 := am hi432_0
   have HC432_0 := am hl432_0
   clear hi432_0 hl432_0
   replace p432 := eq_true p432
   replace q432 := eq_true q432
   go_wp2_with (first | (refine bx 6 #[.slice none 0 0, .int .i64 0] 36 rfl ?_; intro gb433 hg w6 hbox hb; have BK433 := am (hbox); have GW433 := am (ge hg (ph HB.out)); have GE433 := GW433; replace HB := am (below_step (ph HB.out) hb); clear hb hbox hg; obtain ⟨hcz7_0, hcz7_1⟩ := b2 BK433.out; obtain ⟨hfz7_0, hfz7_1⟩ := f2 BK433.out))
   go_loopg [18] k1 (fun kq v18 w' => ∃ (x18_2 : Int), v18 = .int .i64 x18_2 ∧ Aside0 (impl_seqUsed.l1 kq a1 l0 (l0.length : Int) x11_1 ((rd_T36 l0 x11_1).f0) (((rd_T36 l0 x11_1).f0).length : Int) x18_2 = some r) ∧ Aside0 (kq ≤ k1) ∧ Aside0 (w'.heap[gb433]? = some (.cells #[(.slice A432_0 ((rd_T36 l0 x11_1).f0).length c432_0), .int .i64 ((rd_T36 l0 x11_1).f1)] 36 (0, 0))) ∧ Aside0 (Below w.heap.size w w'))
   case atStart => exact ⟨(0), rf, H', ⟨Nat.le_refl _⟩, ⟨bp2 (pb BK433.out)⟩, ⟨bg1 HB.out GE433.out⟩⟩
   case round =>
    clear H'
    obtain ⟨x18_2, rfl, HA, HK2, BK433, HB⟩ := hrel
    cases gk with
    | zero => exact absurd HA.out (by simp [impl_seqUsed.l1])
    | succ k2 =>
     have H := HA.out
     clear HA
     simp only [impl_seqUsed.l1] at H
     by_cases c8 : x18_2 < (((rd_T36 l0 x11_1).f0).length : Int)
     rotate_left
     · rw [if_neg c8] at H
       have c8b0 := decide_eq_false c8
       clear c8
       have H' := am H
       clear H
       go_wp2
       go_roundg k2
       case measure => have := HK1.out; have := HK2.out; omega
       case rel => exact ⟨(wrap64 (x11_1 + 1)), rf, H', ⟨by have := HK1.out; have := HK2.out; omega⟩, ⟨bg1 HB.out GE433.out⟩⟩
     rw [if_pos c8] at H
     have c8b0 := decide_eq_true c8
     clear c8
     obtain ⟨c9b0, H⟩ := ifd H
     obtain ⟨c10b0, H⟩ := ifd H
     by_cases c11 : ((rd_T33 ((rd_T36 l0 x11_1).f0) x18_2).f0) = 1
     rotate_left
     · rw [if_neg c11] at H
       have c11b0 : (((rd_T33 ((rd_T36 l0 x11_1).f0) x18_2).f0) == 1) = false := beq_eq_false_iff_ne.mpr c11
       have c11b1 : (((rd_T33 ((rd_T36 l0 x11_1).f0) x18_2).f0) != 1) = true := bne_iff_ne.mpr c11
       have H' := am H
       clear H
       have p434 : 0 ≤ (x18_2 : Int) := ofb
       have q434 : x18_2 < (((rd_T36 l0 x11_1).f0).length : Int) := ofb
       obtain ⟨ad434, e434, hx434_0, hx434_1, hx434_2, hx434_3, hx434_4⟩ := at_T33 HR432_0.out x18_2 p434 q434
       cases e434
       replace hx434_0 := up HB.out hx434_0
       replace hx434_1 := up HB.out hx434_1
       replace hx434_2 := up HB.out hx434_2
       replace hx434_3 := up HB.out hx434_3
       replace hx434_4 := up HB.out hx434_4
       replace p434 := eq_true p434
       replace q434 := eq_true q434
       go_wp2_with (first | (refine bx 8 #[.int .i64 0, .int .i64 0, .int .i64 0, .int .i64 0, .int .i64 0] 33 rfl ?_; intro gb435 hg w19 hbox hb; have BK435 := am (hbox); have GW435 := am (ge hg (bg1 HB.out GE433.out)); have GE435 := GW435; replace HB := am (below_step (bg1 HB.out GE433.out) hb); have NB433_435 := am (nb hg (pb BK433.out)); have NB435_433 := am (Ne.symm NB433_435.out); replace BK433 := am (blk_below (pb BK433.out) hb); clear hb hbox hg; have hnb20 := NB435_433.out; have hnc20 := NB433_435.out; obtain ⟨hcz21_0, hcz21_1, hcz21_2, hcz21_3, hcz21_4⟩ := b5 BK435.out; obtain ⟨hfz21_0, hfz21_1, hfz21_2, hfz21_3, hfz21_4⟩ := f5 BK435.out))
       go_roundg k2
       case measure => have := HK1.out; have := HK2.out; omega
       case rel => exact ⟨(wrap64 (x18_2 + 1)), rf, H', ⟨by have := HK1.out; have := HK2.out; omega⟩, ⟨bf5 (pb BK433.out) NB433_435.out⟩, ⟨bg2 HB.out GE433.out GE435.out⟩⟩
     rw [if_pos c11] at H
     have c11b0 : (((rd_T33 ((rd_T36 l0 x11_1).f0) x18_2).f0) == 1) = true := beq_iff_eq.mpr c11
     have c11b1 : (((rd_T33 ((rd_T36 l0 x11_1).f0) x18_2).f0) != 1) = false := bne_eq_false_iff_eq.mpr c11
     clear c11
     by_cases c12 : ((rd_T33 ((rd_T36 l0 x11_1).f0) x18_2).f1.f1) = a1
     · rw [if_pos c12] at H
       have c12b0 : (((rd_T33 ((rd_T36 l0 x11_1).f0) x18_2).f1.f1) == a1) = true := beq_iff_eq.mpr c12
       have c12b1 : (((rd_T33 ((rd_T36 l0 x11_1).f0) x18_2).f1.f1) != a1) = false := bne_eq_false_iff_eq.mpr c12
       clear c12
       obtain rfl := Option.some.inj H
       have p434 : 0 ≤ (x18_2 : Int) := ofb
       have q434 : x18_2 < (((rd_T36 l0 x11_1).f0).length : Int) := ofb
       obtain ⟨ad434, e434, hx434_0, hx434_1, hx434_2, hx434_3, hx434_4⟩ := at_T33 HR432_0.out x18_2 p434 q434
       cases e434
       replace hx434_0 := up HB.out hx434_0
       replace hx434_1 := up HB.out hx434_1
       replace hx434_2 := up HB.out hx434_2
       replace hx434_3 := up HB.out hx434_3
       replace hx434_4 := up HB.out hx434_4
       replace p434 := eq_true p434
       replace q434 := eq_true q434
       go_wp2_with (first | (refine bx 8 #[.int .i64 0, .int .i64 0, .int .i64 0, .int .i64 0, .int .i64 0] 33 rfl ?_; intro gb435 hg w13 hbox hb; have BK435 := am (hbox); have GW435 := am (ge hg (bg1 HB.out GE433.out)); have GE435 := GW435; replace HB := am (below_step (bg1 HB.out GE433.out) hb); have NB433_435 := am (nb hg (pb BK433.out)); have NB435_433 := am (Ne.symm NB433_435.out); replace BK433 := am (blk_below (pb BK433.out) hb); clear hb hbox hg; have hnb14 := NB435_433.out; have hnc14 := NB433_435.out; obtain ⟨hcz15_0, hcz15_1, hcz15_2, hcz15_3, hcz15_4⟩ := b5 BK435.out; obtain ⟨hfz15_0, hfz15_1, hfz15_2, hfz15_3, hfz15_4⟩ := f5 BK435.out))
       go_ret
       exact (rq (bg2 HB.out GE433.out GE435.out))
     rw [if_neg c12] at H
     have c12b0 : (((rd_T33 ((rd_T36 l0 x11_1).f0) x18_2).f1.f1) == a1) = false := beq_eq_false_iff_ne.mpr c12
     have c12b1 : (((rd_T33 ((rd_T36 l0 x11_1).f0) x18_2).f1.f1) != a1) = true := bne_iff_ne.mpr c12
     have H' := am H
     clear H
     have p434 : 0 ≤ (x18_2 : Int) := ofb
     have q434 : x18_2 < (((rd_T36 l0 x11_1).f0).length : Int) := ofb
     obtain ⟨ad434, e434, hx434_0, hx434_1, hx434_2, hx434_3, hx434_4⟩ := at_T33 HR432_0.out x18_2 p434 q434
     cases e434
     replace hx434_0 := up HB.out hx434_0
     replace hx434_1 := up HB.out hx434_1
     replace hx434_2 := up HB.out hx434_2
     replace hx434_3 := up HB.out hx434_3
     replace hx434_4 := up HB.out hx434_4
     replace p434 := eq_true p434
     replace q434 := eq_true q434
     go_wp2_with (first | (refine bx 8 #[.int .i64 0, .int .i64 0, .int .i64 0, .int .i64 0, .int .i64 0] 33 rfl ?_; intro gb435 hg w16 hbox hb; have BK435 := am (hbox); have GW435 := am (ge hg (bg1 HB.out GE433.out)); have GE435 := GW435; replace HB := am (below_step (bg1 HB.out GE433.out) hb); have NB433_435 := am (nb hg (pb BK433.out)); have NB435_433 := am (Ne.symm NB433_435.out); replace BK433 := am (blk_below (pb BK433.out) hb); clear hb hbox hg; have hnb17 := NB435_433.out; have hnc17 := NB433_435.out; obtain ⟨hcz18_0, hcz18_1, hcz18_2, hcz18_3, hcz18_4⟩ := b5 BK435.out; obtain ⟨hfz18_0, hfz18_1, hfz18_2, hfz18_3, hfz18_4⟩ := f5 BK435.out))
     go_roundg k2
     case measure => have := HK1.out; have := HK2.out; omega
     case rel => exact ⟨(wrap64 (x18_2 + 1)), rf, H', ⟨by have := HK1.out; have := HK2.out; omega⟩, ⟨bf5 (pb BK433.out) NB433_435.out⟩, ⟨bg2 HB.out GE433.out GE435.out⟩⟩
def kb_ : Kd S36 := Kd.iso (Kd.pair (Kd.slice 79 k33) (Kd.int .i64)) (fun x : S36 => (x.f0, x.f1))
theorem kb__openM {w : World} {base : Nat} {ok : Nat → Prop} {x : S36} {cs : List Value} (h : kb_.M w base ok x cs) : ∃ v0, cs = [v0, .int .i64 x.f1] ∧ k33.R 79 w base ok v0 x.f0 := by
 obtain ⟨_, _, rfl, ⟨v0, rfl, g0⟩, rfl⟩ := h
 exact ⟨v0, rfl, g0⟩
theorem kb__mkM (w : World) (base : Nat) (ok : Nat → Prop) (x : S36) {v0 : Value} (g0 : k33.R 79 w base ok v0 x.f0) : kb_.M w base ok x [v0, .int .i64 x.f1] := ⟨[v0], [.int .i64 x.f1], rfl, ⟨v0, rfl, g0⟩, rfl⟩
theorem kb_C {w : World} {A : Option Addr} {n : Nat} {xs : List S36} (h : Kd.C kb_ w A n xs) : Kd.C k36 w A n xs := h
theorem run_copy_sz {P : Program} (w : World) (dT sT ty elem : TypeId) (g dLen dCap : Nat) (a : Addr) (sLen sCap sz : Nat) (cur : Array Value) (t : TypeId) (cs : List Value)
 (hu : P.underlying dT = some (.slice elem)) (hs : (P.info? elem).map (·.size) = some sz) (hg : w.heap[g]? = some (.cells cur t (0, 0))) (hn : cs.length = Nat.min sLen dLen * sz)
 (hsrc : ∀ j v, cs[j]? = some v → w.cell? (a.add j) = some v) (hfit : cs.length ≤ cur.size) (h1 : ∀ v ∈ cs, v.oneCell' = true) :
 (Builtin.copy_ #[dT, sT] ty #[.slice (some ⟨g, 0, none⟩) dLen dCap, .slice (some a) sLen sCap]).run P w = .ok (goInt (Nat.min sLen dLen : Nat)) (w.setRow g (cs ++ cur.toList.drop cs.length).toArray) := by
 have hl := run_loadCells_list (P := P) w a cs hsrc
 have hst := run_storeCells_at P g 0 t cs 0 cur w hg (by simpa using hfit) h1
 simp only [Nat.add_zero, List.take_zero, List.nil_append, Nat.zero_add] at hst
 cases hq : P.info? elem with
 | none => simp [hq] at hs
 | some i =>
  have hi : i.size = sz := by simpa [hq] using hs
  rw [hn] at hl
  simp [Builtin.copy_, run_underlying hu, Builtin.lenOf, Builtin.firstCells, sizeOf, typeInfo, hq, hi, hl, hst]
abbrev zeros20 : Array Value := #[.int .i64 0, .int .i64 0, .int .i64 0, .int .i64 0, .int .i64 0, .int .i64 0, .int .i64 0, .int .i64 0, .int .i64 0, .int .i64 0, .int .i64 0, .int .i64 0, .int .i64 0, .int .i64 0, .int .i64 0, .int .i64 0, .int .i64 0, .int .i64 0, .int .i64 0, .int .i64 0]
theorem k33_of {w w' : World} {base : Nat} {ok : Nat → Prop} {x : S33} {cs : List Value} (h : k33.K w x cs) : k33.M w' base ok x cs := by
 obtain rfl := k33_open h
 exact k33_mkM _ _ _ _
set_option maxHeartbeats 2000000 in
set_option maxRecDepth 100000 in
theorem impl_pagesCopy.calls (A0 : Option Addr) (c0 : Nat) (l0 : List S33) (w : World) (hr0 : Kd.C k33 w A0 l0.length l0) (hl : l0.length = 4) :
 Calls Try.prog 38 #[.slice A0 l0.length c0] w fun e w' => ∃ v, e = .returned v ∧ k33.R 79 w' w.heap.size (fun k => w.heap.size ≤ k) v l0 ∧ Below w.heap.size w w' := by
 obtain ⟨ad, hA, -⟩ := hr0.2.2 (by omega)
 subst hA
 obtain ⟨news, hnr, hnc⟩ := ReadsRow.inner_ hr0
 have esz : (k33).sz = 5 := rfl
 have hnl : news.length = 20 := by rw [hnr.1, hl, esz]
 have hone : ∀ u ∈ news, u.oneCell' = true := by
  intro u hu
  obtain ⟨q, hq, rfl⟩ := List.mem_iff_getElem.1 hu
  have hql : q / 5 < l0.length := by omega
  have hc := hnr.2 (q / 5) _ (List.getElem?_eq_getElem hql)
  refine k33.K_one hc _ ?_
  rw [List.mem_iff_getElem?]
  refine ⟨q % 5, ?_⟩
  rw [esz, List.getElem?_take, if_pos (Nat.mod_lt _ (by decide)), List.getElem?_drop, Nat.mul_comm, Nat.div_add_mod, List.getElem?_eq_getElem hq]
 have hu1 := Try.underlying34
 have hu2 := Try.underlying79
 have hu3 := Try.underlying77
 have hb := below_alloc (Below.refl _ w) (.cells zeros20 79)
 have hcp := run_copy_sz (P := Try.prog) (w.alloc (.cells zeros20 79)) 34 34 3 33 w.heap.size 4 4 ad 4 c0 5 zeros20 79 news hu1 (by kernel_rfl) (blk_new w _) (by rw [hnl]; rfl) (fun j v hj => up hb (hnc j v hj)) (by rw [hnl]; exact Nat.le_refl 20) hone
 rw [World.setRow_alloc_new, show (news ++ zeros20.toList.drop news.length) = news by rw [hnl]; exact List.append_nil news, show Nat.min 4 4 = 4 from rfl] at hcp
 have HN := am (And.intro hnl hnr)
 rw [hl]
 clear hr0 hone hnc hnl hnr hb
 go_enter Try.func38, Try.ntmps38
 go_wp2
 go_ret
 obtain ⟨hnl, hnr⟩ := HN.out
 refine ⟨_, rfl, ⟨fun k hk => ?_, news, ?_, hnr.imp_ (fun p c hp => ?_)⟩, below_alloc (Below.refl _ w) _⟩
 · have : w.heap.size = k := by simpa [Value.ownBlock] using hk
   omega
 · rw [esz, hl]
   have h := World.ownsRow_lit (base := w.heap.size) (e := 79) (size := 5) w news.toArray 4 (Nat.le_refl _) (by decide) (by rw [List.size_toArray, hnl])
   exact h
 · exact k33_of hp
theorem impl_pagesCopy.calls4 (A0 : Option Addr) (c0 : Nat) (l0 : List S33) (w : World) (hr0 : Kd.C k33 w A0 l0.length l0) (hl : l0.length = 4) :
 Calls Try.prog 38 #[.slice A0 4 c0] w fun e w' => ∃ A c, e = .returned (.slice A 4 c) ∧ k33.R 79 w' w.heap.size (fun k => w.heap.size ≤ k) (.slice A 4 c) l0 ∧ Below w.heap.size w w' := by
 have h := impl_pagesCopy.calls A0 c0 l0 w hr0 hl
 rw [hl] at h
 refine h.mono ?_
 rintro e w' ⟨v, rfl, hR, hb⟩
 obtain ⟨A, c, rfl⟩ := Kd.R_slice hR
 rw [hl] at hR ⊢
 exact ⟨A, c, rfl, hR, hb⟩
theorem S_store {w1 : World} {base N g n cap : Nat} {v0 : Value} {t : List S33} {xs : List S36} (HS : Kd.S kb_ 36 w1 base (fun k => base ≤ k ∧ k < N) (.slice (some ⟨g, 0, none⟩) n cap) xs) (hb : base ≤ N) (hg : g < N)
 (hR : k33.R 79 w1 N (fun k => N ≤ k) v0 t) (i : Int) (h0 : 0 ≤ i) (h1 : i < n) (b : Int) :
 Kd.S kb_ 36 ((w1.setCell ⟨g, i.toNat * 2, none⟩ v0).setCell ⟨g, i.toNat * 2 + 1, none⟩ (.int .i64 b)) base (fun k => base ≤ k) (.slice (some ⟨g, 0, none⟩) n cap) (xs.set i.toNat ⟨t, b⟩) := by
 obtain ⟨oki, c, hcl, hM, hcc, hfr, hoki, hH⟩ := Kd.S_elem HS z36 i h0 h1
 have hl : c.length = 2 := hcl
 have h := Kd.S_seg (okp := fun k => N ≤ k) (okg := fun k => N ≤ k) (ok := fun k => base ≤ k) (Kd.H_mono hH (fun k hk => ⟨hk.1, by omega⟩)) h0 h1 (seg := [v0, .int .i64 b]) (j := 0) (show 0 + 2 ≤ 2 from Nat.le_refl 2) (x' := (⟨t, b⟩ : S36))
  (by
   rw [List.take_zero, List.nil_append, List.drop_of_length_le (by rw [hl]; exact Nat.le_refl 2), List.append_nil]
   exact kb__mkM w1 base _ ⟨t, b⟩ (Kd.R_lower hR hb)) (fun k hk => .inr hk) (fun k hk => ⟨Nat.le_trans hb hk, by omega⟩)
 exact h.1
theorem copy_step {l0 : List S36} {j : Nat} {y : S36} (hy : l0[j]? = some y) (z : S36) : (l0.take j ++ List.replicate (l0.length - j) z).set j y = l0.take (j + 1) ++ List.replicate (l0.length - (j + 1)) z := by
 have h : j < l0.length := (List.getElem?_eq_some_iff.1 hy).1
 have e : l0.length - j = (l0.length - (j + 1)) + 1 := by omega
 rw [e, List.replicate_succ, List.set_append_right _ _ (by rw [List.length_take]; omega), List.length_take, Nat.min_eq_left (by omega), Nat.sub_self, List.set_cons_zero, List.take_add_one, hy, Option.toList_some, List.append_assoc, List.cons_append, List.nil_append]
theorem keep3w {a b : Addr} {va vb : Value} {B : Nat} {w W W' : World} (h : W.cell? a = some va ∧ W.cell? b = some vb ∧ Below B w W) (hB : B ≤ W.heap.size) (hb : Below W.heap.size W W') : W'.cell? a = some va ∧ W'.cell? b = some vb ∧ Below B w W' :=
 ⟨up hb h.1, up hb h.2.1, below_then h.2.2 hB hb⟩
theorem keepSet {a b : Addr} {va vb u u' : Value} {B g i i' : Nat} {w W : World} (h : W.cell? a = some va ∧ W.cell? b = some vb ∧ Below B w W) (ha : a.block ≠ g) (hb : b.block ≠ g) (hg : B ≤ g) :
 ((W.setCell ⟨g, i, none⟩ u).setCell ⟨g, i', none⟩ u').cell? a = some va ∧ ((W.setCell ⟨g, i, none⟩ u).setCell ⟨g, i', none⟩ u').cell? b = some vb ∧ Below B w ((W.setCell ⟨g, i, none⟩ u).setCell ⟨g, i', none⟩ u') := by
 have e : ∀ (c : Addr) (k : Nat), c.block ≠ g → (⟨g, k, none⟩ : Addr) ≠ c := fun c k hc he => hc (by rw [← he])
 refine ⟨?_, ?_, (h.2.2.setCell (p := ⟨g, i, none⟩) hg _).setCell (p := ⟨g, i', none⟩) hg _⟩
 · rw [World.cell?_setCell_other _ _ _ _ (e a i' ha), World.cell?_setCell_other _ _ _ _ (e a i ha)]
   exact h.1
 · rw [World.cell?_setCell_other _ _ _ _ (e b i' hb), World.cell?_setCell_other _ _ _ _ (e b i hb)]
   exact h.2.1
set_option maxHeartbeats 2000000 in
set_option maxRecDepth 100000 in
theorem impl_flashCopy.calls (A0 : Option Addr) (c0 : Nat) (l0 : List S36) (w : World) (hr0 : Kd.C k36 w A0 l0.length l0) (hn : 1 ≤ l0.length) (hn2 : l0.length ≤ 1000) (hl : ∀ x ∈ l0, x.f0.length = 4) :
 Calls Try.prog 25 #[.slice A0 l0.length c0] w fun e w' => ∃ v, e = .returned v ∧ Kd.S kb_ 36 w' w.heap.size (fun k => w.heap.size ≤ k) v l0 ∧ Below w.heap.size w w' := by
 have hu := Try.underlying36
 have HR0 := am hr0
 have HL := am hl
 clear hr0 hl
 go_enter Try.func25, Try.ntmps25
 go_wp2_with (first | ((with_reducible refine gate_dst (N := 8) rfl ?_); refine Kd.S_make kb_ (w0 := w) w.heap.size 36 rfl (N := 8) rfl 23 _ _ rfl (l0.length : Int) rfl rfl Try.underlying23 (.agg #[(.slice none 0 0), (.int .i64 0)]) 32 info36 rfl (by decide) (by omega) z36 (ok := fun k => w.heap.size ≤ k) (okp := fun k => w.heap.size ≤ k) (kb__mkM _ _ _ z36 (Kd.R_nil _ _ _ _ _)) (fun _ hk => hk) (Nat.le_refl _) (by omega) (by omega) (Below.refl _ _) (Nat.le_refl _) ?_; intro v1 w4 ho5 hb4 hg4 hnew4))
 rw [Int.toNat_natCast] at ho5
 obtain ⟨g, cap, rfl, hgb, hgl, -⟩ := Kd.S_form ho5 (by rw [List.length_replicate]; omega)
 rw [List.length_replicate] at *
 clear hg4 hnew4
 have HO := am ho5
 have HB := am hb4
 clear ho5 hb4
 go_loopw [11] (fun v W => ∃ (j : Nat), j ≤ l0.length ∧ v = .int .i64 j ∧ Aside0 (Kd.S kb_ 36 W w.heap.size (fun k => w.heap.size ≤ k) (.slice (some ⟨g, 0, none⟩) l0.length cap) (l0.take j ++ List.replicate (l0.length - j) z36)) ∧ Aside0 (Below w.heap.size w W)) (fun v _ => l0.length - (intOf v).toNat)
 case atStart => exact ⟨0, Nat.zero_le _, rfl, ⟨by simpa using HO.out⟩, HB⟩
 case round =>
  obtain ⟨j, hj, rfl, HOr, HBr⟩ := hrel
  by_cases hlt : j < l0.length
  rotate_left
  · go_wp2
    go_ret
    refine ⟨_, rfl, ?_, HBr.out⟩
    have e : j = l0.length := by omega
    have h := HOr.out
    rw [e, List.take_length, Nat.sub_self, List.replicate_zero, List.append_nil] at h
    exact h
  obtain ⟨ad, Aj, cj, hA, hx0, hx1, hlj, hCj⟩ := at_T36 HR0.out (j : Int) (by omega) (by omega)
  cases hA
  obtain ⟨y, hy⟩ : ∃ y, l0[j]? = some y := ⟨l0[j], List.getElem?_eq_getElem hlt⟩
  have ej : rd_T36 l0 (j : Int) = y := by
   unfold rd_T36
   rw [Int.toNat_natCast, List.getD_eq_getElem?_getD, hy]
   rfl
  have h4 := HL.out y (List.mem_of_getElem? hy)
  rw [ej] at hx0 hx1 hlj hCj
  have HY := am hy
  rw [h4, Int.toNat_natCast] at hx0
  rw [Int.toNat_natCast] at hx1
  replace hx0 := up HBr.out hx0
  replace hx1 := up HBr.out hx1
  have HC := am hCj
  have H4 := am h4
  clear hlj hCj ej hy h4
  obtain ⟨oki, c, hcl, hM, hcc, hfr, hoki, hH⟩ := Kd.S_elem HOr.out z36 (j : Int) (by omega) (by omega)
  obtain ⟨vo, rfl, -⟩ := kb__openM hM
  have ho0 := hcc 0 _ rfl
  have ho1 := hcc 1 _ rfl
  have esz : (kb_).sz = 2 := rfl
  rw [Int.toNat_natCast, esz, Nat.add_zero] at ho0
  rw [Int.toNat_natCast, esz] at ho1
  generalize (List.getD _ _ _ : S36).f1 = wo at ho1
  obtain ⟨g', cap', hv', hgb', hgl', cellsr, hcellsr⟩ := Kd.S_form HOr.out (by rw [List.length_append, List.length_take, List.length_replicate]; omega)
  injection hv' with hv1 hv2 hv3
  injection hv1 with hv1
  injection hv1 with hv1 hv4
  clear hv2 hv3 hv4
  subst hv1
  have HG := am hcellsr
  have hjl := decide_eq_true (show (j : Int) < (l0.length : Int) by omega)
  have hjq : ((j : Int) < (l0.length : Int)) = True := eq_true (by omega)
  have HLT := am hlt
  clear hlt hcl hM hcc hfr hoki hH hcellsr esz
  go_wp2_with fail
  have hbx := blk_new wr (.cells #[.slice Aj 4 cj, .int .i64 y.f1] 36)
  have hB5 := below_alloc HBr.out (.cells #[.slice Aj 4 cj, .int .i64 y.f1] 36)
  have HO5 := Kd.S_alloc HOr.out (.cells #[.slice Aj 4 cj, .int .i64 y.f1] 36)
  have HG5 := blk_alloc HG.out (.cells #[.slice Aj 4 cj, .int .i64 y.f1] 36)
  have o0 := up (below_alloc (Below.refl _ wr) (.cells #[.slice Aj 4 cj, .int .i64 y.f1] 36)) ho0
  have o1 := up (below_alloc (Below.refl _ wr) (.cells #[.slice Aj 4 cj, .int .i64 y.f1] 36)) ho1
  have HCw := am (fun W (hW : Below w.heap.size w W) => Kd.C_below HC.out hW)
  clear hx0 hx1 ho0 ho1
  generalize wr.alloc (.cells #[.slice Aj 4 cj, .int .i64 y.f1] 36) = w5 at hbx hB5 HO5 HG5 o0 o1 ⊢
  have b0 : w5.cell? ⟨wr.heap.size, 0, none⟩ = some (.slice Aj 4 cj) := (blk_cell hbx 0).trans rfl
  have b1 : w5.cell? ⟨wr.heap.size, 1, none⟩ = some (.int .i64 y.f1) := (blk_cell hbx 1).trans rfl
  have hgne : wr.heap.size ≠ g := by omega
  generalize wr.heap.size = gx at b0 b1 hbx hgne ⊢
  have hgx : gx ≠ g := hgne
  have hSS := (⟨b0, b1, hB5⟩ : _ ∧ _ ∧ Below w.heap.size w w5)
  have HS5 := am HO5
  have HG := am HG5
  have HO01 := am (And.intro o0 o1)
  have HZ := hB5.size
  have hd1 : ∀ (W : World) (n : Nat) (a : Addr), (W.drewN n).cell? a = W.cell? a := fun _ _ _ => rfl
  have hd3 : ∀ (W : World) (n : Nat) (a : Addr), (W.drewN n).frozen? a = W.frozen? a := fun _ _ _ => rfl
  clear hbx HO5 hB5 HG5 b0 b1 o0 o1
  go_region_held3 (fun W => W.cell? ⟨gx, 0, none⟩ = some (.slice Aj 4 cj) ∧ W.cell? ⟨gx, 1, none⟩ = some (.int .i64 y.f1) ∧ Below w.heap.size w W)
   (first | (with_reducible assumption) | (with_reducible exact keep3w hSS HZ (below_drew (Below.refl _ w5))) | (with_reducible exact keep3w hSS HZ (pw_below_drewN (Below.refl _ w5) _)) | exact keep3w hSS HZ hbb | (with_reducible exact keepSet (by assumption) hgx hgx hgb'))
   (first
    | (go_at_call 38; refine (impl_pagesCopy.calls4 Aj cj y.f0 _ (HCw.out _ (by assumption : _ ∧ _ ∧ Below w.heap.size w _).2.2) H4.out).mono ?_; rintro e w11 ⟨A1, c1, rfl, hR, hb⟩; have hbb := below_then (pw_below_drewN (Below.refl _ w5) _) (Nat.le_refl _) hb; have ho0 := up hbb HO01.out.1; have ho1 := up hbb HO01.out.2; have hfz0 : w11.frozen? ⟨g, j * 2, none⟩ = false := blk_frozen (blk_below HG.out hbb) _; have hfz1 : w11.frozen? ⟨g, j * 2 + 1, none⟩ = false := blk_frozen (blk_below HG.out hbb) _)
    | fail)
  have hst := S_store (N := w5.heap.size) (base := w.heap.size) (Kd.S_old HS5.out hbb) HZ (blk_lt HG.out) (show k33.R 79 w11 w5.heap.size (fun k => w5.heap.size ≤ k) (.slice A1 4 c1) y.f0 from hR) (j : Int) (by omega) (by have := HLT.out; omega) y.f1
  rw [Int.toNat_natCast, show (⟨y.f0, y.f1⟩ : S36) = y from rfl, copy_step HY.out] at hst
  have hbl := (by assumption : _ ∧ _ ∧ Below w.heap.size w ((w11.setCell ⟨g, j * 2, none⟩ (.slice A1 4 c1)).setCell ⟨g, j * 2 + 1, none⟩ (.int .i64 y.f1))).2.2
  clear hSS hd1 hd3 ho0 ho1 hfz0 hfz1 hjl hjq
  go_wp2
  exact ⟨⟨j + 1, by have := HLT.out; omega, by go_num, ⟨hst⟩, ⟨hbl⟩⟩, by have := HLT.out; simp [intOf]; omega⟩
end Go.Proofs.Ythmgdljblidgjaa.Rw
