-- printed by wip/pp/pp.py
import Derived.Test.YtcanhdofmbekeaaRp0
namespace Go.Proofs.Ytcanhdofmbekeaa.Rp
open Go.RowKit Go.Proofs.YtcanhdofmbekeaaW.PrintWords Go.Proofs.YtcanhdofmbekeaaW.PrintLast Go.Proofs.YtcanhdofmbekeaaW.PrintMore
attribute [local go_sem] max2_int min2_int max_two min_two max_three min_three max_four min_four
set_option linter.unusedVariables false
set_option linter.unusedSimpArgs false
def spec_l2Clean.l0 : Nat → Int → Int → List (S32) → Int → Option (Int)
 | 0, _, _, _, _ => none
 | k + 1, x3, x4, x174000, x174001 => if x4 < (x174000.length : Int) then (if 0 ≤ x4 then (if ((rd_T32 x174000 x4).f0) = 0 then (spec_l2Clean.l0 k (wrap64 (x3 + 1)) (wrap64 (x4 + 1)) x174000 x174001) else (spec_l2Clean.l0 k x3 (wrap64 (x4 + 1)) x174000 x174001)) else (none)) else (some x3)
def spec_l2Clean.f (k : Nat) (l0_0 : List (S32)) (a0_1 : Int) : Option (Int) := spec_l2Clean.l0 k 0 0 l0_0 a0_1
theorem spec_l2Clean.mono_l : ∀ k, (∀ y0 y1 y2 y3, LeO (spec_l2Clean.l0 k y0 y1 y2 y3) (spec_l2Clean.l0 (k + 1) y0 y1 y2 y3))
 | 0 => fun _ _ _ _ r h => by simp [spec_l2Clean.l0] at h
 | k + 1 => by
  have ih0 := spec_l2Clean.mono_l k
  · intro y0 y1 y2 y3
    unfold spec_l2Clean.l0
    repeat' first
    | (with_reducible exact ih0 _ _ _ _)
    | (with_reducible exact LeO.refl _)
    | (with_reducible exact LeO.none _)
    | (with_reducible refine LeO.ite ?_ ?_)
    | (with_reducible refine LeO.bind ?_ (fun _ => ?_))
    | exact ih0 _ _ _ _
    | exact LeO.none _
    | refine LeO.ite ?_ ?_
    | refine LeO.bind ?_ (fun _ => ?_)
theorem spec_l2Clean.mono : ∀ a0 a1 k, LeO (spec_l2Clean.f k a0 a1) (spec_l2Clean.f (k + 1) a0 a1) := by
 intro a0 a1 k
 have ih0 := spec_l2Clean.mono_l k
 unfold spec_l2Clean.f
 repeat' first
  | (with_reducible exact ih0 _ _ _ _)
  | (with_reducible exact LeO.refl _)
  | (with_reducible exact LeO.none _)
  | (with_reducible refine LeO.ite ?_ ?_)
  | (with_reducible refine LeO.bind ?_ (fun _ => ?_))
  | exact ih0 _ _ _ _
  | exact LeO.none _
  | refine LeO.ite ?_ ?_
  | refine LeO.bind ?_ (fun _ => ?_)
set_option maxHeartbeats 8000000 in
set_option maxRecDepth 100000 in
theorem spec_l2Clean.calls (k : Nat) (A0_0 : Option Addr) (c0_0 : Nat) (l0_0 : List (S32)) (a0_1 : Int) (r : Int) (w : World) (hr0_0 : Kd.C k32 w A0_0 l0_0.length l0_0) (hc0_0 : l0_0.length ≤ c0_0) (h : spec_l2Clean.f k l0_0 a0_1 = some r) :
 Calls Try.prog 46 #[.agg #[.slice A0_0 l0_0.length c0_0, .int .i64 a0_1]] w fun e w' => e = .returned (.int .i64 r) ∧ Below w.heap.size w w' := by
 have hu35 := Try.underlying35
 have HR0_0 := am hr0_0
 have HC0_0 := am hc0_0
 clear hr0_0 hc0_0
 have HB := am (Below.refl w.heap.size w)
 have H : (spec_l2Clean.l0 k 0 0 l0_0 a0_1) = some r := h
 clear h
 have H' := am H
 clear H
 go_enter Try.func46, Try.ntmps46
 go_wp2_with (first | (refine bx 1 #[.slice A0_0 l0_0.length c0_0, .int .i64 a0_1] 35 rfl ?_; intro gb173 hg w2 hbox hb; have BK173 := am (hbox); have GW173 := am ((by rw [hg]; exact (below_size (ph HB.out)) : w.heap.size ≤ gb173)); have GE173 := GW173; replace HB := am (below_step (ph HB.out) hb); clear hb hbox hg))
 go_loopg [3, 4] k (fun kq v3 v4 w' => ∃ (x3_1 : Int) (x4_1 : Int), v3 = .int .i64 x3_1 ∧ v4 = .int .i64 x4_1 ∧ Aside0 (spec_l2Clean.l0 kq x3_1 x4_1 l0_0 a0_1 = some r) ∧ Aside0 (kq ≤ k) ∧ Aside0 (w'.heap[gb173]? = some (.cells #[(.slice A0_0 l0_0.length c0_0), .int .i64 a0_1] 35 (0, 0))) ∧ Aside0 (Below w.heap.size w w'))
 case atStart => exact ⟨(0), (0), rf, rf, H', ⟨Nat.le_refl _⟩, ⟨pb BK173.out⟩, ⟨bg1 HB.out GE173.out⟩⟩
 case round =>
  clear H'
  obtain ⟨x3_1, x4_1, rfl, rfl, HA, HK1, BK173, HB⟩ := hrel
  cases gk with
  | zero => exact absurd HA.out (by simp [spec_l2Clean.l0])
  | succ k1 =>
   have H := HA.out
   clear HA
   simp only [spec_l2Clean.l0] at H
   by_cases c3 : x4_1 < (l0_0.length : Int)
   rotate_left
   · rw [if_neg c3] at H
     have c3b0 := decide_eq_false c3
     clear c3
     obtain rfl := Option.some.inj H
     obtain ⟨hcz8_0, hcz8_1⟩ := b2 BK173.out
     obtain ⟨hfz8_0, hfz8_1⟩ := f2 BK173.out
     go_wp2
     go_ret
     exact (rq (bg1 HB.out GE173.out))
   rw [if_pos c3] at H
   have c3b0 := decide_eq_true c3
   clear c3
   by_cases c4 : 0 ≤ x4_1
   rotate_left
   · rw [if_neg c4] at H
     exact absurd H (by simp)
   rw [if_pos c4] at H
   have c4b0 := decide_eq_true c4
   clear c4
   by_cases c5 : ((rd_T32 l0_0 x4_1).f0) = 0
   rotate_left
   · rw [if_neg c5] at H
     have c5b0 : (((rd_T32 l0_0 x4_1).f0) == 0) = false := beq_eq_false_iff_ne.mpr c5
     have c5b1 : (((rd_T32 l0_0 x4_1).f0) != 0) = true := bne_iff_ne.mpr c5
     have H' := am H
     clear H
     obtain ⟨hcz7_0, hcz7_1⟩ := b2 BK173.out
     obtain ⟨hfz7_0, hfz7_1⟩ := f2 BK173.out
     have p174 : 0 ≤ (x4_1 : Int) := ofb
     have q174 : x4_1 < (l0_0.length : Int) := ofb
     obtain ⟨ad174, e174, hx174_0, hx174_1, hx174_2, hx174_3, hx174_4⟩ := at_T32 HR0_0.out x4_1 p174 q174
     cases e174
     replace hx174_0 := up HB.out hx174_0
     replace hx174_1 := up HB.out hx174_1
     replace hx174_2 := up HB.out hx174_2
     replace hx174_3 := up HB.out hx174_3
     replace hx174_4 := up HB.out hx174_4
     replace p174 := eq_true p174
     replace q174 := eq_true q174
     go_wp2
     go_roundg k1
     case measure => have := HK1.out; omega
     case rel => exact ⟨(x3_1), (wrap64 (x4_1 + 1)), rf, rf, H', ⟨by have := HK1.out; omega⟩, ⟨pb BK173.out⟩, ⟨bg1 HB.out GE173.out⟩⟩
   rw [if_pos c5] at H
   have c5b0 : (((rd_T32 l0_0 x4_1).f0) == 0) = true := beq_iff_eq.mpr c5
   have c5b1 : (((rd_T32 l0_0 x4_1).f0) != 0) = false := bne_eq_false_iff_eq.mpr c5
   clear c5
   have H' := am H
   clear H
   obtain ⟨hcz6_0, hcz6_1⟩ := b2 BK173.out
   obtain ⟨hfz6_0, hfz6_1⟩ := f2 BK173.out
   have p174 : 0 ≤ (x4_1 : Int) := ofb
   have q174 : x4_1 < (l0_0.length : Int) := ofb
   obtain ⟨ad174, e174, hx174_0, hx174_1, hx174_2, hx174_3, hx174_4⟩ := at_T32 HR0_0.out x4_1 p174 q174
   cases e174
   replace hx174_0 := up HB.out hx174_0
   replace hx174_1 := up HB.out hx174_1
   replace hx174_2 := up HB.out hx174_2
   replace hx174_3 := up HB.out hx174_3
   replace hx174_4 := up HB.out hx174_4
   replace p174 := eq_true p174
   replace q174 := eq_true q174
   go_wp2
   go_roundg k1
   case measure => have := HK1.out; omega
   case rel => exact ⟨(wrap64 (x3_1 + 1)), (wrap64 (x4_1 + 1)), rf, rf, H', ⟨by have := HK1.out; omega⟩, ⟨pb BK173.out⟩, ⟨bg1 HB.out GE173.out⟩⟩
mutual
def spec_l2Seq.l0 : Nat → List (S35) → Int → Int → Option (Bool)
 | 0, _, _, _ => none
 | k + 1, x0, x1, x5 => if x5 < (x0.length : Int) then (spec_l2Seq.l1 k x0 x1 x5 0) else (some false)
def spec_l2Seq.l1 : Nat → List (S35) → Int → Int → Int → Option (Bool)
 | 0, _, _, _, _ => none
 | k + 1, x0, x1, x5, x6 => if 0 ≤ x5 then (if x5 < (x0.length : Int) then (if x6 < (((rd_T35 x0 x5).f0).length : Int) then (if 0 ≤ x6 then (if ((rd_T32 ((rd_T35 x0 x5).f0) x6).f0) = 1 then (if ((rd_T32 ((rd_T35 x0 x5).f0) x6).f1.f1) = x1 then (some true) else (spec_l2Seq.l1 k x0 x1 x5 (wrap64 (x6 + 1)))) else (spec_l2Seq.l1 k x0 x1 x5 (wrap64 (x6 + 1)))) else (none)) else (spec_l2Seq.l0 k x0 x1 (wrap64 (x5 + 1)))) else (none)) else (none)
end
def spec_l2Seq.f (k : Nat) (l0 : List (S35)) (a1 : Int) : Option (Bool) := spec_l2Seq.l0 k l0 a1 0
theorem spec_l2Seq.mono_l : ∀ k, (∀ y0 y1 y2, LeO (spec_l2Seq.l0 k y0 y1 y2) (spec_l2Seq.l0 (k + 1) y0 y1 y2)) ∧ (∀ y0 y1 y2 y3, LeO (spec_l2Seq.l1 k y0 y1 y2 y3) (spec_l2Seq.l1 (k + 1) y0 y1 y2 y3))
 | 0 => ⟨fun _ _ _ r h => by simp [spec_l2Seq.l0] at h, fun _ _ _ _ r h => by simp [spec_l2Seq.l1] at h⟩
 | k + 1 => by
  obtain ⟨ih0, ih1⟩ := spec_l2Seq.mono_l k
  refine ⟨?_, ?_⟩
  · intro y0 y1 y2
    unfold spec_l2Seq.l0
    repeat' first
    | (with_reducible exact ih0 _ _ _)
    | (with_reducible exact ih1 _ _ _ _)
    | (with_reducible exact LeO.refl _)
    | (with_reducible exact LeO.none _)
    | (with_reducible refine LeO.ite ?_ ?_)
    | (with_reducible refine LeO.bind ?_ (fun _ => ?_))
    | exact ih0 _ _ _
    | exact ih1 _ _ _ _
    | exact LeO.none _
    | refine LeO.ite ?_ ?_
    | refine LeO.bind ?_ (fun _ => ?_)
  · intro y0 y1 y2 y3
    unfold spec_l2Seq.l1
    repeat' first
    | (with_reducible exact ih0 _ _ _)
    | (with_reducible exact ih1 _ _ _ _)
    | (with_reducible exact LeO.refl _)
    | (with_reducible exact LeO.none _)
    | (with_reducible refine LeO.ite ?_ ?_)
    | (with_reducible refine LeO.bind ?_ (fun _ => ?_))
    | exact ih0 _ _ _
    | exact ih1 _ _ _ _
    | exact LeO.none _
    | refine LeO.ite ?_ ?_
    | refine LeO.bind ?_ (fun _ => ?_)
theorem spec_l2Seq.mono : ∀ a0 a1 k, LeO (spec_l2Seq.f k a0 a1) (spec_l2Seq.f (k + 1) a0 a1) := by
 intro a0 a1 k
 obtain ⟨ih0, ih1⟩ := spec_l2Seq.mono_l k
 unfold spec_l2Seq.f
 repeat' first
  | (with_reducible exact ih0 _ _ _)
  | (with_reducible exact ih1 _ _ _ _)
  | (with_reducible exact LeO.refl _)
  | (with_reducible exact LeO.none _)
  | (with_reducible refine LeO.ite ?_ ?_)
  | (with_reducible refine LeO.bind ?_ (fun _ => ?_))
  | exact ih0 _ _ _
  | exact ih1 _ _ _ _
  | exact LeO.none _
  | refine LeO.ite ?_ ?_
  | refine LeO.bind ?_ (fun _ => ?_)
set_option maxHeartbeats 8000000 in
set_option maxRecDepth 100000 in
theorem spec_l2Seq.calls (k : Nat) (A0 : Option Addr) (c0 : Nat) (l0 : List (S35)) (a1 : Int) (r : Bool) (w : World) (hr0 : Kd.C k35 w A0 l0.length l0) (hc0 : l0.length ≤ c0) (h : spec_l2Seq.f k l0 a1 = some r) :
 Calls Try.prog 47 #[.slice A0 l0.length c0, .int .i64 a1] w fun e w' => e = .returned (.bool r) ∧ Drawn0 w w' := by
 have HR0 := am hr0
 have HC0 := am hc0
 clear hr0 hc0
 have H : (spec_l2Seq.l0 k l0 a1 0) = some r := h
 clear h
 have H' := am H
 clear H
 go_enter Try.func47, Try.ntmps47
 go_wp2
 go_loopg [5] k (fun kq v5 w' => ∃ (x5_1 : Int), v5 = .int .i64 x5_1 ∧ Aside0 (spec_l2Seq.l0 kq l0 a1 x5_1 = some r) ∧ Aside0 (kq ≤ k) ∧ Drawn0 w w')
 case atStart => exact ⟨(0), rf, H', ⟨Nat.le_refl _⟩, by repeat (first | exact Drawn0.refl _ | apply Drawn0.step)⟩
 case round =>
  clear H'
  obtain ⟨x5_1, rfl, HA, HK1, ⟨m1, rfl⟩⟩ := hrel
  cases gk with
  | zero => exact absurd HA.out (by simp [spec_l2Seq.l0])
  | succ k1 =>
   have H := HA.out
   clear HA
   simp only [spec_l2Seq.l0] at H
   by_cases c3 : x5_1 < (l0.length : Int)
   rotate_left
   · rw [if_neg c3] at H
     have c3b0 := decide_eq_false c3
     clear c3
     obtain rfl := Option.some.inj H
     go_wp2
     go_ret
     exact ⟨by first | rfl | (simp; done) | (simp [*]; done), by repeat (first | exact Drawn0.refl _ | apply Drawn0.step)⟩
   rw [if_pos c3] at H
   have c3b0 := decide_eq_true c3
   clear c3
   have H' := am H
   clear H
   go_wp2
   go_loopg [6] k1 (fun kq v6 w' => ∃ (x6_2 : Int), v6 = .int .i64 x6_2 ∧ Aside0 (spec_l2Seq.l1 kq l0 a1 x5_1 x6_2 = some r) ∧ Aside0 (kq ≤ k1) ∧ Drawn0 w w')
   case atStart => exact ⟨(0), rf, H', ⟨Nat.le_refl _⟩, by repeat (first | exact Drawn0.refl _ | apply Drawn0.step)⟩
   case round =>
    clear H'
    obtain ⟨x6_2, rfl, HA, HK2, ⟨m2, rfl⟩⟩ := hrel
    cases gk with
    | zero => exact absurd HA.out (by simp [spec_l2Seq.l1])
    | succ k2 =>
     have H := HA.out
     clear HA
     simp only [spec_l2Seq.l1] at H
     by_cases c4 : 0 ≤ x5_1
     rotate_left
     · rw [if_neg c4] at H
       exact absurd H (by simp)
     rw [if_pos c4] at H
     have c4b0 := decide_eq_true c4
     clear c4
     by_cases c5 : x5_1 < (l0.length : Int)
     rotate_left
     · rw [if_neg c5] at H
       exact absurd H (by simp)
     rw [if_pos c5] at H
     have c5b0 := decide_eq_true c5
     clear c5
     by_cases c6 : x6_2 < (((rd_T35 l0 x5_1).f0).length : Int)
     rotate_left
     · rw [if_neg c6] at H
       have c6b0 := decide_eq_false c6
       clear c6
       have H' := am H
       clear H
       have p175 : 0 ≤ (x5_1 : Int) := ofb
       have q175 : x5_1 < (l0.length : Int) := ofb
       obtain ⟨ad175, A175_0, c175_0, e175, hx175_0, hx175_1, hl175_0, hi175_0⟩ := at_T35 HR0.out x5_1 p175 q175
       cases e175
       have HR175_0 := am hi175_0
       have HC175_0 := am hl175_0
       clear hi175_0 hl175_0
       replace p175 := eq_true p175
       replace q175 := eq_true q175
       go_wp2
       go_roundg k2
       case measure => have := HK1.out; have := HK2.out; omega
       case rel => exact ⟨(wrap64 (x5_1 + 1)), rf, H', ⟨by have := HK1.out; have := HK2.out; omega⟩, by repeat (first | exact Drawn0.refl _ | apply Drawn0.step)⟩
     rw [if_pos c6] at H
     have c6b0 := decide_eq_true c6
     clear c6
     by_cases c7 : 0 ≤ x6_2
     rotate_left
     · rw [if_neg c7] at H
       exact absurd H (by simp)
     rw [if_pos c7] at H
     have c7b0 := decide_eq_true c7
     clear c7
     by_cases c8 : ((rd_T32 ((rd_T35 l0 x5_1).f0) x6_2).f0) = 1
     rotate_left
     · rw [if_neg c8] at H
       have c8b0 : (((rd_T32 ((rd_T35 l0 x5_1).f0) x6_2).f0) == 1) = false := beq_eq_false_iff_ne.mpr c8
       have c8b1 : (((rd_T32 ((rd_T35 l0 x5_1).f0) x6_2).f0) != 1) = true := bne_iff_ne.mpr c8
       have H' := am H
       clear H
       have p175 : 0 ≤ (x5_1 : Int) := ofb
       have q175 : x5_1 < (l0.length : Int) := ofb
       obtain ⟨ad175, A175_0, c175_0, e175, hx175_0, hx175_1, hl175_0, hi175_0⟩ := at_T35 HR0.out x5_1 p175 q175
       cases e175
       have HR175_0 := am hi175_0
       have HC175_0 := am hl175_0
       clear hi175_0 hl175_0
       replace p175 := eq_true p175
       replace q175 := eq_true q175
       have p176 : 0 ≤ (x5_1 : Int) := ofb
       have q176 : x5_1 < (l0.length : Int) := ofb
       obtain ⟨ad176, A176_0, c176_0, e176, hx176_0, hx176_1, hl176_0, hi176_0⟩ := at_T35 HR0.out x5_1 p176 q176
       obtain rfl : ad175 = ad176 := (by injection e176)
       have HR176_0 := am hi176_0
       have HC176_0 := am hl176_0
       clear hi176_0 hl176_0
       replace p176 := eq_true p176
       replace q176 := eq_true q176
       have ea_ := Option.some.inj (hx175_0.symm.trans hx176_0)
       injection ea_ with ea_ en_ ec_
       subst ea_
       subst ec_
       clear en_
       have p177 : 0 ≤ (x6_2 : Int) := ofb
       have q177 : x6_2 < (((rd_T35 l0 x5_1).f0).length : Int) := ofb
       obtain ⟨ad177, e177, hx177_0, hx177_1, hx177_2, hx177_3, hx177_4⟩ := at_T32 HR176_0.out x6_2 p177 q177
       cases e177
       replace p177 := eq_true p177
       replace q177 := eq_true q177
       go_wp2
       go_roundg k2
       case measure => have := HK1.out; have := HK2.out; omega
       case rel => exact ⟨(wrap64 (x6_2 + 1)), rf, H', ⟨by have := HK1.out; have := HK2.out; omega⟩, by repeat (first | exact Drawn0.refl _ | apply Drawn0.step)⟩
     rw [if_pos c8] at H
     have c8b0 : (((rd_T32 ((rd_T35 l0 x5_1).f0) x6_2).f0) == 1) = true := beq_iff_eq.mpr c8
     have c8b1 : (((rd_T32 ((rd_T35 l0 x5_1).f0) x6_2).f0) != 1) = false := bne_eq_false_iff_eq.mpr c8
     clear c8
     by_cases c9 : ((rd_T32 ((rd_T35 l0 x5_1).f0) x6_2).f1.f1) = a1
     · rw [if_pos c9] at H
       have c9b0 : (((rd_T32 ((rd_T35 l0 x5_1).f0) x6_2).f1.f1) == a1) = true := beq_iff_eq.mpr c9
       have c9b1 : (((rd_T32 ((rd_T35 l0 x5_1).f0) x6_2).f1.f1) != a1) = false := bne_eq_false_iff_eq.mpr c9
       clear c9
       obtain rfl := Option.some.inj H
       have p175 : 0 ≤ (x5_1 : Int) := ofb
       have q175 : x5_1 < (l0.length : Int) := ofb
       obtain ⟨ad175, A175_0, c175_0, e175, hx175_0, hx175_1, hl175_0, hi175_0⟩ := at_T35 HR0.out x5_1 p175 q175
       cases e175
       have HR175_0 := am hi175_0
       have HC175_0 := am hl175_0
       clear hi175_0 hl175_0
       replace p175 := eq_true p175
       replace q175 := eq_true q175
       have p176 : 0 ≤ (x5_1 : Int) := ofb
       have q176 : x5_1 < (l0.length : Int) := ofb
       obtain ⟨ad176, A176_0, c176_0, e176, hx176_0, hx176_1, hl176_0, hi176_0⟩ := at_T35 HR0.out x5_1 p176 q176
       obtain rfl : ad175 = ad176 := (by injection e176)
       have HR176_0 := am hi176_0
       have HC176_0 := am hl176_0
       clear hi176_0 hl176_0
       replace p176 := eq_true p176
       replace q176 := eq_true q176
       have ea_ := Option.some.inj (hx175_0.symm.trans hx176_0)
       injection ea_ with ea_ en_ ec_
       subst ea_
       subst ec_
       clear en_
       have p177 : 0 ≤ (x6_2 : Int) := ofb
       have q177 : x6_2 < (((rd_T35 l0 x5_1).f0).length : Int) := ofb
       obtain ⟨ad177, e177, hx177_0, hx177_1, hx177_2, hx177_3, hx177_4⟩ := at_T32 HR176_0.out x6_2 p177 q177
       cases e177
       replace p177 := eq_true p177
       replace q177 := eq_true q177
       have p178 : 0 ≤ (x5_1 : Int) := ofb
       have q178 : x5_1 < (l0.length : Int) := ofb
       obtain ⟨ad178, A178_0, c178_0, e178, hx178_0, hx178_1, hl178_0, hi178_0⟩ := at_T35 HR0.out x5_1 p178 q178
       obtain rfl : ad175 = ad178 := (by injection e178)
       have HR178_0 := am hi178_0
       have HC178_0 := am hl178_0
       clear hi178_0 hl178_0
       replace p178 := eq_true p178
       replace q178 := eq_true q178
       have ea_ := Option.some.inj (hx175_0.symm.trans hx178_0)
       injection ea_ with ea_ en_ ec_
       subst ea_
       subst ec_
       clear en_
       have p179 : 0 ≤ (x6_2 : Int) := ofb
       have q179 : x6_2 < (((rd_T35 l0 x5_1).f0).length : Int) := ofb
       obtain ⟨ad179, e179, hx179_0, hx179_1, hx179_2, hx179_3, hx179_4⟩ := at_T32 HR178_0.out x6_2 p179 q179
       cases e179
       replace p179 := eq_true p179
       replace q179 := eq_true q179
       go_wp2
       go_ret
       exact ⟨by first | rfl | (simp; done) | (simp [*]; done), by repeat (first | exact Drawn0.refl _ | apply Drawn0.step)⟩
     rw [if_neg c9] at H
     have c9b0 : (((rd_T32 ((rd_T35 l0 x5_1).f0) x6_2).f1.f1) == a1) = false := beq_eq_false_iff_ne.mpr c9
     have c9b1 : (((rd_T32 ((rd_T35 l0 x5_1).f0) x6_2).f1.f1) != a1) = true := bne_iff_ne.mpr c9
     have H' := am H
     clear H
     have p175 : 0 ≤ (x5_1 : Int) := ofb
     have q175 : x5_1 < (l0.length : Int) := ofb
     obtain ⟨ad175, A175_0, c175_0, e175, hx175_0, hx175_1, hl175_0, hi175_0⟩ := at_T35 HR0.out x5_1 p175 q175
     cases e175
     have HR175_0 := am hi175_0
     have HC175_0 := am hl175_0
     clear hi175_0 hl175_0
     replace p175 := eq_true p175
     replace q175 := eq_true q175
     have p176 : 0 ≤ (x5_1 : Int) := ofb
     have q176 : x5_1 < (l0.length : Int) := ofb
     obtain ⟨ad176, A176_0, c176_0, e176, hx176_0, hx176_1, hl176_0, hi176_0⟩ := at_T35 HR0.out x5_1 p176 q176
     obtain rfl : ad175 = ad176 := (by injection e176)
     have HR176_0 := am hi176_0
     have HC176_0 := am hl176_0
     clear hi176_0 hl176_0
     replace p176 := eq_true p176
     replace q176 := eq_true q176
     have ea_ := Option.some.inj (hx175_0.symm.trans hx176_0)
     injection ea_ with ea_ en_ ec_
     subst ea_
     subst ec_
     clear en_
     have p177 : 0 ≤ (x6_2 : Int) := ofb
     have q177 : x6_2 < (((rd_T35 l0 x5_1).f0).length : Int) := ofb
     obtain ⟨ad177, e177, hx177_0, hx177_1, hx177_2, hx177_3, hx177_4⟩ := at_T32 HR176_0.out x6_2 p177 q177
     cases e177
     replace p177 := eq_true p177
     replace q177 := eq_true q177
     have p178 : 0 ≤ (x5_1 : Int) := ofb
     have q178 : x5_1 < (l0.length : Int) := ofb
     obtain ⟨ad178, A178_0, c178_0, e178, hx178_0, hx178_1, hl178_0, hi178_0⟩ := at_T35 HR0.out x5_1 p178 q178
     obtain rfl : ad175 = ad178 := (by injection e178)
     have HR178_0 := am hi178_0
     have HC178_0 := am hl178_0
     clear hi178_0 hl178_0
     replace p178 := eq_true p178
     replace q178 := eq_true q178
     have ea_ := Option.some.inj (hx175_0.symm.trans hx178_0)
     injection ea_ with ea_ en_ ec_
     subst ea_
     subst ec_
     clear en_
     have p179 : 0 ≤ (x6_2 : Int) := ofb
     have q179 : x6_2 < (((rd_T35 l0 x5_1).f0).length : Int) := ofb
     obtain ⟨ad179, e179, hx179_0, hx179_1, hx179_2, hx179_3, hx179_4⟩ := at_T32 HR178_0.out x6_2 p179 q179
     cases e179
     replace p179 := eq_true p179
     replace q179 := eq_true q179
     go_wp2
     go_roundg k2
     case measure => have := HK1.out; have := HK2.out; omega
     case rel => exact ⟨(wrap64 (x6_2 + 1)), rf, H', ⟨by have := HK1.out; have := HK2.out; omega⟩, by repeat (first | exact Drawn0.refl _ | apply Drawn0.step)⟩
def spec_l2Write.j0 : Nat → List (S35) → Int → Bool → Int → Bool → Int → Int → Int → Int → Option ((List (S35)) × Bool)
 | 0, _, _, _, _, _, _, _, _, _ => none
 | k + 1, x0, x1, x3, x10, x24, x181000, x181001, x181002, x181003 => if x24 = true then (some (x0, false)) else (if x3 = true then (if 0 ≤ x1 then (if x1 < (x0.length : Int) then (if 0 ≤ (wrap64 (4 - x10)) then (if (wrap64 (4 - x10)) < (((rd_T35 x0 x1).f0).length : Int) then (some ((x0.set (x1 : Int).toNat (⟨(((rd_T35 x0 x1).f0).set ((wrap64 (4 - x10)) : Int).toNat (⟨2, (⟨0, 0, 0, 0⟩ : S30)⟩ : S32)), (rd_T35 x0 x1).f1⟩ : S35)), true)) else (none)) else (none)) else (none)) else (none)) else (if 0 ≤ x1 then (if x1 < (x0.length : Int) then (if 0 ≤ (wrap64 (4 - x10)) then (if (wrap64 (4 - x10)) < (((rd_T35 x0 x1).f0).length : Int) then (some ((x0.set (x1 : Int).toNat (⟨(((rd_T35 x0 x1).f0).set ((wrap64 (4 - x10)) : Int).toNat (⟨1, (⟨x181000, x181001, x181002, x181003⟩ : S30)⟩ : S32)), (rd_T35 x0 x1).f1⟩ : S35)), true)) else (none)) else (none)) else (none)) else (none)))
def spec_l2Write.f (k : Nat) (l0 : List (S35)) (a1 : Int) (a2_0 : Int) (a2_1 : Int) (a2_2 : Int) (a2_3 : Int) (a3 : Bool) : Option ((List (S35)) × Bool) := if 0 ≤ a1 then (if a1 < (l0.length : Int) then ((spec_l2Clean.f k ((rd_T35 l0 a1).f0) ((rd_T35 l0 a1).f1)).bind fun t182 => (if t182 = 0 then (spec_l2Write.j0 k l0 a1 a3 t182 true a2_0 a2_1 a2_2 a2_3) else ((spec_l2Seq.f k l0 a2_1).bind fun t183 => (spec_l2Write.j0 k l0 a1 a3 t182 t183 a2_0 a2_1 a2_2 a2_3)))) else (none)) else (none)
theorem spec_l2Write.mono_l : ∀ k, (∀ y0 y1 y2 y3 y4 y5 y6 y7 y8, LeO (spec_l2Write.j0 k y0 y1 y2 y3 y4 y5 y6 y7 y8) (spec_l2Write.j0 (k + 1) y0 y1 y2 y3 y4 y5 y6 y7 y8))
 | 0 => fun _ _ _ _ _ _ _ _ _ r h => by simp [spec_l2Write.j0] at h
 | k + 1 => by
  have ih0 := spec_l2Write.mono_l k
  · intro y0 y1 y2 y3 y4 y5 y6 y7 y8
    unfold spec_l2Write.j0
    repeat' first
    | (with_reducible exact ih0 _ _ _ _ _ _ _ _ _)
    | (with_reducible exact spec_l2Clean.mono _ _ _)
    | (with_reducible exact spec_l2Seq.mono _ _ _)
    | (with_reducible exact LeO.refl _)
    | (with_reducible exact LeO.none _)
    | (with_reducible refine LeO.ite ?_ ?_)
    | (with_reducible refine LeO.bind ?_ (fun _ => ?_))
    | exact ih0 _ _ _ _ _ _ _ _ _
    | exact spec_l2Clean.mono _ _ _
    | exact spec_l2Seq.mono _ _ _
    | exact LeO.none _
    | refine LeO.ite ?_ ?_
    | refine LeO.bind ?_ (fun _ => ?_)
theorem spec_l2Write.mono : ∀ a0 a1 a2 a3 a4 a5 a6 k, LeO (spec_l2Write.f k a0 a1 a2 a3 a4 a5 a6) (spec_l2Write.f (k + 1) a0 a1 a2 a3 a4 a5 a6) := by
 intro a0 a1 a2 a3 a4 a5 a6 k
 have ih0 := spec_l2Write.mono_l k
 unfold spec_l2Write.f
 repeat' first
  | (with_reducible exact ih0 _ _ _ _ _ _ _ _ _)
  | (with_reducible exact spec_l2Clean.mono _ _ _)
  | (with_reducible exact spec_l2Seq.mono _ _ _)
  | (with_reducible exact LeO.refl _)
  | (with_reducible exact LeO.none _)
  | (with_reducible refine LeO.ite ?_ ?_)
  | (with_reducible refine LeO.bind ?_ (fun _ => ?_))
  | exact ih0 _ _ _ _ _ _ _ _ _
  | exact spec_l2Clean.mono _ _ _
  | exact spec_l2Seq.mono _ _ _
  | exact LeO.none _
  | refine LeO.ite ?_ ?_
  | refine LeO.bind ?_ (fun _ => ?_)
def spec_l2Write.T7 : Bool × List (List Nat × List Nat) := (true, [([], []), ([], []), ([0, 1], [0, 1]), ([2], [2]), ([3], [3]), ([], []), ([5], [5]), ([], []), ([4, 6, 0, 1, 2, 3, 4, 5, 6, 7], [4, 6]), ([8, 7, 0, 1, 2, 3, 4, 5, 6, 7], [7, 8])])
def spec_l2Write.B7 : List Nat := [0, 0, 3, 7, 15, 0, 32, 0, 255, 511]
theorem spec_l2Write.tab7 : rtab .any (opsOf Try.f43 7) = spec_l2Write.T7 := by kernel_rfl
theorem spec_l2Write.bits7 : waitsOk spec_l2Write.T7.2 spec_l2Write.B7 = true := by kernel_rfl
set_option maxHeartbeats 8000000 in
set_option maxRecDepth 100000 in
theorem spec_l2Write.calls (k : Nat) (P0_ : Nat → Prop) (u9000_ : Value) (l0 : List (S35)) (a1 : Int) (a2_0 : Int) (a2_1 : Int) (a2_2 : Int) (a2_3 : Int) (a3 : Bool) (r1 : List (S35)) (r2 : Bool) (w0 w : World) (hB : Below w0.heap.size w0 w) (ho0 : Kd.S k35 35 w w0.heap.size P0_ u9000_ l0) (h : spec_l2Write.f k l0 a1 a2_0 a2_1 a2_2 a2_3 a3 = some (r1, r2)) :
 Calls Try.prog 43 #[u9000_, .int .i64 a1, .agg #[.int .i64 a2_0, .int .i64 a2_1, .int .i64 a2_2, .int .i64 a2_3], .bool a3] w fun e w' => ∃ v0_ : Value, e = .returned (.tuple #[v0_, .bool r2]) ∧ Kd.S k35 35 w' w0.heap.size (fun k_ => (P0_ k_ ∨ w.heap.size ≤ k_)) v0_ r1 ∧ Below w0.heap.size w0 w' ∧ Kept w w' (fun k_ => P0_ k_) := by
 have hu30 := Try.underlying30
 have hu35 := Try.underlying35
 have hu32 := Try.underlying32
 have HO0 := am (show Kd.S k35 35 w w0.heap.size (fun k_ => (P0_ k_ ∨ w.heap.size ≤ k_)) u9000_ l0 from Kd.S_mono ho0 (fun k_ hk => (.inl hk)))
 have HK := am (Kept.refl w (fun k_ => P0_ k_))
 have HW0 := am hB.size
 have HB := am hB
 clear hB
 have H : (if 0 ≤ a1 then (if a1 < (l0.length : Int) then ((spec_l2Clean.f k ((rd_T35 l0 a1).f0) ((rd_T35 l0 a1).f1)).bind fun t182 => (if t182 = 0 then (spec_l2Write.j0 k l0 a1 a3 t182 true a2_0 a2_1 a2_2 a2_3) else ((spec_l2Seq.f k l0 a2_1).bind fun t183 => (spec_l2Write.j0 k l0 a1 a3 t182 t183 a2_0 a2_1 a2_2 a2_3)))) else (none)) else (none)) = some (r1, r2) := h
 clear h
 by_cases c5 : 0 ≤ a1
 rotate_left
 · rw [if_neg c5] at H
   exact absurd H (by simp)
 rw [if_pos c5] at H
 have c5b0 := decide_eq_true c5
 clear c5
 by_cases c6 : a1 < (l0.length : Int)
 rotate_left
 · rw [if_neg c6] at H
   exact absurd H (by simp)
 rw [if_pos c6] at H
 have c6b0 := decide_eq_true c6
 clear c6
 replace H := Option.bind_eq_some_iff.mp H
 obtain ⟨t182, A70, H⟩ := H
 replace H : (if t182 = 0 then (spec_l2Write.j0 k l0 a1 a3 t182 true a2_0 a2_1 a2_2 a2_3) else ((spec_l2Seq.f k l0 a2_1).bind fun t183 => (spec_l2Write.j0 k l0 a1 a3 t182 t183 a2_0 a2_1 a2_2 a2_3))) = some (r1, r2) := H
 have A7 := am A70
 clear A70
 have HC8 := am H
 clear H
 go_enter Try.func43, Try.ntmps43
 go_upto_region 2 with (first | (refine bx 6 #[.int .i64 a2_0, .int .i64 a2_1, .int .i64 a2_2, .int .i64 a2_3] 30 rfl ?_; intro gb180 hg w9 hbox hb; replace HO0 := am (Kd.S_below (ps HO0.out) hb); have BK180 := am (hbox); have GW180 := am ((by rw [hg]; exact (by first | exact HK.out.1 | exact (show Kept w _ (fun k_ => P0_ k_) from pk HK.out).1) : w.heap.size ≤ gb180)); replace HK := am (Kept.below (S := (fun k_ => P0_ k_)) (pk HK.out) hb); have GE180 := am ((by rw [hg]; exact (below_size (ph HB.out)) : w0.heap.size ≤ gb180)); replace HB := am (below_step (ph HB.out) hb); clear hb hbox hg; obtain ⟨Ao10, co10, eo10⟩ := Kd.S_slice HO0.out; subst eo10; have p181 : 0 ≤ (a1 : Int) := ofb; have q181 : a1 < (l0.length : Int) := ofb; obtain ⟨ad181, A181_0, c181_0, e181, hx181_0, hx181_1, hl181_0, hi181_0⟩ := at_T35 (Kd.S_reads' HO0.out).2.2 a1 p181 q181; cases e181; obtain ⟨ce181, hce181, hMe181, hcc181⟩ := Kd.S_get HO0.out z35 a1 p181 (by first | exact q181 | exact ofb | (have e_ := (Kd.S_reads' HO0.out).1; omega)); obtain ⟨ve181_0, rfl, ge181_0⟩ := k35_openM hMe181; have hv181_0 := hcc181 0 _ rfl; rw [Nat.add_zero] at hv181_0; replace hv181_0 := Option.some.inj (hv181_0.symm.trans hx181_0); rw [hv181_0] at ge181_0; have HL181_0 := am (show Kd.R k32 32 _ _ _ _ ((rd_T35 l0 a1).f0) from ge181_0); clear hv181_0 ge181_0; have HX181_0 := am hx181_0; clear hcc181 hce181; have HR181_0 := am hi181_0; have HC181_0 := am hl181_0; clear hi181_0 hl181_0; replace p181 := eq_true p181; replace q181 := eq_true q181) | (refine gl 16 Try.func46 #[.agg #[.slice A181_0 ((rd_T35 l0 a1).f0).length c181_0, .int .i64 ((rd_T35 l0 a1).f1)]] rfl ?_; (with_reducible refine (spec_l2Clean.calls k _ _ ((rd_T35 l0 a1).f0) ((rd_T35 l0 a1).f1) t182 _ ?side1 ?side2 A7.out).mono ?_); (case side1 => repeat (first | exact (by repeat (first | (with_reducible exact HR181_0.out) | (with_reducible refine Kd.C_alloc ?_ _) | (with_reducible refine Kd.C_drewN ?_ _) | (with_reducible refine Kd.C_drew ?_) | exact HR181_0.out)) | (with_reducible refine Kd.C_alloc ?_ _) | (with_reducible refine Kd.C_drewN ?_ _) | (with_reducible refine Kd.C_drew ?_))); (case side2 => exact HC181_0.out); rintro e w11 ⟨rfl, hb⟩; refine ⟨_, rfl, ?_⟩; replace HO0 := am (Kd.S_below (ps HO0.out) hb); replace HL181_0 := am (Kd.R_below (pr HL181_0.out) hb); replace BK180 := am (blk_below (pb BK180.out) hb); replace HR181_0 := am (Kd.C_below (by repeat (first | (with_reducible exact HR181_0.out) | (with_reducible refine Kd.C_alloc ?_ _) | (with_reducible refine Kd.C_drewN ?_ _) | (with_reducible refine Kd.C_drew ?_) | exact HR181_0.out)) hb); replace HX181_0 := am (pw_cell_below hb HX181_0.out); replace HK := am (Kept.below (S := (fun k_ => P0_ k_)) (by repeat (first | (with_reducible first | exact HK.out | apply Kept.alloc | apply Kept.drewN | apply Kept.drew | refine Kept.setCell ?_ (.inr GW180.out) _) | exact HK.out)) hb); replace HB := am (below_step (bg1 HB.out GE180.out) hb); (try clear hb); (try clear hb2); (try clear hk); (try clear hi)))
 (try simp only [Act.put, List.setIfInBounds_toArray, List.set_cons_zero, List.set_cons_succ])
 go_cut [24] (fun v24 wc => ∃ (kq : Nat) (x24_7 : Bool), v24 = .bool x24_7 ∧ Aside0 (spec_l2Write.j0 kq l0 a1 a3 t182 x24_7 a2_0 a2_1 a2_2 a2_3 = some (r1, r2)) ∧ Aside0 (kq ≤ k) ∧ Aside0 (Kd.S k35 35 wc w0.heap.size (fun k_ => (P0_ k_ ∨ w.heap.size ≤ k_)) (.slice (some ad181) l0.length co10) l0) ∧ Aside0 (wc.heap[gb180]? = some (.cells #[.int .i64 a2_0, .int .i64 a2_1, .int .i64 a2_2, .int .i64 a2_3] 30 (0, 0))) ∧ Aside0 (Kd.C k32 wc A181_0 ((rd_T35 l0 a1).f0).length ((rd_T35 l0 a1).f0)) ∧ Aside0 (Kept w wc (fun k_ => P0_ k_)) ∧ Aside0 (Below w0.heap.size w0 wc))
 case first =>
  have H := HC8.out
  clear HC8
  by_cases c12 : t182 = 0
  · rw [if_pos c12] at H
    have c12b0 : (t182 == 0) = true := beq_iff_eq.mpr c12
    have c12b1 : (t182 != 0) = false := bne_eq_false_iff_eq.mpr c12
    clear c12
    (first | rw [c12b0] | (simp only [i64_w, i32_w]; rw [c12b0]) | skip)
    have H' := am H
    clear H
    go_wp2
    go_meet
    case rel => exact ⟨_, (true), rf, H', ⟨by first | omega | exact Nat.le_refl _⟩, ⟨ps HO0.out⟩, ⟨pb BK180.out⟩, ⟨by repeat (first | (with_reducible exact HR181_0.out) | (with_reducible refine Kd.C_alloc ?_ _) | (with_reducible refine Kd.C_drewN ?_ _) | (with_reducible refine Kd.C_drew ?_) | exact HR181_0.out)⟩, ⟨by repeat (first | (with_reducible first | exact HK.out | apply Kept.alloc | apply Kept.drewN | apply Kept.drew | refine Kept.setCell ?_ (.inr GW180.out) _) | exact HK.out)⟩, ⟨bg1 HB.out GE180.out⟩⟩
  rw [if_neg c12] at H
  have c12b0 : (t182 == 0) = false := beq_eq_false_iff_ne.mpr c12
  have c12b1 : (t182 != 0) = true := bne_iff_ne.mpr c12
  (first | rw [c12b0] | (simp only [i64_w, i32_w]; rw [c12b0]) | skip)
  replace H := Option.bind_eq_some_iff.mp H
  obtain ⟨t183, A130, H⟩ := H
  replace H : (spec_l2Write.j0 k l0 a1 a3 t182 t183 a2_0 a2_1 a2_2 a2_3) = some (r1, r2) := H
  have A13 := am A130
  clear A130
  have H' := am H
  clear H
  obtain ⟨hcz14_0, hcz14_1, hcz14_2, hcz14_3⟩ := b4 BK180.out
  obtain ⟨hfz14_0, hfz14_1, hfz14_2, hfz14_3⟩ := f4 BK180.out
  go_wp2_with (first | (go_at_call 47; (with_reducible refine (spec_l2Seq.calls k _ _ l0 a2_1 t183 _ ?side1 ?side2 A13.out).mono ?_); (case side1 => repeat (first | exact (Kd.S_reads' HO0.out).2.2 | (with_reducible refine Kd.C_alloc ?_ _) | (with_reducible refine Kd.C_drewN ?_ _) | (with_reducible refine Kd.C_drew ?_))); (case side2 => exact (Kd.S_reads' HO0.out).2.1); rintro e w' ⟨rfl, ⟨nd, rfl⟩⟩))
  go_meet
  case rel => exact ⟨_, (t183), rf, H', ⟨by first | omega | exact Nat.le_refl _⟩, ⟨ps HO0.out⟩, ⟨pb BK180.out⟩, ⟨by repeat (first | (with_reducible exact HR181_0.out) | (with_reducible refine Kd.C_alloc ?_ _) | (with_reducible refine Kd.C_drewN ?_ _) | (with_reducible refine Kd.C_drew ?_) | exact HR181_0.out)⟩, ⟨by repeat (first | (with_reducible first | exact HK.out | apply Kept.alloc | apply Kept.drewN | apply Kept.drew | refine Kept.setCell ?_ (.inr GW180.out) _) | exact HK.out)⟩, ⟨bg1 HB.out GE180.out⟩⟩
 case rest =>
  clear HC8
  obtain ⟨kq, x24_7, rfl, HA, HJ7, HO_0, BK180, HR181_0, HK, HB⟩ := hcut
  cases kq with
  | zero => exact absurd HA.out (by simp [spec_l2Write.j0])
  | succ kj7 =>
   have H := HA.out
   clear HA
   simp only [spec_l2Write.j0] at H
   by_cases c15 : x24_7 = true
   · subst c15
     have H1 : (some (l0, false)) = some (r1, r2) := by rw [if_pos rfl] at H; exact H
     clear H
     have H := H1
     clear H1
     simp only [Option.some.injEq, Prod.mk.injEq] at H
     obtain ⟨rfl, rfl⟩ := H
     go_wp2
     go_ret2
     exact ⟨_, rq ⟨ps HO_0.out, bg1 HB.out GE180.out, by repeat (first | (with_reducible first | exact HK.out | apply Kept.alloc | apply Kept.drewN | apply Kept.drew | refine Kept.setCell ?_ (.inr GW180.out) _) | exact HK.out)⟩⟩
   replace c15 := Bool.eq_false_iff.mpr c15
   subst c15
   have H1 : (if a3 = true then (if 0 ≤ a1 then (if a1 < (l0.length : Int) then (if 0 ≤ (wrap64 (4 - t182)) then (if (wrap64 (4 - t182)) < (((rd_T35 l0 a1).f0).length : Int) then (some ((l0.set (a1 : Int).toNat (⟨(((rd_T35 l0 a1).f0).set ((wrap64 (4 - t182)) : Int).toNat (⟨2, (⟨0, 0, 0, 0⟩ : S30)⟩ : S32)), (rd_T35 l0 a1).f1⟩ : S35)), true)) else (none)) else (none)) else (none)) else (none)) else (if 0 ≤ a1 then (if a1 < (l0.length : Int) then (if 0 ≤ (wrap64 (4 - t182)) then (if (wrap64 (4 - t182)) < (((rd_T35 l0 a1).f0).length : Int) then (some ((l0.set (a1 : Int).toNat (⟨(((rd_T35 l0 a1).f0).set ((wrap64 (4 - t182)) : Int).toNat (⟨1, (⟨a2_0, a2_1, a2_2, a2_3⟩ : S30)⟩ : S32)), (rd_T35 l0 a1).f1⟩ : S35)), true)) else (none)) else (none)) else (none)) else (none))) = some (r1, r2) := by rw [if_neg (show ¬ (false = true) by decide)] at H; exact H
   clear H
   have H := H1
   clear H1
   by_cases c16 : a3 = true
   rotate_left
   · replace c16 := Bool.eq_false_iff.mpr c16
     subst c16
     have H1 : (if 0 ≤ a1 then (if a1 < (l0.length : Int) then (if 0 ≤ (wrap64 (4 - t182)) then (if (wrap64 (4 - t182)) < (((rd_T35 l0 a1).f0).length : Int) then (some ((l0.set (a1 : Int).toNat (⟨(((rd_T35 l0 a1).f0).set ((wrap64 (4 - t182)) : Int).toNat (⟨1, (⟨a2_0, a2_1, a2_2, a2_3⟩ : S30)⟩ : S32)), (rd_T35 l0 a1).f1⟩ : S35)), true)) else (none)) else (none)) else (none)) else (none)) = some (r1, r2) := by rw [if_neg (show ¬ (false = true) by decide)] at H; exact H
     clear H
     have H := H1
     clear H1
     by_cases c31 : 0 ≤ a1
     rotate_left
     · rw [if_neg c31] at H
       exact absurd H (by simp)
     rw [if_pos c31] at H
     have c31b0 := decide_eq_true c31
     clear c31
     by_cases c32 : a1 < (l0.length : Int)
     rotate_left
     · rw [if_neg c32] at H
       exact absurd H (by simp)
     rw [if_pos c32] at H
     have c32b0 := decide_eq_true c32
     clear c32
     obtain ⟨ji33, hji33⟩ : ∃ j_ : Int, (wrap64 (4 - t182)) = j_ := ⟨_, rfl⟩
     replace H : (if 0 ≤ (ji33) then (if (ji33) < (((rd_T35 l0 a1).f0).length : Int) then (some ((l0.set (a1 : Int).toNat (⟨(((rd_T35 l0 a1).f0).set ((ji33) : Int).toNat (⟨1, (⟨a2_0, a2_1, a2_2, a2_3⟩ : S30)⟩ : S32)), (rd_T35 l0 a1).f1⟩ : S35)), true)) else (none)) else (none)) = some (r1, r2) := by first | (rw [hji33] at H; exact H) | (simp only [hji33] at H ⊢; exact H)
     have hji33w : (IntKind.i64.wrap (4 - t182)) = ji33 := (i64_w _).trans hji33
     by_cases c34 : 0 ≤ (ji33)
     rotate_left
     · rw [if_neg c34] at H
       exact absurd H (by simp)
     rw [if_pos c34] at H
     have c34b0 := decide_eq_true c34
     clear c34
     by_cases c35 : (ji33) < (((rd_T35 l0 a1).f0).length : Int)
     rotate_left
     · rw [if_neg c35] at H
       exact absurd H (by simp)
     rw [if_pos c35] at H
     have c35b0 := decide_eq_true c35
     clear c35
     obtain ⟨y190, hy190⟩ : ∃ y_ : List (S32), y_ = (((rd_T35 l0 a1).f0).set ((ji33) : Int).toNat (⟨1, (⟨a2_0, a2_1, a2_2, a2_3⟩ : S30)⟩ : S32)) := ⟨_, rfl⟩
     replace H : (some ((l0.set (a1 : Int).toNat (⟨y190, (rd_T35 l0 a1).f1⟩ : S35)), true)) = some (r1, r2) := by first | (rw [hy190]; with_reducible exact H) | (have H2_ := (Option.bind_some _ _).symm.trans H; rw [hy190]; with_reducible exact H2_) | (have H2_ := (Option.bind_some _ _).symm.trans H; with_reducible exact H2_) | with_reducible exact H | (rw [hy190]; exact H) | exact H
     have Ny190 := am hy190
     clear hy190
     obtain ⟨y192, hy192⟩ : ∃ y_ : List (S35), y_ = (l0.set (a1 : Int).toNat (⟨y190, (rd_T35 l0 a1).f1⟩ : S35)) := ⟨_, rfl⟩
     replace H : (some (y192, true)) = some (r1, r2) := by first | (rw [hy192]; with_reducible exact H) | (have H2_ := (Option.bind_some _ _).symm.trans H; rw [hy192]; with_reducible exact H2_) | (have H2_ := (Option.bind_some _ _).symm.trans H; with_reducible exact H2_) | with_reducible exact H | (rw [hy192]; exact H) | exact H
     have Ny192 := am hy192
     clear hy192
     simp only [Option.some.injEq, Prod.mk.injEq] at H
     obtain ⟨rfl, rfl⟩ := H
     obtain ⟨hcz37_0, hcz37_1, hcz37_2, hcz37_3⟩ := b4 BK180.out
     obtain ⟨hfz37_0, hfz37_1, hfz37_2, hfz37_3⟩ := f4 BK180.out
     try go_wp2_with (first | (refine bx 11 #[.int .i64 0, .int .i64 0, .int .i64 0, .int .i64 0, .int .i64 0] 32 rfl ?_; intro gb184 hg w38 hbox hb; replace HO_0 := am (Kd.S_below (Kd.S_elderB (ps HO_0.out) gb184 (Nat.le_of_eq hg.symm)) hb); replace HR181_0 := am (Kd.C_below (by repeat (first | (with_reducible exact HR181_0.out) | (with_reducible refine Kd.C_alloc ?_ _) | (with_reducible refine Kd.C_drewN ?_ _) | (with_reducible refine Kd.C_drew ?_) | exact HR181_0.out)) hb); have BK184 := am (hbox); have GW184 := am ((by rw [hg]; exact (by first | exact HK.out.1 | exact (show Kept w _ (fun k_ => P0_ k_) from by repeat (first | (with_reducible first | exact HK.out | apply Kept.alloc | apply Kept.drewN | apply Kept.drew | refine Kept.setCell ?_ (.inr GW180.out) _) | exact HK.out)).1) : w.heap.size ≤ gb184)); replace HK := am (Kept.below (S := (fun k_ => P0_ k_)) (by repeat (first | (with_reducible first | exact HK.out | apply Kept.alloc | apply Kept.drewN | apply Kept.drew | refine Kept.setCell ?_ (.inr GW180.out) _) | exact HK.out)) hb); have GE184 := am ((by rw [hg]; exact (below_size (bg1 HB.out GE180.out)) : w0.heap.size ≤ gb184)); replace HB := am (below_step (bg1 HB.out GE180.out) hb); have NB180_184 := am ((by rw [hg]; exact Nat.ne_of_lt (blk_lt (pb BK180.out)) : gb180 ≠ gb184)); have NB184_180 := am (Ne.symm NB180_184.out); replace BK180 := am (blk_below (pb BK180.out) hb); clear hb hbox hg; have hnb39 := NB184_180.out; have hnc39 := NB180_184.out; obtain ⟨hcz40_0, hcz40_1, hcz40_2, hcz40_3, hcz40_4⟩ := b5 BK184.out; obtain ⟨hfz40_0, hfz40_1, hfz40_2, hfz40_3, hfz40_4⟩ := f5 BK184.out))
     have n0_ : Aside0 (Kd.S k35 35 (((((w38.setCell ⟨gb184, 0, none⟩ (.int .i64 1)).setCell ⟨gb184, 1, none⟩ (.int .i64 a2_0)).setCell ⟨gb184, 2, none⟩ (.int .i64 a2_1)).setCell ⟨gb184, 3, none⟩ (.int .i64 a2_2)).setCell ⟨gb184, 4, none⟩ (.int .i64 a2_3)) w0.heap.size (fun k_ => (P0_ k_ ∨ w.heap.size ≤ k_) ∧ k_ ≠ gb184) (.slice (some ad181) l0.length co10) l0) := ⟨by (with_reducible repeat (first | apply Kd.S_alloc | apply Kd.S_drewN | apply Kd.S_drew)); exact Kd.S_mono (Kd.S_far (p := ⟨gb184, 4, none⟩) (Kd.S_far (p := ⟨gb184, 3, none⟩) (Kd.S_far (p := ⟨gb184, 2, none⟩) (Kd.S_far (p := ⟨gb184, 1, none⟩) (Kd.S_far (p := ⟨gb184, 0, none⟩) (Kd.S_mono HO_0.out (fun k_ hk => (⟨hk, hk.2⟩ : _ ∧ k_ ≠ gb184))) (fun _ hk => hk.2) (.int .i64 1)) (fun _ hk => hk.2) (.int .i64 a2_0)) (fun _ hk => hk.2) (.int .i64 a2_1)) (fun _ hk => hk.2) (.int .i64 a2_2)) (fun _ hk => hk.2) (.int .i64 a2_3)) (fun _ hk => ⟨hk.1.1, hk.1.2⟩)⟩
     have n1_ : Aside0 ((((((w38.setCell ⟨gb184, 0, none⟩ (.int .i64 1)).setCell ⟨gb184, 1, none⟩ (.int .i64 a2_0)).setCell ⟨gb184, 2, none⟩ (.int .i64 a2_1)).setCell ⟨gb184, 3, none⟩ (.int .i64 a2_2)).setCell ⟨gb184, 4, none⟩ (.int .i64 a2_3)).heap[gb180]? = some (.cells #[.int .i64 a2_0, .int .i64 a2_1, .int .i64 a2_2, .int .i64 a2_3] 30 (0, 0))) := ⟨by (with_reducible repeat (first | refine blk_drewN ?_ _ | refine blk_drew ?_ | refine blk_alloc ?_ _)); refine blk_far ?_ NB180_184.out _; (with_reducible repeat (first | refine blk_drewN ?_ _ | refine blk_drew ?_ | refine blk_alloc ?_ _)); refine blk_far ?_ NB180_184.out _; (with_reducible repeat (first | refine blk_drewN ?_ _ | refine blk_drew ?_ | refine blk_alloc ?_ _)); refine blk_far ?_ NB180_184.out _; (with_reducible repeat (first | refine blk_drewN ?_ _ | refine blk_drew ?_ | refine blk_alloc ?_ _)); refine blk_far ?_ NB180_184.out _; (with_reducible repeat (first | refine blk_drewN ?_ _ | refine blk_drew ?_ | refine blk_alloc ?_ _)); refine blk_far ?_ NB180_184.out _; (with_reducible repeat (first | refine blk_drewN ?_ _ | refine blk_drew ?_ | refine blk_alloc ?_ _)); exact BK180.out⟩
     have n2_ : Aside0 ((((((w38.setCell ⟨gb184, 0, none⟩ (.int .i64 1)).setCell ⟨gb184, 1, none⟩ (.int .i64 a2_0)).setCell ⟨gb184, 2, none⟩ (.int .i64 a2_1)).setCell ⟨gb184, 3, none⟩ (.int .i64 a2_2)).setCell ⟨gb184, 4, none⟩ (.int .i64 a2_3)).heap[gb184]? = some (.cells #[.int .i64 1, .int .i64 a2_0, .int .i64 a2_1, .int .i64 a2_2, .int .i64 a2_3] 32 (0, 0))) := ⟨by (with_reducible repeat (first | refine blk_drewN ?_ _ | refine blk_drew ?_ | refine blk_alloc ?_ _)); refine blk_put (cs := #[.int .i64 1, .int .i64 a2_0, .int .i64 a2_1, .int .i64 a2_2, .int .i64 0]) ?_ 4 _ rfl; (with_reducible repeat (first | refine blk_drewN ?_ _ | refine blk_drew ?_ | refine blk_alloc ?_ _)); refine blk_put (cs := #[.int .i64 1, .int .i64 a2_0, .int .i64 a2_1, .int .i64 0, .int .i64 0]) ?_ 3 _ rfl; (with_reducible repeat (first | refine blk_drewN ?_ _ | refine blk_drew ?_ | refine blk_alloc ?_ _)); refine blk_put (cs := #[.int .i64 1, .int .i64 a2_0, .int .i64 0, .int .i64 0, .int .i64 0]) ?_ 2 _ rfl; (with_reducible repeat (first | refine blk_drewN ?_ _ | refine blk_drew ?_ | refine blk_alloc ?_ _)); refine blk_put (cs := #[.int .i64 1, .int .i64 0, .int .i64 0, .int .i64 0, .int .i64 0]) ?_ 1 _ rfl; (with_reducible repeat (first | refine blk_drewN ?_ _ | refine blk_drew ?_ | refine blk_alloc ?_ _)); refine blk_put (cs := #[.int .i64 0, .int .i64 0, .int .i64 0, .int .i64 0, .int .i64 0]) ?_ 0 _ rfl; (with_reducible repeat (first | refine blk_drewN ?_ _ | refine blk_drew ?_ | refine blk_alloc ?_ _)); exact BK184.out⟩
     have n3_ : Aside0 (Kept w (((((w38.setCell ⟨gb184, 0, none⟩ (.int .i64 1)).setCell ⟨gb184, 1, none⟩ (.int .i64 a2_0)).setCell ⟨gb184, 2, none⟩ (.int .i64 a2_1)).setCell ⟨gb184, 3, none⟩ (.int .i64 a2_2)).setCell ⟨gb184, 4, none⟩ (.int .i64 a2_3)) (fun k_ => P0_ k_)) := ⟨by repeat (first | (with_reducible first | exact HK.out | apply Kept.alloc | apply Kept.drewN | apply Kept.drew | refine Kept.setCell ?_ (.inr GW180.out) _ | refine Kept.setCell ?_ (.inr GW184.out) _) | exact HK.out)⟩
     have n4_ : Aside0 (Below w0.heap.size w0 (((((w38.setCell ⟨gb184, 0, none⟩ (.int .i64 1)).setCell ⟨gb184, 1, none⟩ (.int .i64 a2_0)).setCell ⟨gb184, 2, none⟩ (.int .i64 a2_1)).setCell ⟨gb184, 3, none⟩ (.int .i64 a2_2)).setCell ⟨gb184, 4, none⟩ (.int .i64 a2_3))) := ⟨bg2 HB.out GE180.out GE184.out⟩
     (try clear HO_0)
     (try clear BK180)
     (try clear BK184)
     (try clear HK)
     (try clear HB)
     generalize (((((w38.setCell ⟨gb184, 0, none⟩ (.int .i64 1)).setCell ⟨gb184, 1, none⟩ (.int .i64 a2_0)).setCell ⟨gb184, 2, none⟩ (.int .i64 a2_1)).setCell ⟨gb184, 3, none⟩ (.int .i64 a2_2)).setCell ⟨gb184, 4, none⟩ (.int .i64 a2_3)) = w41 at n0_ n1_ n2_ n3_ n4_ ⊢
     have HO_0 := n0_
     have BK180 := n1_
     have BK184 := n2_
     have HK := n3_
     have HB := n4_
     clear n0_ n1_ n2_ n3_ n4_
     replace HO_0 := am (Kd.S_drew HO_0.out)
     replace BK180 := am (blk_drew BK180.out)
     replace BK184 := am (blk_drew BK184.out)
     replace HK := am (Kept.drew HK.out)
     replace HB := am (below_drew1 HB.out)
     have p189 : 0 ≤ (a1 : Int) := ofb
     have q189 : a1 < (l0.length : Int) := ofb
     obtain ⟨ad189, A189_0, c189_0, e189, hx189_0, hx189_1, hl189_0, hi189_0⟩ := at_T35 (Kd.S_reads' HO_0.out).2.2 a1 p189 q189
     obtain rfl : ad181 = ad189 := (by injection e189)
     obtain ⟨ce189, hce189, hMe189, hcc189⟩ := Kd.S_get HO_0.out z35 a1 p189 (by first | exact q189 | exact ofb | (have e_ := (Kd.S_reads' HO_0.out).1; omega))
     obtain ⟨ve189_0, rfl, ge189_0⟩ := k35_openM hMe189
     have hv189_0 := hcc189 0 _ rfl
     rw [Nat.add_zero] at hv189_0
     replace hv189_0 := Option.some.inj (hv189_0.symm.trans hx189_0)
     rw [hv189_0] at ge189_0
     have HL189_0 := am (show Kd.R k32 32 _ _ _ _ ((rd_T35 l0 a1).f0) from ge189_0)
     clear hv189_0 ge189_0
     have HX189_0 := am hx189_0
     clear hcc189 hce189
     have HR189_0 := am hi189_0
     have HC189_0 := am hl189_0
     clear hi189_0 hl189_0
     replace p189 := eq_true p189
     replace q189 := eq_true q189
     have p36 : 0 ≤ ((ji33) : Int) := ofb
     have q36 : ((ji33) : Int) < ((((rd_T35 l0 a1).f0).length : Int) : Int) := ofb
     obtain ⟨go36, co36, eo36, gb36, gl36, cl36, HG36⟩ := Kd.R_form HL189_0.out (by omega)
     (first | cases eo36 | (injection eo36 with ea_ en_ ec_; (first | subst ea_ | (injection ea_ with ea_; subst ea_)); subst ec_; clear en_))
     have GB36 := am gb36
     have GG36 := am HG36
     clear gb36 gl36 HG36
     have HMgo36 := am (show (P0_ go36 ∨ w.heap.size ≤ go36) from (HL189_0.out.1 _ rfl).1.1)
     obtain ⟨ce36, hcl36, hM36, hcc36, hfr36⟩ := Kd.R_elem HL189_0.out z32 ((ji33) : Int) p36 q36
     obtain rfl := k32_openM hM36
     have hx36_0 : World.cell? _ ⟨go36, ((ji33) : Int).toNat * 5, none⟩ = some (.int .i64 ((rd_T32 ((rd_T35 l0 a1).f0) (ji33)).f0)) := hcc36 0 _ rfl
     have hx36_1 : World.cell? _ ⟨go36, ((ji33) : Int).toNat * 5 + 1, none⟩ = some (.int .i64 ((rd_T32 ((rd_T35 l0 a1).f0) (ji33)).f1.f0)) := hcc36 1 _ rfl
     have hx36_2 : World.cell? _ ⟨go36, ((ji33) : Int).toNat * 5 + 2, none⟩ = some (.int .i64 ((rd_T32 ((rd_T35 l0 a1).f0) (ji33)).f1.f1)) := hcc36 2 _ rfl
     have hx36_3 : World.cell? _ ⟨go36, ((ji33) : Int).toNat * 5 + 3, none⟩ = some (.int .i64 ((rd_T32 ((rd_T35 l0 a1).f0) (ji33)).f1.f2)) := hcc36 3 _ rfl
     have hx36_4 : World.cell? _ ⟨go36, ((ji33) : Int).toNat * 5 + 4, none⟩ = some (.int .i64 ((rd_T32 ((rd_T35 l0 a1).f0) (ji33)).f1.f3)) := hcc36 4 _ rfl
     have hf36_0 : World.frozen? _ ⟨go36, ((ji33) : Int).toNat * 5, none⟩ = false := hfr36 0
     have hf36_1 : World.frozen? _ ⟨go36, ((ji33) : Int).toNat * 5 + 1, none⟩ = false := hfr36 1
     have hf36_2 : World.frozen? _ ⟨go36, ((ji33) : Int).toNat * 5 + 2, none⟩ = false := hfr36 2
     have hf36_3 : World.frozen? _ ⟨go36, ((ji33) : Int).toNat * 5 + 3, none⟩ = false := hfr36 3
     have hf36_4 : World.frozen? _ ⟨go36, ((ji33) : Int).toNat * 5 + 4, none⟩ = false := hfr36 4
     clear hcl36 hcc36 hfr36 hM36
     replace p36 := eq_true p36
     replace q36 := eq_true q36
     have hq43 : (a1 : Int) < (l0.length : Int) := (by have h_ : (a1 : Int) < ((l0.length : Int) : Int) := ofb; first | exact h_ | (have e_ := (Kd.S_reads' HO_0.out).1; omega) | simpa only [List.length_set, List.length_set] using h_)
     obtain ⟨oki43, ce43, hcl43, hM43, hcc43, hok43, hbk43⟩ := Kd.S_borrow HO_0.out z35 (a1 : Int) (ofb) hq43
     obtain ⟨ve43_0, rfl, ge43_0⟩ := k35_openM hM43
     have hv43 := hcc43 0 _ rfl
     rw [Nat.add_zero] at hv43
     replace hv43 := Option.some.inj (hv43.symm.trans HX189_0.out)
     subst hv43
     clear hcc43 hcl43
     replace ge43_0 := (show Kd.R k32 32 _ _ _ _ ((rd_T35 l0 a1).f0) from ge43_0)
     obtain ⟨cf43, hcl43, hN43, hcc43, hfr43⟩ := Kd.R_elem ge43_0 z32 ((ji33) : Int) (ofb) (by have h_ : ((ji33) : Int) < ((((rd_T35 l0 a1).f0).length : Int) : Int) := ofb; first | exact h_ | (have e_ := (Kd.R_reads' HR189_0.out).1; omega) | simpa using h_)
     obtain rfl := k32_openM hN43
     have HP43 := Kd.R_seg ge43_0 ((ji33) : Int) (ofb) (by have h_ : ((ji33) : Int) < ((((rd_T35 l0 a1).f0).length : Int) : Int) := ofb; first | exact h_ | (have e_ := (Kd.R_reads' HR189_0.out).1; omega) | simpa using h_) (seg := [.int .i64 1, .int .i64 a2_0, .int .i64 a2_1, .int .i64 a2_2, .int .i64 a2_3]) (j := 0) hcl43 hcc43 (show 5 ≤ 5 from by decide) (x' := (⟨1, (⟨a2_0, a2_1, a2_2, a2_3⟩ : S30)⟩ : S32)) (k32_mkM _ _ _ (⟨1, (⟨a2_0, a2_1, a2_2, a2_3⟩ : S30)⟩ : S32)) (fun _ hk => hk)
     clear hcl43 hcc43 hfr43 hN43
     rw [← Ny190.out] at HP43
     have HS43 := hbk43 HP43.2 (fun k_ e_ => by injection e_ with e_; subst e_; exact ge43_0.1 _ rfl) (x' := (⟨y190, (rd_T35 l0 a1).f1⟩ : S35)) (k35_mkM _ _ _ (⟨y190, (rd_T35 l0 a1).f1⟩ : S35) HP43.1)
     rw [← Ny192.out] at HS43
     have HQ43 := am HS43
     clear HP43 HS43 hbk43 hok43
     refine start_ (n := 10) (S := fun w' => w'.cell? ⟨gb184, 0, none⟩ = some (.int .i64 1) ∧ w'.cell? ⟨gb184, 1, none⟩ = some (.int .i64 a2_0) ∧ w'.cell? ⟨gb184, 2, none⟩ = some (.int .i64 a2_1) ∧ w'.cell? ⟨gb184, 3, none⟩ = some (.int .i64 a2_2) ∧ w'.cell? ⟨gb184, 4, none⟩ = some (.int .i64 a2_3) ∧ w'.cell? (ad181.add ((a1).toNat * 2)) = some (.slice (some ⟨go36, 0, none⟩) ((rd_T35 l0 a1).f0).length c189_0) ∧ w'.cell? ⟨(ad181.add ((a1).toNat * 2)).block, (ad181.add ((a1).toNat * 2)).off + 1, none⟩ = some (.int .i64 ((rd_T35 l0 a1).f1))) (ds := [9]) #[false, false, false, false, false, false, false, false, false, false] (by kernel_rfl) rfl rfl ⟨(blk_cell BK184.out 0).trans rfl, (blk_cell BK184.out 1).trans rfl, (blk_cell BK184.out 2).trans rfl, (blk_cell BK184.out 3).trans rfl, (blk_cell BK184.out 4).trans rfl, hx189_0, hx189_1⟩ (fun hHeld => ?_); refine with_tabW spec_l2Write.tab7 spec_l2Write.bits7 (fun HT_ HW_ => ?_)
     generalize w41.drew = w42 at HO_0 BK180 BK184 HK HB GG36 HL189_0 HQ43 HR189_0 HX189_0 hf36_0 hf36_1 hf36_2 hf36_3 hf36_4 hx189_0 hx189_1 hx36_0 hx36_1 hx36_2 hx36_3 hx36_4 hHeld ⊢
     refine pj_ 0 30 #[true, false, false, false, false, false, false, false, false, false] rfl rfl (any_of HT_.out (by kernel_rfl)) (fun _ _ _ h => h) ?_
     refine pj_ 1 31 #[true, true, false, false, false, false, false, false, false, false] rfl rfl (any_of HT_.out (by kernel_rfl)) (fun _ _ _ h => h) ?_
     refine pj_ 2 32 #[true, true, true, false, false, false, false, false, false, false] rfl rfl (any_of HT_.out (by kernel_rfl)) (fun _ _ _ h => h) ?_
     refine pj_ 3 33 #[true, true, true, true, false, false, false, false, false, false] rfl rfl (any_of HT_.out (by kernel_rfl)) (fun _ _ _ h => h) ?_
     refine pj_ 5 35 #[true, true, true, true, false, true, false, false, false, false] rfl rfl (any_of HT_.out (by kernel_rfl)) (fun _ _ _ h => h) ?_
     refine pj_ 6 36 #[true, true, true, true, false, true, true, false, false, false] rfl rfl (any_of HT_.out (by kernel_rfl)) (fun _ _ _ h => h) ?_
     refine pm_ 4 34 #[true, true, true, true, true, true, true, false, false, false] rfl rfl (take_ofW HT_.out HW_.out (by kernel_rfl)) (fun _ _ _ h => h) hHeld ?_
     refine pm_ 7 37 #[true, true, true, true, true, true, true, true, false, false] rfl rfl (take_ofW HT_.out HW_.out (by kernel_rfl)) (fun _ _ _ h => h) hHeld ?_
     refine pj_ 8 38 #[true, true, true, true, true, true, true, true, true, false] rfl rfl (any_of HT_.out (by kernel_rfl)) (fun _ _ _ h => h) ?_
     refine last_ (i := 9) (N := none) #[true, true, true, true, true, true, true, true, true, true] rfl rfl (one_of HT_.out (by kernel_rfl)) (by decide) (fun K hK => ?_)
     refine skip_ (w1 := ?_) (by rfl) rfl ?_ ?_
     rotate_left
     · go_simp
       rfl
     refine hK.out _ _ ?_
     clear hK K
     refine done_ (done_of HT_.out (by kernel_rfl)) ?_
     try go_wp2
     go_ret2
     exact ⟨_, by first | rfl | (simp [errW_none, errW_some] <;> rfl) | (simp only [← hji33]; first | rfl | (simp [errW_none, errW_some] <;> rfl)) | (simp [*, errW_none, errW_some] <;> rfl), by (with_reducible repeat (first | apply Kd.S_alloc | apply Kd.S_drewN | apply Kd.S_drew)); exact Kd.S_mono HQ43.out (fun _ hk => hk.1), by repeat (first | (with_reducible first | exact HB.out | apply below_alloc | apply pw_below_drewN | apply below_drew1 | refine below_set ?_ GB36.out | refine below_set ?_ GB36.out | refine below_set ?_ GB36.out | refine below_set ?_ GB36.out | refine below_set ?_ GB36.out | refine below_set ?_ GE180.out | refine below_set ?_ GE184.out) | exact HB.out), by repeat (first | (with_reducible first | exact HK.out | apply Kept.alloc | apply Kept.drewN | apply Kept.drew | refine Kept.setCell ?_ HMgo36.out _ | refine Kept.setCell ?_ HMgo36.out _ | refine Kept.setCell ?_ HMgo36.out _ | refine Kept.setCell ?_ HMgo36.out _ | refine Kept.setCell ?_ HMgo36.out _ | refine Kept.setCell ?_ (.inr GW180.out) _ | refine Kept.setCell ?_ (.inr GW184.out) _) | exact HK.out)⟩
   subst c16
   have H1 : (if 0 ≤ a1 then (if a1 < (l0.length : Int) then (if 0 ≤ (wrap64 (4 - t182)) then (if (wrap64 (4 - t182)) < (((rd_T35 l0 a1).f0).length : Int) then (some ((l0.set (a1 : Int).toNat (⟨(((rd_T35 l0 a1).f0).set ((wrap64 (4 - t182)) : Int).toNat (⟨2, (⟨0, 0, 0, 0⟩ : S30)⟩ : S32)), (rd_T35 l0 a1).f1⟩ : S35)), true)) else (none)) else (none)) else (none)) else (none)) = some (r1, r2) := by rw [if_pos rfl] at H; exact H
   clear H
   have H := H1
   clear H1
   by_cases c17 : 0 ≤ a1
   rotate_left
   · rw [if_neg c17] at H
     exact absurd H (by simp)
   rw [if_pos c17] at H
   have c17b0 := decide_eq_true c17
   clear c17
   by_cases c18 : a1 < (l0.length : Int)
   rotate_left
   · rw [if_neg c18] at H
     exact absurd H (by simp)
   rw [if_pos c18] at H
   have c18b0 := decide_eq_true c18
   clear c18
   obtain ⟨ji19, hji19⟩ : ∃ j_ : Int, (wrap64 (4 - t182)) = j_ := ⟨_, rfl⟩
   replace H : (if 0 ≤ (ji19) then (if (ji19) < (((rd_T35 l0 a1).f0).length : Int) then (some ((l0.set (a1 : Int).toNat (⟨(((rd_T35 l0 a1).f0).set ((ji19) : Int).toNat (⟨2, (⟨0, 0, 0, 0⟩ : S30)⟩ : S32)), (rd_T35 l0 a1).f1⟩ : S35)), true)) else (none)) else (none)) = some (r1, r2) := by first | (rw [hji19] at H; exact H) | (simp only [hji19] at H ⊢; exact H)
   have hji19w : (IntKind.i64.wrap (4 - t182)) = ji19 := (i64_w _).trans hji19
   by_cases c20 : 0 ≤ (ji19)
   rotate_left
   · rw [if_neg c20] at H
     exact absurd H (by simp)
   rw [if_pos c20] at H
   have c20b0 := decide_eq_true c20
   clear c20
   by_cases c21 : (ji19) < (((rd_T35 l0 a1).f0).length : Int)
   rotate_left
   · rw [if_neg c21] at H
     exact absurd H (by simp)
   rw [if_pos c21] at H
   have c21b0 := decide_eq_true c21
   clear c21
   obtain ⟨y186, hy186⟩ : ∃ y_ : List (S32), y_ = (((rd_T35 l0 a1).f0).set ((ji19) : Int).toNat (⟨2, (⟨0, 0, 0, 0⟩ : S30)⟩ : S32)) := ⟨_, rfl⟩
   replace H : (some ((l0.set (a1 : Int).toNat (⟨y186, (rd_T35 l0 a1).f1⟩ : S35)), true)) = some (r1, r2) := by first | (rw [hy186]; with_reducible exact H) | (have H2_ := (Option.bind_some _ _).symm.trans H; rw [hy186]; with_reducible exact H2_) | (have H2_ := (Option.bind_some _ _).symm.trans H; with_reducible exact H2_) | with_reducible exact H | (rw [hy186]; exact H) | exact H
   have Ny186 := am hy186
   clear hy186
   obtain ⟨y188, hy188⟩ : ∃ y_ : List (S35), y_ = (l0.set (a1 : Int).toNat (⟨y186, (rd_T35 l0 a1).f1⟩ : S35)) := ⟨_, rfl⟩
   replace H : (some (y188, true)) = some (r1, r2) := by first | (rw [hy188]; with_reducible exact H) | (have H2_ := (Option.bind_some _ _).symm.trans H; rw [hy188]; with_reducible exact H2_) | (have H2_ := (Option.bind_some _ _).symm.trans H; with_reducible exact H2_) | with_reducible exact H | (rw [hy188]; exact H) | exact H
   have Ny188 := am hy188
   clear hy188
   simp only [Option.some.injEq, Prod.mk.injEq] at H
   obtain ⟨rfl, rfl⟩ := H
   obtain ⟨hcz23_0, hcz23_1, hcz23_2, hcz23_3⟩ := b4 BK180.out
   obtain ⟨hfz23_0, hfz23_1, hfz23_2, hfz23_3⟩ := f4 BK180.out
   try go_wp2_with (first | (refine bx 11 #[.int .i64 0, .int .i64 0, .int .i64 0, .int .i64 0, .int .i64 0] 32 rfl ?_; intro gb184 hg w24 hbox hb; replace HO_0 := am (Kd.S_below (Kd.S_elderB (ps HO_0.out) gb184 (Nat.le_of_eq hg.symm)) hb); replace HR181_0 := am (Kd.C_below (by repeat (first | (with_reducible exact HR181_0.out) | (with_reducible refine Kd.C_alloc ?_ _) | (with_reducible refine Kd.C_drewN ?_ _) | (with_reducible refine Kd.C_drew ?_) | exact HR181_0.out)) hb); have BK184 := am (hbox); have GW184 := am ((by rw [hg]; exact (by first | exact HK.out.1 | exact (show Kept w _ (fun k_ => P0_ k_) from by repeat (first | (with_reducible first | exact HK.out | apply Kept.alloc | apply Kept.drewN | apply Kept.drew | refine Kept.setCell ?_ (.inr GW180.out) _) | exact HK.out)).1) : w.heap.size ≤ gb184)); replace HK := am (Kept.below (S := (fun k_ => P0_ k_)) (by repeat (first | (with_reducible first | exact HK.out | apply Kept.alloc | apply Kept.drewN | apply Kept.drew | refine Kept.setCell ?_ (.inr GW180.out) _) | exact HK.out)) hb); have GE184 := am ((by rw [hg]; exact (below_size (bg1 HB.out GE180.out)) : w0.heap.size ≤ gb184)); replace HB := am (below_step (bg1 HB.out GE180.out) hb); have NB180_184 := am ((by rw [hg]; exact Nat.ne_of_lt (blk_lt (pb BK180.out)) : gb180 ≠ gb184)); have NB184_180 := am (Ne.symm NB180_184.out); replace BK180 := am (blk_below (pb BK180.out) hb); clear hb hbox hg; have hnb25 := NB184_180.out; have hnc25 := NB180_184.out; obtain ⟨hcz26_0, hcz26_1, hcz26_2, hcz26_3, hcz26_4⟩ := b5 BK184.out; obtain ⟨hfz26_0, hfz26_1, hfz26_2, hfz26_3, hfz26_4⟩ := f5 BK184.out))
   have n0_ : Aside0 (Kd.S k35 35 ((((((((((w24.setCell ⟨gb184, 0, none⟩ (.int .i64 1)).setCell ⟨gb184, 1, none⟩ (.int .i64 a2_0)).setCell ⟨gb184, 2, none⟩ (.int .i64 a2_1)).setCell ⟨gb184, 3, none⟩ (.int .i64 a2_2)).setCell ⟨gb184, 4, none⟩ (.int .i64 a2_3)).setCell ⟨gb184, 0, none⟩ (.int .i64 2)).setCell ⟨gb184, 1, none⟩ (.int .i64 0)).setCell ⟨gb184, 2, none⟩ (.int .i64 0)).setCell ⟨gb184, 3, none⟩ (.int .i64 0)).setCell ⟨gb184, 4, none⟩ (.int .i64 0)) w0.heap.size (fun k_ => (P0_ k_ ∨ w.heap.size ≤ k_) ∧ k_ ≠ gb184) (.slice (some ad181) l0.length co10) l0) := ⟨by (with_reducible repeat (first | apply Kd.S_alloc | apply Kd.S_drewN | apply Kd.S_drew)); exact Kd.S_mono (Kd.S_far (p := ⟨gb184, 4, none⟩) (Kd.S_far (p := ⟨gb184, 3, none⟩) (Kd.S_far (p := ⟨gb184, 2, none⟩) (Kd.S_far (p := ⟨gb184, 1, none⟩) (Kd.S_far (p := ⟨gb184, 0, none⟩) (Kd.S_far (p := ⟨gb184, 4, none⟩) (Kd.S_far (p := ⟨gb184, 3, none⟩) (Kd.S_far (p := ⟨gb184, 2, none⟩) (Kd.S_far (p := ⟨gb184, 1, none⟩) (Kd.S_far (p := ⟨gb184, 0, none⟩) (Kd.S_mono HO_0.out (fun k_ hk => (⟨hk, hk.2⟩ : _ ∧ k_ ≠ gb184))) (fun _ hk => hk.2) (.int .i64 1)) (fun _ hk => hk.2) (.int .i64 a2_0)) (fun _ hk => hk.2) (.int .i64 a2_1)) (fun _ hk => hk.2) (.int .i64 a2_2)) (fun _ hk => hk.2) (.int .i64 a2_3)) (fun _ hk => hk.2) (.int .i64 2)) (fun _ hk => hk.2) (.int .i64 0)) (fun _ hk => hk.2) (.int .i64 0)) (fun _ hk => hk.2) (.int .i64 0)) (fun _ hk => hk.2) (.int .i64 0)) (fun _ hk => ⟨hk.1.1, hk.1.2⟩)⟩
   have n1_ : Aside0 (((((((((((w24.setCell ⟨gb184, 0, none⟩ (.int .i64 1)).setCell ⟨gb184, 1, none⟩ (.int .i64 a2_0)).setCell ⟨gb184, 2, none⟩ (.int .i64 a2_1)).setCell ⟨gb184, 3, none⟩ (.int .i64 a2_2)).setCell ⟨gb184, 4, none⟩ (.int .i64 a2_3)).setCell ⟨gb184, 0, none⟩ (.int .i64 2)).setCell ⟨gb184, 1, none⟩ (.int .i64 0)).setCell ⟨gb184, 2, none⟩ (.int .i64 0)).setCell ⟨gb184, 3, none⟩ (.int .i64 0)).setCell ⟨gb184, 4, none⟩ (.int .i64 0)).heap[gb180]? = some (.cells #[.int .i64 a2_0, .int .i64 a2_1, .int .i64 a2_2, .int .i64 a2_3] 30 (0, 0))) := ⟨by (with_reducible repeat (first | refine blk_drewN ?_ _ | refine blk_drew ?_ | refine blk_alloc ?_ _)); refine blk_far ?_ NB180_184.out _; (with_reducible repeat (first | refine blk_drewN ?_ _ | refine blk_drew ?_ | refine blk_alloc ?_ _)); refine blk_far ?_ NB180_184.out _; (with_reducible repeat (first | refine blk_drewN ?_ _ | refine blk_drew ?_ | refine blk_alloc ?_ _)); refine blk_far ?_ NB180_184.out _; (with_reducible repeat (first | refine blk_drewN ?_ _ | refine blk_drew ?_ | refine blk_alloc ?_ _)); refine blk_far ?_ NB180_184.out _; (with_reducible repeat (first | refine blk_drewN ?_ _ | refine blk_drew ?_ | refine blk_alloc ?_ _)); refine blk_far ?_ NB180_184.out _; (with_reducible repeat (first | refine blk_drewN ?_ _ | refine blk_drew ?_ | refine blk_alloc ?_ _)); refine blk_far ?_ NB180_184.out _; (with_reducible repeat (first | refine blk_drewN ?_ _ | refine blk_drew ?_ | refine blk_alloc ?_ _)); refine blk_far ?_ NB180_184.out _; (with_reducible repeat (first | refine blk_drewN ?_ _ | refine blk_drew ?_ | refine blk_alloc ?_ _)); refine blk_far ?_ NB180_184.out _; (with_reducible repeat (first | refine blk_drewN ?_ _ | refine blk_drew ?_ | refine blk_alloc ?_ _)); refine blk_far ?_ NB180_184.out _; (with_reducible repeat (first | refine blk_drewN ?_ _ | refine blk_drew ?_ | refine blk_alloc ?_ _)); refine blk_far ?_ NB180_184.out _; (with_reducible repeat (first | refine blk_drewN ?_ _ | refine blk_drew ?_ | refine blk_alloc ?_ _)); exact BK180.out⟩
   have n2_ : Aside0 (((((((((((w24.setCell ⟨gb184, 0, none⟩ (.int .i64 1)).setCell ⟨gb184, 1, none⟩ (.int .i64 a2_0)).setCell ⟨gb184, 2, none⟩ (.int .i64 a2_1)).setCell ⟨gb184, 3, none⟩ (.int .i64 a2_2)).setCell ⟨gb184, 4, none⟩ (.int .i64 a2_3)).setCell ⟨gb184, 0, none⟩ (.int .i64 2)).setCell ⟨gb184, 1, none⟩ (.int .i64 0)).setCell ⟨gb184, 2, none⟩ (.int .i64 0)).setCell ⟨gb184, 3, none⟩ (.int .i64 0)).setCell ⟨gb184, 4, none⟩ (.int .i64 0)).heap[gb184]? = some (.cells #[.int .i64 2, .int .i64 0, .int .i64 0, .int .i64 0, .int .i64 0] 32 (0, 0))) := ⟨by (with_reducible repeat (first | refine blk_drewN ?_ _ | refine blk_drew ?_ | refine blk_alloc ?_ _)); refine blk_put (cs := #[.int .i64 2, .int .i64 0, .int .i64 0, .int .i64 0, .int .i64 a2_3]) ?_ 4 _ rfl; (with_reducible repeat (first | refine blk_drewN ?_ _ | refine blk_drew ?_ | refine blk_alloc ?_ _)); refine blk_put (cs := #[.int .i64 2, .int .i64 0, .int .i64 0, .int .i64 a2_2, .int .i64 a2_3]) ?_ 3 _ rfl; (with_reducible repeat (first | refine blk_drewN ?_ _ | refine blk_drew ?_ | refine blk_alloc ?_ _)); refine blk_put (cs := #[.int .i64 2, .int .i64 0, .int .i64 a2_1, .int .i64 a2_2, .int .i64 a2_3]) ?_ 2 _ rfl; (with_reducible repeat (first | refine blk_drewN ?_ _ | refine blk_drew ?_ | refine blk_alloc ?_ _)); refine blk_put (cs := #[.int .i64 2, .int .i64 a2_0, .int .i64 a2_1, .int .i64 a2_2, .int .i64 a2_3]) ?_ 1 _ rfl; (with_reducible repeat (first | refine blk_drewN ?_ _ | refine blk_drew ?_ | refine blk_alloc ?_ _)); refine blk_put (cs := #[.int .i64 1, .int .i64 a2_0, .int .i64 a2_1, .int .i64 a2_2, .int .i64 a2_3]) ?_ 0 _ rfl; (with_reducible repeat (first | refine blk_drewN ?_ _ | refine blk_drew ?_ | refine blk_alloc ?_ _)); refine blk_put (cs := #[.int .i64 1, .int .i64 a2_0, .int .i64 a2_1, .int .i64 a2_2, .int .i64 0]) ?_ 4 _ rfl; (with_reducible repeat (first | refine blk_drewN ?_ _ | refine blk_drew ?_ | refine blk_alloc ?_ _)); refine blk_put (cs := #[.int .i64 1, .int .i64 a2_0, .int .i64 a2_1, .int .i64 0, .int .i64 0]) ?_ 3 _ rfl; (with_reducible repeat (first | refine blk_drewN ?_ _ | refine blk_drew ?_ | refine blk_alloc ?_ _)); refine blk_put (cs := #[.int .i64 1, .int .i64 a2_0, .int .i64 0, .int .i64 0, .int .i64 0]) ?_ 2 _ rfl; (with_reducible repeat (first | refine blk_drewN ?_ _ | refine blk_drew ?_ | refine blk_alloc ?_ _)); refine blk_put (cs := #[.int .i64 1, .int .i64 0, .int .i64 0, .int .i64 0, .int .i64 0]) ?_ 1 _ rfl; (with_reducible repeat (first | refine blk_drewN ?_ _ | refine blk_drew ?_ | refine blk_alloc ?_ _)); refine blk_put (cs := #[.int .i64 0, .int .i64 0, .int .i64 0, .int .i64 0, .int .i64 0]) ?_ 0 _ rfl; (with_reducible repeat (first | refine blk_drewN ?_ _ | refine blk_drew ?_ | refine blk_alloc ?_ _)); exact BK184.out⟩
   have n3_ : Aside0 (Kept w ((((((((((w24.setCell ⟨gb184, 0, none⟩ (.int .i64 1)).setCell ⟨gb184, 1, none⟩ (.int .i64 a2_0)).setCell ⟨gb184, 2, none⟩ (.int .i64 a2_1)).setCell ⟨gb184, 3, none⟩ (.int .i64 a2_2)).setCell ⟨gb184, 4, none⟩ (.int .i64 a2_3)).setCell ⟨gb184, 0, none⟩ (.int .i64 2)).setCell ⟨gb184, 1, none⟩ (.int .i64 0)).setCell ⟨gb184, 2, none⟩ (.int .i64 0)).setCell ⟨gb184, 3, none⟩ (.int .i64 0)).setCell ⟨gb184, 4, none⟩ (.int .i64 0)) (fun k_ => P0_ k_)) := ⟨by repeat (first | (with_reducible first | exact HK.out | apply Kept.alloc | apply Kept.drewN | apply Kept.drew | refine Kept.setCell ?_ (.inr GW180.out) _ | refine Kept.setCell ?_ (.inr GW184.out) _) | exact HK.out)⟩
   have n4_ : Aside0 (Below w0.heap.size w0 ((((((((((w24.setCell ⟨gb184, 0, none⟩ (.int .i64 1)).setCell ⟨gb184, 1, none⟩ (.int .i64 a2_0)).setCell ⟨gb184, 2, none⟩ (.int .i64 a2_1)).setCell ⟨gb184, 3, none⟩ (.int .i64 a2_2)).setCell ⟨gb184, 4, none⟩ (.int .i64 a2_3)).setCell ⟨gb184, 0, none⟩ (.int .i64 2)).setCell ⟨gb184, 1, none⟩ (.int .i64 0)).setCell ⟨gb184, 2, none⟩ (.int .i64 0)).setCell ⟨gb184, 3, none⟩ (.int .i64 0)).setCell ⟨gb184, 4, none⟩ (.int .i64 0))) := ⟨bg2 HB.out GE180.out GE184.out⟩
   (try clear HO_0)
   (try clear BK180)
   (try clear BK184)
   (try clear HK)
   (try clear HB)
   generalize ((((((((((w24.setCell ⟨gb184, 0, none⟩ (.int .i64 1)).setCell ⟨gb184, 1, none⟩ (.int .i64 a2_0)).setCell ⟨gb184, 2, none⟩ (.int .i64 a2_1)).setCell ⟨gb184, 3, none⟩ (.int .i64 a2_2)).setCell ⟨gb184, 4, none⟩ (.int .i64 a2_3)).setCell ⟨gb184, 0, none⟩ (.int .i64 2)).setCell ⟨gb184, 1, none⟩ (.int .i64 0)).setCell ⟨gb184, 2, none⟩ (.int .i64 0)).setCell ⟨gb184, 3, none⟩ (.int .i64 0)).setCell ⟨gb184, 4, none⟩ (.int .i64 0)) = w27 at n0_ n1_ n2_ n3_ n4_ ⊢
   have HO_0 := n0_
   have BK180 := n1_
   have BK184 := n2_
   have HK := n3_
   have HB := n4_
   clear n0_ n1_ n2_ n3_ n4_
   replace HO_0 := am (Kd.S_drew HO_0.out)
   replace BK180 := am (blk_drew BK180.out)
   replace BK184 := am (blk_drew BK184.out)
   replace HK := am (Kept.drew HK.out)
   replace HB := am (below_drew1 HB.out)
   have p185 : 0 ≤ (a1 : Int) := ofb
   have q185 : a1 < (l0.length : Int) := ofb
   obtain ⟨ad185, A185_0, c185_0, e185, hx185_0, hx185_1, hl185_0, hi185_0⟩ := at_T35 (Kd.S_reads' HO_0.out).2.2 a1 p185 q185
   obtain rfl : ad181 = ad185 := (by injection e185)
   obtain ⟨ce185, hce185, hMe185, hcc185⟩ := Kd.S_get HO_0.out z35 a1 p185 (by first | exact q185 | exact ofb | (have e_ := (Kd.S_reads' HO_0.out).1; omega))
   obtain ⟨ve185_0, rfl, ge185_0⟩ := k35_openM hMe185
   have hv185_0 := hcc185 0 _ rfl
   rw [Nat.add_zero] at hv185_0
   replace hv185_0 := Option.some.inj (hv185_0.symm.trans hx185_0)
   rw [hv185_0] at ge185_0
   have HL185_0 := am (show Kd.R k32 32 _ _ _ _ ((rd_T35 l0 a1).f0) from ge185_0)
   clear hv185_0 ge185_0
   have HX185_0 := am hx185_0
   clear hcc185 hce185
   have HR185_0 := am hi185_0
   have HC185_0 := am hl185_0
   clear hi185_0 hl185_0
   replace p185 := eq_true p185
   replace q185 := eq_true q185
   have p22 : 0 ≤ ((ji19) : Int) := ofb
   have q22 : ((ji19) : Int) < ((((rd_T35 l0 a1).f0).length : Int) : Int) := ofb
   obtain ⟨go22, co22, eo22, gb22, gl22, cl22, HG22⟩ := Kd.R_form HL185_0.out (by omega)
   (first | cases eo22 | (injection eo22 with ea_ en_ ec_; (first | subst ea_ | (injection ea_ with ea_; subst ea_)); subst ec_; clear en_))
   have GB22 := am gb22
   have GG22 := am HG22
   clear gb22 gl22 HG22
   have HMgo22 := am (show (P0_ go22 ∨ w.heap.size ≤ go22) from (HL185_0.out.1 _ rfl).1.1)
   obtain ⟨ce22, hcl22, hM22, hcc22, hfr22⟩ := Kd.R_elem HL185_0.out z32 ((ji19) : Int) p22 q22
   obtain rfl := k32_openM hM22
   have hx22_0 : World.cell? _ ⟨go22, ((ji19) : Int).toNat * 5, none⟩ = some (.int .i64 ((rd_T32 ((rd_T35 l0 a1).f0) (ji19)).f0)) := hcc22 0 _ rfl
   have hx22_1 : World.cell? _ ⟨go22, ((ji19) : Int).toNat * 5 + 1, none⟩ = some (.int .i64 ((rd_T32 ((rd_T35 l0 a1).f0) (ji19)).f1.f0)) := hcc22 1 _ rfl
   have hx22_2 : World.cell? _ ⟨go22, ((ji19) : Int).toNat * 5 + 2, none⟩ = some (.int .i64 ((rd_T32 ((rd_T35 l0 a1).f0) (ji19)).f1.f1)) := hcc22 2 _ rfl
   have hx22_3 : World.cell? _ ⟨go22, ((ji19) : Int).toNat * 5 + 3, none⟩ = some (.int .i64 ((rd_T32 ((rd_T35 l0 a1).f0) (ji19)).f1.f2)) := hcc22 3 _ rfl
   have hx22_4 : World.cell? _ ⟨go22, ((ji19) : Int).toNat * 5 + 4, none⟩ = some (.int .i64 ((rd_T32 ((rd_T35 l0 a1).f0) (ji19)).f1.f3)) := hcc22 4 _ rfl
   have hf22_0 : World.frozen? _ ⟨go22, ((ji19) : Int).toNat * 5, none⟩ = false := hfr22 0
   have hf22_1 : World.frozen? _ ⟨go22, ((ji19) : Int).toNat * 5 + 1, none⟩ = false := hfr22 1
   have hf22_2 : World.frozen? _ ⟨go22, ((ji19) : Int).toNat * 5 + 2, none⟩ = false := hfr22 2
   have hf22_3 : World.frozen? _ ⟨go22, ((ji19) : Int).toNat * 5 + 3, none⟩ = false := hfr22 3
   have hf22_4 : World.frozen? _ ⟨go22, ((ji19) : Int).toNat * 5 + 4, none⟩ = false := hfr22 4
   clear hcl22 hcc22 hfr22 hM22
   replace p22 := eq_true p22
   replace q22 := eq_true q22
   have hq29 : (a1 : Int) < (l0.length : Int) := (by have h_ : (a1 : Int) < ((l0.length : Int) : Int) := ofb; first | exact h_ | (have e_ := (Kd.S_reads' HO_0.out).1; omega) | simpa only [List.length_set, List.length_set] using h_)
   obtain ⟨oki29, ce29, hcl29, hM29, hcc29, hok29, hbk29⟩ := Kd.S_borrow HO_0.out z35 (a1 : Int) (ofb) hq29
   obtain ⟨ve29_0, rfl, ge29_0⟩ := k35_openM hM29
   have hv29 := hcc29 0 _ rfl
   rw [Nat.add_zero] at hv29
   replace hv29 := Option.some.inj (hv29.symm.trans HX185_0.out)
   subst hv29
   clear hcc29 hcl29
   replace ge29_0 := (show Kd.R k32 32 _ _ _ _ ((rd_T35 l0 a1).f0) from ge29_0)
   obtain ⟨cf29, hcl29, hN29, hcc29, hfr29⟩ := Kd.R_elem ge29_0 z32 ((ji19) : Int) (ofb) (by have h_ : ((ji19) : Int) < ((((rd_T35 l0 a1).f0).length : Int) : Int) := ofb; first | exact h_ | (have e_ := (Kd.R_reads' HR185_0.out).1; omega) | simpa using h_)
   obtain rfl := k32_openM hN29
   have HP29 := Kd.R_seg ge29_0 ((ji19) : Int) (ofb) (by have h_ : ((ji19) : Int) < ((((rd_T35 l0 a1).f0).length : Int) : Int) := ofb; first | exact h_ | (have e_ := (Kd.R_reads' HR185_0.out).1; omega) | simpa using h_) (seg := [.int .i64 2, .int .i64 0, .int .i64 0, .int .i64 0, .int .i64 0]) (j := 0) hcl29 hcc29 (show 5 ≤ 5 from by decide) (x' := (⟨2, (⟨0, 0, 0, 0⟩ : S30)⟩ : S32)) (k32_mkM _ _ _ (⟨2, (⟨0, 0, 0, 0⟩ : S30)⟩ : S32)) (fun _ hk => hk)
   clear hcl29 hcc29 hfr29 hN29
   rw [← Ny186.out] at HP29
   have HS29 := hbk29 HP29.2 (fun k_ e_ => by injection e_ with e_; subst e_; exact ge29_0.1 _ rfl) (x' := (⟨y186, (rd_T35 l0 a1).f1⟩ : S35)) (k35_mkM _ _ _ (⟨y186, (rd_T35 l0 a1).f1⟩ : S35) HP29.1)
   rw [← Ny188.out] at HS29
   have HQ29 := am HS29
   clear HP29 HS29 hbk29 hok29
   refine start_ (n := 10) (S := fun w' => w'.cell? ⟨gb184, 0, none⟩ = some (.int .i64 2) ∧ w'.cell? ⟨gb184, 1, none⟩ = some (.int .i64 0) ∧ w'.cell? ⟨gb184, 2, none⟩ = some (.int .i64 0) ∧ w'.cell? ⟨gb184, 3, none⟩ = some (.int .i64 0) ∧ w'.cell? ⟨gb184, 4, none⟩ = some (.int .i64 0) ∧ w'.cell? (ad181.add ((a1).toNat * 2)) = some (.slice (some ⟨go22, 0, none⟩) ((rd_T35 l0 a1).f0).length c185_0) ∧ w'.cell? ⟨(ad181.add ((a1).toNat * 2)).block, (ad181.add ((a1).toNat * 2)).off + 1, none⟩ = some (.int .i64 ((rd_T35 l0 a1).f1))) (ds := [9]) #[false, false, false, false, false, false, false, false, false, false] (by kernel_rfl) rfl rfl ⟨(blk_cell BK184.out 0).trans rfl, (blk_cell BK184.out 1).trans rfl, (blk_cell BK184.out 2).trans rfl, (blk_cell BK184.out 3).trans rfl, (blk_cell BK184.out 4).trans rfl, hx185_0, hx185_1⟩ (fun hHeld => ?_); refine with_tabW spec_l2Write.tab7 spec_l2Write.bits7 (fun HT_ HW_ => ?_)
   generalize w27.drew = w28 at HO_0 BK180 BK184 HK HB GG22 HL185_0 HQ29 HR185_0 HX185_0 hf22_0 hf22_1 hf22_2 hf22_3 hf22_4 hx185_0 hx185_1 hx22_0 hx22_1 hx22_2 hx22_3 hx22_4 hHeld ⊢
   refine pj_ 0 30 #[true, false, false, false, false, false, false, false, false, false] rfl rfl (any_of HT_.out (by kernel_rfl)) (fun _ _ _ h => h) ?_
   refine pj_ 1 31 #[true, true, false, false, false, false, false, false, false, false] rfl rfl (any_of HT_.out (by kernel_rfl)) (fun _ _ _ h => h) ?_
   refine pj_ 2 32 #[true, true, true, false, false, false, false, false, false, false] rfl rfl (any_of HT_.out (by kernel_rfl)) (fun _ _ _ h => h) ?_
   refine pj_ 3 33 #[true, true, true, true, false, false, false, false, false, false] rfl rfl (any_of HT_.out (by kernel_rfl)) (fun _ _ _ h => h) ?_
   refine pj_ 5 35 #[true, true, true, true, false, true, false, false, false, false] rfl rfl (any_of HT_.out (by kernel_rfl)) (fun _ _ _ h => h) ?_
   refine pj_ 6 36 #[true, true, true, true, false, true, true, false, false, false] rfl rfl (any_of HT_.out (by kernel_rfl)) (fun _ _ _ h => h) ?_
   refine pm_ 4 34 #[true, true, true, true, true, true, true, false, false, false] rfl rfl (take_ofW HT_.out HW_.out (by kernel_rfl)) (fun _ _ _ h => h) hHeld ?_
   refine pm_ 7 37 #[true, true, true, true, true, true, true, true, false, false] rfl rfl (take_ofW HT_.out HW_.out (by kernel_rfl)) (fun _ _ _ h => h) hHeld ?_
   refine pj_ 8 38 #[true, true, true, true, true, true, true, true, true, false] rfl rfl (any_of HT_.out (by kernel_rfl)) (fun _ _ _ h => h) ?_
   refine last_ (i := 9) (N := none) #[true, true, true, true, true, true, true, true, true, true] rfl rfl (one_of HT_.out (by kernel_rfl)) (by decide) (fun K hK => ?_)
   refine skip_ (w1 := ?_) (by rfl) rfl ?_ ?_
   rotate_left
   · go_simp
     rfl
   refine hK.out _ _ ?_
   clear hK K
   refine done_ (done_of HT_.out (by kernel_rfl)) ?_
   try go_wp2
   go_ret2
   exact ⟨_, by first | rfl | (simp [errW_none, errW_some] <;> rfl) | (simp only [← hji19]; first | rfl | (simp [errW_none, errW_some] <;> rfl)) | (simp [*, errW_none, errW_some] <;> rfl), by (with_reducible repeat (first | apply Kd.S_alloc | apply Kd.S_drewN | apply Kd.S_drew)); exact Kd.S_mono HQ29.out (fun _ hk => hk.1), by repeat (first | (with_reducible first | exact HB.out | apply below_alloc | apply pw_below_drewN | apply below_drew1 | refine below_set ?_ GB22.out | refine below_set ?_ GB22.out | refine below_set ?_ GB22.out | refine below_set ?_ GB22.out | refine below_set ?_ GB22.out | refine below_set ?_ GE180.out | refine below_set ?_ GE184.out) | exact HB.out), by repeat (first | (with_reducible first | exact HK.out | apply Kept.alloc | apply Kept.drewN | apply Kept.drew | refine Kept.setCell ?_ HMgo22.out _ | refine Kept.setCell ?_ HMgo22.out _ | refine Kept.setCell ?_ HMgo22.out _ | refine Kept.setCell ?_ HMgo22.out _ | refine Kept.setCell ?_ HMgo22.out _ | refine Kept.setCell ?_ (.inr GW180.out) _ | refine Kept.setCell ?_ (.inr GW184.out) _) | exact HK.out)⟩
end Go.Proofs.Ytcanhdofmbekeaa.Rp
