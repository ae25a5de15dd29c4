-- printed by wip/pp/pp.py
import Derived.Test.YtpdelojhomfakaaRo0
import Derived.Test.YtpdelojhomfakaaRo1
namespace Go.Proofs.Ytpdelojhomfakaa.Ro
open Go.RowKit Go.Proofs.YtpdelojhomfakaaW.PrintWords Go.Proofs.YtpdelojhomfakaaW.PrintLast Go.Proofs.YtpdelojhomfakaaW.PrintMore
attribute [local go_sem] max2_int min2_int max_two min_two max_three min_three max_four min_four
set_option linter.unusedVariables false
set_option linter.unusedSimpArgs false
def spec_RecOk.f (a0_0 : Int) (a0_1 : Int) (a0_2 : Int) (a0_3 : Int) : Option (Bool) := (spec_l6In.f a0_0 1 2).bind fun t194 => (if t194 = true then ((spec_l6In.f a0_1 1 600).bind fun t195 => (if t195 = true then ((spec_l6In.f a0_2 1 6).bind fun t196 => (if t196 = true then ((spec_l6In.f a0_3 0 9).bind fun t197 => (some t197)) else (some false))) else (some false))) else (some false))
set_option maxHeartbeats 8000000 in
set_option maxRecDepth 100000 in
theorem spec_RecOk.calls (a0_0 : Int) (a0_1 : Int) (a0_2 : Int) (a0_3 : Int) (r : Bool) (w : World) (h : spec_RecOk.f a0_0 a0_1 a0_2 a0_3 = some r) :
 Calls Try.prog 24 #[.agg #[.int .i64 a0_0, .int .i64 a0_1, .int .i64 a0_2, .int .i64 a0_3]] w fun e w' => e = .returned (.bool r) ∧ Below w.heap.size w w' := by
 have hu41 := Try.underlying41
 have HB := am (Below.refl w.heap.size w)
 have H : ((spec_l6In.f a0_0 1 2).bind fun t194 => (if t194 = true then ((spec_l6In.f a0_1 1 600).bind fun t195 => (if t195 = true then ((spec_l6In.f a0_2 1 6).bind fun t196 => (if t196 = true then ((spec_l6In.f a0_3 0 9).bind fun t197 => (some t197)) else (some false))) else (some false))) else (some false))) = some r := h
 clear h
 replace H := Option.bind_eq_some_iff.mp H
 obtain ⟨t194, A20, H⟩ := H
 replace H : (if t194 = true then ((spec_l6In.f a0_1 1 600).bind fun t195 => (if t195 = true then ((spec_l6In.f a0_2 1 6).bind fun t196 => (if t196 = true then ((spec_l6In.f a0_3 0 9).bind fun t197 => (some t197)) else (some false))) else (some false))) else (some false)) = some r := H
 have A2 := am A20
 clear A20
 by_cases c3 : t194 = true
 rotate_left
 · replace c3 := Bool.eq_false_iff.mpr c3
   subst c3
   have H1 : (some false) = some r := by rw [if_neg (show ¬ (false = true) by decide)] at H; exact H
   clear H
   have H := H1
   clear H1
   obtain rfl := Option.some.inj H
   go_enter Try.func24, Try.ntmps24
   go_wp2_with (first | (refine bx 1 #[.int .i64 a0_0, .int .i64 a0_1, .int .i64 a0_2, .int .i64 a0_3] 41 rfl ?_; intro gb193 hg w15 hbox hb; have BK193 := am (hbox); have GW193 := am ((by rw [hg]; exact (below_size (ph HB.out)) : w.heap.size ≤ gb193)); have GE193 := GW193; replace HB := am (below_step (ph HB.out) hb); clear hb hbox hg; obtain ⟨hcz16_0, hcz16_1, hcz16_2, hcz16_3⟩ := b4 BK193.out; obtain ⟨hfz16_0, hfz16_1, hfz16_2, hfz16_3⟩ := f4 BK193.out) | (refine gl 5 Try.func15 #[.int .i64 a0_0, .int .i64 1, .int .i64 2] rfl ?_; (with_reducible refine (spec_l6In.calls a0_0 1 2 false _ A2.out).mono ?_); rintro e w' ⟨rfl, ⟨nd, rfl⟩⟩; refine ⟨_, rfl, ?_⟩))
   go_ret
   exact (rq (bg1 HB.out GE193.out))
 subst c3
 have H1 : ((spec_l6In.f a0_1 1 600).bind fun t195 => (if t195 = true then ((spec_l6In.f a0_2 1 6).bind fun t196 => (if t196 = true then ((spec_l6In.f a0_3 0 9).bind fun t197 => (some t197)) else (some false))) else (some false))) = some r := by rw [if_pos rfl] at H; exact H
 clear H
 have H := H1
 clear H1
 replace H := Option.bind_eq_some_iff.mp H
 obtain ⟨t195, A40, H⟩ := H
 replace H : (if t195 = true then ((spec_l6In.f a0_2 1 6).bind fun t196 => (if t196 = true then ((spec_l6In.f a0_3 0 9).bind fun t197 => (some t197)) else (some false))) else (some false)) = some r := H
 have A4 := am A40
 clear A40
 by_cases c5 : t195 = true
 rotate_left
 · replace c5 := Bool.eq_false_iff.mpr c5
   subst c5
   have H1 : (some false) = some r := by rw [if_neg (show ¬ (false = true) by decide)] at H; exact H
   clear H
   have H := H1
   clear H1
   obtain rfl := Option.some.inj H
   go_enter Try.func24, Try.ntmps24
   go_wp2_with (first | (refine bx 1 #[.int .i64 a0_0, .int .i64 a0_1, .int .i64 a0_2, .int .i64 a0_3] 41 rfl ?_; intro gb193 hg w13 hbox hb; have BK193 := am (hbox); have GW193 := am ((by rw [hg]; exact (below_size (ph HB.out)) : w.heap.size ≤ gb193)); have GE193 := GW193; replace HB := am (below_step (ph HB.out) hb); clear hb hbox hg; obtain ⟨hcz14_0, hcz14_1, hcz14_2, hcz14_3⟩ := b4 BK193.out; obtain ⟨hfz14_0, hfz14_1, hfz14_2, hfz14_3⟩ := f4 BK193.out) | (refine gl 5 Try.func15 #[.int .i64 a0_0, .int .i64 1, .int .i64 2] rfl ?_; (with_reducible refine (spec_l6In.calls a0_0 1 2 true _ A2.out).mono ?_); rintro e w' ⟨rfl, ⟨nd, rfl⟩⟩; refine ⟨_, rfl, ?_⟩) | (go_at_call 15; (with_reducible refine (spec_l6In.calls a0_1 1 600 false _ A4.out).mono ?_); rintro e w' ⟨rfl, ⟨nd, rfl⟩⟩))
   go_ret
   exact (rq (bg1 HB.out GE193.out))
 subst c5
 have H1 : ((spec_l6In.f a0_2 1 6).bind fun t196 => (if t196 = true then ((spec_l6In.f a0_3 0 9).bind fun t197 => (some t197)) else (some false))) = some r := by rw [if_pos rfl] at H; exact H
 clear H
 have H := H1
 clear H1
 replace H := Option.bind_eq_some_iff.mp H
 obtain ⟨t196, A60, H⟩ := H
 replace H : (if t196 = true then ((spec_l6In.f a0_3 0 9).bind fun t197 => (some t197)) else (some false)) = some r := H
 have A6 := am A60
 clear A60
 by_cases c7 : t196 = true
 rotate_left
 · replace c7 := Bool.eq_false_iff.mpr c7
   subst c7
   have H1 : (some false) = some r := by rw [if_neg (show ¬ (false = true) by decide)] at H; exact H
   clear H
   have H := H1
   clear H1
   obtain rfl := Option.some.inj H
   go_enter Try.func24, Try.ntmps24
   go_wp2_with (first | (refine bx 1 #[.int .i64 a0_0, .int .i64 a0_1, .int .i64 a0_2, .int .i64 a0_3] 41 rfl ?_; intro gb193 hg w11 hbox hb; have BK193 := am (hbox); have GW193 := am ((by rw [hg]; exact (below_size (ph HB.out)) : w.heap.size ≤ gb193)); have GE193 := GW193; replace HB := am (below_step (ph HB.out) hb); clear hb hbox hg; obtain ⟨hcz12_0, hcz12_1, hcz12_2, hcz12_3⟩ := b4 BK193.out; obtain ⟨hfz12_0, hfz12_1, hfz12_2, hfz12_3⟩ := f4 BK193.out) | (refine gl 5 Try.func15 #[.int .i64 a0_0, .int .i64 1, .int .i64 2] rfl ?_; (with_reducible refine (spec_l6In.calls a0_0 1 2 true _ A2.out).mono ?_); rintro e w' ⟨rfl, ⟨nd, rfl⟩⟩; refine ⟨_, rfl, ?_⟩) | (go_at_call 15; (with_reducible refine (spec_l6In.calls a0_1 1 600 true _ A4.out).mono ?_); rintro e w' ⟨rfl, ⟨nd, rfl⟩⟩) | (go_at_call 15; (with_reducible refine (spec_l6In.calls a0_2 1 6 false _ A6.out).mono ?_); rintro e w' ⟨rfl, ⟨nd, rfl⟩⟩))
   go_ret
   exact (rq (bg1 HB.out GE193.out))
 subst c7
 have H1 : ((spec_l6In.f a0_3 0 9).bind fun t197 => (some t197)) = some r := by rw [if_pos rfl] at H; exact H
 clear H
 have H := H1
 clear H1
 replace H := Option.bind_eq_some_iff.mp H
 obtain ⟨t197, A80, H⟩ := H
 replace H : (some t197) = some r := H
 have A8 := am A80
 clear A80
 obtain rfl := Option.some.inj H
 go_enter Try.func24, Try.ntmps24
 go_wp2_with (first | (refine bx 1 #[.int .i64 a0_0, .int .i64 a0_1, .int .i64 a0_2, .int .i64 a0_3] 41 rfl ?_; intro gb193 hg w9 hbox hb; have BK193 := am (hbox); have GW193 := am ((by rw [hg]; exact (below_size (ph HB.out)) : w.heap.size ≤ gb193)); have GE193 := GW193; replace HB := am (below_step (ph HB.out) hb); clear hb hbox hg; obtain ⟨hcz10_0, hcz10_1, hcz10_2, hcz10_3⟩ := b4 BK193.out; obtain ⟨hfz10_0, hfz10_1, hfz10_2, hfz10_3⟩ := f4 BK193.out) | (refine gl 5 Try.func15 #[.int .i64 a0_0, .int .i64 1, .int .i64 2] rfl ?_; (with_reducible refine (spec_l6In.calls a0_0 1 2 true _ A2.out).mono ?_); rintro e w' ⟨rfl, ⟨nd, rfl⟩⟩; refine ⟨_, rfl, ?_⟩) | (go_at_call 15; (with_reducible refine (spec_l6In.calls a0_1 1 600 true _ A4.out).mono ?_); rintro e w' ⟨rfl, ⟨nd, rfl⟩⟩) | (go_at_call 15; (with_reducible refine (spec_l6In.calls a0_2 1 6 true _ A6.out).mono ?_); rintro e w' ⟨rfl, ⟨nd, rfl⟩⟩) | (go_at_call 15; (with_reducible refine (spec_l6In.calls a0_3 0 9 t197 _ A8.out).mono ?_); rintro e w' ⟨rfl, ⟨nd, rfl⟩⟩))
 go_ret
 exact (rq (bg1 HB.out GE193.out))
def spec_l3Most.l0 : Nat → Int → Int → List (S43) → Int → Option (Int)
 | 0, _, _, _, _ => none
 | k + 1, x3, x4, x199000, x199001 => if x4 < (x199000.length : Int) then (if 0 ≤ x4 then (spec_l3Most.l0 k (mx x3 ((rd_T43 x199000 x4).f1.f1)) (wrap64 (x4 + 1)) x199000 x199001) else (none)) else (some x3)
def spec_l3Most.f (k : Nat) (l0_0 : List (S43)) (a0_1 : Int) : Option (Int) := spec_l3Most.l0 k 0 0 l0_0 a0_1
theorem spec_l3Most.mono_l : ∀ k, (∀ y0 y1 y2 y3, LeO (spec_l3Most.l0 k y0 y1 y2 y3) (spec_l3Most.l0 (k + 1) y0 y1 y2 y3))
 | 0 => fun _ _ _ _ r h => by simp [spec_l3Most.l0] at h
 | k + 1 => by
  have ih0 := spec_l3Most.mono_l k
  · intro y0 y1 y2 y3
    unfold spec_l3Most.l0
    repeat' first
    | (with_reducible exact ih0 _ _ _ _)
    | (with_reducible exact LeO.refl _)
    | (with_reducible exact LeO.none _)
    | (with_reducible refine LeO.ite ?_ ?_)
    | (with_reducible refine LeO.bind ?_ (fun _ => ?_))
    | exact ih0 _ _ _ _
    | exact LeO.none _
    | refine LeO.ite ?_ ?_
    | refine LeO.bind ?_ (fun _ => ?_)
theorem spec_l3Most.mono : ∀ a0 a1 k, LeO (spec_l3Most.f k a0 a1) (spec_l3Most.f (k + 1) a0 a1) := by
 intro a0 a1 k
 have ih0 := spec_l3Most.mono_l k
 unfold spec_l3Most.f
 repeat' first
  | (with_reducible exact ih0 _ _ _ _)
  | (with_reducible exact LeO.refl _)
  | (with_reducible exact LeO.none _)
  | (with_reducible refine LeO.ite ?_ ?_)
  | (with_reducible refine LeO.bind ?_ (fun _ => ?_))
  | exact ih0 _ _ _ _
  | exact LeO.none _
  | refine LeO.ite ?_ ?_
  | refine LeO.bind ?_ (fun _ => ?_)
set_option maxHeartbeats 8000000 in
set_option maxRecDepth 100000 in
theorem spec_l3Most.calls (k : Nat) (A0_0 : Option Addr) (c0_0 : Nat) (l0_0 : List (S43)) (a0_1 : Int) (r : Int) (w : World) (hr0_0 : Kd.C k43 w A0_0 l0_0.length l0_0) (hc0_0 : l0_0.length ≤ c0_0) (h : spec_l3Most.f k l0_0 a0_1 = some r) :
 Calls Try.prog 48 #[.agg #[.slice A0_0 l0_0.length c0_0, .int .i64 a0_1]] w fun e w' => e = .returned (.int .i64 r) ∧ Below w.heap.size w w' := by
 have hu31 := Try.underlying31
 have HR0_0 := am hr0_0
 have HC0_0 := am hc0_0
 clear hr0_0 hc0_0
 have HB := am (Below.refl w.heap.size w)
 have H : (spec_l3Most.l0 k 0 0 l0_0 a0_1) = some r := h
 clear h
 have H' := am H
 clear H
 go_enter Try.func48, Try.ntmps48
 go_wp2_with (first | (refine bx 1 #[.slice A0_0 l0_0.length c0_0, .int .i64 a0_1] 31 rfl ?_; intro gb198 hg w2 hbox hb; have BK198 := am (hbox); have GW198 := am ((by rw [hg]; exact (below_size (ph HB.out)) : w.heap.size ≤ gb198)); have GE198 := GW198; replace HB := am (below_step (ph HB.out) hb); clear hb hbox hg))
 go_loopg [3, 4] k (fun kq v3 v4 w' => ∃ (x3_1 : Int) (x4_1 : Int), v3 = .int .i64 x3_1 ∧ v4 = .int .i64 x4_1 ∧ Aside0 (spec_l3Most.l0 kq x3_1 x4_1 l0_0 a0_1 = some r) ∧ Aside0 (kq ≤ k) ∧ Aside0 (w'.heap[gb198]? = some (.cells #[(.slice A0_0 l0_0.length c0_0), .int .i64 a0_1] 31 (0, 0))) ∧ Aside0 (Below w.heap.size w w'))
 case atStart => exact ⟨(0), (0), rf, rf, H', ⟨Nat.le_refl _⟩, ⟨pb BK198.out⟩, ⟨bg1 HB.out GE198.out⟩⟩
 case round =>
  clear H'
  obtain ⟨x3_1, x4_1, rfl, rfl, HA, HK1, BK198, HB⟩ := hrel
  cases gk with
  | zero => exact absurd HA.out (by simp [spec_l3Most.l0])
  | succ k1 =>
   have H := HA.out
   clear HA
   simp only [spec_l3Most.l0] at H
   by_cases c3 : x4_1 < (l0_0.length : Int)
   rotate_left
   · rw [if_neg c3] at H
     have c3b0 := decide_eq_false c3
     clear c3
     obtain rfl := Option.some.inj H
     obtain ⟨hcz7_0, hcz7_1⟩ := b2 BK198.out
     obtain ⟨hfz7_0, hfz7_1⟩ := f2 BK198.out
     go_wp2
     go_ret
     exact (rq (bg1 HB.out GE198.out))
   rw [if_pos c3] at H
   have c3b0 := decide_eq_true c3
   clear c3
   by_cases c4 : 0 ≤ x4_1
   rotate_left
   · rw [if_neg c4] at H
     exact absurd H (by simp)
   rw [if_pos c4] at H
   have c4b0 := decide_eq_true c4
   clear c4
   obtain ⟨ji5, hji5⟩ : ∃ j_ : Int, (mx x3_1 ((rd_T43 l0_0 x4_1).f1.f1)) = j_ := ⟨_, rfl⟩
   replace H : (spec_l3Most.l0 k1 ji5 (wrap64 (x4_1 + 1)) l0_0 a0_1) = some r := by first | (rw [hji5] at H; exact H) | (simp only [hji5] at H ⊢; exact H)
   have hji5_ : (if x3_1 < ((rd_T43 l0_0 x4_1).f1.f1) then ((rd_T43 l0_0 x4_1).f1.f1) else x3_1) = ji5 := hji5
   have H' := am H
   clear H
   obtain ⟨hcz6_0, hcz6_1⟩ := b2 BK198.out
   obtain ⟨hfz6_0, hfz6_1⟩ := f2 BK198.out
   have p199 : 0 ≤ (x4_1 : Int) := ofb
   have q199 : x4_1 < (l0_0.length : Int) := ofb
   obtain ⟨ad199, e199, hx199_0, hx199_1, hx199_2, hx199_3, hx199_4⟩ := at_T43 HR0_0.out x4_1 p199 q199
   cases e199
   replace hx199_0 := up HB.out hx199_0
   replace hx199_1 := up HB.out hx199_1
   replace hx199_2 := up HB.out hx199_2
   replace hx199_3 := up HB.out hx199_3
   replace hx199_4 := up HB.out hx199_4
   replace p199 := eq_true p199
   replace q199 := eq_true q199
   go_wp2
   go_roundg k1
   case measure => have := HK1.out; omega
   case rel => exact ⟨(ji5), (wrap64 (x4_1 + 1)), (by first | rfl | (simp; done) | (simp only [← hji5] <;> (first | rfl | simp)) | (simp [*]; done)), rf, H', ⟨by have := HK1.out; omega⟩, ⟨pb BK198.out⟩, ⟨bg1 HB.out GE198.out⟩⟩
def spec_l3Next.l0 : Nat → List (S31) → Int → Int → Option (Int)
 | 0, _, _, _ => none
 | k + 1, x0, x3, x4 => if x4 < (x0.length : Int) then (if 0 ≤ x4 then ((spec_l3Most.f k ((rd_T31 x0 x4).f0) ((rd_T31 x0 x4).f1)).bind fun t201 => (spec_l3Next.l0 k x0 (mx x3 t201) (wrap64 (x4 + 1)))) else (none)) else (some (wrap64 (x3 + 1)))
def spec_l3Next.f (k : Nat) (l0 : List (S31)) : Option (Int) := spec_l3Next.l0 k l0 0 0
theorem spec_l3Next.mono_l : ∀ k, (∀ y0 y1 y2, LeO (spec_l3Next.l0 k y0 y1 y2) (spec_l3Next.l0 (k + 1) y0 y1 y2))
 | 0 => fun _ _ _ r h => by simp [spec_l3Next.l0] at h
 | k + 1 => by
  have ih0 := spec_l3Next.mono_l k
  · intro y0 y1 y2
    unfold spec_l3Next.l0
    repeat' first
    | (with_reducible exact ih0 _ _ _)
    | (with_reducible exact spec_l3Most.mono _ _ _)
    | (with_reducible exact LeO.refl _)
    | (with_reducible exact LeO.none _)
    | (with_reducible refine LeO.ite ?_ ?_)
    | (with_reducible refine LeO.bind ?_ (fun _ => ?_))
    | exact ih0 _ _ _
    | exact spec_l3Most.mono _ _ _
    | exact LeO.none _
    | refine LeO.ite ?_ ?_
    | refine LeO.bind ?_ (fun _ => ?_)
theorem spec_l3Next.mono : ∀ a0 k, LeO (spec_l3Next.f k a0) (spec_l3Next.f (k + 1) a0) := by
 intro a0 k
 have ih0 := spec_l3Next.mono_l k
 unfold spec_l3Next.f
 repeat' first
  | (with_reducible exact ih0 _ _ _)
  | (with_reducible exact spec_l3Most.mono _ _ _)
  | (with_reducible exact LeO.refl _)
  | (with_reducible exact LeO.none _)
  | (with_reducible refine LeO.ite ?_ ?_)
  | (with_reducible refine LeO.bind ?_ (fun _ => ?_))
  | exact ih0 _ _ _
  | exact spec_l3Most.mono _ _ _
  | exact LeO.none _
  | refine LeO.ite ?_ ?_
  | refine LeO.bind ?_ (fun _ => ?_)
set_option maxHeartbeats 8000000 in
set_option maxRecDepth 100000 in
theorem spec_l3Next.calls (k : Nat) (A0 : Option Addr) (c0 : Nat) (l0 : List (S31)) (r : Int) (w : World) (hr0 : Kd.C k31 w A0 l0.length l0) (hc0 : l0.length ≤ c0) (h : spec_l3Next.f k l0 = some r) :
 Calls Try.prog 44 #[.slice A0 l0.length c0] w fun e w' => e = .returned (.int .i64 r) ∧ Below w.heap.size w w' := by
 have hu31 := Try.underlying31
 have HR0 := am hr0
 have HC0 := am hc0
 clear hr0 hc0
 have HB := am (Below.refl w.heap.size w)
 have H : (spec_l3Next.l0 k l0 0 0) = some r := h
 clear h
 have H' := am H
 clear H
 go_enter Try.func44, Try.ntmps44
 go_wp2
 go_loopg [3, 4] k (fun kq v3 v4 w' => ∃ (x3_1 : Int) (x4_1 : Int), v3 = .int .i64 x3_1 ∧ v4 = .int .i64 x4_1 ∧ Aside0 (spec_l3Next.l0 kq l0 x3_1 x4_1 = some r) ∧ Aside0 (kq ≤ k) ∧ Aside0 (Below w.heap.size w w'))
 case atStart => exact ⟨(0), (0), rf, rf, H', ⟨Nat.le_refl _⟩, ⟨ph HB.out⟩⟩
 case round =>
  clear H'
  obtain ⟨x3_1, x4_1, rfl, rfl, HA, HK1, HB⟩ := hrel
  cases gk with
  | zero => exact absurd HA.out (by simp [spec_l3Next.l0])
  | succ k1 =>
   have H := HA.out
   clear HA
   simp only [spec_l3Next.l0] at H
   by_cases c2 : x4_1 < (l0.length : Int)
   rotate_left
   · rw [if_neg c2] at H
     have c2b0 := decide_eq_false c2
     clear c2
     obtain rfl := Option.some.inj H
     go_wp2
     go_ret
     exact (rq (ph HB.out))
   rw [if_pos c2] at H
   have c2b0 := decide_eq_true c2
   clear c2
   by_cases c3 : 0 ≤ x4_1
   rotate_left
   · rw [if_neg c3] at H
     exact absurd H (by simp)
   rw [if_pos c3] at H
   have c3b0 := decide_eq_true c3
   clear c3
   replace H := Option.bind_eq_some_iff.mp H
   obtain ⟨t201, A40, H⟩ := H
   replace H : (spec_l3Next.l0 k1 l0 (mx x3_1 t201) (wrap64 (x4_1 + 1))) = some r := H
   have A4 := am A40
   clear A40
   obtain ⟨ji5, hji5⟩ : ∃ j_ : Int, (mx x3_1 t201) = j_ := ⟨_, rfl⟩
   replace H : (spec_l3Next.l0 k1 l0 ji5 (wrap64 (x4_1 + 1))) = some r := by first | (rw [hji5] at H; exact H) | (simp only [hji5] at H ⊢; exact H)
   (try rw [hji5] at A4)
   have hji5_ : (if x3_1 < t201 then t201 else x3_1) = ji5 := hji5
   have H' := am H
   clear H
   have p200 : 0 ≤ (x4_1 : Int) := ofb
   have q200 : x4_1 < (l0.length : Int) := ofb
   obtain ⟨ad200, A200_0, c200_0, e200, hx200_0, hx200_1, hl200_0, hi200_0⟩ := at_T31 HR0.out x4_1 p200 q200
   cases e200
   replace hx200_0 := up HB.out hx200_0
   replace hx200_1 := up HB.out hx200_1
   have HR200_0 := am hi200_0
   have HC200_0 := am hl200_0
   clear hi200_0 hl200_0
   replace p200 := eq_true p200
   replace q200 := eq_true q200
   go_wp2_with (first | (refine gl 16 Try.func48 #[.agg #[.slice A200_0 ((rd_T31 l0 x4_1).f0).length c200_0, .int .i64 ((rd_T31 l0 x4_1).f1)]] rfl ?_; (with_reducible refine (spec_l3Most.calls k1 _ _ ((rd_T31 l0 x4_1).f0) ((rd_T31 l0 x4_1).f1) t201 _ ?side1 ?side2 A4.out).mono ?_); (case side1 => exact pc (Kd.C_below HR200_0.out HB.out)); (case side2 => exact HC200_0.out); rintro e w6 ⟨rfl, hb⟩; refine ⟨_, rfl, ?_⟩; replace HB := am (below_step (ph HB.out) hb); (try clear hb); (try clear hb2); (try clear hk); (try clear hi)))
   go_roundg k1
   case measure => have := HK1.out; omega
   case rel => exact ⟨(ji5), (wrap64 (x4_1 + 1)), (by first | rfl | (simp; done) | (simp only [← hji5] <;> (first | rfl | simp)) | (simp [*]; done)), rf, H', ⟨by have := HK1.out; omega⟩, ⟨ph HB.out⟩⟩
mutual
def spec_l3Open.l0 : Nat → List (S31) → Int → Int → Option (Int × Bool)
 | 0, _, _, _ => none
 | k + 1, x0, x4, x5 => if x5 < (x0.length : Int) then (if 0 ≤ x5 then ((spec_l2Clean.f k ((rd_T31 x0 x5).f0) ((rd_T31 x0 x5).f1)).bind fun t203 => (if t203 > 0 then (spec_l3Open.j1 k x0 x4 x5 t203 (decide (t203 < 4))) else (spec_l3Open.j1 k x0 x4 x5 t203 false))) else (none)) else (some (mx x4 0, decide (x4 ≥ 0)))
def spec_l3Open.j1 : Nat → List (S31) → Int → Int → Int → Bool → Option (Int × Bool)
 | 0, _, _, _, _, _ => none
 | k + 1, x0, x4, x5, x6, x23 => if x23 = true then (some (x5, true)) else (if x6 > 0 then (if x4 < 0 then (spec_l3Open.l0 k x0 x5 (wrap64 (x5 + 1))) else (if 0 ≤ x5 then (if x5 < (x0.length : Int) then (if 0 ≤ x4 then (if x4 < (x0.length : Int) then (if ((rd_T31 x0 x5).f1) < ((rd_T31 x0 x4).f1) then (spec_l3Open.l0 k x0 x5 (wrap64 (x5 + 1))) else (spec_l3Open.l0 k x0 x4 (wrap64 (x5 + 1)))) else (none)) else (none)) else (none)) else (none))) else (spec_l3Open.l0 k x0 x4 (wrap64 (x5 + 1))))
end
def spec_l3Open.f (k : Nat) (l0 : List (S31)) : Option (Int × Bool) := spec_l3Open.l0 k l0 (-1) 0
theorem spec_l3Open.mono_l : ∀ k, (∀ y0 y1 y2, LeO (spec_l3Open.l0 k y0 y1 y2) (spec_l3Open.l0 (k + 1) y0 y1 y2)) ∧ (∀ y0 y1 y2 y3 y4, LeO (spec_l3Open.j1 k y0 y1 y2 y3 y4) (spec_l3Open.j1 (k + 1) y0 y1 y2 y3 y4))
 | 0 => ⟨fun _ _ _ r h => by simp [spec_l3Open.l0] at h, fun _ _ _ _ _ r h => by simp [spec_l3Open.j1] at h⟩
 | k + 1 => by
  obtain ⟨ih0, ih1⟩ := spec_l3Open.mono_l k
  refine ⟨?_, ?_⟩
  · intro y0 y1 y2
    unfold spec_l3Open.l0
    repeat' first
    | (with_reducible exact ih0 _ _ _)
    | (with_reducible exact ih1 _ _ _ _ _)
    | (with_reducible exact spec_l2Clean.mono _ _ _)
    | (with_reducible exact LeO.refl _)
    | (with_reducible exact LeO.none _)
    | (with_reducible refine LeO.ite ?_ ?_)
    | (with_reducible refine LeO.bind ?_ (fun _ => ?_))
    | exact ih0 _ _ _
    | exact ih1 _ _ _ _ _
    | exact spec_l2Clean.mono _ _ _
    | exact LeO.none _
    | refine LeO.ite ?_ ?_
    | refine LeO.bind ?_ (fun _ => ?_)
  · intro y0 y1 y2 y3 y4
    unfold spec_l3Open.j1
    repeat' first
    | (with_reducible exact ih0 _ _ _)
    | (with_reducible exact ih1 _ _ _ _ _)
    | (with_reducible exact spec_l2Clean.mono _ _ _)
    | (with_reducible exact LeO.refl _)
    | (with_reducible exact LeO.none _)
    | (with_reducible refine LeO.ite ?_ ?_)
    | (with_reducible refine LeO.bind ?_ (fun _ => ?_))
    | exact ih0 _ _ _
    | exact ih1 _ _ _ _ _
    | exact spec_l2Clean.mono _ _ _
    | exact LeO.none _
    | refine LeO.ite ?_ ?_
    | refine LeO.bind ?_ (fun _ => ?_)
theorem spec_l3Open.mono : ∀ a0 k, LeO (spec_l3Open.f k a0) (spec_l3Open.f (k + 1) a0) := by
 intro a0 k
 obtain ⟨ih0, ih1⟩ := spec_l3Open.mono_l k
 unfold spec_l3Open.f
 repeat' first
  | (with_reducible exact ih0 _ _ _)
  | (with_reducible exact ih1 _ _ _ _ _)
  | (with_reducible exact spec_l2Clean.mono _ _ _)
  | (with_reducible exact LeO.refl _)
  | (with_reducible exact LeO.none _)
  | (with_reducible refine LeO.ite ?_ ?_)
  | (with_reducible refine LeO.bind ?_ (fun _ => ?_))
  | exact ih0 _ _ _
  | exact ih1 _ _ _ _ _
  | exact spec_l2Clean.mono _ _ _
  | exact LeO.none _
  | refine LeO.ite ?_ ?_
  | refine LeO.bind ?_ (fun _ => ?_)
set_option maxHeartbeats 8000000 in
set_option maxRecDepth 100000 in
theorem spec_l3Open.calls (k : Nat) (A0 : Option Addr) (c0 : Nat) (l0 : List (S31)) (r1 : Int) (r2 : Bool) (w : World) (hr0 : Kd.C k31 w A0 l0.length l0) (hc0 : l0.length ≤ c0) (h : spec_l3Open.f k l0 = some (r1, r2)) :
 Calls Try.prog 11 #[.slice A0 l0.length c0] w fun e w' => e = .returned (.tuple #[.int .i64 r1, .bool r2]) ∧ Below w.heap.size w w' := by
 have hu31 := Try.underlying31
 have HR0 := am hr0
 have HC0 := am hc0
 clear hr0 hc0
 have HB := am (Below.refl w.heap.size w)
 have H : (spec_l3Open.l0 k l0 (-1) 0) = some (r1, r2) := h
 clear h
 have H' := am H
 clear H
 go_enter Try.func11, Try.ntmps11
 go_wp2
 repeat (go_quiet (fail); try go_wp2)
 go_loopg [4, 5] k (fun kq v4 v5 w' => ∃ (x4_1 : Int) (x5_1 : Int), v4 = .int .i64 x4_1 ∧ v5 = .int .i64 x5_1 ∧ Aside0 (spec_l3Open.l0 kq l0 x4_1 x5_1 = some (r1, r2)) ∧ Aside0 (kq ≤ k) ∧ Aside0 (Below w.heap.size w w'))
 case atStart => exact ⟨((-1)), (0), rf, rf, H', ⟨Nat.le_refl _⟩, ⟨ph HB.out⟩⟩
 case round =>
  clear H'
  obtain ⟨x4_1, x5_1, rfl, rfl, HA, HK1, HB⟩ := hrel
  cases gk with
  | zero => exact absurd HA.out (by simp [spec_l3Open.l0])
  | succ k1 =>
   have H := HA.out
   clear HA
   simp only [spec_l3Open.l0] at H
   by_cases c2 : x5_1 < (l0.length : Int)
   rotate_left
   · rw [if_neg c2] at H
     have c2b0 := decide_eq_false c2
     clear c2
     obtain ⟨ji16, hji16⟩ : ∃ j_ : Int, (mx x4_1 0) = j_ := ⟨_, rfl⟩
     replace H : (some (ji16, decide (x4_1 ≥ 0))) = some (r1, r2) := by first | (rw [hji16] at H; exact H) | (simp only [hji16] at H ⊢; exact H)
     have hji16_ : (if x4_1 < 0 then 0 else x4_1) = ji16 := hji16
     simp only [Option.some.injEq, Prod.mk.injEq] at H
     obtain ⟨rfl, rfl⟩ := H
     go_wp2
     repeat (go_quiet (fail); try go_wp2)
     go_ret2
     exact ⟨by first | rfl | (simp [errW_none, errW_some] <;> rfl) | (simp only [← hji16]; first | rfl | (simp [errW_none, errW_some] <;> rfl)) | (simp [*, errW_none, errW_some] <;> rfl), ph HB.out⟩
   rw [if_pos c2] at H
   have c2b0 := decide_eq_true c2
   clear c2
   by_cases c3 : 0 ≤ x5_1
   rotate_left
   · rw [if_neg c3] at H
     exact absurd H (by simp)
   rw [if_pos c3] at H
   have c3b0 := decide_eq_true c3
   clear c3
   replace H := Option.bind_eq_some_iff.mp H
   obtain ⟨t203, A40, H⟩ := H
   replace H : (if t203 > 0 then (spec_l3Open.j1 k1 l0 x4_1 x5_1 t203 (decide (t203 < 4))) else (spec_l3Open.j1 k1 l0 x4_1 x5_1 t203 false)) = some (r1, r2) := H
   have A4 := am A40
   clear A40
   have HC5 := am H
   clear H
   have p202 : 0 ≤ (x5_1 : Int) := ofb
   have q202 : x5_1 < (l0.length : Int) := ofb
   obtain ⟨ad202, A202_0, c202_0, e202, hx202_0, hx202_1, hl202_0, hi202_0⟩ := at_T31 HR0.out x5_1 p202 q202
   cases e202
   replace hx202_0 := up HB.out hx202_0
   replace hx202_1 := up HB.out hx202_1
   have HR202_0 := am hi202_0
   have HC202_0 := am hl202_0
   clear hi202_0 hl202_0
   replace p202 := eq_true p202
   replace q202 := eq_true q202
   go_upto_region 6 with (first | (go_at_call 21; (with_reducible refine (spec_l2Clean.calls k1 _ _ ((rd_T31 l0 x5_1).f0) ((rd_T31 l0 x5_1).f1) t203 _ ?side1 ?side2 A4.out).mono ?_); (case side1 => exact pc (Kd.C_below HR202_0.out HB.out)); (case side2 => exact HC202_0.out); rintro e w6 ⟨rfl, hb⟩; replace HB := am (below_step (ph HB.out) hb); (try clear hb); (try clear hb2); (try clear hk); (try clear hi)))
   repeat (go_quiet (first | (go_at_call 21; (with_reducible refine (spec_l2Clean.calls k1 _ _ ((rd_T31 l0 x5_1).f0) ((rd_T31 l0 x5_1).f1) t203 _ ?side1 ?side2 A4.out).mono ?_); (case side1 => exact pc (Kd.C_below HR202_0.out HB.out)); (case side2 => exact HC202_0.out); rintro e w6 ⟨rfl, hb⟩; replace HB := am (below_step (ph HB.out) hb); (try clear hb); (try clear hb2); (try clear hk); (try clear hi))); go_upto_region 6 with (first | (go_at_call 21; (with_reducible refine (spec_l2Clean.calls k1 _ _ ((rd_T31 l0 x5_1).f0) ((rd_T31 l0 x5_1).f1) t203 _ ?side1 ?side2 A4.out).mono ?_); (case side1 => exact pc (Kd.C_below HR202_0.out HB.out)); (case side2 => exact HC202_0.out); rintro e w6 ⟨rfl, hb⟩; replace HB := am (below_step (ph HB.out) hb); (try clear hb); (try clear hb2); (try clear hk); (try clear hi))))
   (try simp only [Act.put, List.setIfInBounds_toArray, List.set_cons_zero, List.set_cons_succ])
   go_cut [23] (fun v23 wc => ∃ (kq : Nat) (x23_4 : Bool), v23 = .bool x23_4 ∧ Aside0 (spec_l3Open.j1 kq l0 x4_1 x5_1 t203 x23_4 = some (r1, r2)) ∧ Aside0 (kq ≤ k1) ∧ Aside0 (Below w.heap.size w wc))
   case first =>
    have H := HC5.out
    clear HC5
    by_cases c7 : t203 > 0
    rotate_left
    · rw [if_neg c7] at H
      have c7b0 := decide_eq_false c7
      clear c7
      (first | rw [c7b0] | (simp only [i64_w, i32_w]; rw [c7b0]) | skip)
      have H' := am H
      clear H
      go_wp2
      repeat (go_quiet (fail); try go_wp2)
      go_meet
      case rel => exact ⟨_, (false), rf, H', ⟨by have := HK1.out; first | omega | exact Nat.le_refl _⟩, ⟨ph HB.out⟩⟩
    rw [if_pos c7] at H
    have c7b0 := decide_eq_true c7
    clear c7
    (first | rw [c7b0] | (simp only [i64_w, i32_w]; rw [c7b0]) | skip)
    have H' := am H
    clear H
    go_wp2
    repeat (go_quiet (fail); try go_wp2)
    go_meet
    case rel => exact ⟨_, (decide (t203 < 4)), rf, H', ⟨by have := HK1.out; first | omega | exact Nat.le_refl _⟩, ⟨ph HB.out⟩⟩
   case rest =>
    clear HC5
    obtain ⟨kq, x23_4, rfl, HA, HJ4, HB⟩ := hcut
    cases kq with
    | zero => exact absurd HA.out (by simp [spec_l3Open.j1])
    | succ kj4 =>
     have H := HA.out
     clear HA
     simp only [spec_l3Open.j1] at H
     by_cases c8 : x23_4 = true
     · subst c8
       have H1 : (some (x5_1, true)) = some (r1, r2) := by rw [if_pos rfl] at H; exact H
       clear H
       have H := H1
       clear H1
       simp only [Option.some.injEq, Prod.mk.injEq] at H
       obtain ⟨rfl, rfl⟩ := H
       go_wp2
       repeat (go_quiet (fail); try go_wp2)
       go_ret2
       exact (rq (ph HB.out))
     replace c8 := Bool.eq_false_iff.mpr c8
     subst c8
     have H1 : (if t203 > 0 then (if x4_1 < 0 then (spec_l3Open.l0 kj4 l0 x5_1 (wrap64 (x5_1 + 1))) else (if 0 ≤ x5_1 then (if x5_1 < (l0.length : Int) then (if 0 ≤ x4_1 then (if x4_1 < (l0.length : Int) then (if ((rd_T31 l0 x5_1).f1) < ((rd_T31 l0 x4_1).f1) then (spec_l3Open.l0 kj4 l0 x5_1 (wrap64 (x5_1 + 1))) else (spec_l3Open.l0 kj4 l0 x4_1 (wrap64 (x5_1 + 1)))) else (none)) else (none)) else (none)) else (none))) else (spec_l3Open.l0 kj4 l0 x4_1 (wrap64 (x5_1 + 1)))) = some (r1, r2) := by rw [if_neg (show ¬ (false = true) by decide)] at H; exact H
     clear H
     have H := H1
     clear H1
     by_cases c9 : t203 > 0
     rotate_left
     · rw [if_neg c9] at H
       have c9b0 := decide_eq_false c9
       clear c9
       have H' := am H
       clear H
       go_wp2
       repeat (go_quiet (fail); try go_wp2)
       go_roundg kj4
       case measure => have := HK1.out; have := HJ4.out; omega
       case rel => exact ⟨(x4_1), (wrap64 (x5_1 + 1)), rf, rf, H', ⟨by have := HK1.out; have := HJ4.out; omega⟩, ⟨ph HB.out⟩⟩
     rw [if_pos c9] at H
     have c9b0 := decide_eq_true c9
     clear c9
     by_cases c10 : x4_1 < 0
     · rw [if_pos c10] at H
       have c10b0 := decide_eq_true c10
       clear c10
       have H' := am H
       clear H
       go_wp2
       repeat (go_quiet (fail); try go_wp2)
       go_roundg kj4
       case measure => have := HK1.out; have := HJ4.out; omega
       case rel => exact ⟨(x5_1), (wrap64 (x5_1 + 1)), rf, rf, H', ⟨by have := HK1.out; have := HJ4.out; omega⟩, ⟨ph HB.out⟩⟩
     rw [if_neg c10] at H
     have c10b0 := decide_eq_false c10
     clear c10
     by_cases c11 : 0 ≤ x5_1
     rotate_left
     · rw [if_neg c11] at H
       exact absurd H (by simp)
     rw [if_pos c11] at H
     have c11b0 := decide_eq_true c11
     clear c11
     by_cases c12 : x5_1 < (l0.length : Int)
     rotate_left
     · rw [if_neg c12] at H
       exact absurd H (by simp)
     rw [if_pos c12] at H
     have c12b0 := decide_eq_true c12
     clear c12
     by_cases c13 : 0 ≤ x4_1
     rotate_left
     · rw [if_neg c13] at H
       exact absurd H (by simp)
     rw [if_pos c13] at H
     have c13b0 := decide_eq_true c13
     clear c13
     by_cases c14 : x4_1 < (l0.length : Int)
     rotate_left
     · rw [if_neg c14] at H
       exact absurd H (by simp)
     rw [if_pos c14] at H
     have c14b0 := decide_eq_true c14
     clear c14
     by_cases c15 : ((rd_T31 l0 x5_1).f1) < ((rd_T31 l0 x4_1).f1)
     · rw [if_pos c15] at H
       have c15b0 := decide_eq_true c15
       clear c15
       have H' := am H
       clear H
       have p204 : 0 ≤ (x5_1 : Int) := ofb
       have q204 : x5_1 < (l0.length : Int) := ofb
       obtain ⟨ad204, A204_0, c204_0, e204, hx204_0, hx204_1, hl204_0, hi204_0⟩ := at_T31 HR0.out x5_1 p204 q204
       obtain rfl : ad202 = ad204 := (by injection e204)
       replace hx204_0 := up HB.out hx204_0
       replace hx204_1 := up HB.out hx204_1
       have HR204_0 := am hi204_0
       have HC204_0 := am hl204_0
       clear hi204_0 hl204_0
       replace p204 := eq_true p204
       replace q204 := eq_true q204
       have p205 : 0 ≤ (x4_1 : Int) := ofb
       have q205 : x4_1 < (l0.length : Int) := ofb
       obtain ⟨ad205, A205_0, c205_0, e205, hx205_0, hx205_1, hl205_0, hi205_0⟩ := at_T31 HR0.out x4_1 p205 q205
       obtain rfl : ad202 = ad205 := (by injection e205)
       replace hx205_0 := up HB.out hx205_0
       replace hx205_1 := up HB.out hx205_1
       have HR205_0 := am hi205_0
       have HC205_0 := am hl205_0
       clear hi205_0 hl205_0
       replace p205 := eq_true p205
       replace q205 := eq_true q205
       go_wp2
       repeat (go_quiet (fail); try go_wp2)
       go_roundg kj4
       case measure => have := HK1.out; have := HJ4.out; omega
       case rel => exact ⟨(x5_1), (wrap64 (x5_1 + 1)), rf, rf, H', ⟨by have := HK1.out; have := HJ4.out; omega⟩, ⟨ph HB.out⟩⟩
     rw [if_neg c15] at H
     have c15b0 := decide_eq_false c15
     clear c15
     have H' := am H
     clear H
     have p204 : 0 ≤ (x5_1 : Int) := ofb
     have q204 : x5_1 < (l0.length : Int) := ofb
     obtain ⟨ad204, A204_0, c204_0, e204, hx204_0, hx204_1, hl204_0, hi204_0⟩ := at_T31 HR0.out x5_1 p204 q204
     obtain rfl : ad202 = ad204 := (by injection e204)
     replace hx204_0 := up HB.out hx204_0
     replace hx204_1 := up HB.out hx204_1
     have HR204_0 := am hi204_0
     have HC204_0 := am hl204_0
     clear hi204_0 hl204_0
     replace p204 := eq_true p204
     replace q204 := eq_true q204
     have p205 : 0 ≤ (x4_1 : Int) := ofb
     have q205 : x4_1 < (l0.length : Int) := ofb
     obtain ⟨ad205, A205_0, c205_0, e205, hx205_0, hx205_1, hl205_0, hi205_0⟩ := at_T31 HR0.out x4_1 p205 q205
     obtain rfl : ad202 = ad205 := (by injection e205)
     replace hx205_0 := up HB.out hx205_0
     replace hx205_1 := up HB.out hx205_1
     have HR205_0 := am hi205_0
     have HC205_0 := am hl205_0
     clear hi205_0 hl205_0
     replace p205 := eq_true p205
     replace q205 := eq_true q205
     go_wp2
     repeat (go_quiet (fail); try go_wp2)
     go_roundg kj4
     case measure => have := HK1.out; have := HJ4.out; omega
     case rel => exact ⟨(x4_1), (wrap64 (x5_1 + 1)), rf, rf, H', ⟨by have := HK1.out; have := HJ4.out; omega⟩, ⟨ph HB.out⟩⟩
def spec_l3Old.l0 : Nat → List (S31) → Int → Int → Option (Int)
 | 0, _, _, _ => none
 | k + 1, x0, x3, x4 => if x4 < (x0.length : Int) then (if 0 ≤ x4 then ((spec_l3Most.f k ((rd_T31 x0 x4).f0) ((rd_T31 x0 x4).f1)).bind fun t207 => (if 0 ≤ x3 then (if x3 < (x0.length : Int) then ((spec_l3Most.f k ((rd_T31 x0 x3).f0) ((rd_T31 x0 x3).f1)).bind fun t209 => (if t207 < t209 then (spec_l3Old.l0 k x0 x4 (wrap64 (x4 + 1))) else (spec_l3Old.l0 k x0 x3 (wrap64 (x4 + 1))))) else (none)) else (none))) else (none)) else (some x3)
def spec_l3Old.f (k : Nat) (l0 : List (S31)) : Option (Int) := spec_l3Old.l0 k l0 0 1
theorem spec_l3Old.mono_l : ∀ k, (∀ y0 y1 y2, LeO (spec_l3Old.l0 k y0 y1 y2) (spec_l3Old.l0 (k + 1) y0 y1 y2))
 | 0 => fun _ _ _ r h => by simp [spec_l3Old.l0] at h
 | k + 1 => by
  have ih0 := spec_l3Old.mono_l k
  · intro y0 y1 y2
    unfold spec_l3Old.l0
    repeat' first
    | (with_reducible exact ih0 _ _ _)
    | (with_reducible exact spec_l3Most.mono _ _ _)
    | (with_reducible exact LeO.refl _)
    | (with_reducible exact LeO.none _)
    | (with_reducible refine LeO.ite ?_ ?_)
    | (with_reducible refine LeO.bind ?_ (fun _ => ?_))
    | exact ih0 _ _ _
    | exact spec_l3Most.mono _ _ _
    | exact LeO.none _
    | refine LeO.ite ?_ ?_
    | refine LeO.bind ?_ (fun _ => ?_)
theorem spec_l3Old.mono : ∀ a0 k, LeO (spec_l3Old.f k a0) (spec_l3Old.f (k + 1) a0) := by
 intro a0 k
 have ih0 := spec_l3Old.mono_l k
 unfold spec_l3Old.f
 repeat' first
  | (with_reducible exact ih0 _ _ _)
  | (with_reducible exact spec_l3Most.mono _ _ _)
  | (with_reducible exact LeO.refl _)
  | (with_reducible exact LeO.none _)
  | (with_reducible refine LeO.ite ?_ ?_)
  | (with_reducible refine LeO.bind ?_ (fun _ => ?_))
  | exact ih0 _ _ _
  | exact spec_l3Most.mono _ _ _
  | exact LeO.none _
  | refine LeO.ite ?_ ?_
  | refine LeO.bind ?_ (fun _ => ?_)
def spec_l3Old.T5 : Bool × List (List Nat × List Nat) := (true, [([], []), ([], []), ([0, 1], [0, 1]), ([2], [2]), ([3], [3]), ([], []), ([], []), ([5, 6], [5, 6]), ([7], [7]), ([8, 4], [8]), ([4, 9], [4, 9])])
def spec_l3Old.B5 : List Nat := [0, 0, 3, 7, 15, 0, 0, 96, 224, 511, 1023]
theorem spec_l3Old.tab5 : rtab .any (opsOf Try.f49 5) = spec_l3Old.T5 := by kernel_rfl
theorem spec_l3Old.bits5 : waitsOk spec_l3Old.T5.2 spec_l3Old.B5 = true := by kernel_rfl
set_option maxHeartbeats 8000000 in
set_option maxRecDepth 100000 in
theorem spec_l3Old.calls (k : Nat) (A0 : Option Addr) (c0 : Nat) (l0 : List (S31)) (r : Int) (w : World) (hr0 : Kd.C k31 w A0 l0.length l0) (hc0 : l0.length ≤ c0) (h : spec_l3Old.f k l0 = some r) :
 Calls Try.prog 49 #[.slice A0 l0.length c0] w fun e w' => e = .returned (.int .i64 r) ∧ Below w.heap.size w w' := by
 have hu31 := Try.underlying31
 have HR0 := am hr0
 have HC0 := am hc0
 clear hr0 hc0
 have HB := am (Below.refl w.heap.size w)
 have H : (spec_l3Old.l0 k l0 0 1) = some r := h
 clear h
 have H' := am H
 clear H
 go_enter Try.func49, Try.ntmps49
 go_wp2
 go_loopg [3, 4] k (fun kq v3 v4 w' => ∃ (x3_1 : Int) (x4_1 : Int), v3 = .int .i64 x3_1 ∧ v4 = .int .i64 x4_1 ∧ Aside0 (spec_l3Old.l0 kq l0 x3_1 x4_1 = some r) ∧ Aside0 (kq ≤ k) ∧ Aside0 (Below w.heap.size w w'))
 case atStart => exact ⟨(0), (1), rf, rf, H', ⟨Nat.le_refl _⟩, ⟨ph HB.out⟩⟩
 case round =>
  clear H'
  obtain ⟨x3_1, x4_1, rfl, rfl, HA, HK1, HB⟩ := hrel
  cases gk with
  | zero => exact absurd HA.out (by simp [spec_l3Old.l0])
  | succ k1 =>
   have H := HA.out
   clear HA
   simp only [spec_l3Old.l0] at H
   by_cases c2 : x4_1 < (l0.length : Int)
   rotate_left
   · rw [if_neg c2] at H
     have c2b0 := decide_eq_false c2
     clear c2
     obtain rfl := Option.some.inj H
     go_wp2
     go_ret
     exact (rq (ph HB.out))
   rw [if_pos c2] at H
   have c2b0 := decide_eq_true c2
   clear c2
   by_cases c3 : 0 ≤ x4_1
   rotate_left
   · rw [if_neg c3] at H
     exact absurd H (by simp)
   rw [if_pos c3] at H
   have c3b0 := decide_eq_true c3
   clear c3
   replace H := Option.bind_eq_some_iff.mp H
   obtain ⟨t207, A40, H⟩ := H
   replace H : (if 0 ≤ x3_1 then (if x3_1 < (l0.length : Int) then ((spec_l3Most.f k1 ((rd_T31 l0 x3_1).f0) ((rd_T31 l0 x3_1).f1)).bind fun t209 => (if t207 < t209 then (spec_l3Old.l0 k1 l0 x4_1 (wrap64 (x4_1 + 1))) else (spec_l3Old.l0 k1 l0 x3_1 (wrap64 (x4_1 + 1))))) else (none)) else (none)) = some r := H
   have A4 := am A40
   clear A40
   by_cases c5 : 0 ≤ x3_1
   rotate_left
   · rw [if_neg c5] at H
     exact absurd H (by simp)
   rw [if_pos c5] at H
   have c5b0 := decide_eq_true c5
   clear c5
   by_cases c6 : x3_1 < (l0.length : Int)
   rotate_left
   · rw [if_neg c6] at H
     exact absurd H (by simp)
   rw [if_pos c6] at H
   have c6b0 := decide_eq_true c6
   clear c6
   replace H := Option.bind_eq_some_iff.mp H
   obtain ⟨t209, A70, H⟩ := H
   replace H : (if t207 < t209 then (spec_l3Old.l0 k1 l0 x4_1 (wrap64 (x4_1 + 1))) else (spec_l3Old.l0 k1 l0 x3_1 (wrap64 (x4_1 + 1)))) = some r := H
   have A7 := am A70
   clear A70
   by_cases c8 : t207 < t209
   · rw [if_pos c8] at H
     have c8b0 := decide_eq_true c8
     clear c8
     have H' := am H
     clear H
     try go_wp2
     replace HB := am (below_drew1 HB.out)
     have p206 : 0 ≤ (x4_1 : Int) := ofb
     have q206 : x4_1 < (l0.length : Int) := ofb
     obtain ⟨ad206, A206_0, c206_0, e206, hx206_0, hx206_1, hl206_0, hi206_0⟩ := at_T31 HR0.out x4_1 p206 q206
     have hw206_1 := hx206_1
     have hw206_0 := hx206_0
     cases e206
     replace hx206_0 := up HB.out hx206_0
     replace hx206_1 := up HB.out hx206_1
     have HR206_0 := am hi206_0
     have HC206_0 := am hl206_0
     clear hi206_0 hl206_0
     replace p206 := eq_true p206
     replace q206 := eq_true q206
     have p208 : 0 ≤ (x3_1 : Int) := ofb
     have q208 : x3_1 < (l0.length : Int) := ofb
     obtain ⟨ad208, A208_0, c208_0, e208, hx208_0, hx208_1, hl208_0, hi208_0⟩ := at_T31 HR0.out x3_1 p208 q208
     have hw208_1 := hx208_1
     have hw208_0 := hx208_0
     obtain rfl : ad206 = ad208 := (by injection e208)
     replace hx208_0 := up HB.out hx208_0
     replace hx208_1 := up HB.out hx208_1
     have HR208_0 := am hi208_0
     have HC208_0 := am hl208_0
     clear hi208_0 hl208_0
     replace p208 := eq_true p208
     replace q208 := eq_true q208
     refine start_ (n := 11) (S := fun w' => w'.cell? (ad206.add ((x4_1).toNat * 2)) = some (.slice A206_0 ((rd_T31 l0 x4_1).f0).length c206_0) ∧ w'.cell? ⟨(ad206.add ((x4_1).toNat * 2)).block, (ad206.add ((x4_1).toNat * 2)).off + 1, none⟩ = some (.int .i64 ((rd_T31 l0 x4_1).f1)) ∧ w'.cell? (ad206.add ((x3_1).toNat * 2)) = some (.slice A208_0 ((rd_T31 l0 x3_1).f0).length c208_0) ∧ w'.cell? ⟨(ad206.add ((x3_1).toNat * 2)).block, (ad206.add ((x3_1).toNat * 2)).off + 1, none⟩ = some (.int .i64 ((rd_T31 l0 x3_1).f1))) (ds := []) #[false, false, false, false, false, false, false, false, false, false, false] (by kernel_rfl) rfl rfl ⟨((HB.out.cell (World.block_lt_of_cell? w _ hw206_0)).trans hw206_0), ((HB.out.cell (World.block_lt_of_cell? w _ hw206_1)).trans hw206_1), ((HB.out.cell (World.block_lt_of_cell? w _ hw208_0)).trans hw208_0), ((HB.out.cell (World.block_lt_of_cell? w _ hw208_1)).trans hw208_1)⟩ (fun hHeld => ?_); refine with_tabW spec_l3Old.tab5 spec_l3Old.bits5 (fun HT_ HW_ => ?_)
     generalize wr.drew = w9 at HB HR206_0 HR208_0 hx206_0 hx206_1 hx208_0 hx208_1 hHeld ⊢
     refine pj_ 0 11 #[true, false, false, false, false, false, false, false, false, false, false] rfl rfl (any_of HT_.out (by kernel_rfl)) (fun _ _ _ h => h) ?_
     refine pj_ 1 12 #[true, true, false, false, false, false, false, false, false, false, false] rfl rfl (any_of HT_.out (by kernel_rfl)) (fun _ _ _ h => h) ?_
     refine pj_ 2 13 #[true, true, true, false, false, false, false, false, false, false, false] rfl rfl (any_of HT_.out (by kernel_rfl)) (fun _ _ _ h => h) ?_
     refine pj_ 5 16 #[true, true, true, false, false, true, false, false, false, false, false] rfl rfl (any_of HT_.out (by kernel_rfl)) (fun _ _ _ h => h) ?_
     refine pj_ 6 17 #[true, true, true, false, false, true, true, false, false, false, false] rfl rfl (any_of HT_.out (by kernel_rfl)) (fun _ _ _ h => h) ?_
     refine pj_ 7 18 #[true, true, true, false, false, true, true, true, false, false, false] rfl rfl (any_of HT_.out (by kernel_rfl)) (fun _ _ _ h => h) ?_
     refine pm_ 3 14 #[true, true, true, true, false, true, true, true, false, false, false] rfl rfl (take_ofW HT_.out HW_.out (by kernel_rfl)) (fun _ _ _ h => h) hHeld ?_
     refine pm_ 8 19 #[true, true, true, true, false, true, true, true, true, false, false] rfl rfl (take_ofW HT_.out HW_.out (by kernel_rfl)) (fun _ _ _ h => h) hHeld ?_
     refine one_ (i := 4) (N := some 15) #[true, true, true, true, true, true, true, true, true, false, false] rfl rfl (one_of HT_.out (by kernel_rfl)) (by decide) (fun K hK => ?_)
     refine goes_ Try.func48 (by kernel_rfl) rfl #[.agg #[.slice A206_0 ((rd_T31 l0 x4_1).f0).length c206_0, .int .i64 ((rd_T31 l0 x4_1).f1)]] (by rfl) rfl rfl (by (try simp only [List.map_toArray, List.map_cons, List.map_nil]); first | done | rfl | (simp only [List.length_drop, List.length_take]; rfl)) ?_
     with_reducible refine (spec_l3Most.calls k1 _ _ ((rd_T31 l0 x4_1).f0) ((rd_T31 l0 x4_1).f1) t207 _ ?side1 ?side2 A4.out).mono ?_
     (case side1 => exact pc (Kd.C_below HR206_0.out HB.out))
     (case side2 => exact HC206_0.out)
     rintro e w10 ⟨rfl, hb⟩
     refine ⟨_, rfl, ?_⟩
     replace HB := am (below_step (ph HB.out) hb)
     (try clear hb)
     (try clear hb2)
     (try clear hk)
     (try clear hi)
     refine hK.out _ _ ⟨((HB.out.cell (World.block_lt_of_cell? w _ hw206_0)).trans hw206_0), ((HB.out.cell (World.block_lt_of_cell? w _ hw206_1)).trans hw206_1), ((HB.out.cell (World.block_lt_of_cell? w _ hw208_0)).trans hw208_0), ((HB.out.cell (World.block_lt_of_cell? w _ hw208_1)).trans hw208_1)⟩ (fun hHeld => ?_)
     clear hK K
     refine norm_ (a' := ?_) ?_ ?_
     rotate_left
     · show Act.put _ (some 15) _ = _
       simp only [Act.put, List.setIfInBounds_toArray, List.set_cons_zero, List.set_cons_succ, i64_w, i32_w]
       rfl
     refine one_ (i := 9) (N := some 20) #[true, true, true, true, true, true, true, true, true, true, false] rfl rfl (one_of HT_.out (by kernel_rfl)) (by decide) (fun K hK => ?_)
     refine goes_ Try.func48 (by kernel_rfl) rfl #[.agg #[.slice A208_0 ((rd_T31 l0 x3_1).f0).length c208_0, .int .i64 ((rd_T31 l0 x3_1).f1)]] (by rfl) rfl rfl (by (try simp only [List.map_toArray, List.map_cons, List.map_nil]); first | done | rfl | (simp only [List.length_drop, List.length_take]; rfl)) ?_
     with_reducible refine (spec_l3Most.calls k1 _ _ ((rd_T31 l0 x3_1).f0) ((rd_T31 l0 x3_1).f1) t209 _ ?side1 ?side2 A7.out).mono ?_
     (case side1 => exact pc (Kd.C_below HR208_0.out HB.out))
     (case side2 => exact HC208_0.out)
     rintro e w11 ⟨rfl, hb⟩
     refine ⟨_, rfl, ?_⟩
     replace HB := am (below_step (ph HB.out) hb)
     (try clear hb)
     (try clear hb2)
     (try clear hk)
     (try clear hi)
     refine hK.out _ _ ⟨((HB.out.cell (World.block_lt_of_cell? w _ hw206_0)).trans hw206_0), ((HB.out.cell (World.block_lt_of_cell? w _ hw206_1)).trans hw206_1), ((HB.out.cell (World.block_lt_of_cell? w _ hw208_0)).trans hw208_0), ((HB.out.cell (World.block_lt_of_cell? w _ hw208_1)).trans hw208_1)⟩ (fun hHeld => ?_)
     clear hK K
     refine norm_ (a' := ?_) ?_ ?_
     rotate_left
     · show Act.put _ (some 20) _ = _
       simp only [Act.put, List.setIfInBounds_toArray, List.set_cons_zero, List.set_cons_succ, i64_w, i32_w]
       rfl
     refine pj_ 10 21 #[true, true, true, true, true, true, true, true, true, true, true] rfl rfl (any_of HT_.out (by kernel_rfl)) (fun _ _ _ h => h) ?_
     refine done_ (done_of HT_.out (by kernel_rfl)) ?_
     try go_wp2
     go_roundg k1
     case measure => have := HK1.out; omega
     case rel => exact ⟨(x4_1), (wrap64 (x4_1 + 1)), rf, rf, H', ⟨by have := HK1.out; omega⟩, ⟨ph HB.out⟩⟩
   rw [if_neg c8] at H
   have c8b0 := decide_eq_false c8
   clear c8
   have H' := am H
   clear H
   try go_wp2
   replace HB := am (below_drew1 HB.out)
   have p206 : 0 ≤ (x4_1 : Int) := ofb
   have q206 : x4_1 < (l0.length : Int) := ofb
   obtain ⟨ad206, A206_0, c206_0, e206, hx206_0, hx206_1, hl206_0, hi206_0⟩ := at_T31 HR0.out x4_1 p206 q206
   have hw206_1 := hx206_1
   have hw206_0 := hx206_0
   cases e206
   replace hx206_0 := up HB.out hx206_0
   replace hx206_1 := up HB.out hx206_1
   have HR206_0 := am hi206_0
   have HC206_0 := am hl206_0
   clear hi206_0 hl206_0
   replace p206 := eq_true p206
   replace q206 := eq_true q206
   have p208 : 0 ≤ (x3_1 : Int) := ofb
   have q208 : x3_1 < (l0.length : Int) := ofb
   obtain ⟨ad208, A208_0, c208_0, e208, hx208_0, hx208_1, hl208_0, hi208_0⟩ := at_T31 HR0.out x3_1 p208 q208
   have hw208_1 := hx208_1
   have hw208_0 := hx208_0
   obtain rfl : ad206 = ad208 := (by injection e208)
   replace hx208_0 := up HB.out hx208_0
   replace hx208_1 := up HB.out hx208_1
   have HR208_0 := am hi208_0
   have HC208_0 := am hl208_0
   clear hi208_0 hl208_0
   replace p208 := eq_true p208
   replace q208 := eq_true q208
   refine start_ (n := 11) (S := fun w' => w'.cell? (ad206.add ((x4_1).toNat * 2)) = some (.slice A206_0 ((rd_T31 l0 x4_1).f0).length c206_0) ∧ w'.cell? ⟨(ad206.add ((x4_1).toNat * 2)).block, (ad206.add ((x4_1).toNat * 2)).off + 1, none⟩ = some (.int .i64 ((rd_T31 l0 x4_1).f1)) ∧ w'.cell? (ad206.add ((x3_1).toNat * 2)) = some (.slice A208_0 ((rd_T31 l0 x3_1).f0).length c208_0) ∧ w'.cell? ⟨(ad206.add ((x3_1).toNat * 2)).block, (ad206.add ((x3_1).toNat * 2)).off + 1, none⟩ = some (.int .i64 ((rd_T31 l0 x3_1).f1))) (ds := []) #[false, false, false, false, false, false, false, false, false, false, false] (by kernel_rfl) rfl rfl ⟨((HB.out.cell (World.block_lt_of_cell? w _ hw206_0)).trans hw206_0), ((HB.out.cell (World.block_lt_of_cell? w _ hw206_1)).trans hw206_1), ((HB.out.cell (World.block_lt_of_cell? w _ hw208_0)).trans hw208_0), ((HB.out.cell (World.block_lt_of_cell? w _ hw208_1)).trans hw208_1)⟩ (fun hHeld => ?_); refine with_tabW spec_l3Old.tab5 spec_l3Old.bits5 (fun HT_ HW_ => ?_)
   generalize wr.drew = w12 at HB HR206_0 HR208_0 hx206_0 hx206_1 hx208_0 hx208_1 hHeld ⊢
   refine pj_ 0 11 #[true, false, false, false, false, false, false, false, false, false, false] rfl rfl (any_of HT_.out (by kernel_rfl)) (fun _ _ _ h => h) ?_
   refine pj_ 1 12 #[true, true, false, false, false, false, false, false, false, false, false] rfl rfl (any_of HT_.out (by kernel_rfl)) (fun _ _ _ h => h) ?_
   refine pj_ 2 13 #[true, true, true, false, false, false, false, false, false, false, false] rfl rfl (any_of HT_.out (by kernel_rfl)) (fun _ _ _ h => h) ?_
   refine pj_ 5 16 #[true, true, true, false, false, true, false, false, false, false, false] rfl rfl (any_of HT_.out (by kernel_rfl)) (fun _ _ _ h => h) ?_
   refine pj_ 6 17 #[true, true, true, false, false, true, true, false, false, false, false] rfl rfl (any_of HT_.out (by kernel_rfl)) (fun _ _ _ h => h) ?_
   refine pj_ 7 18 #[true, true, true, false, false, true, true, true, false, false, false] rfl rfl (any_of HT_.out (by kernel_rfl)) (fun _ _ _ h => h) ?_
   refine pm_ 3 14 #[true, true, true, true, false, true, true, true, false, false, false] rfl rfl (take_ofW HT_.out HW_.out (by kernel_rfl)) (fun _ _ _ h => h) hHeld ?_
   refine pm_ 8 19 #[true, true, true, true, false, true, true, true, true, false, false] rfl rfl (take_ofW HT_.out HW_.out (by kernel_rfl)) (fun _ _ _ h => h) hHeld ?_
   refine one_ (i := 4) (N := some 15) #[true, true, true, true, true, true, true, true, true, false, false] rfl rfl (one_of HT_.out (by kernel_rfl)) (by decide) (fun K hK => ?_)
   refine goes_ Try.func48 (by kernel_rfl) rfl #[.agg #[.slice A206_0 ((rd_T31 l0 x4_1).f0).length c206_0, .int .i64 ((rd_T31 l0 x4_1).f1)]] (by rfl) rfl rfl (by (try simp only [List.map_toArray, List.map_cons, List.map_nil]); first | done | rfl | (simp only [List.length_drop, List.length_take]; rfl)) ?_
   with_reducible refine (spec_l3Most.calls k1 _ _ ((rd_T31 l0 x4_1).f0) ((rd_T31 l0 x4_1).f1) t207 _ ?side1 ?side2 A4.out).mono ?_
   (case side1 => exact pc (Kd.C_below HR206_0.out HB.out))
   (case side2 => exact HC206_0.out)
   rintro e w13 ⟨rfl, hb⟩
   refine ⟨_, rfl, ?_⟩
   replace HB := am (below_step (ph HB.out) hb)
   (try clear hb)
   (try clear hb2)
   (try clear hk)
   (try clear hi)
   refine hK.out _ _ ⟨((HB.out.cell (World.block_lt_of_cell? w _ hw206_0)).trans hw206_0), ((HB.out.cell (World.block_lt_of_cell? w _ hw206_1)).trans hw206_1), ((HB.out.cell (World.block_lt_of_cell? w _ hw208_0)).trans hw208_0), ((HB.out.cell (World.block_lt_of_cell? w _ hw208_1)).trans hw208_1)⟩ (fun hHeld => ?_)
   clear hK K
   refine norm_ (a' := ?_) ?_ ?_
   rotate_left
   · show Act.put _ (some 15) _ = _
     simp only [Act.put, List.setIfInBounds_toArray, List.set_cons_zero, List.set_cons_succ, i64_w, i32_w]
     rfl
   refine one_ (i := 9) (N := some 20) #[true, true, true, true, true, true, true, true, true, true, false] rfl rfl (one_of HT_.out (by kernel_rfl)) (by decide) (fun K hK => ?_)
   refine goes_ Try.func48 (by kernel_rfl) rfl #[.agg #[.slice A208_0 ((rd_T31 l0 x3_1).f0).length c208_0, .int .i64 ((rd_T31 l0 x3_1).f1)]] (by rfl) rfl rfl (by (try simp only [List.map_toArray, List.map_cons, List.map_nil]); first | done | rfl | (simp only [List.length_drop, List.length_take]; rfl)) ?_
   with_reducible refine (spec_l3Most.calls k1 _ _ ((rd_T31 l0 x3_1).f0) ((rd_T31 l0 x3_1).f1) t209 _ ?side1 ?side2 A7.out).mono ?_
   (case side1 => exact pc (Kd.C_below HR208_0.out HB.out))
   (case side2 => exact HC208_0.out)
   rintro e w14 ⟨rfl, hb⟩
   refine ⟨_, rfl, ?_⟩
   replace HB := am (below_step (ph HB.out) hb)
   (try clear hb)
   (try clear hb2)
   (try clear hk)
   (try clear hi)
   refine hK.out _ _ ⟨((HB.out.cell (World.block_lt_of_cell? w _ hw206_0)).trans hw206_0), ((HB.out.cell (World.block_lt_of_cell? w _ hw206_1)).trans hw206_1), ((HB.out.cell (World.block_lt_of_cell? w _ hw208_0)).trans hw208_0), ((HB.out.cell (World.block_lt_of_cell? w _ hw208_1)).trans hw208_1)⟩ (fun hHeld => ?_)
   clear hK K
   refine norm_ (a' := ?_) ?_ ?_
   rotate_left
   · show Act.put _ (some 20) _ = _
     simp only [Act.put, List.setIfInBounds_toArray, List.set_cons_zero, List.set_cons_succ, i64_w, i32_w]
     rfl
   refine pj_ 10 21 #[true, true, true, true, true, true, true, true, true, true, true] rfl rfl (any_of HT_.out (by kernel_rfl)) (fun _ _ _ h => h) ?_
   refine done_ (done_of HT_.out (by kernel_rfl)) ?_
   try go_wp2
   go_roundg k1
   case measure => have := HK1.out; omega
   case rel => exact ⟨(x3_1), (wrap64 (x4_1 + 1)), rf, rf, H', ⟨by have := HK1.out; omega⟩, ⟨ph HB.out⟩⟩
mutual
def spec_l3Last.l0 : Nat → List (S31) → Int → Int → Int → Int → Int → Int → Option (Int × Int × Int × Int × Bool)
 | 0, _, _, _, _, _, _, _ => none
 | k + 1, x0, x1, x7, x212000, x212001, x212002, x212003 => if x7 < (x0.length : Int) then (spec_l3Last.l1 k x0 x1 x7 0 x212000 x212001 x212002 x212003) else (some (x212000, x212001, x212002, x212003, decide (x212001 > 0)))
def spec_l3Last.l1 : Nat → List (S31) → Int → Int → Int → Int → Int → Int → Int → Option (Int × Int × Int × Int × Bool)
 | 0, _, _, _, _, _, _, _, _ => none
 | k + 1, x0, x1, x7, x8, x212000, x212001, x212002, x212003 => if 0 ≤ x7 then (if x7 < (x0.length : Int) then (if x8 < (((rd_T31 x0 x7).f0).length : Int) then (if 0 ≤ x8 then (if ((rd_T43 ((rd_T31 x0 x7).f0) x8).f0) = 1 then (if ((rd_T43 ((rd_T31 x0 x7).f0) x8).f1.f2) = x1 then (if ((rd_T43 ((rd_T31 x0 x7).f0) x8).f1.f1) > x212001 then (spec_l3Last.l1 k x0 x1 x7 (wrap64 (x8 + 1)) ((rd_T43 ((rd_T31 x0 x7).f0) x8).f1.f0) ((rd_T43 ((rd_T31 x0 x7).f0) x8).f1.f1) ((rd_T43 ((rd_T31 x0 x7).f0) x8).f1.f2) ((rd_T43 ((rd_T31 x0 x7).f0) x8).f1.f3)) else (spec_l3Last.l1 k x0 x1 x7 (wrap64 (x8 + 1)) x212000 x212001 x212002 x212003)) else (spec_l3Last.l1 k x0 x1 x7 (wrap64 (x8 + 1)) x212000 x212001 x212002 x212003)) else (spec_l3Last.l1 k x0 x1 x7 (wrap64 (x8 + 1)) x212000 x212001 x212002 x212003)) else (none)) else (spec_l3Last.l0 k x0 x1 (wrap64 (x7 + 1)) x212000 x212001 x212002 x212003)) else (none)) else (none)
end
def spec_l3Last.f (k : Nat) (l0 : List (S31)) (a1 : Int) : Option (Int × Int × Int × Int × Bool) := spec_l3Last.l0 k l0 a1 0 0 0 0 0
theorem spec_l3Last.mono_l : ∀ k, (∀ y0 y1 y2 y3 y4 y5 y6, LeO (spec_l3Last.l0 k y0 y1 y2 y3 y4 y5 y6) (spec_l3Last.l0 (k + 1) y0 y1 y2 y3 y4 y5 y6)) ∧ (∀ y0 y1 y2 y3 y4 y5 y6 y7, LeO (spec_l3Last.l1 k y0 y1 y2 y3 y4 y5 y6 y7) (spec_l3Last.l1 (k + 1) y0 y1 y2 y3 y4 y5 y6 y7))
 | 0 => ⟨fun _ _ _ _ _ _ _ r h => by simp [spec_l3Last.l0] at h, fun _ _ _ _ _ _ _ _ r h => by simp [spec_l3Last.l1] at h⟩
 | k + 1 => by
  obtain ⟨ih0, ih1⟩ := spec_l3Last.mono_l k
  refine ⟨?_, ?_⟩
  · intro y0 y1 y2 y3 y4 y5 y6
    unfold spec_l3Last.l0
    repeat' first
    | (with_reducible exact ih0 _ _ _ _ _ _ _)
    | (with_reducible exact ih1 _ _ _ _ _ _ _ _)
    | (with_reducible exact LeO.refl _)
    | (with_reducible exact LeO.none _)
    | (with_reducible refine LeO.ite ?_ ?_)
    | (with_reducible refine LeO.bind ?_ (fun _ => ?_))
    | exact ih0 _ _ _ _ _ _ _
    | exact ih1 _ _ _ _ _ _ _ _
    | exact LeO.none _
    | refine LeO.ite ?_ ?_
    | refine LeO.bind ?_ (fun _ => ?_)
  · intro y0 y1 y2 y3 y4 y5 y6 y7
    unfold spec_l3Last.l1
    repeat' first
    | (with_reducible exact ih0 _ _ _ _ _ _ _)
    | (with_reducible exact ih1 _ _ _ _ _ _ _ _)
    | (with_reducible exact LeO.refl _)
    | (with_reducible exact LeO.none _)
    | (with_reducible refine LeO.ite ?_ ?_)
    | (with_reducible refine LeO.bind ?_ (fun _ => ?_))
    | exact ih0 _ _ _ _ _ _ _
    | exact ih1 _ _ _ _ _ _ _ _
    | exact LeO.none _
    | refine LeO.ite ?_ ?_
    | refine LeO.bind ?_ (fun _ => ?_)
theorem spec_l3Last.mono : ∀ a0 a1 k, LeO (spec_l3Last.f k a0 a1) (spec_l3Last.f (k + 1) a0 a1) := by
 intro a0 a1 k
 obtain ⟨ih0, ih1⟩ := spec_l3Last.mono_l k
 unfold spec_l3Last.f
 repeat' first
  | (with_reducible exact ih0 _ _ _ _ _ _ _)
  | (with_reducible exact ih1 _ _ _ _ _ _ _ _)
  | (with_reducible exact LeO.refl _)
  | (with_reducible exact LeO.none _)
  | (with_reducible refine LeO.ite ?_ ?_)
  | (with_reducible refine LeO.bind ?_ (fun _ => ?_))
  | exact ih0 _ _ _ _ _ _ _
  | exact ih1 _ _ _ _ _ _ _ _
  | exact LeO.none _
  | refine LeO.ite ?_ ?_
  | refine LeO.bind ?_ (fun _ => ?_)
set_option maxHeartbeats 8000000 in
set_option maxRecDepth 100000 in
theorem spec_l3Last.calls (k : Nat) (A0 : Option Addr) (c0 : Nat) (l0 : List (S31)) (a1 : Int) (r1 : Int) (r2 : Int) (r3 : Int) (r4 : Int) (r5 : Bool) (w : World) (hr0 : Kd.C k31 w A0 l0.length l0) (hc0 : l0.length ≤ c0) (h : spec_l3Last.f k l0 a1 = some (r1, r2, r3, r4, r5)) :
 Calls Try.prog 46 #[.slice A0 l0.length c0, .int .i64 a1] w fun e w' => e = .returned (.tuple #[.agg #[.int .i64 r1, .int .i64 r2, .int .i64 r3, .int .i64 r4], .bool r5]) ∧ Below w.heap.size w w' := by
 have hu41 := Try.underlying41
 have hu43 := Try.underlying43
 have HR0 := am hr0
 have HC0 := am hc0
 clear hr0 hc0
 have HB := am (Below.refl w.heap.size w)
 have H : (spec_l3Last.l0 k l0 a1 0 0 0 0 0) = some (r1, r2, r3, r4, r5) := h
 clear h
 have H' := am H
 clear H
 go_enter Try.func46, Try.ntmps46
 go_wp2_with (first | (refine bx 4 #[.int .i64 0, .int .i64 0, .int .i64 0, .int .i64 0] 41 rfl ?_; intro gb210 hg w3 hbox hb; have BK210 := am (hbox); have GW210 := am ((by rw [hg]; exact (below_size (ph HB.out)) : w.heap.size ≤ gb210)); have GE210 := GW210; replace HB := am (below_step (ph HB.out) hb); clear hb hbox hg) | (refine bx 6 #[.int .i64 0, .int .i64 0, .int .i64 0, .int .i64 0] 41 rfl ?_; intro gb211 hg w4 hbox hb; have BK211 := am (hbox); have GW211 := am ((by rw [hg]; exact (below_size (bg1 HB.out GE210.out)) : w.heap.size ≤ gb211)); have GE211 := GW211; replace HB := am (below_step (bg1 HB.out GE210.out) hb); have NB210_211 := am ((by rw [hg]; exact Nat.ne_of_lt (blk_lt (pb BK210.out)) : gb210 ≠ gb211)); have NB211_210 := am (Ne.symm NB210_211.out); replace BK210 := am (blk_below (pb BK210.out) hb); clear hb hbox hg; have hnb5 := NB211_210.out; have hnc5 := NB210_211.out; obtain ⟨hcz6_0, hcz6_1, hcz6_2, hcz6_3⟩ := b4 BK211.out; obtain ⟨hfz6_0, hfz6_1, hfz6_2, hfz6_3⟩ := f4 BK211.out))
 go_loopg [7] k (fun kq v7 w' => ∃ (x7_1 : Int) (x212000_1 : Int) (x212001_1 : Int) (x212002_1 : Int) (x212003_1 : Int), v7 = .int .i64 x7_1 ∧ Aside0 (spec_l3Last.l0 kq l0 a1 x7_1 x212000_1 x212001_1 x212002_1 x212003_1 = some (r1, r2, r3, r4, r5)) ∧ Aside0 (kq ≤ k) ∧ Aside0 (w'.heap[gb210]? = some (.cells #[.int .i64 0, .int .i64 0, .int .i64 0, .int .i64 0] 41 (0, 0))) ∧ Aside0 (w'.heap[gb211]? = some (.cells #[.int .i64 x212000_1, .int .i64 x212001_1, .int .i64 x212002_1, .int .i64 x212003_1] 41 (0, 0))) ∧ Aside0 (Below w.heap.size w w'))
 case atStart => exact ⟨(0), (0), (0), (0), (0), rf, H', ⟨Nat.le_refl _⟩, ⟨by (with_reducible repeat (first | refine blk_drewN ?_ _ | refine blk_drew ?_ | refine blk_alloc ?_ _)); refine blk_far ?_ NB210_211.out _; (with_reducible repeat (first | refine blk_drewN ?_ _ | refine blk_drew ?_ | refine blk_alloc ?_ _)); refine blk_far ?_ NB210_211.out _; (with_reducible repeat (first | refine blk_drewN ?_ _ | refine blk_drew ?_ | refine blk_alloc ?_ _)); refine blk_far ?_ NB210_211.out _; (with_reducible repeat (first | refine blk_drewN ?_ _ | refine blk_drew ?_ | refine blk_alloc ?_ _)); refine blk_far ?_ NB210_211.out _; (with_reducible repeat (first | refine blk_drewN ?_ _ | refine blk_drew ?_ | refine blk_alloc ?_ _)); exact BK210.out⟩, ⟨by (with_reducible repeat (first | refine blk_drewN ?_ _ | refine blk_drew ?_ | refine blk_alloc ?_ _)); refine blk_put (cs := #[.int .i64 0, .int .i64 0, .int .i64 0, .int .i64 0]) ?_ 3 _ rfl; (with_reducible repeat (first | refine blk_drewN ?_ _ | refine blk_drew ?_ | refine blk_alloc ?_ _)); refine blk_put (cs := #[.int .i64 0, .int .i64 0, .int .i64 0, .int .i64 0]) ?_ 2 _ rfl; (with_reducible repeat (first | refine blk_drewN ?_ _ | refine blk_drew ?_ | refine blk_alloc ?_ _)); refine blk_put (cs := #[.int .i64 0, .int .i64 0, .int .i64 0, .int .i64 0]) ?_ 1 _ rfl; (with_reducible repeat (first | refine blk_drewN ?_ _ | refine blk_drew ?_ | refine blk_alloc ?_ _)); refine blk_put (cs := #[.int .i64 0, .int .i64 0, .int .i64 0, .int .i64 0]) ?_ 0 _ rfl; (with_reducible repeat (first | refine blk_drewN ?_ _ | refine blk_drew ?_ | refine blk_alloc ?_ _)); exact BK211.out⟩, ⟨bg2 HB.out GE210.out GE211.out⟩⟩
 case round =>
  clear H'
  obtain ⟨x7_1, x212000_1, x212001_1, x212002_1, x212003_1, rfl, HA, HK1, BK210, BK211, HB⟩ := hrel
  cases gk with
  | zero => exact absurd HA.out (by simp [spec_l3Last.l0])
  | succ k1 =>
   have H := HA.out
   clear HA
   simp only [spec_l3Last.l0] at H
   by_cases c7 : x7_1 < (l0.length : Int)
   rotate_left
   · rw [if_neg c7] at H
     have c7b0 := decide_eq_false c7
     clear c7
     simp only [Option.some.injEq, Prod.mk.injEq] at H
     obtain ⟨rfl, rfl, rfl, rfl, rfl⟩ := H
     try go_wp2
     replace BK210 := am (blk_drew BK210.out)
     replace BK211 := am (blk_drew BK211.out)
     replace HB := am (below_drew1 HB.out)
     refine start_ (n := 6) (S := fun w' => w'.cell? ⟨gb211, 0, none⟩ = some (.int .i64 x212000_1) ∧ w'.cell? ⟨gb211, 1, none⟩ = some (.int .i64 x212001_1) ∧ w'.cell? ⟨gb211, 2, none⟩ = some (.int .i64 x212002_1) ∧ w'.cell? ⟨gb211, 3, none⟩ = some (.int .i64 x212003_1)) (ds := []) #[false, false, false, false, false, false] (by kernel_rfl) rfl rfl ⟨(blk_cell BK211.out 0).trans rfl, (blk_cell BK211.out 1).trans rfl, (blk_cell BK211.out 2).trans rfl, (blk_cell BK211.out 3).trans rfl⟩ (fun hHeld => ?_)
     generalize wr.drew = w35 at BK210 BK211 HB hHeld ⊢
     refine pi_ 1 56 #[false, true, false, false, false, false] rfl rfl (fun _ _ _ h => h) ?_
     refine pm_ 0 55 #[true, true, false, false, false, false] rfl rfl (by kernel_rfl) (fun _ _ _ h => h) hHeld ?_
     refine pm_ 2 57 #[true, true, true, false, false, false] rfl rfl (by kernel_rfl) (fun _ _ _ h => h) hHeld ?_
     refine pi_ 3 58 #[true, true, true, true, false, false] rfl rfl (fun _ _ _ h => h) ?_
     refine one_ (i := 4) (N := none) #[true, true, true, true, true, false] rfl rfl (by kernel_rfl) (by decide) (fun K hK => ?_)
     have hs36 : w35.cell? ⟨gb210, 0, none⟩ = some (.int .i64 0) := (blk_cell BK210.out 0).trans rfl
     have hfs36 := blk_frozen BK210.out 0
     have hns36_1 := NB211_210.out
     have hms36_1 := NB210_211.out
     have hs37 : w35.cell? ⟨gb210, 1, none⟩ = some (.int .i64 0) := (blk_cell BK210.out 1).trans rfl
     have hfs37 := blk_frozen BK210.out 1
     have hns37_1 := NB211_210.out
     have hms37_1 := NB210_211.out
     have hs38 : w35.cell? ⟨gb210, 2, none⟩ = some (.int .i64 0) := (blk_cell BK210.out 2).trans rfl
     have hfs38 := blk_frozen BK210.out 2
     have hns38_1 := NB211_210.out
     have hms38_1 := NB210_211.out
     have hs39 : w35.cell? ⟨gb210, 3, none⟩ = some (.int .i64 0) := (blk_cell BK210.out 3).trans rfl
     have hfs39 := blk_frozen BK210.out 3
     have hns39_1 := NB211_210.out
     have hms39_1 := NB210_211.out
     refine skip_ (w1 := ?_) (by rfl) rfl ?_ ?_
     rotate_left
     · go_simp
       rfl
     refine hK.out _ _ ⟨((cell_far (p := ⟨gb210, _, none⟩) NB211_210.out _).trans (((cell_far (p := ⟨gb210, _, none⟩) NB211_210.out _).trans (((cell_far (p := ⟨gb210, _, none⟩) NB211_210.out _).trans (((cell_far (p := ⟨gb210, _, none⟩) NB211_210.out _).trans (hHeld.1)))))))), ((cell_far (p := ⟨gb210, _, none⟩) NB211_210.out _).trans (((cell_far (p := ⟨gb210, _, none⟩) NB211_210.out _).trans (((cell_far (p := ⟨gb210, _, none⟩) NB211_210.out _).trans (((cell_far (p := ⟨gb210, _, none⟩) NB211_210.out _).trans (hHeld.2.1)))))))), ((cell_far (p := ⟨gb210, _, none⟩) NB211_210.out _).trans (((cell_far (p := ⟨gb210, _, none⟩) NB211_210.out _).trans (((cell_far (p := ⟨gb210, _, none⟩) NB211_210.out _).trans (((cell_far (p := ⟨gb210, _, none⟩) NB211_210.out _).trans (hHeld.2.2.1)))))))), ((cell_far (p := ⟨gb210, _, none⟩) NB211_210.out _).trans (((cell_far (p := ⟨gb210, _, none⟩) NB211_210.out _).trans (((cell_far (p := ⟨gb210, _, none⟩) NB211_210.out _).trans (((cell_far (p := ⟨gb210, _, none⟩) NB211_210.out _).trans (hHeld.2.2.2))))))))⟩ (fun hHeld => ?_)
     clear hK K
     refine pi_ 5 5 #[true, true, true, true, true, true] rfl rfl (fun _ _ _ h => h) ?_
     refine done_ (by kernel_rfl) ?_
     try go_wp2
     refine bodyPost_ret (results_ct rfl _ _ gb210 41 #[.int .i64 x212000_1, .int .i64 x212001_1, .int .i64 x212002_1, .int .i64 x212003_1] (0, 0) _ rfl (by (with_reducible repeat (first | refine blk_drewN ?_ _ | refine blk_drew ?_ | refine blk_alloc ?_ _)); refine blk_put (cs := #[.int .i64 x212000_1, .int .i64 x212001_1, .int .i64 x212002_1, .int .i64 0]) ?_ 3 _ rfl; (with_reducible repeat (first | refine blk_drewN ?_ _ | refine blk_drew ?_ | refine blk_alloc ?_ _)); refine blk_put (cs := #[.int .i64 x212000_1, .int .i64 x212001_1, .int .i64 0, .int .i64 0]) ?_ 2 _ rfl; (with_reducible repeat (first | refine blk_drewN ?_ _ | refine blk_drew ?_ | refine blk_alloc ?_ _)); refine blk_put (cs := #[.int .i64 x212000_1, .int .i64 0, .int .i64 0, .int .i64 0]) ?_ 1 _ rfl; (with_reducible repeat (first | refine blk_drewN ?_ _ | refine blk_drew ?_ | refine blk_alloc ?_ _)); refine blk_put (cs := #[.int .i64 0, .int .i64 0, .int .i64 0, .int .i64 0]) ?_ 0 _ rfl; (with_reducible repeat (first | refine blk_drewN ?_ _ | refine blk_drew ?_ | refine blk_alloc ?_ _)); exact BK210.out) Try.underlying41 rfl (by kernel_rfl)) rfl ?_
     exact (rq (bg2 HB.out GE210.out GE211.out))
   rw [if_pos c7] at H
   have c7b0 := decide_eq_true c7
   clear c7
   have H' := am H
   clear H
   go_wp2
   go_loopg [8] k1 (fun kq v8 w' => ∃ (x8_2 : Int) (x212000_2 : Int) (x212001_2 : Int) (x212002_2 : Int) (x212003_2 : Int), v8 = .int .i64 x8_2 ∧ Aside0 (spec_l3Last.l1 kq l0 a1 x7_1 x8_2 x212000_2 x212001_2 x212002_2 x212003_2 = some (r1, r2, r3, r4, r5)) ∧ Aside0 (kq ≤ k1) ∧ Aside0 (w'.heap[gb210]? = some (.cells #[.int .i64 0, .int .i64 0, .int .i64 0, .int .i64 0] 41 (0, 0))) ∧ Aside0 (w'.heap[gb211]? = some (.cells #[.int .i64 x212000_2, .int .i64 x212001_2, .int .i64 x212002_2, .int .i64 x212003_2] 41 (0, 0))) ∧ Aside0 (Below w.heap.size w w'))
   case atStart => exact ⟨(0), (x212000_1), (x212001_1), (x212002_1), (x212003_1), rf, H', ⟨Nat.le_refl _⟩, ⟨pb BK210.out⟩, ⟨pb BK211.out⟩, ⟨bg2 HB.out GE210.out GE211.out⟩⟩
   case round =>
    clear H'
    obtain ⟨x8_2, x212000_2, x212001_2, x212002_2, x212003_2, rfl, HA, HK2, BK210, BK211, HB⟩ := hrel
    cases gk with
    | zero => exact absurd HA.out (by simp [spec_l3Last.l1])
    | succ k2 =>
     have H := HA.out
     clear HA
     simp only [spec_l3Last.l1] at H
     by_cases c8 : 0 ≤ x7_1
     rotate_left
     · rw [if_neg c8] at H
       exact absurd H (by simp)
     rw [if_pos c8] at H
     have c8b0 := decide_eq_true c8
     clear c8
     by_cases c9 : x7_1 < (l0.length : Int)
     rotate_left
     · rw [if_neg c9] at H
       exact absurd H (by simp)
     rw [if_pos c9] at H
     have c9b0 := decide_eq_true c9
     clear c9
     by_cases c10 : x8_2 < (((rd_T31 l0 x7_1).f0).length : Int)
     rotate_left
     · rw [if_neg c10] at H
       have c10b0 := decide_eq_false c10
       clear c10
       have H' := am H
       clear H
       have p212 : 0 ≤ (x7_1 : Int) := ofb
       have q212 : x7_1 < (l0.length : Int) := ofb
       obtain ⟨ad212, A212_0, c212_0, e212, hx212_0, hx212_1, hl212_0, hi212_0⟩ := at_T31 HR0.out x7_1 p212 q212
       cases e212
       replace hx212_0 := up HB.out hx212_0
       replace hx212_1 := up HB.out hx212_1
       have HR212_0 := am hi212_0
       have HC212_0 := am hl212_0
       clear hi212_0 hl212_0
       replace p212 := eq_true p212
       replace q212 := eq_true q212
       go_wp2
       go_roundg k2
       case measure => have := HK1.out; have := HK2.out; omega
       case rel => exact ⟨(wrap64 (x7_1 + 1)), (x212000_2), (x212001_2), (x212002_2), (x212003_2), rf, H', ⟨by have := HK1.out; have := HK2.out; omega⟩, ⟨pb BK210.out⟩, ⟨pb BK211.out⟩, ⟨bg2 HB.out GE210.out GE211.out⟩⟩
     rw [if_pos c10] at H
     have c10b0 := decide_eq_true c10
     clear c10
     by_cases c11 : 0 ≤ x8_2
     rotate_left
     · rw [if_neg c11] at H
       exact absurd H (by simp)
     rw [if_pos c11] at H
     have c11b0 := decide_eq_true c11
     clear c11
     by_cases c12 : ((rd_T43 ((rd_T31 l0 x7_1).f0) x8_2).f0) = 1
     rotate_left
     · rw [if_neg c12] at H
       have c12b0 : (((rd_T43 ((rd_T31 l0 x7_1).f0) x8_2).f0) == 1) = false := beq_eq_false_iff_ne.mpr c12
       have c12b1 : (((rd_T43 ((rd_T31 l0 x7_1).f0) x8_2).f0) != 1) = true := bne_iff_ne.mpr c12
       have H' := am H
       clear H
       have p212 : 0 ≤ (x7_1 : Int) := ofb
       have q212 : x7_1 < (l0.length : Int) := ofb
       obtain ⟨ad212, A212_0, c212_0, e212, hx212_0, hx212_1, hl212_0, hi212_0⟩ := at_T31 HR0.out x7_1 p212 q212
       cases e212
       replace hx212_0 := up HB.out hx212_0
       replace hx212_1 := up HB.out hx212_1
       have HR212_0 := am hi212_0
       have HC212_0 := am hl212_0
       clear hi212_0 hl212_0
       replace p212 := eq_true p212
       replace q212 := eq_true q212
       have p213 : 0 ≤ (x7_1 : Int) := ofb
       have q213 : x7_1 < (l0.length : Int) := ofb
       obtain ⟨ad213, A213_0, c213_0, e213, hx213_0, hx213_1, hl213_0, hi213_0⟩ := at_T31 HR0.out x7_1 p213 q213
       obtain rfl : ad212 = ad213 := (by injection e213)
       replace hx213_0 := up HB.out hx213_0
       replace hx213_1 := up HB.out hx213_1
       have HR213_0 := am hi213_0
       have HC213_0 := am hl213_0
       clear hi213_0 hl213_0
       replace p213 := eq_true p213
       replace q213 := eq_true q213
       have ea_ := Option.some.inj (hx212_0.symm.trans hx213_0)
       injection ea_ with ea_ en_ ec_
       subst ea_
       subst ec_
       clear en_
       have p214 : 0 ≤ (x8_2 : Int) := ofb
       have q214 : x8_2 < (((rd_T31 l0 x7_1).f0).length : Int) := ofb
       obtain ⟨ad214, e214, hx214_0, hx214_1, hx214_2, hx214_3, hx214_4⟩ := at_T43 HR213_0.out x8_2 p214 q214
       cases e214
       replace hx214_0 := up HB.out hx214_0
       replace hx214_1 := up HB.out hx214_1
       replace hx214_2 := up HB.out hx214_2
       replace hx214_3 := up HB.out hx214_3
       replace hx214_4 := up HB.out hx214_4
       replace p214 := eq_true p214
       replace q214 := eq_true q214
       go_wp2_with (first | (refine bx 9 #[.int .i64 0, .int .i64 0, .int .i64 0, .int .i64 0, .int .i64 0] 43 rfl ?_; intro gb215 hg w31 hbox hb; have BK215 := am (hbox); have GW215 := am ((by rw [hg]; exact (below_size (bg2 HB.out GE210.out GE211.out)) : w.heap.size ≤ gb215)); have GE215 := GW215; replace HB := am (below_step (bg2 HB.out GE210.out GE211.out) hb); have NB210_215 := am ((by rw [hg]; exact Nat.ne_of_lt (blk_lt (pb BK210.out)) : gb210 ≠ gb215)); have NB215_210 := am (Ne.symm NB210_215.out); replace BK210 := am (blk_below (pb BK210.out) hb); have NB211_215 := am ((by rw [hg]; exact Nat.ne_of_lt (blk_lt (pb BK211.out)) : gb211 ≠ gb215)); have NB215_211 := am (Ne.symm NB211_215.out); replace BK211 := am (blk_below (pb BK211.out) hb); clear hb hbox hg; have hnb32 := NB215_210.out; have hnc32 := NB210_215.out; have hnb33 := NB215_211.out; have hnc33 := NB211_215.out; obtain ⟨hcz34_0, hcz34_1, hcz34_2, hcz34_3, hcz34_4⟩ := b5 BK215.out; obtain ⟨hfz34_0, hfz34_1, hfz34_2, hfz34_3, hfz34_4⟩ := f5 BK215.out))
       go_roundg k2
       case measure => have := HK1.out; have := HK2.out; omega
       case rel => exact ⟨(wrap64 (x8_2 + 1)), (x212000_2), (x212001_2), (x212002_2), (x212003_2), rf, H', ⟨by have := HK1.out; have := HK2.out; omega⟩, ⟨by (with_reducible repeat (first | refine blk_drewN ?_ _ | refine blk_drew ?_ | refine blk_alloc ?_ _)); refine blk_far ?_ NB210_215.out _; (with_reducible repeat (first | refine blk_drewN ?_ _ | refine blk_drew ?_ | refine blk_alloc ?_ _)); refine blk_far ?_ NB210_215.out _; (with_reducible repeat (first | refine blk_drewN ?_ _ | refine blk_drew ?_ | refine blk_alloc ?_ _)); refine blk_far ?_ NB210_215.out _; (with_reducible repeat (first | refine blk_drewN ?_ _ | refine blk_drew ?_ | refine blk_alloc ?_ _)); refine blk_far ?_ NB210_215.out _; (with_reducible repeat (first | refine blk_drewN ?_ _ | refine blk_drew ?_ | refine blk_alloc ?_ _)); refine blk_far ?_ NB210_215.out _; (with_reducible repeat (first | refine blk_drewN ?_ _ | refine blk_drew ?_ | refine blk_alloc ?_ _)); exact BK210.out⟩, ⟨by (with_reducible repeat (first | refine blk_drewN ?_ _ | refine blk_drew ?_ | refine blk_alloc ?_ _)); refine blk_far ?_ NB211_215.out _; (with_reducible repeat (first | refine blk_drewN ?_ _ | refine blk_drew ?_ | refine blk_alloc ?_ _)); refine blk_far ?_ NB211_215.out _; (with_reducible repeat (first | refine blk_drewN ?_ _ | refine blk_drew ?_ | refine blk_alloc ?_ _)); refine blk_far ?_ NB211_215.out _; (with_reducible repeat (first | refine blk_drewN ?_ _ | refine blk_drew ?_ | refine blk_alloc ?_ _)); refine blk_far ?_ NB211_215.out _; (with_reducible repeat (first | refine blk_drewN ?_ _ | refine blk_drew ?_ | refine blk_alloc ?_ _)); refine blk_far ?_ NB211_215.out _; (with_reducible repeat (first | refine blk_drewN ?_ _ | refine blk_drew ?_ | refine blk_alloc ?_ _)); exact BK211.out⟩, ⟨bg3 HB.out GE210.out GE211.out GE215.out⟩⟩
     rw [if_pos c12] at H
     have c12b0 : (((rd_T43 ((rd_T31 l0 x7_1).f0) x8_2).f0) == 1) = true := beq_iff_eq.mpr c12
     have c12b1 : (((rd_T43 ((rd_T31 l0 x7_1).f0) x8_2).f0) != 1) = false := bne_eq_false_iff_eq.mpr c12
     clear c12
     by_cases c13 : ((rd_T43 ((rd_T31 l0 x7_1).f0) x8_2).f1.f2) = a1
     rotate_left
     · rw [if_neg c13] at H
       have c13b0 : (((rd_T43 ((rd_T31 l0 x7_1).f0) x8_2).f1.f2) == a1) = false := beq_eq_false_iff_ne.mpr c13
       have c13b1 : (((rd_T43 ((rd_T31 l0 x7_1).f0) x8_2).f1.f2) != a1) = true := bne_iff_ne.mpr c13
       have H' := am H
       clear H
       have p212 : 0 ≤ (x7_1 : Int) := ofb
       have q212 : x7_1 < (l0.length : Int) := ofb
       obtain ⟨ad212, A212_0, c212_0, e212, hx212_0, hx212_1, hl212_0, hi212_0⟩ := at_T31 HR0.out x7_1 p212 q212
       cases e212
       replace hx212_0 := up HB.out hx212_0
       replace hx212_1 := up HB.out hx212_1
       have HR212_0 := am hi212_0
       have HC212_0 := am hl212_0
       clear hi212_0 hl212_0
       replace p212 := eq_true p212
       replace q212 := eq_true q212
       have p213 : 0 ≤ (x7_1 : Int) := ofb
       have q213 : x7_1 < (l0.length : Int) := ofb
       obtain ⟨ad213, A213_0, c213_0, e213, hx213_0, hx213_1, hl213_0, hi213_0⟩ := at_T31 HR0.out x7_1 p213 q213
       obtain rfl : ad212 = ad213 := (by injection e213)
       replace hx213_0 := up HB.out hx213_0
       replace hx213_1 := up HB.out hx213_1
       have HR213_0 := am hi213_0
       have HC213_0 := am hl213_0
       clear hi213_0 hl213_0
       replace p213 := eq_true p213
       replace q213 := eq_true q213
       have ea_ := Option.some.inj (hx212_0.symm.trans hx213_0)
       injection ea_ with ea_ en_ ec_
       subst ea_
       subst ec_
       clear en_
       have p214 : 0 ≤ (x8_2 : Int) := ofb
       have q214 : x8_2 < (((rd_T31 l0 x7_1).f0).length : Int) := ofb
       obtain ⟨ad214, e214, hx214_0, hx214_1, hx214_2, hx214_3, hx214_4⟩ := at_T43 HR213_0.out x8_2 p214 q214
       cases e214
       replace hx214_0 := up HB.out hx214_0
       replace hx214_1 := up HB.out hx214_1
       replace hx214_2 := up HB.out hx214_2
       replace hx214_3 := up HB.out hx214_3
       replace hx214_4 := up HB.out hx214_4
       replace p214 := eq_true p214
       replace q214 := eq_true q214
       go_wp2_with (first | (refine bx 9 #[.int .i64 0, .int .i64 0, .int .i64 0, .int .i64 0, .int .i64 0] 43 rfl ?_; intro gb215 hg w27 hbox hb; have BK215 := am (hbox); have GW215 := am ((by rw [hg]; exact (below_size (bg2 HB.out GE210.out GE211.out)) : w.heap.size ≤ gb215)); have GE215 := GW215; replace HB := am (below_step (bg2 HB.out GE210.out GE211.out) hb); have NB210_215 := am ((by rw [hg]; exact Nat.ne_of_lt (blk_lt (pb BK210.out)) : gb210 ≠ gb215)); have NB215_210 := am (Ne.symm NB210_215.out); replace BK210 := am (blk_below (pb BK210.out) hb); have NB211_215 := am ((by rw [hg]; exact Nat.ne_of_lt (blk_lt (pb BK211.out)) : gb211 ≠ gb215)); have NB215_211 := am (Ne.symm NB211_215.out); replace BK211 := am (blk_below (pb BK211.out) hb); clear hb hbox hg; have hnb28 := NB215_210.out; have hnc28 := NB210_215.out; have hnb29 := NB215_211.out; have hnc29 := NB211_215.out; obtain ⟨hcz30_0, hcz30_1, hcz30_2, hcz30_3, hcz30_4⟩ := b5 BK215.out; obtain ⟨hfz30_0, hfz30_1, hfz30_2, hfz30_3, hfz30_4⟩ := f5 BK215.out))
       go_roundg k2
       case measure => have := HK1.out; have := HK2.out; omega
       case rel => exact ⟨(wrap64 (x8_2 + 1)), (x212000_2), (x212001_2), (x212002_2), (x212003_2), rf, H', ⟨by have := HK1.out; have := HK2.out; omega⟩, ⟨by (with_reducible repeat (first | refine blk_drewN ?_ _ | refine blk_drew ?_ | refine blk_alloc ?_ _)); refine blk_far ?_ NB210_215.out _; (with_reducible repeat (first | refine blk_drewN ?_ _ | refine blk_drew ?_ | refine blk_alloc ?_ _)); refine blk_far ?_ NB210_215.out _; (with_reducible repeat (first | refine blk_drewN ?_ _ | refine blk_drew ?_ | refine blk_alloc ?_ _)); refine blk_far ?_ NB210_215.out _; (with_reducible repeat (first | refine blk_drewN ?_ _ | refine blk_drew ?_ | refine blk_alloc ?_ _)); refine blk_far ?_ NB210_215.out _; (with_reducible repeat (first | refine blk_drewN ?_ _ | refine blk_drew ?_ | refine blk_alloc ?_ _)); refine blk_far ?_ NB210_215.out _; (with_reducible repeat (first | refine blk_drewN ?_ _ | refine blk_drew ?_ | refine blk_alloc ?_ _)); exact BK210.out⟩, ⟨by (with_reducible repeat (first | refine blk_drewN ?_ _ | refine blk_drew ?_ | refine blk_alloc ?_ _)); refine blk_far ?_ NB211_215.out _; (with_reducible repeat (first | refine blk_drewN ?_ _ | refine blk_drew ?_ | refine blk_alloc ?_ _)); refine blk_far ?_ NB211_215.out _; (with_reducible repeat (first | refine blk_drewN ?_ _ | refine blk_drew ?_ | refine blk_alloc ?_ _)); refine blk_far ?_ NB211_215.out _; (with_reducible repeat (first | refine blk_drewN ?_ _ | refine blk_drew ?_ | refine blk_alloc ?_ _)); refine blk_far ?_ NB211_215.out _; (with_reducible repeat (first | refine blk_drewN ?_ _ | refine blk_drew ?_ | refine blk_alloc ?_ _)); refine blk_far ?_ NB211_215.out _; (with_reducible repeat (first | refine blk_drewN ?_ _ | refine blk_drew ?_ | refine blk_alloc ?_ _)); exact BK211.out⟩, ⟨bg3 HB.out GE210.out GE211.out GE215.out⟩⟩
     rw [if_pos c13] at H
     have c13b0 : (((rd_T43 ((rd_T31 l0 x7_1).f0) x8_2).f1.f2) == a1) = true := beq_iff_eq.mpr c13
     have c13b1 : (((rd_T43 ((rd_T31 l0 x7_1).f0) x8_2).f1.f2) != a1) = false := bne_eq_false_iff_eq.mpr c13
     clear c13
     by_cases c14 : ((rd_T43 ((rd_T31 l0 x7_1).f0) x8_2).f1.f1) > x212001_2
     rotate_left
     · rw [if_neg c14] at H
       have c14b0 := decide_eq_false c14
       clear c14
       have H' := am H
       clear H
       have p212 : 0 ≤ (x7_1 : Int) := ofb
       have q212 : x7_1 < (l0.length : Int) := ofb
       obtain ⟨ad212, A212_0, c212_0, e212, hx212_0, hx212_1, hl212_0, hi212_0⟩ := at_T31 HR0.out x7_1 p212 q212
       cases e212
       replace hx212_0 := up HB.out hx212_0
       replace hx212_1 := up HB.out hx212_1
       have HR212_0 := am hi212_0
       have HC212_0 := am hl212_0
       clear hi212_0 hl212_0
       replace p212 := eq_true p212
       replace q212 := eq_true q212
       have p213 : 0 ≤ (x7_1 : Int) := ofb
       have q213 : x7_1 < (l0.length : Int) := ofb
       obtain ⟨ad213, A213_0, c213_0, e213, hx213_0, hx213_1, hl213_0, hi213_0⟩ := at_T31 HR0.out x7_1 p213 q213
       obtain rfl : ad212 = ad213 := (by injection e213)
       replace hx213_0 := up HB.out hx213_0
       replace hx213_1 := up HB.out hx213_1
       have HR213_0 := am hi213_0
       have HC213_0 := am hl213_0
       clear hi213_0 hl213_0
       replace p213 := eq_true p213
       replace q213 := eq_true q213
       have ea_ := Option.some.inj (hx212_0.symm.trans hx213_0)
       injection ea_ with ea_ en_ ec_
       subst ea_
       subst ec_
       clear en_
       have p214 : 0 ≤ (x8_2 : Int) := ofb
       have q214 : x8_2 < (((rd_T31 l0 x7_1).f0).length : Int) := ofb
       obtain ⟨ad214, e214, hx214_0, hx214_1, hx214_2, hx214_3, hx214_4⟩ := at_T43 HR213_0.out x8_2 p214 q214
       cases e214
       replace hx214_0 := up HB.out hx214_0
       replace hx214_1 := up HB.out hx214_1
       replace hx214_2 := up HB.out hx214_2
       replace hx214_3 := up HB.out hx214_3
       replace hx214_4 := up HB.out hx214_4
       replace p214 := eq_true p214
       replace q214 := eq_true q214
       go_wp2_with (first | (refine bx 9 #[.int .i64 0, .int .i64 0, .int .i64 0, .int .i64 0, .int .i64 0] 43 rfl ?_; intro gb215 hg w21 hbox hb; have BK215 := am (hbox); have GW215 := am ((by rw [hg]; exact (below_size (bg2 HB.out GE210.out GE211.out)) : w.heap.size ≤ gb215)); have GE215 := GW215; replace HB := am (below_step (bg2 HB.out GE210.out GE211.out) hb); have NB210_215 := am ((by rw [hg]; exact Nat.ne_of_lt (blk_lt (pb BK210.out)) : gb210 ≠ gb215)); have NB215_210 := am (Ne.symm NB210_215.out); replace BK210 := am (blk_below (pb BK210.out) hb); have NB211_215 := am ((by rw [hg]; exact Nat.ne_of_lt (blk_lt (pb BK211.out)) : gb211 ≠ gb215)); have NB215_211 := am (Ne.symm NB211_215.out); replace BK211 := am (blk_below (pb BK211.out) hb); clear hb hbox hg; have hnb22 := NB215_210.out; have hnc22 := NB210_215.out; have hnb23 := NB215_211.out; have hnc23 := NB211_215.out; obtain ⟨hcz24_0, hcz24_1, hcz24_2, hcz24_3, hcz24_4⟩ := b5 BK215.out; obtain ⟨hfz24_0, hfz24_1, hfz24_2, hfz24_3, hfz24_4⟩ := f5 BK215.out; have hnb25 := NB211_210.out; have hnc25 := NB210_211.out; obtain ⟨hcz26_0, hcz26_1, hcz26_2, hcz26_3⟩ := b4 BK211.out; obtain ⟨hfz26_0, hfz26_1, hfz26_2, hfz26_3⟩ := f4 BK211.out))
       go_roundg k2
       case measure => have := HK1.out; have := HK2.out; omega
       case rel => exact ⟨(wrap64 (x8_2 + 1)), (x212000_2), (x212001_2), (x212002_2), (x212003_2), rf, H', ⟨by have := HK1.out; have := HK2.out; omega⟩, ⟨by (with_reducible repeat (first | refine blk_drewN ?_ _ | refine blk_drew ?_ | refine blk_alloc ?_ _)); refine blk_far ?_ NB210_215.out _; (with_reducible repeat (first | refine blk_drewN ?_ _ | refine blk_drew ?_ | refine blk_alloc ?_ _)); refine blk_far ?_ NB210_215.out _; (with_reducible repeat (first | refine blk_drewN ?_ _ | refine blk_drew ?_ | refine blk_alloc ?_ _)); refine blk_far ?_ NB210_215.out _; (with_reducible repeat (first | refine blk_drewN ?_ _ | refine blk_drew ?_ | refine blk_alloc ?_ _)); refine blk_far ?_ NB210_215.out _; (with_reducible repeat (first | refine blk_drewN ?_ _ | refine blk_drew ?_ | refine blk_alloc ?_ _)); refine blk_far ?_ NB210_215.out _; (with_reducible repeat (first | refine blk_drewN ?_ _ | refine blk_drew ?_ | refine blk_alloc ?_ _)); exact BK210.out⟩, ⟨by (with_reducible repeat (first | refine blk_drewN ?_ _ | refine blk_drew ?_ | refine blk_alloc ?_ _)); refine blk_far ?_ NB211_215.out _; (with_reducible repeat (first | refine blk_drewN ?_ _ | refine blk_drew ?_ | refine blk_alloc ?_ _)); refine blk_far ?_ NB211_215.out _; (with_reducible repeat (first | refine blk_drewN ?_ _ | refine blk_drew ?_ | refine blk_alloc ?_ _)); refine blk_far ?_ NB211_215.out _; (with_reducible repeat (first | refine blk_drewN ?_ _ | refine blk_drew ?_ | refine blk_alloc ?_ _)); refine blk_far ?_ NB211_215.out _; (with_reducible repeat (first | refine blk_drewN ?_ _ | refine blk_drew ?_ | refine blk_alloc ?_ _)); refine blk_far ?_ NB211_215.out _; (with_reducible repeat (first | refine blk_drewN ?_ _ | refine blk_drew ?_ | refine blk_alloc ?_ _)); exact BK211.out⟩, ⟨bg3 HB.out GE210.out GE211.out GE215.out⟩⟩
     rw [if_pos c14] at H
     have c14b0 := decide_eq_true c14
     clear c14
     have H' := am H
     clear H
     have p212 : 0 ≤ (x7_1 : Int) := ofb
     have q212 : x7_1 < (l0.length : Int) := ofb
     obtain ⟨ad212, A212_0, c212_0, e212, hx212_0, hx212_1, hl212_0, hi212_0⟩ := at_T31 HR0.out x7_1 p212 q212
     cases e212
     replace hx212_0 := up HB.out hx212_0
     replace hx212_1 := up HB.out hx212_1
     have HR212_0 := am hi212_0
     have HC212_0 := am hl212_0
     clear hi212_0 hl212_0
     replace p212 := eq_true p212
     replace q212 := eq_true q212
     have p213 : 0 ≤ (x7_1 : Int) := ofb
     have q213 : x7_1 < (l0.length : Int) := ofb
     obtain ⟨ad213, A213_0, c213_0, e213, hx213_0, hx213_1, hl213_0, hi213_0⟩ := at_T31 HR0.out x7_1 p213 q213
     obtain rfl : ad212 = ad213 := (by injection e213)
     replace hx213_0 := up HB.out hx213_0
     replace hx213_1 := up HB.out hx213_1
     have HR213_0 := am hi213_0
     have HC213_0 := am hl213_0
     clear hi213_0 hl213_0
     replace p213 := eq_true p213
     replace q213 := eq_true q213
     have ea_ := Option.some.inj (hx212_0.symm.trans hx213_0)
     injection ea_ with ea_ en_ ec_
     subst ea_
     subst ec_
     clear en_
     have p214 : 0 ≤ (x8_2 : Int) := ofb
     have q214 : x8_2 < (((rd_T31 l0 x7_1).f0).length : Int) := ofb
     obtain ⟨ad214, e214, hx214_0, hx214_1, hx214_2, hx214_3, hx214_4⟩ := at_T43 HR213_0.out x8_2 p214 q214
     cases e214
     replace hx214_0 := up HB.out hx214_0
     replace hx214_1 := up HB.out hx214_1
     replace hx214_2 := up HB.out hx214_2
     replace hx214_3 := up HB.out hx214_3
     replace hx214_4 := up HB.out hx214_4
     replace p214 := eq_true p214
     replace q214 := eq_true q214
     go_wp2_with (first | (refine bx 9 #[.int .i64 0, .int .i64 0, .int .i64 0, .int .i64 0, .int .i64 0] 43 rfl ?_; intro gb215 hg w15 hbox hb; have BK215 := am (hbox); have GW215 := am ((by rw [hg]; exact (below_size (bg2 HB.out GE210.out GE211.out)) : w.heap.size ≤ gb215)); have GE215 := GW215; replace HB := am (below_step (bg2 HB.out GE210.out GE211.out) hb); have NB210_215 := am ((by rw [hg]; exact Nat.ne_of_lt (blk_lt (pb BK210.out)) : gb210 ≠ gb215)); have NB215_210 := am (Ne.symm NB210_215.out); replace BK210 := am (blk_below (pb BK210.out) hb); have NB211_215 := am ((by rw [hg]; exact Nat.ne_of_lt (blk_lt (pb BK211.out)) : gb211 ≠ gb215)); have NB215_211 := am (Ne.symm NB211_215.out); replace BK211 := am (blk_below (pb BK211.out) hb); clear hb hbox hg; have hnb16 := NB215_210.out; have hnc16 := NB210_215.out; have hnb17 := NB215_211.out; have hnc17 := NB211_215.out; obtain ⟨hcz18_0, hcz18_1, hcz18_2, hcz18_3, hcz18_4⟩ := b5 BK215.out; obtain ⟨hfz18_0, hfz18_1, hfz18_2, hfz18_3, hfz18_4⟩ := f5 BK215.out; have hnb19 := NB211_210.out; have hnc19 := NB210_211.out; obtain ⟨hcz20_0, hcz20_1, hcz20_2, hcz20_3⟩ := b4 BK211.out; obtain ⟨hfz20_0, hfz20_1, hfz20_2, hfz20_3⟩ := f4 BK211.out))
     go_roundg k2
     case measure => have := HK1.out; have := HK2.out; omega
     case rel => exact ⟨(wrap64 (x8_2 + 1)), ((rd_T43 ((rd_T31 l0 x7_1).f0) x8_2).f1.f0), ((rd_T43 ((rd_T31 l0 x7_1).f0) x8_2).f1.f1), ((rd_T43 ((rd_T31 l0 x7_1).f0) x8_2).f1.f2), ((rd_T43 ((rd_T31 l0 x7_1).f0) x8_2).f1.f3), rf, H', ⟨by have := HK1.out; have := HK2.out; omega⟩, ⟨by (with_reducible repeat (first | refine blk_drewN ?_ _ | refine blk_drew ?_ | refine blk_alloc ?_ _)); refine blk_far ?_ NB210_211.out _; (with_reducible repeat (first | refine blk_drewN ?_ _ | refine blk_drew ?_ | refine blk_alloc ?_ _)); refine blk_far ?_ NB210_211.out _; (with_reducible repeat (first | refine blk_drewN ?_ _ | refine blk_drew ?_ | refine blk_alloc ?_ _)); refine blk_far ?_ NB210_211.out _; (with_reducible repeat (first | refine blk_drewN ?_ _ | refine blk_drew ?_ | refine blk_alloc ?_ _)); refine blk_far ?_ NB210_211.out _; (with_reducible repeat (first | refine blk_drewN ?_ _ | refine blk_drew ?_ | refine blk_alloc ?_ _)); refine blk_far ?_ NB210_215.out _; (with_reducible repeat (first | refine blk_drewN ?_ _ | refine blk_drew ?_ | refine blk_alloc ?_ _)); refine blk_far ?_ NB210_215.out _; (with_reducible repeat (first | refine blk_drewN ?_ _ | refine blk_drew ?_ | refine blk_alloc ?_ _)); refine blk_far ?_ NB210_215.out _; (with_reducible repeat (first | refine blk_drewN ?_ _ | refine blk_drew ?_ | refine blk_alloc ?_ _)); refine blk_far ?_ NB210_215.out _; (with_reducible repeat (first | refine blk_drewN ?_ _ | refine blk_drew ?_ | refine blk_alloc ?_ _)); refine blk_far ?_ NB210_215.out _; (with_reducible repeat (first | refine blk_drewN ?_ _ | refine blk_drew ?_ | refine blk_alloc ?_ _)); exact BK210.out⟩, ⟨by (with_reducible repeat (first | refine blk_drewN ?_ _ | refine blk_drew ?_ | refine blk_alloc ?_ _)); refine blk_put (cs := #[.int .i64 ((rd_T43 ((rd_T31 l0 x7_1).f0) x8_2).f1.f0), .int .i64 ((rd_T43 ((rd_T31 l0 x7_1).f0) x8_2).f1.f1), .int .i64 ((rd_T43 ((rd_T31 l0 x7_1).f0) x8_2).f1.f2), .int .i64 x212003_2]) ?_ 3 _ rfl; (with_reducible repeat (first | refine blk_drewN ?_ _ | refine blk_drew ?_ | refine blk_alloc ?_ _)); refine blk_put (cs := #[.int .i64 ((rd_T43 ((rd_T31 l0 x7_1).f0) x8_2).f1.f0), .int .i64 ((rd_T43 ((rd_T31 l0 x7_1).f0) x8_2).f1.f1), .int .i64 x212002_2, .int .i64 x212003_2]) ?_ 2 _ rfl; (with_reducible repeat (first | refine blk_drewN ?_ _ | refine blk_drew ?_ | refine blk_alloc ?_ _)); refine blk_put (cs := #[.int .i64 ((rd_T43 ((rd_T31 l0 x7_1).f0) x8_2).f1.f0), .int .i64 x212001_2, .int .i64 x212002_2, .int .i64 x212003_2]) ?_ 1 _ rfl; (with_reducible repeat (first | refine blk_drewN ?_ _ | refine blk_drew ?_ | refine blk_alloc ?_ _)); refine blk_put (cs := #[.int .i64 x212000_2, .int .i64 x212001_2, .int .i64 x212002_2, .int .i64 x212003_2]) ?_ 0 _ rfl; (with_reducible repeat (first | refine blk_drewN ?_ _ | refine blk_drew ?_ | refine blk_alloc ?_ _)); refine blk_far ?_ NB211_215.out _; (with_reducible repeat (first | refine blk_drewN ?_ _ | refine blk_drew ?_ | refine blk_alloc ?_ _)); refine blk_far ?_ NB211_215.out _; (with_reducible repeat (first | refine blk_drewN ?_ _ | refine blk_drew ?_ | refine blk_alloc ?_ _)); refine blk_far ?_ NB211_215.out _; (with_reducible repeat (first | refine blk_drewN ?_ _ | refine blk_drew ?_ | refine blk_alloc ?_ _)); refine blk_far ?_ NB211_215.out _; (with_reducible repeat (first | refine blk_drewN ?_ _ | refine blk_drew ?_ | refine blk_alloc ?_ _)); refine blk_far ?_ NB211_215.out _; (with_reducible repeat (first | refine blk_drewN ?_ _ | refine blk_drew ?_ | refine blk_alloc ?_ _)); exact BK211.out⟩, ⟨bg3 HB.out GE210.out GE211.out GE215.out⟩⟩
end Go.Proofs.Ytpdelojhomfakaa.Ro
namespace Go.Proofs.Ytpdelojhomfakaa.Ro
open Go.RowKit Go.Proofs.YtpdelojhomfakaaW.PrintWords Go.Proofs.YtpdelojhomfakaaW.PrintLast Go.Proofs.YtpdelojhomfakaaW.PrintMore
attribute [local go_sem] max2_int min2_int max_two min_two max_three min_three max_four min_four
set_option linter.unusedVariables false
set_option linter.unusedSimpArgs false
attribute [local go_sem high] eqA41
def spec_l3Live.f (k : Nat) (l0 : List (S31)) (a1_0 : Int) (a1_1 : Int) (a1_2 : Int) (a1_3 : Int) (a1_4 : Int) : Option (Bool) := if a1_0 = 1 then ((spec_l3Last.f k l0 a1_3).bind fun bt217 => (some (bt217.1 == a1_1 && (bt217.2.1 == a1_2 && (bt217.2.2.1 == a1_3 && (bt217.2.2.2.1 == a1_4)))))) else (some false)
theorem spec_l3Live.mono : ∀ a0 a1 a2 a3 a4 a5 k, LeO (spec_l3Live.f k a0 a1 a2 a3 a4 a5) (spec_l3Live.f (k + 1) a0 a1 a2 a3 a4 a5) := by
 intro a0 a1 a2 a3 a4 a5 k
 unfold spec_l3Live.f
 repeat' first
  | (with_reducible exact spec_l3Last.mono _ _ _)
  | (with_reducible exact LeO.refl _)
  | (with_reducible exact LeO.none _)
  | (with_reducible refine LeO.ite ?_ ?_)
  | (with_reducible refine LeO.bind ?_ (fun _ => ?_))
  | exact spec_l3Last.mono _ _ _
  | exact LeO.none _
  | refine LeO.ite ?_ ?_
  | refine LeO.bind ?_ (fun _ => ?_)
set_option maxHeartbeats 8000000 in
set_option maxRecDepth 100000 in
theorem spec_l3Live.calls (k : Nat) (A0 : Option Addr) (c0 : Nat) (l0 : List (S31)) (a1_0 : Int) (a1_1 : Int) (a1_2 : Int) (a1_3 : Int) (a1_4 : Int) (r : Bool) (w : World) (hr0 : Kd.C k31 w A0 l0.length l0) (hc0 : l0.length ≤ c0) (h : spec_l3Live.f k l0 a1_0 a1_1 a1_2 a1_3 a1_4 = some r) :
 Calls Try.prog 50 #[.slice A0 l0.length c0, .agg #[.int .i64 a1_0, .int .i64 a1_1, .int .i64 a1_2, .int .i64 a1_3, .int .i64 a1_4]] w fun e w' => e = .returned (.bool r) ∧ Below w.heap.size w w' := by
 have hu43 := Try.underlying43
 have hu41 := Try.underlying41
 have HR0 := am hr0
 have HC0 := am hc0
 clear hr0 hc0
 have HB := am (Below.refl w.heap.size w)
 have H : (if a1_0 = 1 then ((spec_l3Last.f k l0 a1_3).bind fun bt217 => (some (bt217.1 == a1_1 && (bt217.2.1 == a1_2 && (bt217.2.2.1 == a1_3 && (bt217.2.2.2.1 == a1_4)))))) else (some false)) = some r := h
 clear h
 by_cases c3 : a1_0 = 1
 rotate_left
 · rw [if_neg c3] at H
   have c3b0 : (a1_0 == 1) = false := beq_eq_false_iff_ne.mpr c3
   have c3b1 : (a1_0 != 1) = true := bne_iff_ne.mpr c3
   obtain rfl := Option.some.inj H
   go_enter Try.func50, Try.ntmps50
   go_wp2_with (first | (refine bx 3 #[.int .i64 a1_0, .int .i64 a1_1, .int .i64 a1_2, .int .i64 a1_3, .int .i64 a1_4] 43 rfl ?_; intro gb216 hg w12 hbox hb; have BK216 := am (hbox); have GW216 := am ((by rw [hg]; exact (below_size (ph HB.out)) : w.heap.size ≤ gb216)); have GE216 := GW216; replace HB := am (below_step (ph HB.out) hb); clear hb hbox hg; obtain ⟨hcz13_0, hcz13_1, hcz13_2, hcz13_3, hcz13_4⟩ := b5 BK216.out; obtain ⟨hfz13_0, hfz13_1, hfz13_2, hfz13_3, hfz13_4⟩ := f5 BK216.out))
   go_ret
   exact (rq (bg1 HB.out GE216.out))
 rw [if_pos c3] at H
 have c3b0 : (a1_0 == 1) = true := beq_iff_eq.mpr c3
 have c3b1 : (a1_0 != 1) = false := bne_eq_false_iff_eq.mpr c3
 clear c3
 replace H := Option.bind_eq_some_iff.mp H
 obtain ⟨⟨t217, t218, t219, t220, t221⟩, A40, H⟩ := H
 replace H : (some (t217 == a1_1 && (t218 == a1_2 && (t219 == a1_3 && (t220 == a1_4))))) = some r := H
 have A4 := am A40
 clear A40
 obtain rfl := Option.some.inj H
 go_enter Try.func50, Try.ntmps50
 go_wp2_with (first | (refine bx 3 #[.int .i64 a1_0, .int .i64 a1_1, .int .i64 a1_2, .int .i64 a1_3, .int .i64 a1_4] 43 rfl ?_; intro gb216 hg w5 hbox hb; have BK216 := am (hbox); have GW216 := am ((by rw [hg]; exact (below_size (ph HB.out)) : w.heap.size ≤ gb216)); have GE216 := GW216; replace HB := am (below_step (ph HB.out) hb); clear hb hbox hg; obtain ⟨hcz6_0, hcz6_1, hcz6_2, hcz6_3, hcz6_4⟩ := b5 BK216.out; obtain ⟨hfz6_0, hfz6_1, hfz6_2, hfz6_3, hfz6_4⟩ := f5 BK216.out) | (refine gl 15 Try.func46 #[.slice A0 l0.length c0, .int .i64 a1_3] rfl ?_; (with_reducible refine (spec_l3Last.calls k _ _ l0 a1_3 t217 t218 t219 t220 t221 _ ?side1 ?side2 A4.out).mono ?_); (case side1 => exact pc (Kd.C_below HR0.out HB.out)); (case side2 => exact HC0.out); rintro e w7 ⟨rfl, hb⟩; refine ⟨_, rfl, ?_⟩; replace BK216 := am (blk_below (pb BK216.out) hb); replace HB := am (below_step (bg1 HB.out GE216.out) hb); (try clear hb); (try clear hb2); (try clear hk); (try clear hi)) | (refine bx 5 #[.int .i64 0, .int .i64 0, .int .i64 0, .int .i64 0] 41 rfl ?_; intro gb222 hg w8 hbox hb; have BK222 := am (hbox); have GW222 := am ((by rw [hg]; exact (below_size (bg1 HB.out GE216.out)) : w.heap.size ≤ gb222)); have GE222 := GW222; replace HB := am (below_step (bg1 HB.out GE216.out) hb); have NB216_222 := am ((by rw [hg]; exact Nat.ne_of_lt (blk_lt (pb BK216.out)) : gb216 ≠ gb222)); have NB222_216 := am (Ne.symm NB216_222.out); replace BK216 := am (blk_below (pb BK216.out) hb); clear hb hbox hg; have hnb9 := NB222_216.out; have hnc9 := NB216_222.out; obtain ⟨hcz10_0, hcz10_1, hcz10_2, hcz10_3⟩ := b4 BK222.out; obtain ⟨hfz10_0, hfz10_1, hfz10_2, hfz10_3⟩ := f4 BK222.out; obtain ⟨hcz11_0, hcz11_1, hcz11_2, hcz11_3, hcz11_4⟩ := b5 BK216.out; obtain ⟨hfz11_0, hfz11_1, hfz11_2, hfz11_3, hfz11_4⟩ := f5 BK216.out))
 go_ret
 exact (rq (bg2 HB.out GE216.out GE222.out))
end Go.Proofs.Ytpdelojhomfakaa.Ro
