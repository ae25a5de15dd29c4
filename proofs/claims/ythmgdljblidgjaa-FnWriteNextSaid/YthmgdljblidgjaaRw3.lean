-- printed by wip/pp/pp.py
import Derived.Test.YthmgdljblidgjaaRw0
import Derived.Test.YthmgdljblidgjaaRw1
namespace Go.Proofs.Ythmgdljblidgjaa.Rw
open Go.RowKit Go.Proofs.YthmgdljblidgjaaW.PrintWords Go.Proofs.YthmgdljblidgjaaW.PrintLast Go.Proofs.YthmgdljblidgjaaW.PrintMore
attribute [local go_sem] max2_int min2_int max_two min_two max_three min_three max_four min_four
set_option linter.unusedVariables false
set_option linter.unusedSimpArgs false
def spec_RecOk.f (a0_0 : Int) (a0_1 : Int) (a0_2 : Int) (a0_3 : Int) : Option (Bool) := (spec_l6In.f a0_0 1 2).bind fun t169 => (if t169 = true then ((spec_l6In.f a0_1 1 600).bind fun t170 => (if t170 = true then ((spec_l6In.f a0_2 1 6).bind fun t171 => (if t171 = true then ((spec_l6In.f a0_3 0 9).bind fun t172 => (some t172)) else (some false))) else (some false))) else (some false))
set_option maxHeartbeats 8000000 in
set_option maxRecDepth 100000 in
theorem spec_RecOk.calls (a0_0 : Int) (a0_1 : Int) (a0_2 : Int) (a0_3 : Int) (r : Bool) (w : World) (h : spec_RecOk.f a0_0 a0_1 a0_2 a0_3 = some r) :
 Calls Try.prog 20 #[.agg #[.int .i64 a0_0, .int .i64 a0_1, .int .i64 a0_2, .int .i64 a0_3]] w fun e w' => e = .returned (.bool r) ∧ Below w.heap.size w w' := by
 have hu25 := Try.underlying25
 have HB := am (Below.refl w.heap.size w)
 have H : ((spec_l6In.f a0_0 1 2).bind fun t169 => (if t169 = true then ((spec_l6In.f a0_1 1 600).bind fun t170 => (if t170 = true then ((spec_l6In.f a0_2 1 6).bind fun t171 => (if t171 = true then ((spec_l6In.f a0_3 0 9).bind fun t172 => (some t172)) else (some false))) else (some false))) else (some false))) = some r := h
 clear h
 replace H := Option.bind_eq_some_iff.mp H
 obtain ⟨t169, A20, H⟩ := H
 have A2 := am A20
 clear A20
 by_cases c3 : t169 = true
 rotate_left
 · replace c3 := Bool.eq_false_iff.mpr c3
   subst c3
   rw [if_neg (show ¬ (false = true) by decide)] at H
   obtain rfl := Option.some.inj H
   go_enter Try.func20, Try.ntmps20
   go_wp2_with (first | (refine bx 1 #[.int .i64 a0_0, .int .i64 a0_1, .int .i64 a0_2, .int .i64 a0_3] 25 rfl ?_; intro gb168 hg w15 hbox hb; have BK168 := am (hbox); have GW168 := am (ge hg (ph HB.out)); have GE168 := GW168; replace HB := am (below_step (ph HB.out) hb); clear hb hbox hg; obtain ⟨hcz16_0, hcz16_1, hcz16_2, hcz16_3⟩ := b4 BK168.out; obtain ⟨hfz16_0, hfz16_1, hfz16_2, hfz16_3⟩ := f4 BK168.out) | (refine gl 5 Try.func19 #[.int .i64 a0_0, .int .i64 1, .int .i64 2] rfl ?_; (with_reducible refine (spec_l6In.calls a0_0 1 2 false _ A2.out).mono ?_); rintro e w' ⟨rfl, ⟨nd, rfl⟩⟩; refine ⟨_, rfl, ?_⟩))
   go_ret
   exact (rq (bg1 HB.out GE168.out))
 subst c3
 rw [if_pos rfl] at H
 replace H := Option.bind_eq_some_iff.mp H
 obtain ⟨t170, A40, H⟩ := H
 have A4 := am A40
 clear A40
 by_cases c5 : t170 = true
 rotate_left
 · replace c5 := Bool.eq_false_iff.mpr c5
   subst c5
   rw [if_neg (show ¬ (false = true) by decide)] at H
   obtain rfl := Option.some.inj H
   go_enter Try.func20, Try.ntmps20
   go_wp2_with (first | (refine bx 1 #[.int .i64 a0_0, .int .i64 a0_1, .int .i64 a0_2, .int .i64 a0_3] 25 rfl ?_; intro gb168 hg w13 hbox hb; have BK168 := am (hbox); have GW168 := am (ge hg (ph HB.out)); have GE168 := GW168; replace HB := am (below_step (ph HB.out) hb); clear hb hbox hg; obtain ⟨hcz14_0, hcz14_1, hcz14_2, hcz14_3⟩ := b4 BK168.out; obtain ⟨hfz14_0, hfz14_1, hfz14_2, hfz14_3⟩ := f4 BK168.out) | (refine gl 5 Try.func19 #[.int .i64 a0_0, .int .i64 1, .int .i64 2] rfl ?_; (with_reducible refine (spec_l6In.calls a0_0 1 2 true _ A2.out).mono ?_); rintro e w' ⟨rfl, ⟨nd, rfl⟩⟩; refine ⟨_, rfl, ?_⟩) | (go_at_call 19; (with_reducible refine (spec_l6In.calls a0_1 1 600 false _ A4.out).mono ?_); rintro e w' ⟨rfl, ⟨nd, rfl⟩⟩))
   go_ret
   exact (rq (bg1 HB.out GE168.out))
 subst c5
 rw [if_pos rfl] at H
 replace H := Option.bind_eq_some_iff.mp H
 obtain ⟨t171, A60, H⟩ := H
 have A6 := am A60
 clear A60
 by_cases c7 : t171 = true
 rotate_left
 · replace c7 := Bool.eq_false_iff.mpr c7
   subst c7
   rw [if_neg (show ¬ (false = true) by decide)] at H
   obtain rfl := Option.some.inj H
   go_enter Try.func20, Try.ntmps20
   go_wp2_with (first | (refine bx 1 #[.int .i64 a0_0, .int .i64 a0_1, .int .i64 a0_2, .int .i64 a0_3] 25 rfl ?_; intro gb168 hg w11 hbox hb; have BK168 := am (hbox); have GW168 := am (ge hg (ph HB.out)); have GE168 := GW168; replace HB := am (below_step (ph HB.out) hb); clear hb hbox hg; obtain ⟨hcz12_0, hcz12_1, hcz12_2, hcz12_3⟩ := b4 BK168.out; obtain ⟨hfz12_0, hfz12_1, hfz12_2, hfz12_3⟩ := f4 BK168.out) | (refine gl 5 Try.func19 #[.int .i64 a0_0, .int .i64 1, .int .i64 2] rfl ?_; (with_reducible refine (spec_l6In.calls a0_0 1 2 true _ A2.out).mono ?_); rintro e w' ⟨rfl, ⟨nd, rfl⟩⟩; refine ⟨_, rfl, ?_⟩) | (go_at_call 19; (with_reducible refine (spec_l6In.calls a0_1 1 600 true _ A4.out).mono ?_); rintro e w' ⟨rfl, ⟨nd, rfl⟩⟩) | (go_at_call 19; (with_reducible refine (spec_l6In.calls a0_2 1 6 false _ A6.out).mono ?_); rintro e w' ⟨rfl, ⟨nd, rfl⟩⟩))
   go_ret
   exact (rq (bg1 HB.out GE168.out))
 subst c7
 rw [if_pos rfl] at H
 replace H := Option.bind_eq_some_iff.mp H
 obtain ⟨t172, A80, H⟩ := H
 have A8 := am A80
 clear A80
 obtain rfl := Option.some.inj H
 go_enter Try.func20, Try.ntmps20
 go_wp2_with (first | (refine bx 1 #[.int .i64 a0_0, .int .i64 a0_1, .int .i64 a0_2, .int .i64 a0_3] 25 rfl ?_; intro gb168 hg w9 hbox hb; have BK168 := am (hbox); have GW168 := am (ge hg (ph HB.out)); have GE168 := GW168; replace HB := am (below_step (ph HB.out) hb); clear hb hbox hg; obtain ⟨hcz10_0, hcz10_1, hcz10_2, hcz10_3⟩ := b4 BK168.out; obtain ⟨hfz10_0, hfz10_1, hfz10_2, hfz10_3⟩ := f4 BK168.out) | (refine gl 5 Try.func19 #[.int .i64 a0_0, .int .i64 1, .int .i64 2] rfl ?_; (with_reducible refine (spec_l6In.calls a0_0 1 2 true _ A2.out).mono ?_); rintro e w' ⟨rfl, ⟨nd, rfl⟩⟩; refine ⟨_, rfl, ?_⟩) | (go_at_call 19; (with_reducible refine (spec_l6In.calls a0_1 1 600 true _ A4.out).mono ?_); rintro e w' ⟨rfl, ⟨nd, rfl⟩⟩) | (go_at_call 19; (with_reducible refine (spec_l6In.calls a0_2 1 6 true _ A6.out).mono ?_); rintro e w' ⟨rfl, ⟨nd, rfl⟩⟩) | (go_at_call 19; (with_reducible refine (spec_l6In.calls a0_3 0 9 t172 _ A8.out).mono ?_); rintro e w' ⟨rfl, ⟨nd, rfl⟩⟩))
 go_ret
 exact (rq (bg1 HB.out GE168.out))
def spec_l3Most.l0 : Nat → Int → Int → List (S33) → Int → Option (Int)
 | 0, _, _, _, _ => none
 | k + 1, x3, x4, x174000, x174001 => if x4 < (x174000.length : Int) then (if 0 ≤ x4 then (spec_l3Most.l0 k (mx x3 ((rd_T33 x174000 x4).f1.f1)) (wrap64 (x4 + 1)) x174000 x174001) else (none)) else (some x3)
def spec_l3Most.f (k : Nat) (l0_0 : List (S33)) (a0_1 : Int) : Option (Int) := spec_l3Most.l0 k 0 0 l0_0 a0_1
theorem spec_l3Most.mono_l : ∀ k, (∀ y0 y1 y2 y3, LeO (spec_l3Most.l0 k y0 y1 y2 y3) (spec_l3Most.l0 (k + 1) y0 y1 y2 y3))
 | 0 => fun _ _ _ _ r h => by simp [spec_l3Most.l0] at h
 | k + 1 => by
  have ih0 := spec_l3Most.mono_l k
  · intro y0 y1 y2 y3
    unfold spec_l3Most.l0
    with_reducible repeat' first | exact ih0 _ _ _ _ | exact LeO.refl _ | exact LeO.none _ | refine LeO.ite ?_ ?_ | refine LeO.bind ?_ (fun _ => ?_)
theorem spec_l3Most.mono : ∀ a0 a1 k, LeO (spec_l3Most.f k a0 a1) (spec_l3Most.f (k + 1) a0 a1) := by
 intro a0 a1 k
 have ih0 := spec_l3Most.mono_l k
 unfold spec_l3Most.f
 with_reducible repeat' first | exact ih0 _ _ _ _ | exact LeO.refl _ | exact LeO.none _ | refine LeO.ite ?_ ?_ | refine LeO.bind ?_ (fun _ => ?_)
set_option maxHeartbeats 8000000 in
set_option maxRecDepth 100000 in
theorem spec_l3Most.calls (k : Nat) (A0_0 : Option Addr) (c0_0 : Nat) (l0_0 : List (S33)) (a0_1 : Int) (r : Int) (w : World) (hr0_0 : Kd.C k33 w A0_0 l0_0.length l0_0) (hc0_0 : l0_0.length ≤ c0_0) (h : spec_l3Most.f k l0_0 a0_1 = some r) :
 Calls Try.prog 42 #[.agg #[.slice A0_0 l0_0.length c0_0, .int .i64 a0_1]] w fun e w' => e = .returned (.int .i64 r) ∧ Below w.heap.size w w' := by
 have hu36 := Try.underlying36
 have HR0_0 := am hr0_0
 have HC0_0 := am hc0_0
 clear hr0_0 hc0_0
 have HB := am (Below.refl w.heap.size w)
 have H : (spec_l3Most.l0 k 0 0 l0_0 a0_1) = some r := h
 clear h
 have H' := am H
 clear H
 go_enter Try.func42, Try.ntmps42
 go_wp2_with (first | (refine bx 1 #[.slice A0_0 l0_0.length c0_0, .int .i64 a0_1] 36 rfl ?_; intro gb173 hg w2 hbox hb; have BK173 := am (hbox); have GW173 := am (ge hg (ph HB.out)); have GE173 := GW173; replace HB := am (below_step (ph HB.out) hb); clear hb hbox hg))
 go_loopg [3, 4] k (fun kq v3 v4 w' => ∃ (x3_1 : Int) (x4_1 : Int), v3 = .int .i64 x3_1 ∧ v4 = .int .i64 x4_1 ∧ Aside0 (spec_l3Most.l0 kq x3_1 x4_1 l0_0 a0_1 = some r) ∧ Aside0 (kq ≤ k) ∧ Aside0 (w'.heap[gb173]? = some (.cells #[(.slice A0_0 l0_0.length c0_0), .int .i64 a0_1] 36 (0, 0))) ∧ Aside0 (Below w.heap.size w w'))
 case atStart => exact ⟨(0), (0), rf, rf, H', ⟨Nat.le_refl _⟩, ⟨pb BK173.out⟩, ⟨bg1 HB.out GE173.out⟩⟩
 case round =>
  clear H'
  obtain ⟨x3_1, x4_1, rfl, rfl, HA, HK1, BK173, HB⟩ := hrel
  cases gk with
  | zero => exact absurd HA.out (by simp [spec_l3Most.l0])
  | succ k1 =>
   have H := HA.out
   clear HA
   simp only [spec_l3Most.l0] at H
   by_cases c3 : x4_1 < (l0_0.length : Int)
   rotate_left
   · rw [if_neg c3] at H
     have c3b0 := decide_eq_false c3
     clear c3
     obtain rfl := Option.some.inj H
     obtain ⟨hcz7_0, hcz7_1⟩ := b2 BK173.out
     obtain ⟨hfz7_0, hfz7_1⟩ := f2 BK173.out
     go_wp2
     go_ret
     exact (rq (bg1 HB.out GE173.out))
   rw [if_pos c3] at H
   have c3b0 := decide_eq_true c3
   clear c3
   obtain ⟨c4b0, H⟩ := ifd H
   obtain ⟨ji5, hji5⟩ : ∃ j_ : Int, (mx x3_1 ((rd_T33 l0_0 x4_1).f1.f1)) = j_ := ⟨_, rfl⟩
   replace H : (spec_l3Most.l0 k1 ji5 (wrap64 (x4_1 + 1)) l0_0 a0_1) = some r := by first | (rw [hji5] at H; exact H) | (simp only [hji5] at H ⊢; exact H)
   have hji5_ : (if x3_1 < ((rd_T33 l0_0 x4_1).f1.f1) then ((rd_T33 l0_0 x4_1).f1.f1) else x3_1) = ji5 := hji5
   have H' := am H
   clear H
   obtain ⟨hcz6_0, hcz6_1⟩ := b2 BK173.out
   obtain ⟨hfz6_0, hfz6_1⟩ := f2 BK173.out
   have p174 : 0 ≤ (x4_1 : Int) := ofb
   have q174 : x4_1 < (l0_0.length : Int) := ofb
   obtain ⟨ad174, e174, hx174_0, hx174_1, hx174_2, hx174_3, hx174_4⟩ := at_T33 HR0_0.out x4_1 p174 q174
   cases e174
   replace hx174_0 := up HB.out hx174_0
   replace hx174_1 := up HB.out hx174_1
   replace hx174_2 := up HB.out hx174_2
   replace hx174_3 := up HB.out hx174_3
   replace hx174_4 := up HB.out hx174_4
   replace p174 := eq_true p174
   replace q174 := eq_true q174
   go_wp2
   go_roundg k1
   case measure => have := HK1.out; omega
   case rel => exact ⟨(ji5), (wrap64 (x4_1 + 1)), (by first | rfl | (simp; done) | (simp only [← hji5] <;> (first | rfl | simp)) | (simp [*]; done)), rf, H', ⟨by have := HK1.out; omega⟩, ⟨pb BK173.out⟩, ⟨bg1 HB.out GE173.out⟩⟩
def spec_l3Next.l0 : Nat → List (S36) → Int → Int → Option (Int)
 | 0, _, _, _ => none
 | k + 1, x0, x3, x4 => if x4 < (x0.length : Int) then (if 0 ≤ x4 then ((spec_l3Most.f k ((rd_T36 x0 x4).f0) ((rd_T36 x0 x4).f1)).bind fun t176 => (spec_l3Next.l0 k x0 (mx x3 t176) (wrap64 (x4 + 1)))) else (none)) else (some (wrap64 (x3 + 1)))
def spec_l3Next.f (k : Nat) (l0 : List (S36)) : Option (Int) := spec_l3Next.l0 k l0 0 0
theorem spec_l3Next.mono_l : ∀ k, (∀ y0 y1 y2, LeO (spec_l3Next.l0 k y0 y1 y2) (spec_l3Next.l0 (k + 1) y0 y1 y2))
 | 0 => fun _ _ _ r h => by simp [spec_l3Next.l0] at h
 | k + 1 => by
  have ih0 := spec_l3Next.mono_l k
  · intro y0 y1 y2
    unfold spec_l3Next.l0
    with_reducible repeat' first | exact ih0 _ _ _ | exact spec_l3Most.mono _ _ _ | exact LeO.refl _ | exact LeO.none _ | refine LeO.ite ?_ ?_ | refine LeO.bind ?_ (fun _ => ?_)
theorem spec_l3Next.mono : ∀ a0 k, LeO (spec_l3Next.f k a0) (spec_l3Next.f (k + 1) a0) := by
 intro a0 k
 have ih0 := spec_l3Next.mono_l k
 unfold spec_l3Next.f
 with_reducible repeat' first | exact ih0 _ _ _ | exact spec_l3Most.mono _ _ _ | exact LeO.refl _ | exact LeO.none _ | refine LeO.ite ?_ ?_ | refine LeO.bind ?_ (fun _ => ?_)
set_option maxHeartbeats 8000000 in
set_option maxRecDepth 100000 in
theorem spec_l3Next.calls (k : Nat) (A0 : Option Addr) (c0 : Nat) (l0 : List (S36)) (r : Int) (w : World) (hr0 : Kd.C k36 w A0 l0.length l0) (hc0 : l0.length ≤ c0) (h : spec_l3Next.f k l0 = some r) :
 Calls Try.prog 31 #[.slice A0 l0.length c0] w fun e w' => e = .returned (.int .i64 r) ∧ Below w.heap.size w w' := by
 have hu36 := Try.underlying36
 have HR0 := am hr0
 have HC0 := am hc0
 clear hr0 hc0
 have HB := am (Below.refl w.heap.size w)
 have H : (spec_l3Next.l0 k l0 0 0) = some r := h
 clear h
 have H' := am H
 clear H
 go_enter Try.func31, Try.ntmps31
 go_wp2
 go_loopg [3, 4] k (fun kq v3 v4 w' => ∃ (x3_1 : Int) (x4_1 : Int), v3 = .int .i64 x3_1 ∧ v4 = .int .i64 x4_1 ∧ Aside0 (spec_l3Next.l0 kq l0 x3_1 x4_1 = some r) ∧ Aside0 (kq ≤ k) ∧ Aside0 (Below w.heap.size w w'))
 case atStart => exact ⟨(0), (0), rf, rf, H', ⟨Nat.le_refl _⟩, ⟨ph HB.out⟩⟩
 case round =>
  clear H'
  obtain ⟨x3_1, x4_1, rfl, rfl, HA, HK1, HB⟩ := hrel
  cases gk with
  | zero => exact absurd HA.out (by simp [spec_l3Next.l0])
  | succ k1 =>
   have H := HA.out
   clear HA
   simp only [spec_l3Next.l0] at H
   by_cases c2 : x4_1 < (l0.length : Int)
   rotate_left
   · rw [if_neg c2] at H
     have c2b0 := decide_eq_false c2
     clear c2
     obtain rfl := Option.some.inj H
     go_wp2
     go_ret
     exact (rq (ph HB.out))
   rw [if_pos c2] at H
   have c2b0 := decide_eq_true c2
   clear c2
   obtain ⟨c3b0, H⟩ := ifd H
   replace H := Option.bind_eq_some_iff.mp H
   obtain ⟨t176, A40, H⟩ := H
   have A4 := am A40
   clear A40
   obtain ⟨ji5, hji5⟩ : ∃ j_ : Int, (mx x3_1 t176) = j_ := ⟨_, rfl⟩
   replace H : (spec_l3Next.l0 k1 l0 ji5 (wrap64 (x4_1 + 1))) = some r := by first | (rw [hji5] at H; exact H) | (simp only [hji5] at H ⊢; exact H)
   (try rw [hji5] at A4)
   have hji5_ : (if x3_1 < t176 then t176 else x3_1) = ji5 := hji5
   have H' := am H
   clear H
   have p175 : 0 ≤ (x4_1 : Int) := ofb
   have q175 : x4_1 < (l0.length : Int) := ofb
   obtain ⟨ad175, A175_0, c175_0, e175, hx175_0, hx175_1, hl175_0, hi175_0⟩ := at_T36 HR0.out x4_1 p175 q175
   cases e175
   replace hx175_0 := up HB.out hx175_0
   replace hx175_1 := up HB.out hx175_1
   have HR175_0 := am hi175_0
   have HC175_0 := am hl175_0
   clear hi175_0 hl175_0
   replace p175 := eq_true p175
   replace q175 := eq_true q175
   go_wp2_with (first | (refine gl 16 Try.func42 #[.agg #[.slice A175_0 ((rd_T36 l0 x4_1).f0).length c175_0, .int .i64 ((rd_T36 l0 x4_1).f1)]] rfl ?_; (with_reducible refine (spec_l3Most.calls k1 _ _ ((rd_T36 l0 x4_1).f0) ((rd_T36 l0 x4_1).f1) t176 _ ?side1 ?side2 A4.out).mono ?_); (case side1 => exact pc (Kd.C_below HR175_0.out HB.out)); (case side2 => exact HC175_0.out); rintro e w6 ⟨rfl, hb⟩; refine ⟨_, rfl, ?_⟩; replace HB := am (below_step (ph HB.out) hb); clear hb))
   go_roundg k1
   case measure => have := HK1.out; omega
   case rel => exact ⟨(ji5), (wrap64 (x4_1 + 1)), (by first | rfl | (simp; done) | (simp only [← hji5] <;> (first | rfl | simp)) | (simp [*]; done)), rf, H', ⟨by have := HK1.out; omega⟩, ⟨ph HB.out⟩⟩
mutual
def spec_l3Open.l0 : Nat → List (S36) → Int → Int → Option (Int × Bool)
 | 0, _, _, _ => none
 | k + 1, x0, x4, x5 => if x5 < (x0.length : Int) then (if 0 ≤ x5 then ((spec_l2Clean.f k ((rd_T36 x0 x5).f0) ((rd_T36 x0 x5).f1)).bind fun t178 => (if t178 > 0 then (spec_l3Open.j1 k x0 x4 x5 t178 (decide (t178 < 4))) else (spec_l3Open.j1 k x0 x4 x5 t178 false))) else (none)) else (some (mx x4 0, decide (x4 ≥ 0)))
def spec_l3Open.j1 : Nat → List (S36) → Int → Int → Int → Bool → Option (Int × Bool)
 | 0, _, _, _, _, _ => none
 | k + 1, x0, x4, x5, x6, x23 => if x23 = true then (some (x5, true)) else (if x6 > 0 then (if x4 < 0 then (spec_l3Open.l0 k x0 x5 (wrap64 (x5 + 1))) else (if 0 ≤ x5 then (if x5 < (x0.length : Int) then (if 0 ≤ x4 then (if x4 < (x0.length : Int) then (if ((rd_T36 x0 x5).f1) < ((rd_T36 x0 x4).f1) then (spec_l3Open.l0 k x0 x5 (wrap64 (x5 + 1))) else (spec_l3Open.l0 k x0 x4 (wrap64 (x5 + 1)))) else (none)) else (none)) else (none)) else (none))) else (spec_l3Open.l0 k x0 x4 (wrap64 (x5 + 1))))
end
def spec_l3Open.f (k : Nat) (l0 : List (S36)) : Option (Int × Bool) := spec_l3Open.l0 k l0 (-1) 0
theorem spec_l3Open.mono_l : ∀ k, (∀ y0 y1 y2, LeO (spec_l3Open.l0 k y0 y1 y2) (spec_l3Open.l0 (k + 1) y0 y1 y2)) ∧ (∀ y0 y1 y2 y3 y4, LeO (spec_l3Open.j1 k y0 y1 y2 y3 y4) (spec_l3Open.j1 (k + 1) y0 y1 y2 y3 y4))
 | 0 => ⟨fun _ _ _ r h => by simp [spec_l3Open.l0] at h, fun _ _ _ _ _ r h => by simp [spec_l3Open.j1] at h⟩
 | k + 1 => by
  obtain ⟨ih0, ih1⟩ := spec_l3Open.mono_l k
  refine ⟨?_, ?_⟩
  · intro y0 y1 y2
    unfold spec_l3Open.l0
    with_reducible repeat' first | exact ih0 _ _ _ | exact ih1 _ _ _ _ _ | exact spec_l2Clean.mono _ _ _ | exact LeO.refl _ | exact LeO.none _ | refine LeO.ite ?_ ?_ | refine LeO.bind ?_ (fun _ => ?_)
  · intro y0 y1 y2 y3 y4
    unfold spec_l3Open.j1
    with_reducible repeat' first | exact ih0 _ _ _ | exact ih1 _ _ _ _ _ | exact spec_l2Clean.mono _ _ _ | exact LeO.refl _ | exact LeO.none _ | refine LeO.ite ?_ ?_ | refine LeO.bind ?_ (fun _ => ?_)
theorem spec_l3Open.mono : ∀ a0 k, LeO (spec_l3Open.f k a0) (spec_l3Open.f (k + 1) a0) := by
 intro a0 k
 obtain ⟨ih0, ih1⟩ := spec_l3Open.mono_l k
 unfold spec_l3Open.f
 with_reducible repeat' first | exact ih0 _ _ _ | exact ih1 _ _ _ _ _ | exact spec_l2Clean.mono _ _ _ | exact LeO.refl _ | exact LeO.none _ | refine LeO.ite ?_ ?_ | refine LeO.bind ?_ (fun _ => ?_)
set_option maxHeartbeats 8000000 in
set_option maxRecDepth 100000 in
theorem spec_l3Open.calls (k : Nat) (A0 : Option Addr) (c0 : Nat) (l0 : List (S36)) (r1 : Int) (r2 : Bool) (w : World) (hr0 : Kd.C k36 w A0 l0.length l0) (hc0 : l0.length ≤ c0) (h : spec_l3Open.f k l0 = some (r1, r2)) :
 Calls Try.prog 56 #[.slice A0 l0.length c0] w fun e w' => e = .returned (.tuple #[.int .i64 r1, .bool r2]) ∧ Below w.heap.size w w' := by
 have hu36 := Try.underlying36
 have HR0 := am hr0
 have HC0 := am hc0
 clear hr0 hc0
 have HB := am (Below.refl w.heap.size w)
 have H : (spec_l3Open.l0 k l0 (-1) 0) = some (r1, r2) := h
 clear h
 have H' := am H
 clear H
 go_enter Try.func56, Try.ntmps56
 go_wp2
 repeat (go_quiet (fail); try go_wp2)
 go_loopg [4, 5] k (fun kq v4 v5 w' => ∃ (x4_1 : Int) (x5_1 : Int), v4 = .int .i64 x4_1 ∧ v5 = .int .i64 x5_1 ∧ Aside0 (spec_l3Open.l0 kq l0 x4_1 x5_1 = some (r1, r2)) ∧ Aside0 (kq ≤ k) ∧ Aside0 (Below w.heap.size w w'))
 case atStart => exact ⟨((-1)), (0), rf, rf, H', ⟨Nat.le_refl _⟩, ⟨ph HB.out⟩⟩
 case round =>
  clear H'
  obtain ⟨x4_1, x5_1, rfl, rfl, HA, HK1, HB⟩ := hrel
  cases gk with
  | zero => exact absurd HA.out (by simp [spec_l3Open.l0])
  | succ k1 =>
   have H := HA.out
   clear HA
   simp only [spec_l3Open.l0] at H
   by_cases c2 : x5_1 < (l0.length : Int)
   rotate_left
   · rw [if_neg c2] at H
     have c2b0 := decide_eq_false c2
     clear c2
     obtain ⟨ji16, hji16⟩ : ∃ j_ : Int, (mx x4_1 0) = j_ := ⟨_, rfl⟩
     replace H : (some (ji16, decide (x4_1 ≥ 0))) = some (r1, r2) := by first | (rw [hji16] at H; exact H) | (simp only [hji16] at H ⊢; exact H)
     have hji16_ : (if x4_1 < 0 then 0 else x4_1) = ji16 := hji16
     simp only [Option.some.injEq, Prod.mk.injEq] at H
     obtain ⟨rfl, rfl⟩ := H
     go_wp2
     repeat (go_quiet (fail); try go_wp2)
     go_ret2
     exact ⟨by first | rfl | (simp [errW_none, errW_some] <;> rfl) | (simp only [← hji16]; first | rfl | (simp [errW_none, errW_some] <;> rfl)) | (simp [*, errW_none, errW_some] <;> rfl), ph HB.out⟩
   rw [if_pos c2] at H
   have c2b0 := decide_eq_true c2
   clear c2
   obtain ⟨c3b0, H⟩ := ifd H
   replace H := Option.bind_eq_some_iff.mp H
   obtain ⟨t178, A40, H⟩ := H
   have A4 := am A40
   clear A40
   have HC5 := am H
   clear H
   have p177 : 0 ≤ (x5_1 : Int) := ofb
   have q177 : x5_1 < (l0.length : Int) := ofb
   obtain ⟨ad177, A177_0, c177_0, e177, hx177_0, hx177_1, hl177_0, hi177_0⟩ := at_T36 HR0.out x5_1 p177 q177
   cases e177
   replace hx177_0 := up HB.out hx177_0
   replace hx177_1 := up HB.out hx177_1
   have HR177_0 := am hi177_0
   have HC177_0 := am hl177_0
   clear hi177_0 hl177_0
   replace p177 := eq_true p177
   replace q177 := eq_true q177
   go_upto_region 6 with (first | (go_at_call 32; (with_reducible refine (spec_l2Clean.calls k1 _ _ ((rd_T36 l0 x5_1).f0) ((rd_T36 l0 x5_1).f1) t178 _ ?side1 ?side2 A4.out).mono ?_); (case side1 => exact pc (Kd.C_below HR177_0.out HB.out)); (case side2 => exact HC177_0.out); rintro e w6 ⟨rfl, hb⟩; replace HB := am (below_step (ph HB.out) hb); clear hb))
   repeat (go_quiet (first | (go_at_call 32; (with_reducible refine (spec_l2Clean.calls k1 _ _ ((rd_T36 l0 x5_1).f0) ((rd_T36 l0 x5_1).f1) t178 _ ?side1 ?side2 A4.out).mono ?_); (case side1 => exact pc (Kd.C_below HR177_0.out HB.out)); (case side2 => exact HC177_0.out); rintro e w6 ⟨rfl, hb⟩; replace HB := am (below_step (ph HB.out) hb); clear hb)); go_upto_region 6 with (first | (go_at_call 32; (with_reducible refine (spec_l2Clean.calls k1 _ _ ((rd_T36 l0 x5_1).f0) ((rd_T36 l0 x5_1).f1) t178 _ ?side1 ?side2 A4.out).mono ?_); (case side1 => exact pc (Kd.C_below HR177_0.out HB.out)); (case side2 => exact HC177_0.out); rintro e w6 ⟨rfl, hb⟩; replace HB := am (below_step (ph HB.out) hb); clear hb)))
   (try simp only [Act.put, List.setIfInBounds_toArray, List.set_cons_zero, List.set_cons_succ])
   go_cut [23] (fun v23 wc => ∃ (kq : Nat) (x23_4 : Bool), v23 = .bool x23_4 ∧ Aside0 (spec_l3Open.j1 kq l0 x4_1 x5_1 t178 x23_4 = some (r1, r2)) ∧ Aside0 (kq ≤ k1) ∧ Aside0 (Below w.heap.size w wc))
   case first =>
    have H := HC5.out
    clear HC5
    by_cases c7 : t178 > 0
    rotate_left
    · rw [if_neg c7] at H
      have c7b0 := decide_eq_false c7
      clear c7
      (first | rw [c7b0] | (simp only [i64_w, i32_w]; rw [c7b0]) | skip)
      have H' := am H
      clear H
      go_wp2
      repeat (go_quiet (fail); try go_wp2)
      go_meet
      case rel => exact ⟨_, (false), rf, H', ⟨by have := HK1.out; first | omega | exact Nat.le_refl _⟩, ⟨ph HB.out⟩⟩
    rw [if_pos c7] at H
    have c7b0 := decide_eq_true c7
    clear c7
    (first | rw [c7b0] | (simp only [i64_w, i32_w]; rw [c7b0]) | skip)
    have H' := am H
    clear H
    go_wp2
    repeat (go_quiet (fail); try go_wp2)
    go_meet
    case rel => exact ⟨_, (decide (t178 < 4)), rf, H', ⟨by have := HK1.out; first | omega | exact Nat.le_refl _⟩, ⟨ph HB.out⟩⟩
   case rest =>
    clear HC5
    obtain ⟨kq, x23_4, rfl, HA, HJ4, HB⟩ := hcut
    cases kq with
    | zero => exact absurd HA.out (by simp [spec_l3Open.j1])
    | succ kj4 =>
     have H := HA.out
     clear HA
     simp only [spec_l3Open.j1] at H
     by_cases c8 : x23_4 = true
     · subst c8
       rw [if_pos rfl] at H
       simp only [Option.some.injEq, Prod.mk.injEq] at H
       obtain ⟨rfl, rfl⟩ := H
       go_wp2
       repeat (go_quiet (fail); try go_wp2)
       go_ret2
       exact (rq (ph HB.out))
     replace c8 := Bool.eq_false_iff.mpr c8
     subst c8
     rw [if_neg (show ¬ (false = true) by decide)] at H
     by_cases c9 : t178 > 0
     rotate_left
     · rw [if_neg c9] at H
       have c9b0 := decide_eq_false c9
       clear c9
       have H' := am H
       clear H
       go_wp2
       repeat (go_quiet (fail); try go_wp2)
       go_roundg kj4
       case measure => have := HK1.out; have := HJ4.out; omega
       case rel => exact ⟨(x4_1), (wrap64 (x5_1 + 1)), rf, rf, H', ⟨by have := HK1.out; have := HJ4.out; omega⟩, ⟨ph HB.out⟩⟩
     rw [if_pos c9] at H
     have c9b0 := decide_eq_true c9
     clear c9
     by_cases c10 : x4_1 < 0
     · rw [if_pos c10] at H
       have c10b0 := decide_eq_true c10
       clear c10
       have H' := am H
       clear H
       go_wp2
       repeat (go_quiet (fail); try go_wp2)
       go_roundg kj4
       case measure => have := HK1.out; have := HJ4.out; omega
       case rel => exact ⟨(x5_1), (wrap64 (x5_1 + 1)), rf, rf, H', ⟨by have := HK1.out; have := HJ4.out; omega⟩, ⟨ph HB.out⟩⟩
     rw [if_neg c10] at H
     have c10b0 := decide_eq_false c10
     clear c10
     obtain ⟨c11b0, H⟩ := ifd H
     obtain ⟨c12b0, H⟩ := ifd H
     obtain ⟨c13b0, H⟩ := ifd H
     obtain ⟨c14b0, H⟩ := ifd H
     by_cases c15 : ((rd_T36 l0 x5_1).f1) < ((rd_T36 l0 x4_1).f1)
     · rw [if_pos c15] at H
       have c15b0 := decide_eq_true c15
       clear c15
       have H' := am H
       clear H
       have p179 : 0 ≤ (x5_1 : Int) := ofb
       have q179 : x5_1 < (l0.length : Int) := ofb
       obtain ⟨ad179, A179_0, c179_0, e179, hx179_0, hx179_1, hl179_0, hi179_0⟩ := at_T36 HR0.out x5_1 p179 q179
       obtain rfl : ad177 = ad179 := (by injection e179)
       replace hx179_0 := up HB.out hx179_0
       replace hx179_1 := up HB.out hx179_1
       have HR179_0 := am hi179_0
       have HC179_0 := am hl179_0
       clear hi179_0 hl179_0
       replace p179 := eq_true p179
       replace q179 := eq_true q179
       have p180 : 0 ≤ (x4_1 : Int) := ofb
       have q180 : x4_1 < (l0.length : Int) := ofb
       obtain ⟨ad180, A180_0, c180_0, e180, hx180_0, hx180_1, hl180_0, hi180_0⟩ := at_T36 HR0.out x4_1 p180 q180
       obtain rfl : ad177 = ad180 := (by injection e180)
       replace hx180_0 := up HB.out hx180_0
       replace hx180_1 := up HB.out hx180_1
       have HR180_0 := am hi180_0
       have HC180_0 := am hl180_0
       clear hi180_0 hl180_0
       replace p180 := eq_true p180
       replace q180 := eq_true q180
       go_wp2
       repeat (go_quiet (fail); try go_wp2)
       go_roundg kj4
       case measure => have := HK1.out; have := HJ4.out; omega
       case rel => exact ⟨(x5_1), (wrap64 (x5_1 + 1)), rf, rf, H', ⟨by have := HK1.out; have := HJ4.out; omega⟩, ⟨ph HB.out⟩⟩
     rw [if_neg c15] at H
     have c15b0 := decide_eq_false c15
     clear c15
     have H' := am H
     clear H
     have p179 : 0 ≤ (x5_1 : Int) := ofb
     have q179 : x5_1 < (l0.length : Int) := ofb
     obtain ⟨ad179, A179_0, c179_0, e179, hx179_0, hx179_1, hl179_0, hi179_0⟩ := at_T36 HR0.out x5_1 p179 q179
     obtain rfl : ad177 = ad179 := (by injection e179)
     replace hx179_0 := up HB.out hx179_0
     replace hx179_1 := up HB.out hx179_1
     have HR179_0 := am hi179_0
     have HC179_0 := am hl179_0
     clear hi179_0 hl179_0
     replace p179 := eq_true p179
     replace q179 := eq_true q179
     have p180 : 0 ≤ (x4_1 : Int) := ofb
     have q180 : x4_1 < (l0.length : Int) := ofb
     obtain ⟨ad180, A180_0, c180_0, e180, hx180_0, hx180_1, hl180_0, hi180_0⟩ := at_T36 HR0.out x4_1 p180 q180
     obtain rfl : ad177 = ad180 := (by injection e180)
     replace hx180_0 := up HB.out hx180_0
     replace hx180_1 := up HB.out hx180_1
     have HR180_0 := am hi180_0
     have HC180_0 := am hl180_0
     clear hi180_0 hl180_0
     replace p180 := eq_true p180
     replace q180 := eq_true q180
     go_wp2
     repeat (go_quiet (fail); try go_wp2)
     go_roundg kj4
     case measure => have := HK1.out; have := HJ4.out; omega
     case rel => exact ⟨(x4_1), (wrap64 (x5_1 + 1)), rf, rf, H', ⟨by have := HK1.out; have := HJ4.out; omega⟩, ⟨ph HB.out⟩⟩
def spec_l3Old.l0 : Nat → List (S36) → Int → Int → Option (Int)
 | 0, _, _, _ => none
 | k + 1, x0, x3, x4 => if x4 < (x0.length : Int) then (if 0 ≤ x4 then ((spec_l3Most.f k ((rd_T36 x0 x4).f0) ((rd_T36 x0 x4).f1)).bind fun t182 => (if 0 ≤ x3 then (if x3 < (x0.length : Int) then ((spec_l3Most.f k ((rd_T36 x0 x3).f0) ((rd_T36 x0 x3).f1)).bind fun t184 => (if t182 < t184 then (spec_l3Old.l0 k x0 x4 (wrap64 (x4 + 1))) else (spec_l3Old.l0 k x0 x3 (wrap64 (x4 + 1))))) else (none)) else (none))) else (none)) else (some x3)
def spec_l3Old.f (k : Nat) (l0 : List (S36)) : Option (Int) := spec_l3Old.l0 k l0 0 1
theorem spec_l3Old.mono_l : ∀ k, (∀ y0 y1 y2, LeO (spec_l3Old.l0 k y0 y1 y2) (spec_l3Old.l0 (k + 1) y0 y1 y2))
 | 0 => fun _ _ _ r h => by simp [spec_l3Old.l0] at h
 | k + 1 => by
  have ih0 := spec_l3Old.mono_l k
  · intro y0 y1 y2
    unfold spec_l3Old.l0
    with_reducible repeat' first | exact ih0 _ _ _ | exact spec_l3Most.mono _ _ _ | exact LeO.refl _ | exact LeO.none _ | refine LeO.ite ?_ ?_ | refine LeO.bind ?_ (fun _ => ?_)
theorem spec_l3Old.mono : ∀ a0 k, LeO (spec_l3Old.f k a0) (spec_l3Old.f (k + 1) a0) := by
 intro a0 k
 have ih0 := spec_l3Old.mono_l k
 unfold spec_l3Old.f
 with_reducible repeat' first | exact ih0 _ _ _ | exact spec_l3Most.mono _ _ _ | exact LeO.refl _ | exact LeO.none _ | refine LeO.ite ?_ ?_ | refine LeO.bind ?_ (fun _ => ?_)
def spec_l3Old.T5 : Bool × List (List Nat × List Nat) := (true, [([], []), ([], []), ([0, 1], [0, 1]), ([2], [2]), ([3], [3]), ([], []), ([], []), ([5, 6], [5, 6]), ([7], [7]), ([8, 4], [8]), ([4, 9], [4, 9])])
def spec_l3Old.B5 : List Nat := [0, 0, 3, 7, 15, 0, 0, 96, 224, 511, 1023]
theorem spec_l3Old.tab5 : rtab .any (opsOf Try.f57 5) = spec_l3Old.T5 := by kernel_rfl
theorem spec_l3Old.bits5 : waitsOk spec_l3Old.T5.2 spec_l3Old.B5 = true := by kernel_rfl
set_option maxHeartbeats 8000000 in
set_option maxRecDepth 100000 in
theorem spec_l3Old.calls (k : Nat) (A0 : Option Addr) (c0 : Nat) (l0 : List (S36)) (r : Int) (w : World) (hr0 : Kd.C k36 w A0 l0.length l0) (hc0 : l0.length ≤ c0) (h : spec_l3Old.f k l0 = some r) :
 Calls Try.prog 57 #[.slice A0 l0.length c0] w fun e w' => e = .returned (.int .i64 r) ∧ Below w.heap.size w w' := by
 have hu36 := Try.underlying36
 have HR0 := am hr0
 have HC0 := am hc0
 clear hr0 hc0
 have HB := am (Below.refl w.heap.size w)
 have H : (spec_l3Old.l0 k l0 0 1) = some r := h
 clear h
 have H' := am H
 clear H
 go_enter Try.func57, Try.ntmps57
 go_wp2
 go_loopg [3, 4] k (fun kq v3 v4 w' => ∃ (x3_1 : Int) (x4_1 : Int), v3 = .int .i64 x3_1 ∧ v4 = .int .i64 x4_1 ∧ Aside0 (spec_l3Old.l0 kq l0 x3_1 x4_1 = some r) ∧ Aside0 (kq ≤ k) ∧ Aside0 (Below w.heap.size w w'))
 case atStart => exact ⟨(0), (1), rf, rf, H', ⟨Nat.le_refl _⟩, ⟨ph HB.out⟩⟩
 case round =>
  clear H'
  obtain ⟨x3_1, x4_1, rfl, rfl, HA, HK1, HB⟩ := hrel
  cases gk with
  | zero => exact absurd HA.out (by simp [spec_l3Old.l0])
  | succ k1 =>
   have H := HA.out
   clear HA
   simp only [spec_l3Old.l0] at H
   by_cases c2 : x4_1 < (l0.length : Int)
   rotate_left
   · rw [if_neg c2] at H
     have c2b0 := decide_eq_false c2
     clear c2
     obtain rfl := Option.some.inj H
     go_wp2
     go_ret
     exact (rq (ph HB.out))
   rw [if_pos c2] at H
   have c2b0 := decide_eq_true c2
   clear c2
   obtain ⟨c3b0, H⟩ := ifd H
   replace H := Option.bind_eq_some_iff.mp H
   obtain ⟨t182, A40, H⟩ := H
   have A4 := am A40
   clear A40
   obtain ⟨c5b0, H⟩ := ifd H
   obtain ⟨c6b0, H⟩ := ifd H
   replace H := Option.bind_eq_some_iff.mp H
   obtain ⟨t184, A70, H⟩ := H
   have A7 := am A70
   clear A70
   by_cases c8 : t182 < t184
   · rw [if_pos c8] at H
     have c8b0 := decide_eq_true c8
     clear c8
     have H' := am H
     clear H
     try go_wp2
     replace HB := am (below_drew1 HB.out)
     have p181 : 0 ≤ (x4_1 : Int) := ofb
     have q181 : x4_1 < (l0.length : Int) := ofb
     obtain ⟨ad181, A181_0, c181_0, e181, hx181_0, hx181_1, hl181_0, hi181_0⟩ := at_T36 HR0.out x4_1 p181 q181
     have hw181_1 := hx181_1
     have hw181_0 := hx181_0
     cases e181
     replace hx181_0 := up HB.out hx181_0
     replace hx181_1 := up HB.out hx181_1
     have HR181_0 := am hi181_0
     have HC181_0 := am hl181_0
     clear hi181_0 hl181_0
     replace p181 := eq_true p181
     replace q181 := eq_true q181
     have p183 : 0 ≤ (x3_1 : Int) := ofb
     have q183 : x3_1 < (l0.length : Int) := ofb
     obtain ⟨ad183, A183_0, c183_0, e183, hx183_0, hx183_1, hl183_0, hi183_0⟩ := at_T36 HR0.out x3_1 p183 q183
     have hw183_1 := hx183_1
     have hw183_0 := hx183_0
     obtain rfl : ad181 = ad183 := (by injection e183)
     replace hx183_0 := up HB.out hx183_0
     replace hx183_1 := up HB.out hx183_1
     have HR183_0 := am hi183_0
     have HC183_0 := am hl183_0
     clear hi183_0 hl183_0
     replace p183 := eq_true p183
     replace q183 := eq_true q183
     refine start_ (n := 11) (S := fun w' => w'.cell? (ad181.add ((x4_1).toNat * 2)) = some (.slice A181_0 ((rd_T36 l0 x4_1).f0).length c181_0) ∧ w'.cell? ⟨(ad181.add ((x4_1).toNat * 2)).block, (ad181.add ((x4_1).toNat * 2)).off + 1, none⟩ = some (.int .i64 ((rd_T36 l0 x4_1).f1)) ∧ w'.cell? (ad181.add ((x3_1).toNat * 2)) = some (.slice A183_0 ((rd_T36 l0 x3_1).f0).length c183_0) ∧ w'.cell? ⟨(ad181.add ((x3_1).toNat * 2)).block, (ad181.add ((x3_1).toNat * 2)).off + 1, none⟩ = some (.int .i64 ((rd_T36 l0 x3_1).f1))) (ds := []) (bt 11 0) (by kernel_rfl) rfl rfl ⟨((HB.out.cell (World.block_lt_of_cell? w _ hw181_0)).trans hw181_0), ((HB.out.cell (World.block_lt_of_cell? w _ hw181_1)).trans hw181_1), ((HB.out.cell (World.block_lt_of_cell? w _ hw183_0)).trans hw183_0), ((HB.out.cell (World.block_lt_of_cell? w _ hw183_1)).trans hw183_1)⟩ (fun hHeld => ?_); refine with_tabW spec_l3Old.tab5 spec_l3Old.bits5 (fun HT_ HW_ => ?_)
     generalize wr.drew = w9 at HB HR181_0 HR183_0 hx181_0 hx181_1 hx183_0 hx183_1 hHeld ⊢
     refine qj 0 11 (bt 11 1) rfl rfl HT_.out ?_
     refine qj 1 12 (bt 11 3) rfl rfl HT_.out ?_
     refine qj 2 13 (bt 11 7) rfl rfl HT_.out ?_
     refine qj 5 16 (bt 11 39) rfl rfl HT_.out ?_
     refine qj 6 17 (bt 11 103) rfl rfl HT_.out ?_
     refine qj 7 18 (bt 11 231) rfl rfl HT_.out ?_
     refine qm 3 14 (bt 11 239) rfl rfl HT_.out HW_.out hHeld ?_
     refine qm 8 19 (bt 11 495) rfl rfl HT_.out HW_.out hHeld ?_
     refine qo 4 (some 15) (bt 11 511) rfl rfl HT_.out fun K hK => ?_
     refine qg Try.func42 #[.agg #[.slice A181_0 ((rd_T36 l0 x4_1).f0).length c181_0, .int .i64 ((rd_T36 l0 x4_1).f1)]] rfl rfl ?_
     with_reducible refine (spec_l3Most.calls k1 _ _ ((rd_T36 l0 x4_1).f0) ((rd_T36 l0 x4_1).f1) t182 _ ?side1 ?side2 A4.out).mono ?_
     (case side1 => exact pc (Kd.C_below HR181_0.out HB.out))
     (case side2 => exact HC181_0.out)
     rintro e w10 ⟨rfl, hb⟩
     refine ⟨_, rfl, ?_⟩
     replace HB := am (below_step (ph HB.out) hb)
     clear hb
     refine hK.out _ _ ⟨((HB.out.cell (World.block_lt_of_cell? w _ hw181_0)).trans hw181_0), ((HB.out.cell (World.block_lt_of_cell? w _ hw181_1)).trans hw181_1), ((HB.out.cell (World.block_lt_of_cell? w _ hw183_0)).trans hw183_0), ((HB.out.cell (World.block_lt_of_cell? w _ hw183_1)).trans hw183_1)⟩ (fun hHeld => ?_)
     clear hK K
     refine qn (some 15) ?_
     refine qo 9 (some 20) (bt 11 1023) rfl rfl HT_.out fun K hK => ?_
     refine qg Try.func42 #[.agg #[.slice A183_0 ((rd_T36 l0 x3_1).f0).length c183_0, .int .i64 ((rd_T36 l0 x3_1).f1)]] rfl rfl ?_
     with_reducible refine (spec_l3Most.calls k1 _ _ ((rd_T36 l0 x3_1).f0) ((rd_T36 l0 x3_1).f1) t184 _ ?side1 ?side2 A7.out).mono ?_
     (case side1 => exact pc (Kd.C_below HR183_0.out HB.out))
     (case side2 => exact HC183_0.out)
     rintro e w11 ⟨rfl, hb⟩
     refine ⟨_, rfl, ?_⟩
     replace HB := am (below_step (ph HB.out) hb)
     clear hb
     refine hK.out _ _ ⟨((HB.out.cell (World.block_lt_of_cell? w _ hw181_0)).trans hw181_0), ((HB.out.cell (World.block_lt_of_cell? w _ hw181_1)).trans hw181_1), ((HB.out.cell (World.block_lt_of_cell? w _ hw183_0)).trans hw183_0), ((HB.out.cell (World.block_lt_of_cell? w _ hw183_1)).trans hw183_1)⟩ (fun hHeld => ?_)
     clear hK K
     refine qn (some 20) ?_
     refine qj 10 21 (bt 11 2047) rfl rfl HT_.out ?_
     refine done_ (done_of HT_.out (by kernel_rfl)) ?_
     try go_wp2
     go_roundg k1
     case measure => have := HK1.out; omega
     case rel => exact ⟨(x4_1), (wrap64 (x4_1 + 1)), rf, rf, H', ⟨by have := HK1.out; omega⟩, ⟨ph HB.out⟩⟩
   rw [if_neg c8] at H
   have c8b0 := decide_eq_false c8
   clear c8
   have H' := am H
   clear H
   try go_wp2
   replace HB := am (below_drew1 HB.out)
   have p181 : 0 ≤ (x4_1 : Int) := ofb
   have q181 : x4_1 < (l0.length : Int) := ofb
   obtain ⟨ad181, A181_0, c181_0, e181, hx181_0, hx181_1, hl181_0, hi181_0⟩ := at_T36 HR0.out x4_1 p181 q181
   have hw181_1 := hx181_1
   have hw181_0 := hx181_0
   cases e181
   replace hx181_0 := up HB.out hx181_0
   replace hx181_1 := up HB.out hx181_1
   have HR181_0 := am hi181_0
   have HC181_0 := am hl181_0
   clear hi181_0 hl181_0
   replace p181 := eq_true p181
   replace q181 := eq_true q181
   have p183 : 0 ≤ (x3_1 : Int) := ofb
   have q183 : x3_1 < (l0.length : Int) := ofb
   obtain ⟨ad183, A183_0, c183_0, e183, hx183_0, hx183_1, hl183_0, hi183_0⟩ := at_T36 HR0.out x3_1 p183 q183
   have hw183_1 := hx183_1
   have hw183_0 := hx183_0
   obtain rfl : ad181 = ad183 := (by injection e183)
   replace hx183_0 := up HB.out hx183_0
   replace hx183_1 := up HB.out hx183_1
   have HR183_0 := am hi183_0
   have HC183_0 := am hl183_0
   clear hi183_0 hl183_0
   replace p183 := eq_true p183
   replace q183 := eq_true q183
   refine start_ (n := 11) (S := fun w' => w'.cell? (ad181.add ((x4_1).toNat * 2)) = some (.slice A181_0 ((rd_T36 l0 x4_1).f0).length c181_0) ∧ w'.cell? ⟨(ad181.add ((x4_1).toNat * 2)).block, (ad181.add ((x4_1).toNat * 2)).off + 1, none⟩ = some (.int .i64 ((rd_T36 l0 x4_1).f1)) ∧ w'.cell? (ad181.add ((x3_1).toNat * 2)) = some (.slice A183_0 ((rd_T36 l0 x3_1).f0).length c183_0) ∧ w'.cell? ⟨(ad181.add ((x3_1).toNat * 2)).block, (ad181.add ((x3_1).toNat * 2)).off + 1, none⟩ = some (.int .i64 ((rd_T36 l0 x3_1).f1))) (ds := []) (bt 11 0) (by kernel_rfl) rfl rfl ⟨((HB.out.cell (World.block_lt_of_cell? w _ hw181_0)).trans hw181_0), ((HB.out.cell (World.block_lt_of_cell? w _ hw181_1)).trans hw181_1), ((HB.out.cell (World.block_lt_of_cell? w _ hw183_0)).trans hw183_0), ((HB.out.cell (World.block_lt_of_cell? w _ hw183_1)).trans hw183_1)⟩ (fun hHeld => ?_); refine with_tabW spec_l3Old.tab5 spec_l3Old.bits5 (fun HT_ HW_ => ?_)
   generalize wr.drew = w12 at HB HR181_0 HR183_0 hx181_0 hx181_1 hx183_0 hx183_1 hHeld ⊢
   refine qj 0 11 (bt 11 1) rfl rfl HT_.out ?_
   refine qj 1 12 (bt 11 3) rfl rfl HT_.out ?_
   refine qj 2 13 (bt 11 7) rfl rfl HT_.out ?_
   refine qj 5 16 (bt 11 39) rfl rfl HT_.out ?_
   refine qj 6 17 (bt 11 103) rfl rfl HT_.out ?_
   refine qj 7 18 (bt 11 231) rfl rfl HT_.out ?_
   refine qm 3 14 (bt 11 239) rfl rfl HT_.out HW_.out hHeld ?_
   refine qm 8 19 (bt 11 495) rfl rfl HT_.out HW_.out hHeld ?_
   refine qo 4 (some 15) (bt 11 511) rfl rfl HT_.out fun K hK => ?_
   refine qg Try.func42 #[.agg #[.slice A181_0 ((rd_T36 l0 x4_1).f0).length c181_0, .int .i64 ((rd_T36 l0 x4_1).f1)]] rfl rfl ?_
   with_reducible refine (spec_l3Most.calls k1 _ _ ((rd_T36 l0 x4_1).f0) ((rd_T36 l0 x4_1).f1) t182 _ ?side1 ?side2 A4.out).mono ?_
   (case side1 => exact pc (Kd.C_below HR181_0.out HB.out))
   (case side2 => exact HC181_0.out)
   rintro e w13 ⟨rfl, hb⟩
   refine ⟨_, rfl, ?_⟩
   replace HB := am (below_step (ph HB.out) hb)
   clear hb
   refine hK.out _ _ ⟨((HB.out.cell (World.block_lt_of_cell? w _ hw181_0)).trans hw181_0), ((HB.out.cell (World.block_lt_of_cell? w _ hw181_1)).trans hw181_1), ((HB.out.cell (World.block_lt_of_cell? w _ hw183_0)).trans hw183_0), ((HB.out.cell (World.block_lt_of_cell? w _ hw183_1)).trans hw183_1)⟩ (fun hHeld => ?_)
   clear hK K
   refine qn (some 15) ?_
   refine qo 9 (some 20) (bt 11 1023) rfl rfl HT_.out fun K hK => ?_
   refine qg Try.func42 #[.agg #[.slice A183_0 ((rd_T36 l0 x3_1).f0).length c183_0, .int .i64 ((rd_T36 l0 x3_1).f1)]] rfl rfl ?_
   with_reducible refine (spec_l3Most.calls k1 _ _ ((rd_T36 l0 x3_1).f0) ((rd_T36 l0 x3_1).f1) t184 _ ?side1 ?side2 A7.out).mono ?_
   (case side1 => exact pc (Kd.C_below HR183_0.out HB.out))
   (case side2 => exact HC183_0.out)
   rintro e w14 ⟨rfl, hb⟩
   refine ⟨_, rfl, ?_⟩
   replace HB := am (below_step (ph HB.out) hb)
   clear hb
   refine hK.out _ _ ⟨((HB.out.cell (World.block_lt_of_cell? w _ hw181_0)).trans hw181_0), ((HB.out.cell (World.block_lt_of_cell? w _ hw181_1)).trans hw181_1), ((HB.out.cell (World.block_lt_of_cell? w _ hw183_0)).trans hw183_0), ((HB.out.cell (World.block_lt_of_cell? w _ hw183_1)).trans hw183_1)⟩ (fun hHeld => ?_)
   clear hK K
   refine qn (some 20) ?_
   refine qj 10 21 (bt 11 2047) rfl rfl HT_.out ?_
   refine done_ (done_of HT_.out (by kernel_rfl)) ?_
   try go_wp2
   go_roundg k1
   case measure => have := HK1.out; omega
   case rel => exact ⟨(x3_1), (wrap64 (x4_1 + 1)), rf, rf, H', ⟨by have := HK1.out; omega⟩, ⟨ph HB.out⟩⟩
mutual
def spec_l3Last.l0 : Nat → List (S36) → Int → Int → Int → Int → Int → Int → Option (Int × Int × Int × Int × Bool)
 | 0, _, _, _, _, _, _, _ => none
 | k + 1, x0, x1, x7, x187000, x187001, x187002, x187003 => if x7 < (x0.length : Int) then (spec_l3Last.l1 k x0 x1 x7 0 x187000 x187001 x187002 x187003) else (some (x187000, x187001, x187002, x187003, decide (x187001 > 0)))
def spec_l3Last.l1 : Nat → List (S36) → Int → Int → Int → Int → Int → Int → Int → Option (Int × Int × Int × Int × Bool)
 | 0, _, _, _, _, _, _, _, _ => none
 | k + 1, x0, x1, x7, x8, x187000, x187001, x187002, x187003 => if 0 ≤ x7 then (if x7 < (x0.length : Int) then (if x8 < (((rd_T36 x0 x7).f0).length : Int) then (if 0 ≤ x8 then (if ((rd_T33 ((rd_T36 x0 x7).f0) x8).f0) = 1 then (if ((rd_T33 ((rd_T36 x0 x7).f0) x8).f1.f2) = x1 then (if ((rd_T33 ((rd_T36 x0 x7).f0) x8).f1.f1) > x187001 then (spec_l3Last.l1 k x0 x1 x7 (wrap64 (x8 + 1)) ((rd_T33 ((rd_T36 x0 x7).f0) x8).f1.f0) ((rd_T33 ((rd_T36 x0 x7).f0) x8).f1.f1) ((rd_T33 ((rd_T36 x0 x7).f0) x8).f1.f2) ((rd_T33 ((rd_T36 x0 x7).f0) x8).f1.f3)) else (spec_l3Last.l1 k x0 x1 x7 (wrap64 (x8 + 1)) x187000 x187001 x187002 x187003)) else (spec_l3Last.l1 k x0 x1 x7 (wrap64 (x8 + 1)) x187000 x187001 x187002 x187003)) else (spec_l3Last.l1 k x0 x1 x7 (wrap64 (x8 + 1)) x187000 x187001 x187002 x187003)) else (none)) else (spec_l3Last.l0 k x0 x1 (wrap64 (x7 + 1)) x187000 x187001 x187002 x187003)) else (none)) else (none)
end
def spec_l3Last.f (k : Nat) (l0 : List (S36)) (a1 : Int) : Option (Int × Int × Int × Int × Bool) := spec_l3Last.l0 k l0 a1 0 0 0 0 0
theorem spec_l3Last.mono_l : ∀ k, (∀ y0 y1 y2 y3 y4 y5 y6, LeO (spec_l3Last.l0 k y0 y1 y2 y3 y4 y5 y6) (spec_l3Last.l0 (k + 1) y0 y1 y2 y3 y4 y5 y6)) ∧ (∀ y0 y1 y2 y3 y4 y5 y6 y7, LeO (spec_l3Last.l1 k y0 y1 y2 y3 y4 y5 y6 y7) (spec_l3Last.l1 (k + 1) y0 y1 y2 y3 y4 y5 y6 y7))
 | 0 => ⟨fun _ _ _ _ _ _ _ r h => by simp [spec_l3Last.l0] at h, fun _ _ _ _ _ _ _ _ r h => by simp [spec_l3Last.l1] at h⟩
 | k + 1 => by
  obtain ⟨ih0, ih1⟩ := spec_l3Last.mono_l k
  refine ⟨?_, ?_⟩
  · intro y0 y1 y2 y3 y4 y5 y6
    unfold spec_l3Last.l0
    with_reducible repeat' first | exact ih0 _ _ _ _ _ _ _ | exact ih1 _ _ _ _ _ _ _ _ | exact LeO.refl _ | exact LeO.none _ | refine LeO.ite ?_ ?_ | refine LeO.bind ?_ (fun _ => ?_)
  · intro y0 y1 y2 y3 y4 y5 y6 y7
    unfold spec_l3Last.l1
    with_reducible repeat' first | exact ih0 _ _ _ _ _ _ _ | exact ih1 _ _ _ _ _ _ _ _ | exact LeO.refl _ | exact LeO.none _ | refine LeO.ite ?_ ?_ | refine LeO.bind ?_ (fun _ => ?_)
theorem spec_l3Last.mono : ∀ a0 a1 k, LeO (spec_l3Last.f k a0 a1) (spec_l3Last.f (k + 1) a0 a1) := by
 intro a0 a1 k
 obtain ⟨ih0, ih1⟩ := spec_l3Last.mono_l k
 unfold spec_l3Last.f
 with_reducible repeat' first | exact ih0 _ _ _ _ _ _ _ | exact ih1 _ _ _ _ _ _ _ _ | exact LeO.refl _ | exact LeO.none _ | refine LeO.ite ?_ ?_ | refine LeO.bind ?_ (fun _ => ?_)
set_option maxHeartbeats 8000000 in
set_option maxRecDepth 100000 in
theorem spec_l3Last.calls (k : Nat) (A0 : Option Addr) (c0 : Nat) (l0 : List (S36)) (a1 : Int) (r1 : Int) (r2 : Int) (r3 : Int) (r4 : Int) (r5 : Bool) (w : World) (hr0 : Kd.C k36 w A0 l0.length l0) (hc0 : l0.length ≤ c0) (h : spec_l3Last.f k l0 a1 = some (r1, r2, r3, r4, r5)) :
 Calls Try.prog 55 #[.slice A0 l0.length c0, .int .i64 a1] w fun e w' => e = .returned (.tuple #[.agg #[.int .i64 r1, .int .i64 r2, .int .i64 r3, .int .i64 r4], .bool r5]) ∧ Below w.heap.size w w' := by
 have hu25 := Try.underlying25
 have hu33 := Try.underlying33
 have HR0 := am hr0
 have HC0 := am hc0
 clear hr0 hc0
 have HB := am (Below.refl w.heap.size w)
 have H : (spec_l3Last.l0 k l0 a1 0 0 0 0 0) = some (r1, r2, r3, r4, r5) := h
 clear h
 have H' := am H
 clear H
 go_enter Try.func55, Try.ntmps55
 go_wp2_with (first | (refine bx 4 #[.int .i64 0, .int .i64 0, .int .i64 0, .int .i64 0] 25 rfl ?_; intro gb185 hg w3 hbox hb; have BK185 := am (hbox); have GW185 := am (ge hg (ph HB.out)); have GE185 := GW185; replace HB := am (below_step (ph HB.out) hb); clear hb hbox hg) | (refine bx 6 #[.int .i64 0, .int .i64 0, .int .i64 0, .int .i64 0] 25 rfl ?_; intro gb186 hg w4 hbox hb; have BK186 := am (hbox); have GW186 := am (ge hg (bg1 HB.out GE185.out)); have GE186 := GW186; replace HB := am (below_step (bg1 HB.out GE185.out) hb); have NB185_186 := am (nb hg (pb BK185.out)); have NB186_185 := am (Ne.symm NB185_186.out); replace BK185 := am (blk_below (pb BK185.out) hb); clear hb hbox hg; have hnb5 := NB186_185.out; have hnc5 := NB185_186.out; obtain ⟨hcz6_0, hcz6_1, hcz6_2, hcz6_3⟩ := b4 BK186.out; obtain ⟨hfz6_0, hfz6_1, hfz6_2, hfz6_3⟩ := f4 BK186.out))
 go_loopg [7] k (fun kq v7 w' => ∃ (x7_1 : Int) (x187000_1 : Int) (x187001_1 : Int) (x187002_1 : Int) (x187003_1 : Int), v7 = .int .i64 x7_1 ∧ Aside0 (spec_l3Last.l0 kq l0 a1 x7_1 x187000_1 x187001_1 x187002_1 x187003_1 = some (r1, r2, r3, r4, r5)) ∧ Aside0 (kq ≤ k) ∧ Aside0 (w'.heap[gb185]? = some (.cells #[.int .i64 0, .int .i64 0, .int .i64 0, .int .i64 0] 25 (0, 0))) ∧ Aside0 (w'.heap[gb186]? = some (.cells #[.int .i64 x187000_1, .int .i64 x187001_1, .int .i64 x187002_1, .int .i64 x187003_1] 25 (0, 0))) ∧ Aside0 (Below w.heap.size w w'))
 case atStart => exact ⟨(0), (0), (0), (0), (0), rf, H', ⟨Nat.le_refl _⟩, ⟨bf4 (pb BK185.out) NB185_186.out⟩, ⟨bp4 (pb BK186.out)⟩, ⟨bg2 HB.out GE185.out GE186.out⟩⟩
 case round =>
  clear H'
  obtain ⟨x7_1, x187000_1, x187001_1, x187002_1, x187003_1, rfl, HA, HK1, BK185, BK186, HB⟩ := hrel
  cases gk with
  | zero => exact absurd HA.out (by simp [spec_l3Last.l0])
  | succ k1 =>
   have H := HA.out
   clear HA
   simp only [spec_l3Last.l0] at H
   by_cases c7 : x7_1 < (l0.length : Int)
   rotate_left
   · rw [if_neg c7] at H
     have c7b0 := decide_eq_false c7
     clear c7
     simp only [Option.some.injEq, Prod.mk.injEq] at H
     obtain ⟨rfl, rfl, rfl, rfl, rfl⟩ := H
     try go_wp2
     replace BK185 := am (blk_drew BK185.out)
     replace BK186 := am (blk_drew BK186.out)
     replace HB := am (below_drew1 HB.out)
     refine start_ (n := 6) (S := fun w' => w'.cell? ⟨gb186, 0, none⟩ = some (.int .i64 x187000_1) ∧ w'.cell? ⟨gb186, 1, none⟩ = some (.int .i64 x187001_1) ∧ w'.cell? ⟨gb186, 2, none⟩ = some (.int .i64 x187002_1) ∧ w'.cell? ⟨gb186, 3, none⟩ = some (.int .i64 x187003_1)) (ds := []) (bt 6 0) (by kernel_rfl) rfl rfl ⟨(blk_cell BK186.out 0).trans rfl, (blk_cell BK186.out 1).trans rfl, (blk_cell BK186.out 2).trans rfl, (blk_cell BK186.out 3).trans rfl⟩ (fun hHeld => ?_)
     generalize wr.drew = w35 at BK185 BK186 HB hHeld ⊢
     refine pi_ 1 56 (bt 6 2) rfl rfl (fun _ _ _ h => h) ?_
     refine pm_ 0 55 (bt 6 3) rfl rfl (by kernel_rfl) (fun _ _ _ h => h) hHeld ?_
     refine pm_ 2 57 (bt 6 7) rfl rfl (by kernel_rfl) (fun _ _ _ h => h) hHeld ?_
     refine pi_ 3 58 (bt 6 15) rfl rfl (fun _ _ _ h => h) ?_
     refine one_ (i := 4) (N := none) (bt 6 31) rfl rfl (by kernel_rfl) (by decide) (fun K hK => ?_)
     have hs36 : w35.cell? ⟨gb185, 0, none⟩ = some (.int .i64 0) := (blk_cell BK185.out 0).trans rfl
     have hfs36 := blk_frozen BK185.out 0
     have hns36_1 := NB186_185.out
     have hms36_1 := NB185_186.out
     have hs37 : w35.cell? ⟨gb185, 1, none⟩ = some (.int .i64 0) := (blk_cell BK185.out 1).trans rfl
     have hfs37 := blk_frozen BK185.out 1
     have hns37_1 := NB186_185.out
     have hms37_1 := NB185_186.out
     have hs38 : w35.cell? ⟨gb185, 2, none⟩ = some (.int .i64 0) := (blk_cell BK185.out 2).trans rfl
     have hfs38 := blk_frozen BK185.out 2
     have hns38_1 := NB186_185.out
     have hms38_1 := NB185_186.out
     have hs39 : w35.cell? ⟨gb185, 3, none⟩ = some (.int .i64 0) := (blk_cell BK185.out 3).trans rfl
     have hfs39 := blk_frozen BK185.out 3
     have hns39_1 := NB186_185.out
     have hms39_1 := NB185_186.out
     refine qs rfl ?_
     refine hK.out _ _ ⟨((cell_far (p := ⟨gb185, _, none⟩) NB186_185.out _).trans (((cell_far (p := ⟨gb185, _, none⟩) NB186_185.out _).trans (((cell_far (p := ⟨gb185, _, none⟩) NB186_185.out _).trans (((cell_far (p := ⟨gb185, _, none⟩) NB186_185.out _).trans (hHeld.1)))))))), ((cell_far (p := ⟨gb185, _, none⟩) NB186_185.out _).trans (((cell_far (p := ⟨gb185, _, none⟩) NB186_185.out _).trans (((cell_far (p := ⟨gb185, _, none⟩) NB186_185.out _).trans (((cell_far (p := ⟨gb185, _, none⟩) NB186_185.out _).trans (hHeld.2.1)))))))), ((cell_far (p := ⟨gb185, _, none⟩) NB186_185.out _).trans (((cell_far (p := ⟨gb185, _, none⟩) NB186_185.out _).trans (((cell_far (p := ⟨gb185, _, none⟩) NB186_185.out _).trans (((cell_far (p := ⟨gb185, _, none⟩) NB186_185.out _).trans (hHeld.2.2.1)))))))), ((cell_far (p := ⟨gb185, _, none⟩) NB186_185.out _).trans (((cell_far (p := ⟨gb185, _, none⟩) NB186_185.out _).trans (((cell_far (p := ⟨gb185, _, none⟩) NB186_185.out _).trans (((cell_far (p := ⟨gb185, _, none⟩) NB186_185.out _).trans (hHeld.2.2.2))))))))⟩ (fun hHeld => ?_)
     clear hK K
     refine pi_ 5 5 (bt 6 63) rfl rfl (fun _ _ _ h => h) ?_
     refine done_ (by kernel_rfl) ?_
     try go_wp2
     refine bodyPost_ret (results_ct rfl _ _ gb185 25 #[.int .i64 x187000_1, .int .i64 x187001_1, .int .i64 x187002_1, .int .i64 x187003_1] (0, 0) _ rfl (bp4 (pb BK185.out)) Try.underlying25 rfl (by kernel_rfl)) rfl ?_
     exact (rq (bg2 HB.out GE185.out GE186.out))
   rw [if_pos c7] at H
   have c7b0 := decide_eq_true c7
   clear c7
   have H' := am H
   clear H
   go_wp2
   go_loopg [8] k1 (fun kq v8 w' => ∃ (x8_2 : Int) (x187000_2 : Int) (x187001_2 : Int) (x187002_2 : Int) (x187003_2 : Int), v8 = .int .i64 x8_2 ∧ Aside0 (spec_l3Last.l1 kq l0 a1 x7_1 x8_2 x187000_2 x187001_2 x187002_2 x187003_2 = some (r1, r2, r3, r4, r5)) ∧ Aside0 (kq ≤ k1) ∧ Aside0 (w'.heap[gb185]? = some (.cells #[.int .i64 0, .int .i64 0, .int .i64 0, .int .i64 0] 25 (0, 0))) ∧ Aside0 (w'.heap[gb186]? = some (.cells #[.int .i64 x187000_2, .int .i64 x187001_2, .int .i64 x187002_2, .int .i64 x187003_2] 25 (0, 0))) ∧ Aside0 (Below w.heap.size w w'))
   case atStart => exact ⟨(0), (x187000_1), (x187001_1), (x187002_1), (x187003_1), rf, H', ⟨Nat.le_refl _⟩, ⟨pb BK185.out⟩, ⟨pb BK186.out⟩, ⟨bg2 HB.out GE185.out GE186.out⟩⟩
   case round =>
    clear H'
    obtain ⟨x8_2, x187000_2, x187001_2, x187002_2, x187003_2, rfl, HA, HK2, BK185, BK186, HB⟩ := hrel
    cases gk with
    | zero => exact absurd HA.out (by simp [spec_l3Last.l1])
    | succ k2 =>
     have H := HA.out
     clear HA
     simp only [spec_l3Last.l1] at H
     obtain ⟨c8b0, H⟩ := ifd H
     obtain ⟨c9b0, H⟩ := ifd H
     by_cases c10 : x8_2 < (((rd_T36 l0 x7_1).f0).length : Int)
     rotate_left
     · rw [if_neg c10] at H
       have c10b0 := decide_eq_false c10
       clear c10
       have H' := am H
       clear H
       have p187 : 0 ≤ (x7_1 : Int) := ofb
       have q187 : x7_1 < (l0.length : Int) := ofb
       obtain ⟨ad187, A187_0, c187_0, e187, hx187_0, hx187_1, hl187_0, hi187_0⟩ := at_T36 HR0.out x7_1 p187 q187
       cases e187
       replace hx187_0 := up HB.out hx187_0
       replace hx187_1 := up HB.out hx187_1
       have HR187_0 := am hi187_0
       have HC187_0 := am hl187_0
       clear hi187_0 hl187_0
       replace p187 := eq_true p187
       replace q187 := eq_true q187
       go_wp2
       go_roundg k2
       case measure => have := HK1.out; have := HK2.out; omega
       case rel => exact ⟨(wrap64 (x7_1 + 1)), (x187000_2), (x187001_2), (x187002_2), (x187003_2), rf, H', ⟨by have := HK1.out; have := HK2.out; omega⟩, ⟨pb BK185.out⟩, ⟨pb BK186.out⟩, ⟨bg2 HB.out GE185.out GE186.out⟩⟩
     rw [if_pos c10] at H
     have c10b0 := decide_eq_true c10
     clear c10
     obtain ⟨c11b0, H⟩ := ifd H
     by_cases c12 : ((rd_T33 ((rd_T36 l0 x7_1).f0) x8_2).f0) = 1
     rotate_left
     · rw [if_neg c12] at H
       have c12b0 : (((rd_T33 ((rd_T36 l0 x7_1).f0) x8_2).f0) == 1) = false := beq_eq_false_iff_ne.mpr c12
       have c12b1 : (((rd_T33 ((rd_T36 l0 x7_1).f0) x8_2).f0) != 1) = true := bne_iff_ne.mpr c12
       have H' := am H
       clear H
       have p187 : 0 ≤ (x7_1 : Int) := ofb
       have q187 : x7_1 < (l0.length : Int) := ofb
       obtain ⟨ad187, A187_0, c187_0, e187, hx187_0, hx187_1, hl187_0, hi187_0⟩ := at_T36 HR0.out x7_1 p187 q187
       cases e187
       replace hx187_0 := up HB.out hx187_0
       replace hx187_1 := up HB.out hx187_1
       have HR187_0 := am hi187_0
       have HC187_0 := am hl187_0
       clear hi187_0 hl187_0
       replace p187 := eq_true p187
       replace q187 := eq_true q187
       have p188 : 0 ≤ (x7_1 : Int) := ofb
       have q188 : x7_1 < (l0.length : Int) := ofb
       obtain ⟨ad188, A188_0, c188_0, e188, hx188_0, hx188_1, hl188_0, hi188_0⟩ := at_T36 HR0.out x7_1 p188 q188
       obtain rfl : ad187 = ad188 := (by injection e188)
       replace hx188_0 := up HB.out hx188_0
       replace hx188_1 := up HB.out hx188_1
       have HR188_0 := am hi188_0
       have HC188_0 := am hl188_0
       clear hi188_0 hl188_0
       replace p188 := eq_true p188
       replace q188 := eq_true q188
       have ea_ := Option.some.inj (hx187_0.symm.trans hx188_0)
       injection ea_ with ea_ en_ ec_
       subst ea_
       subst ec_
       clear en_
       have p189 : 0 ≤ (x8_2 : Int) := ofb
       have q189 : x8_2 < (((rd_T36 l0 x7_1).f0).length : Int) := ofb
       obtain ⟨ad189, e189, hx189_0, hx189_1, hx189_2, hx189_3, hx189_4⟩ := at_T33 HR188_0.out x8_2 p189 q189
       cases e189
       replace hx189_0 := up HB.out hx189_0
       replace hx189_1 := up HB.out hx189_1
       replace hx189_2 := up HB.out hx189_2
       replace hx189_3 := up HB.out hx189_3
       replace hx189_4 := up HB.out hx189_4
       replace p189 := eq_true p189
       replace q189 := eq_true q189
       go_wp2_with (first | (refine bx 9 #[.int .i64 0, .int .i64 0, .int .i64 0, .int .i64 0, .int .i64 0] 33 rfl ?_; intro gb190 hg w31 hbox hb; have BK190 := am (hbox); have GW190 := am (ge hg (bg2 HB.out GE185.out GE186.out)); have GE190 := GW190; replace HB := am (below_step (bg2 HB.out GE185.out GE186.out) hb); have NB185_190 := am (nb hg (pb BK185.out)); have NB190_185 := am (Ne.symm NB185_190.out); replace BK185 := am (blk_below (pb BK185.out) hb); have NB186_190 := am (nb hg (pb BK186.out)); have NB190_186 := am (Ne.symm NB186_190.out); replace BK186 := am (blk_below (pb BK186.out) hb); clear hb hbox hg; have hnb32 := NB190_185.out; have hnc32 := NB185_190.out; have hnb33 := NB190_186.out; have hnc33 := NB186_190.out; obtain ⟨hcz34_0, hcz34_1, hcz34_2, hcz34_3, hcz34_4⟩ := b5 BK190.out; obtain ⟨hfz34_0, hfz34_1, hfz34_2, hfz34_3, hfz34_4⟩ := f5 BK190.out))
       go_roundg k2
       case measure => have := HK1.out; have := HK2.out; omega
       case rel => exact ⟨(wrap64 (x8_2 + 1)), (x187000_2), (x187001_2), (x187002_2), (x187003_2), rf, H', ⟨by have := HK1.out; have := HK2.out; omega⟩, ⟨bf5 (pb BK185.out) NB185_190.out⟩, ⟨bf5 (pb BK186.out) NB186_190.out⟩, ⟨bg3 HB.out GE185.out GE186.out GE190.out⟩⟩
     rw [if_pos c12] at H
     have c12b0 : (((rd_T33 ((rd_T36 l0 x7_1).f0) x8_2).f0) == 1) = true := beq_iff_eq.mpr c12
     have c12b1 : (((rd_T33 ((rd_T36 l0 x7_1).f0) x8_2).f0) != 1) = false := bne_eq_false_iff_eq.mpr c12
     clear c12
     by_cases c13 : ((rd_T33 ((rd_T36 l0 x7_1).f0) x8_2).f1.f2) = a1
     rotate_left
     · rw [if_neg c13] at H
       have c13b0 : (((rd_T33 ((rd_T36 l0 x7_1).f0) x8_2).f1.f2) == a1) = false := beq_eq_false_iff_ne.mpr c13
       have c13b1 : (((rd_T33 ((rd_T36 l0 x7_1).f0) x8_2).f1.f2) != a1) = true := bne_iff_ne.mpr c13
       have H' := am H
       clear H
       have p187 : 0 ≤ (x7_1 : Int) := ofb
       have q187 : x7_1 < (l0.length : Int) := ofb
       obtain ⟨ad187, A187_0, c187_0, e187, hx187_0, hx187_1, hl187_0, hi187_0⟩ := at_T36 HR0.out x7_1 p187 q187
       cases e187
       replace hx187_0 := up HB.out hx187_0
       replace hx187_1 := up HB.out hx187_1
       have HR187_0 := am hi187_0
       have HC187_0 := am hl187_0
       clear hi187_0 hl187_0
       replace p187 := eq_true p187
       replace q187 := eq_true q187
       have p188 : 0 ≤ (x7_1 : Int) := ofb
       have q188 : x7_1 < (l0.length : Int) := ofb
       obtain ⟨ad188, A188_0, c188_0, e188, hx188_0, hx188_1, hl188_0, hi188_0⟩ := at_T36 HR0.out x7_1 p188 q188
       obtain rfl : ad187 = ad188 := (by injection e188)
       replace hx188_0 := up HB.out hx188_0
       replace hx188_1 := up HB.out hx188_1
       have HR188_0 := am hi188_0
       have HC188_0 := am hl188_0
       clear hi188_0 hl188_0
       replace p188 := eq_true p188
       replace q188 := eq_true q188
       have ea_ := Option.some.inj (hx187_0.symm.trans hx188_0)
       injection ea_ with ea_ en_ ec_
       subst ea_
       subst ec_
       clear en_
       have p189 : 0 ≤ (x8_2 : Int) := ofb
       have q189 : x8_2 < (((rd_T36 l0 x7_1).f0).length : Int) := ofb
       obtain ⟨ad189, e189, hx189_0, hx189_1, hx189_2, hx189_3, hx189_4⟩ := at_T33 HR188_0.out x8_2 p189 q189
       cases e189
       replace hx189_0 := up HB.out hx189_0
       replace hx189_1 := up HB.out hx189_1
       replace hx189_2 := up HB.out hx189_2
       replace hx189_3 := up HB.out hx189_3
       replace hx189_4 := up HB.out hx189_4
       replace p189 := eq_true p189
       replace q189 := eq_true q189
       go_wp2_with (first | (refine bx 9 #[.int .i64 0, .int .i64 0, .int .i64 0, .int .i64 0, .int .i64 0] 33 rfl ?_; intro gb190 hg w27 hbox hb; have BK190 := am (hbox); have GW190 := am (ge hg (bg2 HB.out GE185.out GE186.out)); have GE190 := GW190; replace HB := am (below_step (bg2 HB.out GE185.out GE186.out) hb); have NB185_190 := am (nb hg (pb BK185.out)); have NB190_185 := am (Ne.symm NB185_190.out); replace BK185 := am (blk_below (pb BK185.out) hb); have NB186_190 := am (nb hg (pb BK186.out)); have NB190_186 := am (Ne.symm NB186_190.out); replace BK186 := am (blk_below (pb BK186.out) hb); clear hb hbox hg; have hnb28 := NB190_185.out; have hnc28 := NB185_190.out; have hnb29 := NB190_186.out; have hnc29 := NB186_190.out; obtain ⟨hcz30_0, hcz30_1, hcz30_2, hcz30_3, hcz30_4⟩ := b5 BK190.out; obtain ⟨hfz30_0, hfz30_1, hfz30_2, hfz30_3, hfz30_4⟩ := f5 BK190.out))
       go_roundg k2
       case measure => have := HK1.out; have := HK2.out; omega
       case rel => exact ⟨(wrap64 (x8_2 + 1)), (x187000_2), (x187001_2), (x187002_2), (x187003_2), rf, H', ⟨by have := HK1.out; have := HK2.out; omega⟩, ⟨bf5 (pb BK185.out) NB185_190.out⟩, ⟨bf5 (pb BK186.out) NB186_190.out⟩, ⟨bg3 HB.out GE185.out GE186.out GE190.out⟩⟩
     rw [if_pos c13] at H
     have c13b0 : (((rd_T33 ((rd_T36 l0 x7_1).f0) x8_2).f1.f2) == a1) = true := beq_iff_eq.mpr c13
     have c13b1 : (((rd_T33 ((rd_T36 l0 x7_1).f0) x8_2).f1.f2) != a1) = false := bne_eq_false_iff_eq.mpr c13
     clear c13
     by_cases c14 : ((rd_T33 ((rd_T36 l0 x7_1).f0) x8_2).f1.f1) > x187001_2
     rotate_left
     · rw [if_neg c14] at H
       have c14b0 := decide_eq_false c14
       clear c14
       have H' := am H
       clear H
       have p187 : 0 ≤ (x7_1 : Int) := ofb
       have q187 : x7_1 < (l0.length : Int) := ofb
       obtain ⟨ad187, A187_0, c187_0, e187, hx187_0, hx187_1, hl187_0, hi187_0⟩ := at_T36 HR0.out x7_1 p187 q187
       cases e187
       replace hx187_0 := up HB.out hx187_0
       replace hx187_1 := up HB.out hx187_1
       have HR187_0 := am hi187_0
       have HC187_0 := am hl187_0
       clear hi187_0 hl187_0
       replace p187 := eq_true p187
       replace q187 := eq_true q187
       have p188 : 0 ≤ (x7_1 : Int) := ofb
       have q188 : x7_1 < (l0.length : Int) := ofb
       obtain ⟨ad188, A188_0, c188_0, e188, hx188_0, hx188_1, hl188_0, hi188_0⟩ := at_T36 HR0.out x7_1 p188 q188
       obtain rfl : ad187 = ad188 := (by injection e188)
       replace hx188_0 := up HB.out hx188_0
       replace hx188_1 := up HB.out hx188_1
       have HR188_0 := am hi188_0
       have HC188_0 := am hl188_0
       clear hi188_0 hl188_0
       replace p188 := eq_true p188
       replace q188 := eq_true q188
       have ea_ := Option.some.inj (hx187_0.symm.trans hx188_0)
       injection ea_ with ea_ en_ ec_
       subst ea_
       subst ec_
       clear en_
       have p189 : 0 ≤ (x8_2 : Int) := ofb
       have q189 : x8_2 < (((rd_T36 l0 x7_1).f0).length : Int) := ofb
       obtain ⟨ad189, e189, hx189_0, hx189_1, hx189_2, hx189_3, hx189_4⟩ := at_T33 HR188_0.out x8_2 p189 q189
       cases e189
       replace hx189_0 := up HB.out hx189_0
       replace hx189_1 := up HB.out hx189_1
       replace hx189_2 := up HB.out hx189_2
       replace hx189_3 := up HB.out hx189_3
       replace hx189_4 := up HB.out hx189_4
       replace p189 := eq_true p189
       replace q189 := eq_true q189
       go_wp2_with (first | (refine bx 9 #[.int .i64 0, .int .i64 0, .int .i64 0, .int .i64 0, .int .i64 0] 33 rfl ?_; intro gb190 hg w21 hbox hb; have BK190 := am (hbox); have GW190 := am (ge hg (bg2 HB.out GE185.out GE186.out)); have GE190 := GW190; replace HB := am (below_step (bg2 HB.out GE185.out GE186.out) hb); have NB185_190 := am (nb hg (pb BK185.out)); have NB190_185 := am (Ne.symm NB185_190.out); replace BK185 := am (blk_below (pb BK185.out) hb); have NB186_190 := am (nb hg (pb BK186.out)); have NB190_186 := am (Ne.symm NB186_190.out); replace BK186 := am (blk_below (pb BK186.out) hb); clear hb hbox hg; have hnb22 := NB190_185.out; have hnc22 := NB185_190.out; have hnb23 := NB190_186.out; have hnc23 := NB186_190.out; obtain ⟨hcz24_0, hcz24_1, hcz24_2, hcz24_3, hcz24_4⟩ := b5 BK190.out; obtain ⟨hfz24_0, hfz24_1, hfz24_2, hfz24_3, hfz24_4⟩ := f5 BK190.out; have hnb25 := NB186_185.out; have hnc25 := NB185_186.out; obtain ⟨hcz26_0, hcz26_1, hcz26_2, hcz26_3⟩ := b4 BK186.out; obtain ⟨hfz26_0, hfz26_1, hfz26_2, hfz26_3⟩ := f4 BK186.out))
       go_roundg k2
       case measure => have := HK1.out; have := HK2.out; omega
       case rel => exact ⟨(wrap64 (x8_2 + 1)), (x187000_2), (x187001_2), (x187002_2), (x187003_2), rf, H', ⟨by have := HK1.out; have := HK2.out; omega⟩, ⟨bf5 (pb BK185.out) NB185_190.out⟩, ⟨bf5 (pb BK186.out) NB186_190.out⟩, ⟨bg3 HB.out GE185.out GE186.out GE190.out⟩⟩
     rw [if_pos c14] at H
     have c14b0 := decide_eq_true c14
     clear c14
     have H' := am H
     clear H
     have p187 : 0 ≤ (x7_1 : Int) := ofb
     have q187 : x7_1 < (l0.length : Int) := ofb
     obtain ⟨ad187, A187_0, c187_0, e187, hx187_0, hx187_1, hl187_0, hi187_0⟩ := at_T36 HR0.out x7_1 p187 q187
     cases e187
     replace hx187_0 := up HB.out hx187_0
     replace hx187_1 := up HB.out hx187_1
     have HR187_0 := am hi187_0
     have HC187_0 := am hl187_0
     clear hi187_0 hl187_0
     replace p187 := eq_true p187
     replace q187 := eq_true q187
     have p188 : 0 ≤ (x7_1 : Int) := ofb
     have q188 : x7_1 < (l0.length : Int) := ofb
     obtain ⟨ad188, A188_0, c188_0, e188, hx188_0, hx188_1, hl188_0, hi188_0⟩ := at_T36 HR0.out x7_1 p188 q188
     obtain rfl : ad187 = ad188 := (by injection e188)
     replace hx188_0 := up HB.out hx188_0
     replace hx188_1 := up HB.out hx188_1
     have HR188_0 := am hi188_0
     have HC188_0 := am hl188_0
     clear hi188_0 hl188_0
     replace p188 := eq_true p188
     replace q188 := eq_true q188
     have ea_ := Option.some.inj (hx187_0.symm.trans hx188_0)
     injection ea_ with ea_ en_ ec_
     subst ea_
     subst ec_
     clear en_
     have p189 : 0 ≤ (x8_2 : Int) := ofb
     have q189 : x8_2 < (((rd_T36 l0 x7_1).f0).length : Int) := ofb
     obtain ⟨ad189, e189, hx189_0, hx189_1, hx189_2, hx189_3, hx189_4⟩ := at_T33 HR188_0.out x8_2 p189 q189
     cases e189
     replace hx189_0 := up HB.out hx189_0
     replace hx189_1 := up HB.out hx189_1
     replace hx189_2 := up HB.out hx189_2
     replace hx189_3 := up HB.out hx189_3
     replace hx189_4 := up HB.out hx189_4
     replace p189 := eq_true p189
     replace q189 := eq_true q189
     go_wp2_with (first | (refine bx 9 #[.int .i64 0, .int .i64 0, .int .i64 0, .int .i64 0, .int .i64 0] 33 rfl ?_; intro gb190 hg w15 hbox hb; have BK190 := am (hbox); have GW190 := am (ge hg (bg2 HB.out GE185.out GE186.out)); have GE190 := GW190; replace HB := am (below_step (bg2 HB.out GE185.out GE186.out) hb); have NB185_190 := am (nb hg (pb BK185.out)); have NB190_185 := am (Ne.symm NB185_190.out); replace BK185 := am (blk_below (pb BK185.out) hb); have NB186_190 := am (nb hg (pb BK186.out)); have NB190_186 := am (Ne.symm NB186_190.out); replace BK186 := am (blk_below (pb BK186.out) hb); clear hb hbox hg; have hnb16 := NB190_185.out; have hnc16 := NB185_190.out; have hnb17 := NB190_186.out; have hnc17 := NB186_190.out; obtain ⟨hcz18_0, hcz18_1, hcz18_2, hcz18_3, hcz18_4⟩ := b5 BK190.out; obtain ⟨hfz18_0, hfz18_1, hfz18_2, hfz18_3, hfz18_4⟩ := f5 BK190.out; have hnb19 := NB186_185.out; have hnc19 := NB185_186.out; obtain ⟨hcz20_0, hcz20_1, hcz20_2, hcz20_3⟩ := b4 BK186.out; obtain ⟨hfz20_0, hfz20_1, hfz20_2, hfz20_3⟩ := f4 BK186.out))
     go_roundg k2
     case measure => have := HK1.out; have := HK2.out; omega
     case rel => exact ⟨(wrap64 (x8_2 + 1)), ((rd_T33 ((rd_T36 l0 x7_1).f0) x8_2).f1.f0), ((rd_T33 ((rd_T36 l0 x7_1).f0) x8_2).f1.f1), ((rd_T33 ((rd_T36 l0 x7_1).f0) x8_2).f1.f2), ((rd_T33 ((rd_T36 l0 x7_1).f0) x8_2).f1.f3), rf, H', ⟨by have := HK1.out; have := HK2.out; omega⟩, ⟨bf4 (bf5 (pb BK185.out) NB185_190.out) NB185_186.out⟩, ⟨bp4 (bf5 (pb BK186.out) NB186_190.out)⟩, ⟨bg3 HB.out GE185.out GE186.out GE190.out⟩⟩
end Go.Proofs.Ythmgdljblidgjaa.Rw
namespace Go.Proofs.Ythmgdljblidgjaa.Rw
open Go.RowKit Go.Proofs.YthmgdljblidgjaaW.PrintWords Go.Proofs.YthmgdljblidgjaaW.PrintLast Go.Proofs.YthmgdljblidgjaaW.PrintMore
attribute [local go_sem] max2_int min2_int max_two min_two max_three min_three max_four min_four
set_option linter.unusedVariables false
set_option linter.unusedSimpArgs false
attribute [local go_sem high] eqA25
def spec_l3Live.f (k : Nat) (l0 : List (S36)) (a1_0 : Int) (a1_1 : Int) (a1_2 : Int) (a1_3 : Int) (a1_4 : Int) : Option (Bool) := if a1_0 = 1 then ((spec_l3Last.f k l0 a1_3).bind fun bt192 => (some (bt192.1 == a1_1 && (bt192.2.1 == a1_2 && (bt192.2.2.1 == a1_3 && (bt192.2.2.2.1 == a1_4)))))) else (some false)
theorem spec_l3Live.mono : ∀ a0 a1 a2 a3 a4 a5 k, LeO (spec_l3Live.f k a0 a1 a2 a3 a4 a5) (spec_l3Live.f (k + 1) a0 a1 a2 a3 a4 a5) := by
 intro a0 a1 a2 a3 a4 a5 k
 unfold spec_l3Live.f
 with_reducible repeat' first | exact spec_l3Last.mono _ _ _ | exact LeO.refl _ | exact LeO.none _ | refine LeO.ite ?_ ?_ | refine LeO.bind ?_ (fun _ => ?_)
set_option maxHeartbeats 8000000 in
set_option maxRecDepth 100000 in
theorem spec_l3Live.calls (k : Nat) (A0 : Option Addr) (c0 : Nat) (l0 : List (S36)) (a1_0 : Int) (a1_1 : Int) (a1_2 : Int) (a1_3 : Int) (a1_4 : Int) (r : Bool) (w : World) (hr0 : Kd.C k36 w A0 l0.length l0) (hc0 : l0.length ≤ c0) (h : spec_l3Live.f k l0 a1_0 a1_1 a1_2 a1_3 a1_4 = some r) :
 Calls Try.prog 58 #[.slice A0 l0.length c0, .agg #[.int .i64 a1_0, .int .i64 a1_1, .int .i64 a1_2, .int .i64 a1_3, .int .i64 a1_4]] w fun e w' => e = .returned (.bool r) ∧ Below w.heap.size w w' := by
 have hu33 := Try.underlying33
 have hu25 := Try.underlying25
 have HR0 := am hr0
 have HC0 := am hc0
 clear hr0 hc0
 have HB := am (Below.refl w.heap.size w)
 have H : (if a1_0 = 1 then ((spec_l3Last.f k l0 a1_3).bind fun bt192 => (some (bt192.1 == a1_1 && (bt192.2.1 == a1_2 && (bt192.2.2.1 == a1_3 && (bt192.2.2.2.1 == a1_4)))))) else (some false)) = some r := h
 clear h
 by_cases c3 : a1_0 = 1
 rotate_left
 · rw [if_neg c3] at H
   have c3b0 : (a1_0 == 1) = false := beq_eq_false_iff_ne.mpr c3
   have c3b1 : (a1_0 != 1) = true := bne_iff_ne.mpr c3
   obtain rfl := Option.some.inj H
   go_enter Try.func58, Try.ntmps58
   go_wp2_with (first | (refine bx 3 #[.int .i64 a1_0, .int .i64 a1_1, .int .i64 a1_2, .int .i64 a1_3, .int .i64 a1_4] 33 rfl ?_; intro gb191 hg w12 hbox hb; have BK191 := am (hbox); have GW191 := am (ge hg (ph HB.out)); have GE191 := GW191; replace HB := am (below_step (ph HB.out) hb); clear hb hbox hg; obtain ⟨hcz13_0, hcz13_1, hcz13_2, hcz13_3, hcz13_4⟩ := b5 BK191.out; obtain ⟨hfz13_0, hfz13_1, hfz13_2, hfz13_3, hfz13_4⟩ := f5 BK191.out))
   go_ret
   exact (rq (bg1 HB.out GE191.out))
 rw [if_pos c3] at H
 have c3b0 : (a1_0 == 1) = true := beq_iff_eq.mpr c3
 have c3b1 : (a1_0 != 1) = false := bne_eq_false_iff_eq.mpr c3
 clear c3
 replace H := Option.bind_eq_some_iff.mp H
 obtain ⟨⟨t192, t193, t194, t195, t196⟩, A40, H⟩ := H
 have A4 := am A40
 clear A40
 obtain rfl := Option.some.inj H
 go_enter Try.func58, Try.ntmps58
 go_wp2_with (first | (refine bx 3 #[.int .i64 a1_0, .int .i64 a1_1, .int .i64 a1_2, .int .i64 a1_3, .int .i64 a1_4] 33 rfl ?_; intro gb191 hg w5 hbox hb; have BK191 := am (hbox); have GW191 := am (ge hg (ph HB.out)); have GE191 := GW191; replace HB := am (below_step (ph HB.out) hb); clear hb hbox hg; obtain ⟨hcz6_0, hcz6_1, hcz6_2, hcz6_3, hcz6_4⟩ := b5 BK191.out; obtain ⟨hfz6_0, hfz6_1, hfz6_2, hfz6_3, hfz6_4⟩ := f5 BK191.out) | (refine gl 15 Try.func55 #[.slice A0 l0.length c0, .int .i64 a1_3] rfl ?_; (with_reducible refine (spec_l3Last.calls k _ _ l0 a1_3 t192 t193 t194 t195 t196 _ ?side1 ?side2 A4.out).mono ?_); (case side1 => exact pc (Kd.C_below HR0.out HB.out)); (case side2 => exact HC0.out); rintro e w7 ⟨rfl, hb⟩; refine ⟨_, rfl, ?_⟩; replace BK191 := am (blk_below (pb BK191.out) hb); replace HB := am (below_step (bg1 HB.out GE191.out) hb); clear hb) | (refine bx 5 #[.int .i64 0, .int .i64 0, .int .i64 0, .int .i64 0] 25 rfl ?_; intro gb197 hg w8 hbox hb; have BK197 := am (hbox); have GW197 := am (ge hg (bg1 HB.out GE191.out)); have GE197 := GW197; replace HB := am (below_step (bg1 HB.out GE191.out) hb); have NB191_197 := am (nb hg (pb BK191.out)); have NB197_191 := am (Ne.symm NB191_197.out); replace BK191 := am (blk_below (pb BK191.out) hb); clear hb hbox hg; have hnb9 := NB197_191.out; have hnc9 := NB191_197.out; obtain ⟨hcz10_0, hcz10_1, hcz10_2, hcz10_3⟩ := b4 BK197.out; obtain ⟨hfz10_0, hfz10_1, hfz10_2, hfz10_3⟩ := f4 BK197.out; obtain ⟨hcz11_0, hcz11_1, hcz11_2, hcz11_3, hcz11_4⟩ := b5 BK191.out; obtain ⟨hfz11_0, hfz11_1, hfz11_2, hfz11_3, hfz11_4⟩ := f5 BK191.out))
 go_ret
 exact (rq (bg2 HB.out GE191.out GE197.out))
end Go.Proofs.Ythmgdljblidgjaa.Rw
