-- printed by wip/pp/pp.py
import Derived.Test.YtcanhdofmbekeaaRp0
import Derived.Test.YtcanhdofmbekeaaRp4
import Derived.Test.YtcanhdofmbekeaaRp2
namespace Go.Proofs.Ytcanhdofmbekeaa.Rp
open Go.RowKit Go.Proofs.YtcanhdofmbekeaaW.PrintWords Go.Proofs.YtcanhdofmbekeaaW.PrintLast Go.Proofs.YtcanhdofmbekeaaW.PrintMore
attribute [local go_sem] max2_int min2_int max_two min_two max_three min_three max_four min_four
set_option linter.unusedVariables false
set_option linter.unusedSimpArgs false
def spec_l3Most.l0 : Nat → Int → Int → List (S32) → Int → Option (Int)
 | 0, _, _, _, _ => none
 | k + 1, x3, x4, x223000, x223001 => if x4 < (x223000.length : Int) then (if 0 ≤ x4 then (spec_l3Most.l0 k (mx x3 ((rd_T32 x223000 x4).f1.f1)) (wrap64 (x4 + 1)) x223000 x223001) else (none)) else (some x3)
def spec_l3Most.f (k : Nat) (l0_0 : List (S32)) (a0_1 : Int) : Option (Int) := spec_l3Most.l0 k 0 0 l0_0 a0_1
theorem spec_l3Most.mono_l : ∀ k, (∀ y0 y1 y2 y3, LeO (spec_l3Most.l0 k y0 y1 y2 y3) (spec_l3Most.l0 (k + 1) y0 y1 y2 y3))
 | 0 => fun _ _ _ _ r h => by simp [spec_l3Most.l0] at h
 | k + 1 => by
  have ih0 := spec_l3Most.mono_l k
  · intro y0 y1 y2 y3
    unfold spec_l3Most.l0
    repeat' first
    | (with_reducible exact ih0 _ _ _ _)
    | (with_reducible exact LeO.refl _)
    | (with_reducible exact LeO.none _)
    | (with_reducible refine LeO.ite ?_ ?_)
    | (with_reducible refine LeO.bind ?_ (fun _ => ?_))
    | exact ih0 _ _ _ _
    | exact LeO.none _
    | refine LeO.ite ?_ ?_
    | refine LeO.bind ?_ (fun _ => ?_)
theorem spec_l3Most.mono : ∀ a0 a1 k, LeO (spec_l3Most.f k a0 a1) (spec_l3Most.f (k + 1) a0 a1) := by
 intro a0 a1 k
 have ih0 := spec_l3Most.mono_l k
 unfold spec_l3Most.f
 repeat' first
  | (with_reducible exact ih0 _ _ _ _)
  | (with_reducible exact LeO.refl _)
  | (with_reducible exact LeO.none _)
  | (with_reducible refine LeO.ite ?_ ?_)
  | (with_reducible refine LeO.bind ?_ (fun _ => ?_))
  | exact ih0 _ _ _ _
  | exact LeO.none _
  | refine LeO.ite ?_ ?_
  | refine LeO.bind ?_ (fun _ => ?_)
set_option maxHeartbeats 8000000 in
set_option maxRecDepth 100000 in
theorem spec_l3Most.calls (k : Nat) (A0_0 : Option Addr) (c0_0 : Nat) (l0_0 : List (S32)) (a0_1 : Int) (r : Int) (w : World) (hr0_0 : Kd.C k32 w A0_0 l0_0.length l0_0) (hc0_0 : l0_0.length ≤ c0_0) (h : spec_l3Most.f k l0_0 a0_1 = some r) :
 Calls Try.prog 48 #[.agg #[.slice A0_0 l0_0.length c0_0, .int .i64 a0_1]] w fun e w' => e = .returned (.int .i64 r) ∧ Below w.heap.size w w' := by
 have hu35 := Try.underlying35
 have HR0_0 := am hr0_0
 have HC0_0 := am hc0_0
 clear hr0_0 hc0_0
 have HB := am (Below.refl w.heap.size w)
 have H : (spec_l3Most.l0 k 0 0 l0_0 a0_1) = some r := h
 clear h
 have H' := am H
 clear H
 go_enter Try.func48, Try.ntmps48
 go_wp2_with (first | (refine bx 1 #[.slice A0_0 l0_0.length c0_0, .int .i64 a0_1] 35 rfl ?_; intro gb222 hg w2 hbox hb; have BK222 := am (hbox); have GW222 := am ((by rw [hg]; exact (below_size (ph HB.out)) : w.heap.size ≤ gb222)); have GE222 := GW222; replace HB := am (below_step (ph HB.out) hb); clear hb hbox hg))
 go_loopg [3, 4] k (fun kq v3 v4 w' => ∃ (x3_1 : Int) (x4_1 : Int), v3 = .int .i64 x3_1 ∧ v4 = .int .i64 x4_1 ∧ Aside0 (spec_l3Most.l0 kq x3_1 x4_1 l0_0 a0_1 = some r) ∧ Aside0 (kq ≤ k) ∧ Aside0 (w'.heap[gb222]? = some (.cells #[(.slice A0_0 l0_0.length c0_0), .int .i64 a0_1] 35 (0, 0))) ∧ Aside0 (Below w.heap.size w w'))
 case atStart => exact ⟨(0), (0), rf, rf, H', ⟨Nat.le_refl _⟩, ⟨pb BK222.out⟩, ⟨bg1 HB.out GE222.out⟩⟩
 case round =>
  clear H'
  obtain ⟨x3_1, x4_1, rfl, rfl, HA, HK1, BK222, HB⟩ := hrel
  cases gk with
  | zero => exact absurd HA.out (by simp [spec_l3Most.l0])
  | succ k1 =>
   have H := HA.out
   clear HA
   simp only [spec_l3Most.l0] at H
   by_cases c3 : x4_1 < (l0_0.length : Int)
   rotate_left
   · rw [if_neg c3] at H
     have c3b0 := decide_eq_false c3
     clear c3
     obtain rfl := Option.some.inj H
     obtain ⟨hcz7_0, hcz7_1⟩ := b2 BK222.out
     obtain ⟨hfz7_0, hfz7_1⟩ := f2 BK222.out
     go_wp2
     go_ret
     exact (rq (bg1 HB.out GE222.out))
   rw [if_pos c3] at H
   have c3b0 := decide_eq_true c3
   clear c3
   by_cases c4 : 0 ≤ x4_1
   rotate_left
   · rw [if_neg c4] at H
     exact absurd H (by simp)
   rw [if_pos c4] at H
   have c4b0 := decide_eq_true c4
   clear c4
   obtain ⟨ji5, hji5⟩ : ∃ j_ : Int, (mx x3_1 ((rd_T32 l0_0 x4_1).f1.f1)) = j_ := ⟨_, rfl⟩
   replace H : (spec_l3Most.l0 k1 ji5 (wrap64 (x4_1 + 1)) l0_0 a0_1) = some r := by first | (rw [hji5] at H; exact H) | (simp only [hji5] at H ⊢; exact H)
   have hji5_ : (if x3_1 < ((rd_T32 l0_0 x4_1).f1.f1) then ((rd_T32 l0_0 x4_1).f1.f1) else x3_1) = ji5 := hji5
   have H' := am H
   clear H
   obtain ⟨hcz6_0, hcz6_1⟩ := b2 BK222.out
   obtain ⟨hfz6_0, hfz6_1⟩ := f2 BK222.out
   have p223 : 0 ≤ (x4_1 : Int) := ofb
   have q223 : x4_1 < (l0_0.length : Int) := ofb
   obtain ⟨ad223, e223, hx223_0, hx223_1, hx223_2, hx223_3, hx223_4⟩ := at_T32 HR0_0.out x4_1 p223 q223
   cases e223
   replace hx223_0 := up HB.out hx223_0
   replace hx223_1 := up HB.out hx223_1
   replace hx223_2 := up HB.out hx223_2
   replace hx223_3 := up HB.out hx223_3
   replace hx223_4 := up HB.out hx223_4
   replace p223 := eq_true p223
   replace q223 := eq_true q223
   go_wp2
   go_roundg k1
   case measure => have := HK1.out; omega
   case rel => exact ⟨(ji5), (wrap64 (x4_1 + 1)), (by first | rfl | (simp; done) | (simp only [← hji5] <;> (first | rfl | simp)) | (simp [*]; done)), rf, H', ⟨by have := HK1.out; omega⟩, ⟨pb BK222.out⟩, ⟨bg1 HB.out GE222.out⟩⟩
def spec_l3Next.l0 : Nat → List (S35) → Int → Int → Option (Int)
 | 0, _, _, _ => none
 | k + 1, x0, x3, x4 => if x4 < (x0.length : Int) then (if 0 ≤ x4 then ((spec_l3Most.f k ((rd_T35 x0 x4).f0) ((rd_T35 x0 x4).f1)).bind fun t225 => (spec_l3Next.l0 k x0 (mx x3 t225) (wrap64 (x4 + 1)))) else (none)) else (some (wrap64 (x3 + 1)))
def spec_l3Next.f (k : Nat) (l0 : List (S35)) : Option (Int) := spec_l3Next.l0 k l0 0 0
theorem spec_l3Next.mono_l : ∀ k, (∀ y0 y1 y2, LeO (spec_l3Next.l0 k y0 y1 y2) (spec_l3Next.l0 (k + 1) y0 y1 y2))
 | 0 => fun _ _ _ r h => by simp [spec_l3Next.l0] at h
 | k + 1 => by
  have ih0 := spec_l3Next.mono_l k
  · intro y0 y1 y2
    unfold spec_l3Next.l0
    repeat' first
    | (with_reducible exact ih0 _ _ _)
    | (with_reducible exact spec_l3Most.mono _ _ _)
    | (with_reducible exact LeO.refl _)
    | (with_reducible exact LeO.none _)
    | (with_reducible refine LeO.ite ?_ ?_)
    | (with_reducible refine LeO.bind ?_ (fun _ => ?_))
    | exact ih0 _ _ _
    | exact spec_l3Most.mono _ _ _
    | exact LeO.none _
    | refine LeO.ite ?_ ?_
    | refine LeO.bind ?_ (fun _ => ?_)
theorem spec_l3Next.mono : ∀ a0 k, LeO (spec_l3Next.f k a0) (spec_l3Next.f (k + 1) a0) := by
 intro a0 k
 have ih0 := spec_l3Next.mono_l k
 unfold spec_l3Next.f
 repeat' first
  | (with_reducible exact ih0 _ _ _)
  | (with_reducible exact spec_l3Most.mono _ _ _)
  | (with_reducible exact LeO.refl _)
  | (with_reducible exact LeO.none _)
  | (with_reducible refine LeO.ite ?_ ?_)
  | (with_reducible refine LeO.bind ?_ (fun _ => ?_))
  | exact ih0 _ _ _
  | exact spec_l3Most.mono _ _ _
  | exact LeO.none _
  | refine LeO.ite ?_ ?_
  | refine LeO.bind ?_ (fun _ => ?_)
set_option maxHeartbeats 8000000 in
set_option maxRecDepth 100000 in
theorem spec_l3Next.calls (k : Nat) (A0 : Option Addr) (c0 : Nat) (l0 : List (S35)) (r : Int) (w : World) (hr0 : Kd.C k35 w A0 l0.length l0) (hc0 : l0.length ≤ c0) (h : spec_l3Next.f k l0 = some r) :
 Calls Try.prog 44 #[.slice A0 l0.length c0] w fun e w' => e = .returned (.int .i64 r) ∧ Below w.heap.size w w' := by
 have hu35 := Try.underlying35
 have HR0 := am hr0
 have HC0 := am hc0
 clear hr0 hc0
 have HB := am (Below.refl w.heap.size w)
 have H : (spec_l3Next.l0 k l0 0 0) = some r := h
 clear h
 have H' := am H
 clear H
 go_enter Try.func44, Try.ntmps44
 go_wp2
 go_loopg [3, 4] k (fun kq v3 v4 w' => ∃ (x3_1 : Int) (x4_1 : Int), v3 = .int .i64 x3_1 ∧ v4 = .int .i64 x4_1 ∧ Aside0 (spec_l3Next.l0 kq l0 x3_1 x4_1 = some r) ∧ Aside0 (kq ≤ k) ∧ Aside0 (Below w.heap.size w w'))
 case atStart => exact ⟨(0), (0), rf, rf, H', ⟨Nat.le_refl _⟩, ⟨ph HB.out⟩⟩
 case round =>
  clear H'
  obtain ⟨x3_1, x4_1, rfl, rfl, HA, HK1, HB⟩ := hrel
  cases gk with
  | zero => exact absurd HA.out (by simp [spec_l3Next.l0])
  | succ k1 =>
   have H := HA.out
   clear HA
   simp only [spec_l3Next.l0] at H
   by_cases c2 : x4_1 < (l0.length : Int)
   rotate_left
   · rw [if_neg c2] at H
     have c2b0 := decide_eq_false c2
     clear c2
     obtain rfl := Option.some.inj H
     go_wp2
     go_ret
     exact (rq (ph HB.out))
   rw [if_pos c2] at H
   have c2b0 := decide_eq_true c2
   clear c2
   by_cases c3 : 0 ≤ x4_1
   rotate_left
   · rw [if_neg c3] at H
     exact absurd H (by simp)
   rw [if_pos c3] at H
   have c3b0 := decide_eq_true c3
   clear c3
   replace H := Option.bind_eq_some_iff.mp H
   obtain ⟨t225, A40, H⟩ := H
   replace H : (spec_l3Next.l0 k1 l0 (mx x3_1 t225) (wrap64 (x4_1 + 1))) = some r := H
   have A4 := am A40
   clear A40
   obtain ⟨ji5, hji5⟩ : ∃ j_ : Int, (mx x3_1 t225) = j_ := ⟨_, rfl⟩
   replace H : (spec_l3Next.l0 k1 l0 ji5 (wrap64 (x4_1 + 1))) = some r := by first | (rw [hji5] at H; exact H) | (simp only [hji5] at H ⊢; exact H)
   (try rw [hji5] at A4)
   have hji5_ : (if x3_1 < t225 then t225 else x3_1) = ji5 := hji5
   have H' := am H
   clear H
   have p224 : 0 ≤ (x4_1 : Int) := ofb
   have q224 : x4_1 < (l0.length : Int) := ofb
   obtain ⟨ad224, A224_0, c224_0, e224, hx224_0, hx224_1, hl224_0, hi224_0⟩ := at_T35 HR0.out x4_1 p224 q224
   cases e224
   replace hx224_0 := up HB.out hx224_0
   replace hx224_1 := up HB.out hx224_1
   have HR224_0 := am hi224_0
   have HC224_0 := am hl224_0
   clear hi224_0 hl224_0
   replace p224 := eq_true p224
   replace q224 := eq_true q224
   go_wp2_with (first | (refine gl 16 Try.func48 #[.agg #[.slice A224_0 ((rd_T35 l0 x4_1).f0).length c224_0, .int .i64 ((rd_T35 l0 x4_1).f1)]] rfl ?_; (with_reducible refine (spec_l3Most.calls k1 _ _ ((rd_T35 l0 x4_1).f0) ((rd_T35 l0 x4_1).f1) t225 _ ?side1 ?side2 A4.out).mono ?_); (case side1 => exact pc (Kd.C_below HR224_0.out HB.out)); (case side2 => exact HC224_0.out); rintro e w6 ⟨rfl, hb⟩; refine ⟨_, rfl, ?_⟩; replace HB := am (below_step (ph HB.out) hb); (try clear hb); (try clear hb2); (try clear hk); (try clear hi)))
   go_roundg k1
   case measure => have := HK1.out; omega
   case rel => exact ⟨(ji5), (wrap64 (x4_1 + 1)), (by first | rfl | (simp; done) | (simp only [← hji5] <;> (first | rfl | simp)) | (simp [*]; done)), rf, H', ⟨by have := HK1.out; omega⟩, ⟨ph HB.out⟩⟩
mutual
def spec_l3Open.l0 : Nat → List (S35) → Int → Int → Option (Int × Bool)
 | 0, _, _, _ => none
 | k + 1, x0, x4, x5 => if x5 < (x0.length : Int) then (if 0 ≤ x5 then ((spec_l2Clean.f k ((rd_T35 x0 x5).f0) ((rd_T35 x0 x5).f1)).bind fun t227 => (if t227 > 0 then (spec_l3Open.j1 k x0 x4 x5 t227 (decide (t227 < 4))) else (spec_l3Open.j1 k x0 x4 x5 t227 false))) else (none)) else (some (mx x4 0, decide (x4 ≥ 0)))
def spec_l3Open.j1 : Nat → List (S35) → Int → Int → Int → Bool → Option (Int × Bool)
 | 0, _, _, _, _, _ => none
 | k + 1, x0, x4, x5, x6, x23 => if x23 = true then (some (x5, true)) else (if x6 > 0 then (if x4 < 0 then (spec_l3Open.l0 k x0 x5 (wrap64 (x5 + 1))) else (if 0 ≤ x5 then (if x5 < (x0.length : Int) then (if 0 ≤ x4 then (if x4 < (x0.length : Int) then (if ((rd_T35 x0 x5).f1) < ((rd_T35 x0 x4).f1) then (spec_l3Open.l0 k x0 x5 (wrap64 (x5 + 1))) else (spec_l3Open.l0 k x0 x4 (wrap64 (x5 + 1)))) else (none)) else (none)) else (none)) else (none))) else (spec_l3Open.l0 k x0 x4 (wrap64 (x5 + 1))))
end
def spec_l3Open.f (k : Nat) (l0 : List (S35)) : Option (Int × Bool) := spec_l3Open.l0 k l0 (-1) 0
theorem spec_l3Open.mono_l : ∀ k, (∀ y0 y1 y2, LeO (spec_l3Open.l0 k y0 y1 y2) (spec_l3Open.l0 (k + 1) y0 y1 y2)) ∧ (∀ y0 y1 y2 y3 y4, LeO (spec_l3Open.j1 k y0 y1 y2 y3 y4) (spec_l3Open.j1 (k + 1) y0 y1 y2 y3 y4))
 | 0 => ⟨fun _ _ _ r h => by simp [spec_l3Open.l0] at h, fun _ _ _ _ _ r h => by simp [spec_l3Open.j1] at h⟩
 | k + 1 => by
  obtain ⟨ih0, ih1⟩ := spec_l3Open.mono_l k
  refine ⟨?_, ?_⟩
  · intro y0 y1 y2
    unfold spec_l3Open.l0
    repeat' first
    | (with_reducible exact ih0 _ _ _)
    | (with_reducible exact ih1 _ _ _ _ _)
    | (with_reducible exact spec_l2Clean.mono _ _ _)
    | (with_reducible exact LeO.refl _)
    | (with_reducible exact LeO.none _)
    | (with_reducible refine LeO.ite ?_ ?_)
    | (with_reducible refine LeO.bind ?_ (fun _ => ?_))
    | exact ih0 _ _ _
    | exact ih1 _ _ _ _ _
    | exact spec_l2Clean.mono _ _ _
    | exact LeO.none _
    | refine LeO.ite ?_ ?_
    | refine LeO.bind ?_ (fun _ => ?_)
  · intro y0 y1 y2 y3 y4
    unfold spec_l3Open.j1
    repeat' first
    | (with_reducible exact ih0 _ _ _)
    | (with_reducible exact ih1 _ _ _ _ _)
    | (with_reducible exact spec_l2Clean.mono _ _ _)
    | (with_reducible exact LeO.refl _)
    | (with_reducible exact LeO.none _)
    | (with_reducible refine LeO.ite ?_ ?_)
    | (with_reducible refine LeO.bind ?_ (fun _ => ?_))
    | exact ih0 _ _ _
    | exact ih1 _ _ _ _ _
    | exact spec_l2Clean.mono _ _ _
    | exact LeO.none _
    | refine LeO.ite ?_ ?_
    | refine LeO.bind ?_ (fun _ => ?_)
theorem spec_l3Open.mono : ∀ a0 k, LeO (spec_l3Open.f k a0) (spec_l3Open.f (k + 1) a0) := by
 intro a0 k
 obtain ⟨ih0, ih1⟩ := spec_l3Open.mono_l k
 unfold spec_l3Open.f
 repeat' first
  | (with_reducible exact ih0 _ _ _)
  | (with_reducible exact ih1 _ _ _ _ _)
  | (with_reducible exact spec_l2Clean.mono _ _ _)
  | (with_reducible exact LeO.refl _)
  | (with_reducible exact LeO.none _)
  | (with_reducible refine LeO.ite ?_ ?_)
  | (with_reducible refine LeO.bind ?_ (fun _ => ?_))
  | exact ih0 _ _ _
  | exact ih1 _ _ _ _ _
  | exact spec_l2Clean.mono _ _ _
  | exact LeO.none _
  | refine LeO.ite ?_ ?_
  | refine LeO.bind ?_ (fun _ => ?_)
set_option maxHeartbeats 8000000 in
set_option maxRecDepth 100000 in
theorem spec_l3Open.calls (k : Nat) (A0 : Option Addr) (c0 : Nat) (l0 : List (S35)) (r1 : Int) (r2 : Bool) (w : World) (hr0 : Kd.C k35 w A0 l0.length l0) (hc0 : l0.length ≤ c0) (h : spec_l3Open.f k l0 = some (r1, r2)) :
 Calls Try.prog 49 #[.slice A0 l0.length c0] w fun e w' => e = .returned (.tuple #[.int .i64 r1, .bool r2]) ∧ Below w.heap.size w w' := by
 have hu35 := Try.underlying35
 have HR0 := am hr0
 have HC0 := am hc0
 clear hr0 hc0
 have HB := am (Below.refl w.heap.size w)
 have H : (spec_l3Open.l0 k l0 (-1) 0) = some (r1, r2) := h
 clear h
 have H' := am H
 clear H
 go_enter Try.func49, Try.ntmps49
 go_wp2
 repeat (go_quiet (fail); try go_wp2)
 go_loopg [4, 5] k (fun kq v4 v5 w' => ∃ (x4_1 : Int) (x5_1 : Int), v4 = .int .i64 x4_1 ∧ v5 = .int .i64 x5_1 ∧ Aside0 (spec_l3Open.l0 kq l0 x4_1 x5_1 = some (r1, r2)) ∧ Aside0 (kq ≤ k) ∧ Aside0 (Below w.heap.size w w'))
 case atStart => exact ⟨((-1)), (0), rf, rf, H', ⟨Nat.le_refl _⟩, ⟨ph HB.out⟩⟩
 case round =>
  clear H'
  obtain ⟨x4_1, x5_1, rfl, rfl, HA, HK1, HB⟩ := hrel
  cases gk with
  | zero => exact absurd HA.out (by simp [spec_l3Open.l0])
  | succ k1 =>
   have H := HA.out
   clear HA
   simp only [spec_l3Open.l0] at H
   by_cases c2 : x5_1 < (l0.length : Int)
   rotate_left
   · rw [if_neg c2] at H
     have c2b0 := decide_eq_false c2
     clear c2
     obtain ⟨ji16, hji16⟩ : ∃ j_ : Int, (mx x4_1 0) = j_ := ⟨_, rfl⟩
     replace H : (some (ji16, decide (x4_1 ≥ 0))) = some (r1, r2) := by first | (rw [hji16] at H; exact H) | (simp only [hji16] at H ⊢; exact H)
     have hji16_ : (if x4_1 < 0 then 0 else x4_1) = ji16 := hji16
     simp only [Option.some.injEq, Prod.mk.injEq] at H
     obtain ⟨rfl, rfl⟩ := H
     go_wp2
     repeat (go_quiet (fail); try go_wp2)
     go_ret2
     exact ⟨by first | rfl | (simp [errW_none, errW_some] <;> rfl) | (simp only [← hji16]; first | rfl | (simp [errW_none, errW_some] <;> rfl)) | (simp [*, errW_none, errW_some] <;> rfl), ph HB.out⟩
   rw [if_pos c2] at H
   have c2b0 := decide_eq_true c2
   clear c2
   by_cases c3 : 0 ≤ x5_1
   rotate_left
   · rw [if_neg c3] at H
     exact absurd H (by simp)
   rw [if_pos c3] at H
   have c3b0 := decide_eq_true c3
   clear c3
   replace H := Option.bind_eq_some_iff.mp H
   obtain ⟨t227, A40, H⟩ := H
   replace H : (if t227 > 0 then (spec_l3Open.j1 k1 l0 x4_1 x5_1 t227 (decide (t227 < 4))) else (spec_l3Open.j1 k1 l0 x4_1 x5_1 t227 false)) = some (r1, r2) := H
   have A4 := am A40
   clear A40
   have HC5 := am H
   clear H
   have p226 : 0 ≤ (x5_1 : Int) := ofb
   have q226 : x5_1 < (l0.length : Int) := ofb
   obtain ⟨ad226, A226_0, c226_0, e226, hx226_0, hx226_1, hl226_0, hi226_0⟩ := at_T35 HR0.out x5_1 p226 q226
   cases e226
   replace hx226_0 := up HB.out hx226_0
   replace hx226_1 := up HB.out hx226_1
   have HR226_0 := am hi226_0
   have HC226_0 := am hl226_0
   clear hi226_0 hl226_0
   replace p226 := eq_true p226
   replace q226 := eq_true q226
   go_upto_region 6 with (first | (go_at_call 46; (with_reducible refine (spec_l2Clean.calls k1 _ _ ((rd_T35 l0 x5_1).f0) ((rd_T35 l0 x5_1).f1) t227 _ ?side1 ?side2 A4.out).mono ?_); (case side1 => exact pc (Kd.C_below HR226_0.out HB.out)); (case side2 => exact HC226_0.out); rintro e w6 ⟨rfl, hb⟩; replace HB := am (below_step (ph HB.out) hb); (try clear hb); (try clear hb2); (try clear hk); (try clear hi)))
   repeat (go_quiet (first | (go_at_call 46; (with_reducible refine (spec_l2Clean.calls k1 _ _ ((rd_T35 l0 x5_1).f0) ((rd_T35 l0 x5_1).f1) t227 _ ?side1 ?side2 A4.out).mono ?_); (case side1 => exact pc (Kd.C_below HR226_0.out HB.out)); (case side2 => exact HC226_0.out); rintro e w6 ⟨rfl, hb⟩; replace HB := am (below_step (ph HB.out) hb); (try clear hb); (try clear hb2); (try clear hk); (try clear hi))); go_upto_region 6 with (first | (go_at_call 46; (with_reducible refine (spec_l2Clean.calls k1 _ _ ((rd_T35 l0 x5_1).f0) ((rd_T35 l0 x5_1).f1) t227 _ ?side1 ?side2 A4.out).mono ?_); (case side1 => exact pc (Kd.C_below HR226_0.out HB.out)); (case side2 => exact HC226_0.out); rintro e w6 ⟨rfl, hb⟩; replace HB := am (below_step (ph HB.out) hb); (try clear hb); (try clear hb2); (try clear hk); (try clear hi))))
   (try simp only [Act.put, List.setIfInBounds_toArray, List.set_cons_zero, List.set_cons_succ])
   go_cut [23] (fun v23 wc => ∃ (kq : Nat) (x23_4 : Bool), v23 = .bool x23_4 ∧ Aside0 (spec_l3Open.j1 kq l0 x4_1 x5_1 t227 x23_4 = some (r1, r2)) ∧ Aside0 (kq ≤ k1) ∧ Aside0 (Below w.heap.size w wc))
   case first =>
    have H := HC5.out
    clear HC5
    by_cases c7 : t227 > 0
    rotate_left
    · rw [if_neg c7] at H
      have c7b0 := decide_eq_false c7
      clear c7
      (first | rw [c7b0] | (simp only [i64_w, i32_w]; rw [c7b0]) | skip)
      have H' := am H
      clear H
      go_wp2
      repeat (go_quiet (fail); try go_wp2)
      go_meet
      case rel => exact ⟨_, (false), rf, H', ⟨by have := HK1.out; first | omega | exact Nat.le_refl _⟩, ⟨ph HB.out⟩⟩
    rw [if_pos c7] at H
    have c7b0 := decide_eq_true c7
    clear c7
    (first | rw [c7b0] | (simp only [i64_w, i32_w]; rw [c7b0]) | skip)
    have H' := am H
    clear H
    go_wp2
    repeat (go_quiet (fail); try go_wp2)
    go_meet
    case rel => exact ⟨_, (decide (t227 < 4)), rf, H', ⟨by have := HK1.out; first | omega | exact Nat.le_refl _⟩, ⟨ph HB.out⟩⟩
   case rest =>
    clear HC5
    obtain ⟨kq, x23_4, rfl, HA, HJ4, HB⟩ := hcut
    cases kq with
    | zero => exact absurd HA.out (by simp [spec_l3Open.j1])
    | succ kj4 =>
     have H := HA.out
     clear HA
     simp only [spec_l3Open.j1] at H
     by_cases c8 : x23_4 = true
     · subst c8
       have H1 : (some (x5_1, true)) = some (r1, r2) := by rw [if_pos rfl] at H; exact H
       clear H
       have H := H1
       clear H1
       simp only [Option.some.injEq, Prod.mk.injEq] at H
       obtain ⟨rfl, rfl⟩ := H
       go_wp2
       repeat (go_quiet (fail); try go_wp2)
       go_ret2
       exact (rq (ph HB.out))
     replace c8 := Bool.eq_false_iff.mpr c8
     subst c8
     have H1 : (if t227 > 0 then (if x4_1 < 0 then (spec_l3Open.l0 kj4 l0 x5_1 (wrap64 (x5_1 + 1))) else (if 0 ≤ x5_1 then (if x5_1 < (l0.length : Int) then (if 0 ≤ x4_1 then (if x4_1 < (l0.length : Int) then (if ((rd_T35 l0 x5_1).f1) < ((rd_T35 l0 x4_1).f1) then (spec_l3Open.l0 kj4 l0 x5_1 (wrap64 (x5_1 + 1))) else (spec_l3Open.l0 kj4 l0 x4_1 (wrap64 (x5_1 + 1)))) else (none)) else (none)) else (none)) else (none))) else (spec_l3Open.l0 kj4 l0 x4_1 (wrap64 (x5_1 + 1)))) = some (r1, r2) := by rw [if_neg (show ¬ (false = true) by decide)] at H; exact H
     clear H
     have H := H1
     clear H1
     by_cases c9 : t227 > 0
     rotate_left
     · rw [if_neg c9] at H
       have c9b0 := decide_eq_false c9
       clear c9
       have H' := am H
       clear H
       go_wp2
       repeat (go_quiet (fail); try go_wp2)
       go_roundg kj4
       case measure => have := HK1.out; have := HJ4.out; omega
       case rel => exact ⟨(x4_1), (wrap64 (x5_1 + 1)), rf, rf, H', ⟨by have := HK1.out; have := HJ4.out; omega⟩, ⟨ph HB.out⟩⟩
     rw [if_pos c9] at H
     have c9b0 := decide_eq_true c9
     clear c9
     by_cases c10 : x4_1 < 0
     · rw [if_pos c10] at H
       have c10b0 := decide_eq_true c10
       clear c10
       have H' := am H
       clear H
       go_wp2
       repeat (go_quiet (fail); try go_wp2)
       go_roundg kj4
       case measure => have := HK1.out; have := HJ4.out; omega
       case rel => exact ⟨(x5_1), (wrap64 (x5_1 + 1)), rf, rf, H', ⟨by have := HK1.out; have := HJ4.out; omega⟩, ⟨ph HB.out⟩⟩
     rw [if_neg c10] at H
     have c10b0 := decide_eq_false c10
     clear c10
     by_cases c11 : 0 ≤ x5_1
     rotate_left
     · rw [if_neg c11] at H
       exact absurd H (by simp)
     rw [if_pos c11] at H
     have c11b0 := decide_eq_true c11
     clear c11
     by_cases c12 : x5_1 < (l0.length : Int)
     rotate_left
     · rw [if_neg c12] at H
       exact absurd H (by simp)
     rw [if_pos c12] at H
     have c12b0 := decide_eq_true c12
     clear c12
     by_cases c13 : 0 ≤ x4_1
     rotate_left
     · rw [if_neg c13] at H
       exact absurd H (by simp)
     rw [if_pos c13] at H
     have c13b0 := decide_eq_true c13
     clear c13
     by_cases c14 : x4_1 < (l0.length : Int)
     rotate_left
     · rw [if_neg c14] at H
       exact absurd H (by simp)
     rw [if_pos c14] at H
     have c14b0 := decide_eq_true c14
     clear c14
     by_cases c15 : ((rd_T35 l0 x5_1).f1) < ((rd_T35 l0 x4_1).f1)
     · rw [if_pos c15] at H
       have c15b0 := decide_eq_true c15
       clear c15
       have H' := am H
       clear H
       have p228 : 0 ≤ (x5_1 : Int) := ofb
       have q228 : x5_1 < (l0.length : Int) := ofb
       obtain ⟨ad228, A228_0, c228_0, e228, hx228_0, hx228_1, hl228_0, hi228_0⟩ := at_T35 HR0.out x5_1 p228 q228
       obtain rfl : ad226 = ad228 := (by injection e228)
       replace hx228_0 := up HB.out hx228_0
       replace hx228_1 := up HB.out hx228_1
       have HR228_0 := am hi228_0
       have HC228_0 := am hl228_0
       clear hi228_0 hl228_0
       replace p228 := eq_true p228
       replace q228 := eq_true q228
       have p229 : 0 ≤ (x4_1 : Int) := ofb
       have q229 : x4_1 < (l0.length : Int) := ofb
       obtain ⟨ad229, A229_0, c229_0, e229, hx229_0, hx229_1, hl229_0, hi229_0⟩ := at_T35 HR0.out x4_1 p229 q229
       obtain rfl : ad226 = ad229 := (by injection e229)
       replace hx229_0 := up HB.out hx229_0
       replace hx229_1 := up HB.out hx229_1
       have HR229_0 := am hi229_0
       have HC229_0 := am hl229_0
       clear hi229_0 hl229_0
       replace p229 := eq_true p229
       replace q229 := eq_true q229
       go_wp2
       repeat (go_quiet (fail); try go_wp2)
       go_roundg kj4
       case measure => have := HK1.out; have := HJ4.out; omega
       case rel => exact ⟨(x5_1), (wrap64 (x5_1 + 1)), rf, rf, H', ⟨by have := HK1.out; have := HJ4.out; omega⟩, ⟨ph HB.out⟩⟩
     rw [if_neg c15] at H
     have c15b0 := decide_eq_false c15
     clear c15
     have H' := am H
     clear H
     have p228 : 0 ≤ (x5_1 : Int) := ofb
     have q228 : x5_1 < (l0.length : Int) := ofb
     obtain ⟨ad228, A228_0, c228_0, e228, hx228_0, hx228_1, hl228_0, hi228_0⟩ := at_T35 HR0.out x5_1 p228 q228
     obtain rfl : ad226 = ad228 := (by injection e228)
     replace hx228_0 := up HB.out hx228_0
     replace hx228_1 := up HB.out hx228_1
     have HR228_0 := am hi228_0
     have HC228_0 := am hl228_0
     clear hi228_0 hl228_0
     replace p228 := eq_true p228
     replace q228 := eq_true q228
     have p229 : 0 ≤ (x4_1 : Int) := ofb
     have q229 : x4_1 < (l0.length : Int) := ofb
     obtain ⟨ad229, A229_0, c229_0, e229, hx229_0, hx229_1, hl229_0, hi229_0⟩ := at_T35 HR0.out x4_1 p229 q229
     obtain rfl : ad226 = ad229 := (by injection e229)
     replace hx229_0 := up HB.out hx229_0
     replace hx229_1 := up HB.out hx229_1
     have HR229_0 := am hi229_0
     have HC229_0 := am hl229_0
     clear hi229_0 hl229_0
     replace p229 := eq_true p229
     replace q229 := eq_true q229
     go_wp2
     repeat (go_quiet (fail); try go_wp2)
     go_roundg kj4
     case measure => have := HK1.out; have := HJ4.out; omega
     case rel => exact ⟨(x4_1), (wrap64 (x5_1 + 1)), rf, rf, H', ⟨by have := HK1.out; have := HJ4.out; omega⟩, ⟨ph HB.out⟩⟩
def spec_l3Old.l0 : Nat → List (S35) → Int → Int → Option (Int)
 | 0, _, _, _ => none
 | k + 1, x0, x3, x4 => if x4 < (x0.length : Int) then (if 0 ≤ x4 then ((spec_l3Most.f k ((rd_T35 x0 x4).f0) ((rd_T35 x0 x4).f1)).bind fun t231 => (if 0 ≤ x3 then (if x3 < (x0.length : Int) then ((spec_l3Most.f k ((rd_T35 x0 x3).f0) ((rd_T35 x0 x3).f1)).bind fun t233 => (if t231 < t233 then (spec_l3Old.l0 k x0 x4 (wrap64 (x4 + 1))) else (spec_l3Old.l0 k x0 x3 (wrap64 (x4 + 1))))) else (none)) else (none))) else (none)) else (some x3)
def spec_l3Old.f (k : Nat) (l0 : List (S35)) : Option (Int) := spec_l3Old.l0 k l0 0 1
theorem spec_l3Old.mono_l : ∀ k, (∀ y0 y1 y2, LeO (spec_l3Old.l0 k y0 y1 y2) (spec_l3Old.l0 (k + 1) y0 y1 y2))
 | 0 => fun _ _ _ r h => by simp [spec_l3Old.l0] at h
 | k + 1 => by
  have ih0 := spec_l3Old.mono_l k
  · intro y0 y1 y2
    unfold spec_l3Old.l0
    repeat' first
    | (with_reducible exact ih0 _ _ _)
    | (with_reducible exact spec_l3Most.mono _ _ _)
    | (with_reducible exact LeO.refl _)
    | (with_reducible exact LeO.none _)
    | (with_reducible refine LeO.ite ?_ ?_)
    | (with_reducible refine LeO.bind ?_ (fun _ => ?_))
    | exact ih0 _ _ _
    | exact spec_l3Most.mono _ _ _
    | exact LeO.none _
    | refine LeO.ite ?_ ?_
    | refine LeO.bind ?_ (fun _ => ?_)
theorem spec_l3Old.mono : ∀ a0 k, LeO (spec_l3Old.f k a0) (spec_l3Old.f (k + 1) a0) := by
 intro a0 k
 have ih0 := spec_l3Old.mono_l k
 unfold spec_l3Old.f
 repeat' first
  | (with_reducible exact ih0 _ _ _)
  | (with_reducible exact spec_l3Most.mono _ _ _)
  | (with_reducible exact LeO.refl _)
  | (with_reducible exact LeO.none _)
  | (with_reducible refine LeO.ite ?_ ?_)
  | (with_reducible refine LeO.bind ?_ (fun _ => ?_))
  | exact ih0 _ _ _
  | exact spec_l3Most.mono _ _ _
  | exact LeO.none _
  | refine LeO.ite ?_ ?_
  | refine LeO.bind ?_ (fun _ => ?_)
def spec_l3Old.T5 : Bool × List (List Nat × List Nat) := (true, [([], []), ([], []), ([0, 1], [0, 1]), ([2], [2]), ([3], [3]), ([], []), ([], []), ([5, 6], [5, 6]), ([7], [7]), ([8, 4], [8]), ([4, 9], [4, 9])])
def spec_l3Old.B5 : List Nat := [0, 0, 3, 7, 15, 0, 0, 96, 224, 511, 1023]
theorem spec_l3Old.tab5 : rtab .any (opsOf Try.f50 5) = spec_l3Old.T5 := by kernel_rfl
theorem spec_l3Old.bits5 : waitsOk spec_l3Old.T5.2 spec_l3Old.B5 = true := by kernel_rfl
set_option maxHeartbeats 8000000 in
set_option maxRecDepth 100000 in
theorem spec_l3Old.calls (k : Nat) (A0 : Option Addr) (c0 : Nat) (l0 : List (S35)) (r : Int) (w : World) (hr0 : Kd.C k35 w A0 l0.length l0) (hc0 : l0.length ≤ c0) (h : spec_l3Old.f k l0 = some r) :
 Calls Try.prog 50 #[.slice A0 l0.length c0] w fun e w' => e = .returned (.int .i64 r) ∧ Below w.heap.size w w' := by
 have hu35 := Try.underlying35
 have HR0 := am hr0
 have HC0 := am hc0
 clear hr0 hc0
 have HB := am (Below.refl w.heap.size w)
 have H : (spec_l3Old.l0 k l0 0 1) = some r := h
 clear h
 have H' := am H
 clear H
 go_enter Try.func50, Try.ntmps50
 go_wp2
 go_loopg [3, 4] k (fun kq v3 v4 w' => ∃ (x3_1 : Int) (x4_1 : Int), v3 = .int .i64 x3_1 ∧ v4 = .int .i64 x4_1 ∧ Aside0 (spec_l3Old.l0 kq l0 x3_1 x4_1 = some r) ∧ Aside0 (kq ≤ k) ∧ Aside0 (Below w.heap.size w w'))
 case atStart => exact ⟨(0), (1), rf, rf, H', ⟨Nat.le_refl _⟩, ⟨ph HB.out⟩⟩
 case round =>
  clear H'
  obtain ⟨x3_1, x4_1, rfl, rfl, HA, HK1, HB⟩ := hrel
  cases gk with
  | zero => exact absurd HA.out (by simp [spec_l3Old.l0])
  | succ k1 =>
   have H := HA.out
   clear HA
   simp only [spec_l3Old.l0] at H
   by_cases c2 : x4_1 < (l0.length : Int)
   rotate_left
   · rw [if_neg c2] at H
     have c2b0 := decide_eq_false c2
     clear c2
     obtain rfl := Option.some.inj H
     go_wp2
     go_ret
     exact (rq (ph HB.out))
   rw [if_pos c2] at H
   have c2b0 := decide_eq_true c2
   clear c2
   by_cases c3 : 0 ≤ x4_1
   rotate_left
   · rw [if_neg c3] at H
     exact absurd H (by simp)
   rw [if_pos c3] at H
   have c3b0 := decide_eq_true c3
   clear c3
   replace H := Option.bind_eq_some_iff.mp H
   obtain ⟨t231, A40, H⟩ := H
   replace H : (if 0 ≤ x3_1 then (if x3_1 < (l0.length : Int) then ((spec_l3Most.f k1 ((rd_T35 l0 x3_1).f0) ((rd_T35 l0 x3_1).f1)).bind fun t233 => (if t231 < t233 then (spec_l3Old.l0 k1 l0 x4_1 (wrap64 (x4_1 + 1))) else (spec_l3Old.l0 k1 l0 x3_1 (wrap64 (x4_1 + 1))))) else (none)) else (none)) = some r := H
   have A4 := am A40
   clear A40
   by_cases c5 : 0 ≤ x3_1
   rotate_left
   · rw [if_neg c5] at H
     exact absurd H (by simp)
   rw [if_pos c5] at H
   have c5b0 := decide_eq_true c5
   clear c5
   by_cases c6 : x3_1 < (l0.length : Int)
   rotate_left
   · rw [if_neg c6] at H
     exact absurd H (by simp)
   rw [if_pos c6] at H
   have c6b0 := decide_eq_true c6
   clear c6
   replace H := Option.bind_eq_some_iff.mp H
   obtain ⟨t233, A70, H⟩ := H
   replace H : (if t231 < t233 then (spec_l3Old.l0 k1 l0 x4_1 (wrap64 (x4_1 + 1))) else (spec_l3Old.l0 k1 l0 x3_1 (wrap64 (x4_1 + 1)))) = some r := H
   have A7 := am A70
   clear A70
   by_cases c8 : t231 < t233
   · rw [if_pos c8] at H
     have c8b0 := decide_eq_true c8
     clear c8
     have H' := am H
     clear H
     try go_wp2
     replace HB := am (below_drew1 HB.out)
     have p230 : 0 ≤ (x4_1 : Int) := ofb
     have q230 : x4_1 < (l0.length : Int) := ofb
     obtain ⟨ad230, A230_0, c230_0, e230, hx230_0, hx230_1, hl230_0, hi230_0⟩ := at_T35 HR0.out x4_1 p230 q230
     have hw230_1 := hx230_1
     have hw230_0 := hx230_0
     cases e230
     replace hx230_0 := up HB.out hx230_0
     replace hx230_1 := up HB.out hx230_1
     have HR230_0 := am hi230_0
     have HC230_0 := am hl230_0
     clear hi230_0 hl230_0
     replace p230 := eq_true p230
     replace q230 := eq_true q230
     have p232 : 0 ≤ (x3_1 : Int) := ofb
     have q232 : x3_1 < (l0.length : Int) := ofb
     obtain ⟨ad232, A232_0, c232_0, e232, hx232_0, hx232_1, hl232_0, hi232_0⟩ := at_T35 HR0.out x3_1 p232 q232
     have hw232_1 := hx232_1
     have hw232_0 := hx232_0
     obtain rfl : ad230 = ad232 := (by injection e232)
     replace hx232_0 := up HB.out hx232_0
     replace hx232_1 := up HB.out hx232_1
     have HR232_0 := am hi232_0
     have HC232_0 := am hl232_0
     clear hi232_0 hl232_0
     replace p232 := eq_true p232
     replace q232 := eq_true q232
     refine start_ (n := 11) (S := fun w' => w'.cell? (ad230.add ((x4_1).toNat * 2)) = some (.slice A230_0 ((rd_T35 l0 x4_1).f0).length c230_0) ∧ w'.cell? ⟨(ad230.add ((x4_1).toNat * 2)).block, (ad230.add ((x4_1).toNat * 2)).off + 1, none⟩ = some (.int .i64 ((rd_T35 l0 x4_1).f1)) ∧ w'.cell? (ad230.add ((x3_1).toNat * 2)) = some (.slice A232_0 ((rd_T35 l0 x3_1).f0).length c232_0) ∧ w'.cell? ⟨(ad230.add ((x3_1).toNat * 2)).block, (ad230.add ((x3_1).toNat * 2)).off + 1, none⟩ = some (.int .i64 ((rd_T35 l0 x3_1).f1))) (ds := []) #[false, false, false, false, false, false, false, false, false, false, false] (by kernel_rfl) rfl rfl ⟨((HB.out.cell (World.block_lt_of_cell? w _ hw230_0)).trans hw230_0), ((HB.out.cell (World.block_lt_of_cell? w _ hw230_1)).trans hw230_1), ((HB.out.cell (World.block_lt_of_cell? w _ hw232_0)).trans hw232_0), ((HB.out.cell (World.block_lt_of_cell? w _ hw232_1)).trans hw232_1)⟩ (fun hHeld => ?_); refine with_tabW spec_l3Old.tab5 spec_l3Old.bits5 (fun HT_ HW_ => ?_)
     generalize wr.drew = w9 at HB HR230_0 HR232_0 hx230_0 hx230_1 hx232_0 hx232_1 hHeld ⊢
     refine pj_ 0 11 #[true, false, false, false, false, false, false, false, false, false, false] rfl rfl (any_of HT_.out (by kernel_rfl)) (fun _ _ _ h => h) ?_
     refine pj_ 1 12 #[true, true, false, false, false, false, false, false, false, false, false] rfl rfl (any_of HT_.out (by kernel_rfl)) (fun _ _ _ h => h) ?_
     refine pj_ 2 13 #[true, true, true, false, false, false, false, false, false, false, false] rfl rfl (any_of HT_.out (by kernel_rfl)) (fun _ _ _ h => h) ?_
     refine pj_ 5 16 #[true, true, true, false, false, true, false, false, false, false, false] rfl rfl (any_of HT_.out (by kernel_rfl)) (fun _ _ _ h => h) ?_
     refine pj_ 6 17 #[true, true, true, false, false, true, true, false, false, false, false] rfl rfl (any_of HT_.out (by kernel_rfl)) (fun _ _ _ h => h) ?_
     refine pj_ 7 18 #[true, true, true, false, false, true, true, true, false, false, false] rfl rfl (any_of HT_.out (by kernel_rfl)) (fun _ _ _ h => h) ?_
     refine pm_ 3 14 #[true, true, true, true, false, true, true, true, false, false, false] rfl rfl (take_ofW HT_.out HW_.out (by kernel_rfl)) (fun _ _ _ h => h) hHeld ?_
     refine pm_ 8 19 #[true, true, true, true, false, true, true, true, true, false, false] rfl rfl (take_ofW HT_.out HW_.out (by kernel_rfl)) (fun _ _ _ h => h) hHeld ?_
     refine one_ (i := 4) (N := some 15) #[true, true, true, true, true, true, true, true, true, false, false] rfl rfl (one_of HT_.out (by kernel_rfl)) (by decide) (fun K hK => ?_)
     refine goes_ Try.func48 (by kernel_rfl) rfl #[.agg #[.slice A230_0 ((rd_T35 l0 x4_1).f0).length c230_0, .int .i64 ((rd_T35 l0 x4_1).f1)]] (by rfl) rfl rfl (by (try simp only [List.map_toArray, List.map_cons, List.map_nil]); first | done | rfl | (simp only [List.length_drop, List.length_take]; rfl)) ?_
     with_reducible refine (spec_l3Most.calls k1 _ _ ((rd_T35 l0 x4_1).f0) ((rd_T35 l0 x4_1).f1) t231 _ ?side1 ?side2 A4.out).mono ?_
     (case side1 => exact pc (Kd.C_below HR230_0.out HB.out))
     (case side2 => exact HC230_0.out)
     rintro e w10 ⟨rfl, hb⟩
     refine ⟨_, rfl, ?_⟩
     replace HB := am (below_step (ph HB.out) hb)
     (try clear hb)
     (try clear hb2)
     (try clear hk)
     (try clear hi)
     refine hK.out _ _ ⟨((HB.out.cell (World.block_lt_of_cell? w _ hw230_0)).trans hw230_0), ((HB.out.cell (World.block_lt_of_cell? w _ hw230_1)).trans hw230_1), ((HB.out.cell (World.block_lt_of_cell? w _ hw232_0)).trans hw232_0), ((HB.out.cell (World.block_lt_of_cell? w _ hw232_1)).trans hw232_1)⟩ (fun hHeld => ?_)
     clear hK K
     refine norm_ (a' := ?_) ?_ ?_
     rotate_left
     · show Act.put _ (some 15) _ = _
       simp only [Act.put, List.setIfInBounds_toArray, List.set_cons_zero, List.set_cons_succ, i64_w, i32_w]
       rfl
     refine one_ (i := 9) (N := some 20) #[true, true, true, true, true, true, true, true, true, true, false] rfl rfl (one_of HT_.out (by kernel_rfl)) (by decide) (fun K hK => ?_)
     refine goes_ Try.func48 (by kernel_rfl) rfl #[.agg #[.slice A232_0 ((rd_T35 l0 x3_1).f0).length c232_0, .int .i64 ((rd_T35 l0 x3_1).f1)]] (by rfl) rfl rfl (by (try simp only [List.map_toArray, List.map_cons, List.map_nil]); first | done | rfl | (simp only [List.length_drop, List.length_take]; rfl)) ?_
     with_reducible refine (spec_l3Most.calls k1 _ _ ((rd_T35 l0 x3_1).f0) ((rd_T35 l0 x3_1).f1) t233 _ ?side1 ?side2 A7.out).mono ?_
     (case side1 => exact pc (Kd.C_below HR232_0.out HB.out))
     (case side2 => exact HC232_0.out)
     rintro e w11 ⟨rfl, hb⟩
     refine ⟨_, rfl, ?_⟩
     replace HB := am (below_step (ph HB.out) hb)
     (try clear hb)
     (try clear hb2)
     (try clear hk)
     (try clear hi)
     refine hK.out _ _ ⟨((HB.out.cell (World.block_lt_of_cell? w _ hw230_0)).trans hw230_0), ((HB.out.cell (World.block_lt_of_cell? w _ hw230_1)).trans hw230_1), ((HB.out.cell (World.block_lt_of_cell? w _ hw232_0)).trans hw232_0), ((HB.out.cell (World.block_lt_of_cell? w _ hw232_1)).trans hw232_1)⟩ (fun hHeld => ?_)
     clear hK K
     refine norm_ (a' := ?_) ?_ ?_
     rotate_left
     · show Act.put _ (some 20) _ = _
       simp only [Act.put, List.setIfInBounds_toArray, List.set_cons_zero, List.set_cons_succ, i64_w, i32_w]
       rfl
     refine pj_ 10 21 #[true, true, true, true, true, true, true, true, true, true, true] rfl rfl (any_of HT_.out (by kernel_rfl)) (fun _ _ _ h => h) ?_
     refine done_ (done_of HT_.out (by kernel_rfl)) ?_
     try go_wp2
     go_roundg k1
     case measure => have := HK1.out; omega
     case rel => exact ⟨(x4_1), (wrap64 (x4_1 + 1)), rf, rf, H', ⟨by have := HK1.out; omega⟩, ⟨ph HB.out⟩⟩
   rw [if_neg c8] at H
   have c8b0 := decide_eq_false c8
   clear c8
   have H' := am H
   clear H
   try go_wp2
   replace HB := am (below_drew1 HB.out)
   have p230 : 0 ≤ (x4_1 : Int) := ofb
   have q230 : x4_1 < (l0.length : Int) := ofb
   obtain ⟨ad230, A230_0, c230_0, e230, hx230_0, hx230_1, hl230_0, hi230_0⟩ := at_T35 HR0.out x4_1 p230 q230
   have hw230_1 := hx230_1
   have hw230_0 := hx230_0
   cases e230
   replace hx230_0 := up HB.out hx230_0
   replace hx230_1 := up HB.out hx230_1
   have HR230_0 := am hi230_0
   have HC230_0 := am hl230_0
   clear hi230_0 hl230_0
   replace p230 := eq_true p230
   replace q230 := eq_true q230
   have p232 : 0 ≤ (x3_1 : Int) := ofb
   have q232 : x3_1 < (l0.length : Int) := ofb
   obtain ⟨ad232, A232_0, c232_0, e232, hx232_0, hx232_1, hl232_0, hi232_0⟩ := at_T35 HR0.out x3_1 p232 q232
   have hw232_1 := hx232_1
   have hw232_0 := hx232_0
   obtain rfl : ad230 = ad232 := (by injection e232)
   replace hx232_0 := up HB.out hx232_0
   replace hx232_1 := up HB.out hx232_1
   have HR232_0 := am hi232_0
   have HC232_0 := am hl232_0
   clear hi232_0 hl232_0
   replace p232 := eq_true p232
   replace q232 := eq_true q232
   refine start_ (n := 11) (S := fun w' => w'.cell? (ad230.add ((x4_1).toNat * 2)) = some (.slice A230_0 ((rd_T35 l0 x4_1).f0).length c230_0) ∧ w'.cell? ⟨(ad230.add ((x4_1).toNat * 2)).block, (ad230.add ((x4_1).toNat * 2)).off + 1, none⟩ = some (.int .i64 ((rd_T35 l0 x4_1).f1)) ∧ w'.cell? (ad230.add ((x3_1).toNat * 2)) = some (.slice A232_0 ((rd_T35 l0 x3_1).f0).length c232_0) ∧ w'.cell? ⟨(ad230.add ((x3_1).toNat * 2)).block, (ad230.add ((x3_1).toNat * 2)).off + 1, none⟩ = some (.int .i64 ((rd_T35 l0 x3_1).f1))) (ds := []) #[false, false, false, false, false, false, false, false, false, false, false] (by kernel_rfl) rfl rfl ⟨((HB.out.cell (World.block_lt_of_cell? w _ hw230_0)).trans hw230_0), ((HB.out.cell (World.block_lt_of_cell? w _ hw230_1)).trans hw230_1), ((HB.out.cell (World.block_lt_of_cell? w _ hw232_0)).trans hw232_0), ((HB.out.cell (World.block_lt_of_cell? w _ hw232_1)).trans hw232_1)⟩ (fun hHeld => ?_); refine with_tabW spec_l3Old.tab5 spec_l3Old.bits5 (fun HT_ HW_ => ?_)
   generalize wr.drew = w12 at HB HR230_0 HR232_0 hx230_0 hx230_1 hx232_0 hx232_1 hHeld ⊢
   refine pj_ 0 11 #[true, false, false, false, false, false, false, false, false, false, false] rfl rfl (any_of HT_.out (by kernel_rfl)) (fun _ _ _ h => h) ?_
   refine pj_ 1 12 #[true, true, false, false, false, false, false, false, false, false, false] rfl rfl (any_of HT_.out (by kernel_rfl)) (fun _ _ _ h => h) ?_
   refine pj_ 2 13 #[true, true, true, false, false, false, false, false, false, false, false] rfl rfl (any_of HT_.out (by kernel_rfl)) (fun _ _ _ h => h) ?_
   refine pj_ 5 16 #[true, true, true, false, false, true, false, false, false, false, false] rfl rfl (any_of HT_.out (by kernel_rfl)) (fun _ _ _ h => h) ?_
   refine pj_ 6 17 #[true, true, true, false, false, true, true, false, false, false, false] rfl rfl (any_of HT_.out (by kernel_rfl)) (fun _ _ _ h => h) ?_
   refine pj_ 7 18 #[true, true, true, false, false, true, true, true, false, false, false] rfl rfl (any_of HT_.out (by kernel_rfl)) (fun _ _ _ h => h) ?_
   refine pm_ 3 14 #[true, true, true, true, false, true, true, true, false, false, false] rfl rfl (take_ofW HT_.out HW_.out (by kernel_rfl)) (fun _ _ _ h => h) hHeld ?_
   refine pm_ 8 19 #[true, true, true, true, false, true, true, true, true, false, false] rfl rfl (take_ofW HT_.out HW_.out (by kernel_rfl)) (fun _ _ _ h => h) hHeld ?_
   refine one_ (i := 4) (N := some 15) #[true, true, true, true, true, true, true, true, true, false, false] rfl rfl (one_of HT_.out (by kernel_rfl)) (by decide) (fun K hK => ?_)
   refine goes_ Try.func48 (by kernel_rfl) rfl #[.agg #[.slice A230_0 ((rd_T35 l0 x4_1).f0).length c230_0, .int .i64 ((rd_T35 l0 x4_1).f1)]] (by rfl) rfl rfl (by (try simp only [List.map_toArray, List.map_cons, List.map_nil]); first | done | rfl | (simp only [List.length_drop, List.length_take]; rfl)) ?_
   with_reducible refine (spec_l3Most.calls k1 _ _ ((rd_T35 l0 x4_1).f0) ((rd_T35 l0 x4_1).f1) t231 _ ?side1 ?side2 A4.out).mono ?_
   (case side1 => exact pc (Kd.C_below HR230_0.out HB.out))
   (case side2 => exact HC230_0.out)
   rintro e w13 ⟨rfl, hb⟩
   refine ⟨_, rfl, ?_⟩
   replace HB := am (below_step (ph HB.out) hb)
   (try clear hb)
   (try clear hb2)
   (try clear hk)
   (try clear hi)
   refine hK.out _ _ ⟨((HB.out.cell (World.block_lt_of_cell? w _ hw230_0)).trans hw230_0), ((HB.out.cell (World.block_lt_of_cell? w _ hw230_1)).trans hw230_1), ((HB.out.cell (World.block_lt_of_cell? w _ hw232_0)).trans hw232_0), ((HB.out.cell (World.block_lt_of_cell? w _ hw232_1)).trans hw232_1)⟩ (fun hHeld => ?_)
   clear hK K
   refine norm_ (a' := ?_) ?_ ?_
   rotate_left
   · show Act.put _ (some 15) _ = _
     simp only [Act.put, List.setIfInBounds_toArray, List.set_cons_zero, List.set_cons_succ, i64_w, i32_w]
     rfl
   refine one_ (i := 9) (N := some 20) #[true, true, true, true, true, true, true, true, true, true, false] rfl rfl (one_of HT_.out (by kernel_rfl)) (by decide) (fun K hK => ?_)
   refine goes_ Try.func48 (by kernel_rfl) rfl #[.agg #[.slice A232_0 ((rd_T35 l0 x3_1).f0).length c232_0, .int .i64 ((rd_T35 l0 x3_1).f1)]] (by rfl) rfl rfl (by (try simp only [List.map_toArray, List.map_cons, List.map_nil]); first | done | rfl | (simp only [List.length_drop, List.length_take]; rfl)) ?_
   with_reducible refine (spec_l3Most.calls k1 _ _ ((rd_T35 l0 x3_1).f0) ((rd_T35 l0 x3_1).f1) t233 _ ?side1 ?side2 A7.out).mono ?_
   (case side1 => exact pc (Kd.C_below HR232_0.out HB.out))
   (case side2 => exact HC232_0.out)
   rintro e w14 ⟨rfl, hb⟩
   refine ⟨_, rfl, ?_⟩
   replace HB := am (below_step (ph HB.out) hb)
   (try clear hb)
   (try clear hb2)
   (try clear hk)
   (try clear hi)
   refine hK.out _ _ ⟨((HB.out.cell (World.block_lt_of_cell? w _ hw230_0)).trans hw230_0), ((HB.out.cell (World.block_lt_of_cell? w _ hw230_1)).trans hw230_1), ((HB.out.cell (World.block_lt_of_cell? w _ hw232_0)).trans hw232_0), ((HB.out.cell (World.block_lt_of_cell? w _ hw232_1)).trans hw232_1)⟩ (fun hHeld => ?_)
   clear hK K
   refine norm_ (a' := ?_) ?_ ?_
   rotate_left
   · show Act.put _ (some 20) _ = _
     simp only [Act.put, List.setIfInBounds_toArray, List.set_cons_zero, List.set_cons_succ, i64_w, i32_w]
     rfl
   refine pj_ 10 21 #[true, true, true, true, true, true, true, true, true, true, true] rfl rfl (any_of HT_.out (by kernel_rfl)) (fun _ _ _ h => h) ?_
   refine done_ (done_of HT_.out (by kernel_rfl)) ?_
   try go_wp2
   go_roundg k1
   case measure => have := HK1.out; omega
   case rel => exact ⟨(x3_1), (wrap64 (x4_1 + 1)), rf, rf, H', ⟨by have := HK1.out; omega⟩, ⟨ph HB.out⟩⟩
def spec_l12Room.l0 : Nat → List (S81) → Int → Int → List (S35) → List Int → Option ((List (S81)) × Int × Bool)
 | 0, _, _, _, _, _ => none
 | k + 1, x5, x8, x9, x235000, x235001 => if x9 < 4 then (if 0 ≤ x8 then (if x8 < (x235000.length : Int) then (if 0 ≤ x9 then (if x9 < (((rd_T35 x235000 x8).f0).length : Int) then ((spec_l3Live.f k x235000 ((rd_T32 ((rd_T35 x235000 x8).f0) x9).f0) ((rd_T32 ((rd_T35 x235000 x8).f0) x9).f1.f0) ((rd_T32 ((rd_T35 x235000 x8).f0) x9).f1.f1) ((rd_T32 ((rd_T35 x235000 x8).f0) x9).f1.f2) ((rd_T32 ((rd_T35 x235000 x8).f0) x9).f1.f3)).bind fun t244 => (if t244 = true then (if ((rd_T32 ((rd_T35 x235000 x8).f0) x9).f1.f0) = 1 then (if x5.length < 2199023255552 then (spec_l12Room.l0 k (x5 ++ [(⟨1, (rd_T32 ((rd_T35 x235000 x8).f0) x9).f1.f2, (rd_T32 ((rd_T35 x235000 x8).f0) x9).f1.f3, 0, (⟨0, 0, 0, 0⟩ : S30)⟩ : S81)]) x8 (wrap64 (x9 + 1)) x235000 x235001) else (none)) else (spec_l12Room.l0 k x5 x8 (wrap64 (x9 + 1)) x235000 x235001)) else (spec_l12Room.l0 k x5 x8 (wrap64 (x9 + 1)) x235000 x235001))) else (none)) else (none)) else (none)) else (none)) else (if x5.length < 2199023255552 then (if 0 ≤ x8 then (if x8 < (x235000.length : Int) then (some ((x5 ++ [(⟨2, 0, 0, x8, (⟨0, 0, 0, 0⟩ : S30)⟩ : S81)]), x8, decide (((rd_T35 x235000 x8).f1) < 200))) else (none)) else (none)) else (none))
def spec_l12Room.f (k : Nat) (l0_0 : List (S35)) (l0_1 : List Int) : Option ((List (S81)) × Int × Bool) := (some (([] : List (S81)) : List (S81))).bind fun y235 => ((spec_l3Open.f k l0_0).bind fun bt238 => (if bt238.2 = true then (some (y235, bt238.1, true)) else ((spec_l3Old.f k l0_0).bind fun t240 => (spec_l12Room.l0 k y235 t240 0 l0_0 l0_1))))
theorem spec_l12Room.mono_l : ∀ k, (∀ y0 y1 y2 y3 y4, LeO (spec_l12Room.l0 k y0 y1 y2 y3 y4) (spec_l12Room.l0 (k + 1) y0 y1 y2 y3 y4))
 | 0 => fun _ _ _ _ _ r h => by simp [spec_l12Room.l0] at h
 | k + 1 => by
  have ih0 := spec_l12Room.mono_l k
  · intro y0 y1 y2 y3 y4
    unfold spec_l12Room.l0
    repeat' first
    | (with_reducible exact ih0 _ _ _ _ _)
    | (with_reducible exact spec_l3Live.mono _ _ _ _ _ _ _)
    | (with_reducible exact spec_l3Old.mono _ _)
    | (with_reducible exact spec_l3Open.mono _ _)
    | (with_reducible exact LeO.refl _)
    | (with_reducible exact LeO.none _)
    | (with_reducible refine LeO.ite ?_ ?_)
    | (with_reducible refine LeO.bind ?_ (fun _ => ?_))
    | exact ih0 _ _ _ _ _
    | exact spec_l3Live.mono _ _ _ _ _ _ _
    | exact spec_l3Old.mono _ _
    | exact spec_l3Open.mono _ _
    | exact LeO.none _
    | refine LeO.ite ?_ ?_
    | refine LeO.bind ?_ (fun _ => ?_)
theorem spec_l12Room.mono : ∀ a0 a1 k, LeO (spec_l12Room.f k a0 a1) (spec_l12Room.f (k + 1) a0 a1) := by
 intro a0 a1 k
 have ih0 := spec_l12Room.mono_l k
 unfold spec_l12Room.f
 repeat' first
  | (with_reducible exact ih0 _ _ _ _ _)
  | (with_reducible exact spec_l3Live.mono _ _ _ _ _ _ _)
  | (with_reducible exact spec_l3Old.mono _ _)
  | (with_reducible exact spec_l3Open.mono _ _)
  | (with_reducible exact LeO.refl _)
  | (with_reducible exact LeO.none _)
  | (with_reducible refine LeO.ite ?_ ?_)
  | (with_reducible refine LeO.bind ?_ (fun _ => ?_))
  | exact ih0 _ _ _ _ _
  | exact spec_l3Live.mono _ _ _ _ _ _ _
  | exact spec_l3Old.mono _ _
  | exact spec_l3Open.mono _ _
  | exact LeO.none _
  | refine LeO.ite ?_ ?_
  | refine LeO.bind ?_ (fun _ => ?_)
def spec_l12Room.T12 : Bool × List (List Nat × List Nat) := (true, [([], []), ([], []), ([1], [1]), ([2], [2]), ([0, 3], [0, 3]), ([], []), ([], []), ([6], [6]), ([], []), ([7, 8], [7, 8]), ([9], [9]), ([10], [10]), ([11], [11]), ([4, 4, 0, 1, 2, 3, 4], [4]), ([5, 13, 0, 1, 2, 3, 4, 5, 13], [5]), ([12, 14, 0, 1, 2, 3, 4, 5, 6, 7, 8, 9, 10, 11, 12, 13, 14], [12])])
def spec_l12Room.B12 : List Nat := [0, 0, 2, 6, 15, 0, 0, 64, 0, 448, 960, 1984, 4032, 31, 8255, 32767]
theorem spec_l12Room.tab12 : rtab .any (opsOf Try.f45 12) = spec_l12Room.T12 := by kernel_rfl
theorem spec_l12Room.bits12 : waitsOk spec_l12Room.T12.2 spec_l12Room.B12 = true := by kernel_rfl
set_option maxHeartbeats 8000000 in
set_option maxRecDepth 100000 in
theorem spec_l12Room.calls (k : Nat) (A0_0 : Option Addr) (c0_0 : Nat) (l0_0 : List (S35)) (A0_1 : Option Addr) (c0_1 : Nat) (l0_1 : List Int) (r1 : List (S81)) (r2 : Int) (r3 : Bool) (w : World) (hr0_0 : Kd.C k35 w A0_0 l0_0.length l0_0) (hc0_0 : l0_0.length ≤ c0_0) (hr0_1 : Kd.C (Kd.int .i64) w A0_1 l0_1.length l0_1) (hc0_1 : l0_1.length ≤ c0_1) (h : spec_l12Room.f k l0_0 l0_1 = some (r1, r2, r3)) :
 Calls Try.prog 45 #[.agg #[.slice A0_0 l0_0.length c0_0, .slice A0_1 l0_1.length c0_1]] w fun e w' => ∃ v0_ : Value, e = .returned (.tuple #[v0_, .int .i64 r2, .bool r3]) ∧ Kd.R k81 81 w' w.heap.size (fun _ => True) v0_ r1 ∧ Below w.heap.size w w' := by
 have hu57 := Try.underlying57
 have hu32 := Try.underlying32
 have hu81 := Try.underlying81
 have HR0_0 := am hr0_0
 have HC0_0 := am hc0_0
 clear hr0_0 hc0_0
 have HR0_1 := am hr0_1
 have HC0_1 := am hc0_1
 clear hr0_1 hc0_1
 have HB := am (Below.refl w.heap.size w)
 have H : ((some (([] : List (S81)) : List (S81))).bind fun y235 => ((spec_l3Open.f k l0_0).bind fun bt238 => (if bt238.2 = true then (some (y235, bt238.1, true)) else ((spec_l3Old.f k l0_0).bind fun t240 => (spec_l12Room.l0 k y235 t240 0 l0_0 l0_1))))) = some (r1, r2, r3) := h
 clear h
 obtain ⟨y235, hy235⟩ : ∃ y_ : List (S81), y_ = (([] : List (S81))) := ⟨_, rfl⟩
 replace H : ((spec_l3Open.f k l0_0).bind fun bt238 => (if bt238.2 = true then (some (y235, bt238.1, true)) else ((spec_l3Old.f k l0_0).bind fun t240 => (spec_l12Room.l0 k y235 t240 0 l0_0 l0_1)))) = some (r1, r2, r3) := by first | (rw [hy235]; with_reducible exact H) | (have H2_ := (Option.bind_some _ _).symm.trans H; rw [hy235]; with_reducible exact H2_) | (have H2_ := (Option.bind_some _ _).symm.trans H; with_reducible exact H2_) | with_reducible exact H | (rw [hy235]; exact H) | exact H
 have Ny235 := am hy235
 clear hy235
 replace H := Option.bind_eq_some_iff.mp H
 obtain ⟨⟨t238, t239⟩, A20, H⟩ := H
 replace H : (if t239 = true then (some (y235, t238, true)) else ((spec_l3Old.f k l0_0).bind fun t240 => (spec_l12Room.l0 k y235 t240 0 l0_0 l0_1))) = some (r1, r2, r3) := H
 have A2 := am A20
 clear A20
 by_cases c3 : t239 = true
 · subst c3
   have H1 : (some (y235, t238, true)) = some (r1, r2, r3) := by rw [if_pos rfl] at H; exact H
   clear H
   have H := H1
   clear H1
   simp only [Option.some.injEq, Prod.mk.injEq] at H
   obtain ⟨rfl, rfl, rfl⟩ := H
   go_enter Try.func45, Try.ntmps45
   go_wp2_with (first | (refine bx 1 #[.slice A0_0 l0_0.length c0_0, .slice A0_1 l0_1.length c0_1] 57 rfl ?_; intro gb234 hg w4 hbox hb; have BK234 := am (hbox); have GW234 := am ((by rw [hg]; exact (below_size (ph HB.out)) : w.heap.size ≤ gb234)); have GE234 := GW234; replace HB := am (below_step (ph HB.out) hb); clear hb hbox hg) | ((with_reducible refine gate_dst (N := 11) rfl ?_); refine Kd.R_lit k81 _ 81 ?hg (N := 11) ?hd (xs := ([] : List (S81))) (inner := []) (ok := fun _ => True) (okp := fun _ => True) ?hr ?hp (fun _ hk => hk) trivial (Below.refl _ _) (Nat.le_refl _) (by simp) ?_; (case hd => rfl); (case hg => rfl); (case hr => first | (go_simp; done) | (go_simp; rfl)); (case hp => exact (Reps.none _ _)); intro v236 w5 ho6 hb hg_ hnew_; clear hg_ hnew_; (first | rw [← Ny235.out] at ho6 | (simp only [Int.reduceToNat] at ho6; rw [← Ny235.out] at ho6)); have HO237 := am (Kd.R_lower ho6 (below_size (bg1 HB.out GE234.out))); replace BK234 := am (blk_below (pb BK234.out) hb); replace HB := am (below_step (bg1 HB.out GE234.out) hb); clear hb ho6; obtain ⟨hcz7_0, hcz7_1⟩ := b2 BK234.out; obtain ⟨hfz7_0, hfz7_1⟩ := f2 BK234.out) | (refine gl 15 Try.func49 #[.slice A0_0 l0_0.length c0_0] rfl ?_; (with_reducible refine (spec_l3Open.calls k _ _ l0_0 t238 true _ ?side1 ?side2 A2.out).mono ?_); (case side1 => exact pc (Kd.C_below HR0_0.out HB.out)); (case side2 => exact HC0_0.out); rintro e w8 ⟨rfl, hb⟩; refine ⟨_, rfl, ?_⟩; replace HO237 := am (Kd.R_below (pr HO237.out) hb); replace BK234 := am (blk_below (pb BK234.out) hb); replace HB := am (below_step (bg1 HB.out GE234.out) hb); (try clear hb); (try clear hb2); (try clear hk); (try clear hi)))
   go_ret3
   exact ⟨_, rq ⟨pr HO237.out, bg1 HB.out GE234.out⟩⟩
 replace c3 := Bool.eq_false_iff.mpr c3
 subst c3
 have H1 : ((spec_l3Old.f k l0_0).bind fun t240 => (spec_l12Room.l0 k y235 t240 0 l0_0 l0_1)) = some (r1, r2, r3) := by rw [if_neg (show ¬ (false = true) by decide)] at H; exact H
 clear H
 have H := H1
 clear H1
 replace H := Option.bind_eq_some_iff.mp H
 obtain ⟨t240, A90, H⟩ := H
 replace H : (spec_l12Room.l0 k y235 t240 0 l0_0 l0_1) = some (r1, r2, r3) := H
 have A9 := am A90
 clear A90
 have H' := am H
 clear H
 go_enter Try.func45, Try.ntmps45
 go_wp2_with (first | (refine bx 1 #[.slice A0_0 l0_0.length c0_0, .slice A0_1 l0_1.length c0_1] 57 rfl ?_; intro gb234 hg w10 hbox hb; have BK234 := am (hbox); have GW234 := am ((by rw [hg]; exact (below_size (ph HB.out)) : w.heap.size ≤ gb234)); have GE234 := GW234; replace HB := am (below_step (ph HB.out) hb); clear hb hbox hg) | ((with_reducible refine gate_dst (N := 11) rfl ?_); refine Kd.R_lit k81 _ 81 ?hg (N := 11) ?hd (xs := ([] : List (S81))) (inner := []) (ok := fun _ => True) (okp := fun _ => True) ?hr ?hp (fun _ hk => hk) trivial (Below.refl _ _) (Nat.le_refl _) (by simp) ?_; (case hd => rfl); (case hg => rfl); (case hr => first | (go_simp; done) | (go_simp; rfl)); (case hp => exact (Reps.none _ _)); intro v236 w11 ho12 hb hg_ hnew_; clear hg_ hnew_; (first | rw [← Ny235.out] at ho12 | (simp only [Int.reduceToNat] at ho12; rw [← Ny235.out] at ho12)); have HO237 := am (Kd.R_lower ho12 (below_size (bg1 HB.out GE234.out))); replace BK234 := am (blk_below (pb BK234.out) hb); replace HB := am (below_step (bg1 HB.out GE234.out) hb); clear hb ho12; obtain ⟨hcz13_0, hcz13_1⟩ := b2 BK234.out; obtain ⟨hfz13_0, hfz13_1⟩ := f2 BK234.out) | (refine gl 15 Try.func49 #[.slice A0_0 l0_0.length c0_0] rfl ?_; (with_reducible refine (spec_l3Open.calls k _ _ l0_0 t238 false _ ?side1 ?side2 A2.out).mono ?_); (case side1 => exact pc (Kd.C_below HR0_0.out HB.out)); (case side2 => exact HC0_0.out); rintro e w14 ⟨rfl, hb⟩; refine ⟨_, rfl, ?_⟩; replace HO237 := am (Kd.R_below (pr HO237.out) hb); replace BK234 := am (blk_below (pb BK234.out) hb); replace HB := am (below_step (bg1 HB.out GE234.out) hb); (try clear hb); (try clear hb2); (try clear hk); (try clear hi); obtain ⟨hcz15_0, hcz15_1⟩ := b2 BK234.out; obtain ⟨hfz15_0, hfz15_1⟩ := f2 BK234.out) | (refine gl 23 Try.func50 #[.slice A0_0 l0_0.length c0_0] rfl ?_; (with_reducible refine (spec_l3Old.calls k _ _ l0_0 t240 _ ?side1 ?side2 A9.out).mono ?_); (case side1 => exact pc (Kd.C_below HR0_0.out HB.out)); (case side2 => exact HC0_0.out); rintro e w16 ⟨rfl, hb⟩; refine ⟨_, rfl, ?_⟩; replace HO237 := am (Kd.R_below (pr HO237.out) hb); replace BK234 := am (blk_below (pb BK234.out) hb); replace HB := am (below_step (bg1 HB.out GE234.out) hb); (try clear hb); (try clear hb2); (try clear hk); (try clear hi)))
 go_loopg [5, 9] k (fun kq v5 v9 w' => ∃ (x5_1 : List (S81)) (x9_1 : Int), v9 = .int .i64 x9_1 ∧ Aside0 (spec_l12Room.l0 kq x5_1 t240 x9_1 l0_0 l0_1 = some (r1, r2, r3)) ∧ Aside0 (kq ≤ k) ∧ Aside0 (Kd.R k81 81 w' w.heap.size (fun _ => True) v5 x5_1) ∧ Aside0 (w'.heap[gb234]? = some (.cells #[(.slice A0_0 l0_0.length c0_0), (.slice A0_1 l0_1.length c0_1)] 57 (0, 0))) ∧ Aside0 (Below w.heap.size w w'))
 case atStart => exact ⟨(y235), (0), rf, H', ⟨Nat.le_refl _⟩, ⟨pr HO237.out⟩, ⟨pb BK234.out⟩, ⟨bg1 HB.out GE234.out⟩⟩
 case round =>
  clear H'
  obtain ⟨x5_1, x9_1, rfl, HA, HK1, HO_5, BK234, HB⟩ := hrel
  cases gk with
  | zero => exact absurd HA.out (by simp [spec_l12Room.l0])
  | succ k1 =>
   have H := HA.out
   clear HA
   simp only [spec_l12Room.l0] at H
   by_cases c17 : x9_1 < 4
   rotate_left
   · rw [if_neg c17] at H
     have c17b0 := decide_eq_false c17
     clear c17
     by_cases c47 : x5_1.length < 2199023255552
     rotate_left
     · rw [if_neg c47] at H
       exact absurd H (by simp)
     rw [if_pos c47] at H
     have LMc47 := am c47
     clear c47
     obtain ⟨y248, hy248⟩ : ∃ y_ : List (S81), y_ = (x5_1 ++ [(⟨2, 0, 0, t240, (⟨0, 0, 0, 0⟩ : S30)⟩ : S81)]) := ⟨_, rfl⟩
     replace H : (if 0 ≤ t240 then (if t240 < (l0_0.length : Int) then (some (y248, t240, decide (((rd_T35 l0_0 t240).f1) < 200))) else (none)) else (none)) = some (r1, r2, r3) := by first | (rw [hy248]; with_reducible exact H) | (have H2_ := (Option.bind_some _ _).symm.trans H; rw [hy248]; with_reducible exact H2_) | (have H2_ := (Option.bind_some _ _).symm.trans H; with_reducible exact H2_) | with_reducible exact H | (rw [hy248]; exact H) | exact H
     have Ny248 := am hy248
     clear hy248
     by_cases c48 : 0 ≤ t240
     rotate_left
     · rw [if_neg c48] at H
       exact absurd H (by simp)
     rw [if_pos c48] at H
     have c48b0 := decide_eq_true c48
     clear c48
     by_cases c49 : t240 < (l0_0.length : Int)
     rotate_left
     · rw [if_neg c49] at H
       exact absurd H (by simp)
     rw [if_pos c49] at H
     have c49b0 := decide_eq_true c49
     clear c49
     simp only [Option.some.injEq, Prod.mk.injEq] at H
     obtain ⟨rfl, rfl, rfl⟩ := H
     try go_wp2
     replace HO_5 := am (Kd.R_drew HO_5.out)
     replace BK234 := am (blk_drew BK234.out)
     replace HB := am (below_drew1 HB.out)
     have p251 : 0 ≤ (t240 : Int) := ofb
     have q251 : t240 < (l0_0.length : Int) := ofb
     obtain ⟨ad251, A251_0, c251_0, e251, hx251_0, hx251_1, hl251_0, hi251_0⟩ := at_T35 HR0_0.out t240 p251 q251
     have hw251_1 := hx251_1
     have hw251_0 := hx251_0
     cases e251
     replace hx251_0 := up HB.out hx251_0
     replace hx251_1 := up HB.out hx251_1
     have HR251_0 := am hi251_0
     have HC251_0 := am hl251_0
     clear hi251_0 hl251_0
     replace p251 := eq_true p251
     replace q251 := eq_true q251
     refine start_ (n := 16) (S := fun w' => w'.cell? ⟨gb234, 0, none⟩ = some (.slice (some ad251) l0_0.length c0_0) ∧ w'.cell? ⟨gb234, 1, none⟩ = some (.slice A0_1 l0_1.length c0_1) ∧ w'.cell? (ad251.add ((t240).toNat * 2)) = some (.slice A251_0 ((rd_T35 l0_0 t240).f0).length c251_0) ∧ w'.cell? ⟨(ad251.add ((t240).toNat * 2)).block, (ad251.add ((t240).toNat * 2)).off + 1, none⟩ = some (.int .i64 ((rd_T35 l0_0 t240).f1))) (ds := []) #[false, false, false, false, false, false, false, false, false, false, false, false, false, false, false, false] (by kernel_rfl) rfl rfl ⟨(blk_cell BK234.out 0).trans rfl, (blk_cell BK234.out 1).trans rfl, ((HB.out.cell (World.block_lt_of_cell? w _ hw251_0)).trans hw251_0), ((HB.out.cell (World.block_lt_of_cell? w _ hw251_1)).trans hw251_1)⟩ (fun hHeld => ?_); refine with_tabW spec_l12Room.tab12 spec_l12Room.bits12 (fun HT_ HW_ => ?_)
     generalize wr.drew = w50 at HO_5 BK234 HB HR251_0 hx251_0 hx251_1 hHeld ⊢
     refine pj_ 0 57 #[true, false, false, false, false, false, false, false, false, false, false, false, false, false, false, false] rfl rfl (any_of HT_.out (by kernel_rfl)) (fun _ _ _ h => h) ?_
     refine pj_ 1 58 #[true, true, false, false, false, false, false, false, false, false, false, false, false, false, false, false] rfl rfl (any_of HT_.out (by kernel_rfl)) (fun _ _ _ h => h) ?_
     refine pj_ 2 59 #[true, true, true, false, false, false, false, false, false, false, false, false, false, false, false, false] rfl rfl (any_of HT_.out (by kernel_rfl)) (fun _ _ _ h => h) ?_
     refine pj_ 5 62 #[true, true, true, false, false, true, false, false, false, false, false, false, false, false, false, false] rfl rfl (any_of HT_.out (by kernel_rfl)) (fun _ _ _ h => h) ?_
     refine pj_ 6 63 #[true, true, true, false, false, true, true, false, false, false, false, false, false, false, false, false] rfl rfl (any_of HT_.out (by kernel_rfl)) (fun _ _ _ h => h) ?_
     refine pj_ 8 65 #[true, true, true, false, false, true, true, false, true, false, false, false, false, false, false, false] rfl rfl (any_of HT_.out (by kernel_rfl)) (fun _ _ _ h => h) ?_
     refine pm_ 7 64 #[true, true, true, false, false, true, true, true, true, false, false, false, false, false, false, false] rfl rfl (take_ofW HT_.out HW_.out (by kernel_rfl)) (fun _ _ _ h => h) hHeld ?_
     refine pj_ 9 66 #[true, true, true, false, false, true, true, true, true, true, false, false, false, false, false, false] rfl rfl (any_of HT_.out (by kernel_rfl)) (fun _ _ _ h => h) ?_
     refine pj_ 10 67 #[true, true, true, false, false, true, true, true, true, true, true, false, false, false, false, false] rfl rfl (any_of HT_.out (by kernel_rfl)) (fun _ _ _ h => h) ?_
     refine pm_ 11 68 #[true, true, true, false, false, true, true, true, true, true, true, true, false, false, false, false] rfl rfl (take_ofW HT_.out HW_.out (by kernel_rfl)) (fun _ _ _ h => h) hHeld ?_
     refine pj_ 12 69 #[true, true, true, false, false, true, true, true, true, true, true, true, true, false, false, false] rfl rfl (any_of HT_.out (by kernel_rfl)) (fun _ _ _ h => h) ?_
     refine one_ (i := 3) (N := some 60) #[true, true, true, true, false, true, true, true, true, true, true, true, true, false, false, false] rfl rfl (one_of HT_.out (by kernel_rfl)) (by decide) (fun K hK => ?_)
     refine value_ (w1 := ?_) (v := ?_) (by rfl) rfl ?_ ?_
     rotate_left 2
     · go_simp
       constructor
       · rfl
       · rfl
     refine hK.out _ _ ⟨(blk_cell (blk_alloc BK234.out _) 0).trans rfl, (blk_cell (blk_alloc BK234.out _) 1).trans rfl, (World.cell?_alloc_lt _ _ _ (World.block_lt_of_cell? _ _ (((HB.out.cell (World.block_lt_of_cell? w _ hw251_0)).trans hw251_0)))).trans (((HB.out.cell (World.block_lt_of_cell? w _ hw251_0)).trans hw251_0)), (World.cell?_alloc_lt _ _ _ (World.block_lt_of_cell? _ _ (((HB.out.cell (World.block_lt_of_cell? w _ hw251_1)).trans hw251_1)))).trans (((HB.out.cell (World.block_lt_of_cell? w _ hw251_1)).trans hw251_1))⟩ (fun hHeld => ?_)
     clear hK K
     refine norm_ (a' := ?_) ?_ ?_
     rotate_left
     · show Act.put _ (some 60) _ = _
       simp only [Act.put, List.setIfInBounds_toArray, List.set_cons_zero, List.set_cons_succ, i64_w, i32_w]
       rfl
     refine one_ (i := 4) (N := some 61) #[true, true, true, true, true, true, true, true, true, true, true, true, true, false, false, false] rfl rfl (one_of HT_.out (by kernel_rfl)) (by decide) (fun K hK => ?_)
     refine Kd.R_append_step k81 (w0 := w) w.heap.size (by rfl) (.tmp 57) (.tmp 60) 73 81 (.agg #[(.int .i64 0), (.int .i64 0), (.int .i64 0), (.int .i64 0), (.int .i64 0), (.int .i64 0), (.int .i64 0), (.int .i64 0)]) 64 rfl Try.underlying73 info81 rfl (by decide) (by omega) u5 x5_1 (⟨2, 0, 0, t240, (⟨0, 0, 0, 0⟩ : S30)⟩ : S81) [.int .i64 2, .int .i64 0, .int .i64 0, .int .i64 t240, .int .i64 0, .int .i64 0, .int .i64 0, .int .i64 0] (fun _ => True) (fun _ => False) rfl rfl ?aP (fun _ hk => hk.elim) ?aF ?aO ?aB ?aS ?aL ?_
     (case aP => exact k81_mkM _ _ _ (⟨2, 0, 0, t240, (⟨0, 0, 0, 0⟩ : S30)⟩ : S81))
     (case aB => exact (bg1 HB.out GE234.out))
     (case aF => exact (fun _ _ => trivial))
     (case aO => exact (pr HO_5.out))
     (case aS => exact (below_size (bg1 HB.out GE234.out)))
     (case aL => have := LMc47.out; omega)
     intro v249 w51 ho hb hg hat
     rw [← Ny248.out] at ho
     replace BK234 := am (blk_grown (g := gb234) (o := .cells #[.slice (some ad251) l0_0.length c0_0, .slice A0_1 l0_1.length c0_1] 57 (0, 0)) (pb BK234.out) hg (Kd.R_ne HO_5.out BK234.out (by decide)))
     replace HB := am (hb)
     have HO250 := am (ho)
     clear HO_5
     clear ho hb hg hat
     refine hK.out _ _ ⟨(blk_cell BK234.out 0).trans rfl, (blk_cell BK234.out 1).trans rfl, ((HB.out.cell (World.block_lt_of_cell? w _ hw251_0)).trans hw251_0), ((HB.out.cell (World.block_lt_of_cell? w _ hw251_1)).trans hw251_1)⟩ (fun hHeld => ?_)
     clear hK K
     refine norm_ (a' := ?_) ?_ ?_
     rotate_left
     · show Act.put _ (some 61) _ = _
       simp only [Act.put, List.setIfInBounds_toArray, List.set_cons_zero, List.set_cons_succ, i64_w, i32_w]
       rfl
     refine pj_ 13 2 #[true, true, true, true, true, true, true, true, true, true, true, true, true, true, false, false] rfl rfl (any_of HT_.out (by kernel_rfl)) (fun _ _ _ h => h) ?_
     refine pj_ 14 3 #[true, true, true, true, true, true, true, true, true, true, true, true, true, true, true, false] rfl rfl (any_of HT_.out (by kernel_rfl)) (fun _ _ _ h => h) ?_
     refine pj_ 15 4 #[true, true, true, true, true, true, true, true, true, true, true, true, true, true, true, true] rfl rfl (any_of HT_.out (by kernel_rfl)) (fun _ _ _ h => h) ?_
     refine done_ (done_of HT_.out (by kernel_rfl)) ?_
     try go_wp2
     go_ret3
     exact ⟨_, rq ⟨pr HO250.out, bg1 HB.out GE234.out⟩⟩
   rw [if_pos c17] at H
   have c17b0 := decide_eq_true c17
   clear c17
   by_cases c18 : 0 ≤ t240
   rotate_left
   · rw [if_neg c18] at H
     exact absurd H (by simp)
   rw [if_pos c18] at H
   have c18b0 := decide_eq_true c18
   clear c18
   by_cases c19 : t240 < (l0_0.length : Int)
   rotate_left
   · rw [if_neg c19] at H
     exact absurd H (by simp)
   rw [if_pos c19] at H
   have c19b0 := decide_eq_true c19
   clear c19
   by_cases c20 : 0 ≤ x9_1
   rotate_left
   · rw [if_neg c20] at H
     exact absurd H (by simp)
   rw [if_pos c20] at H
   have c20b0 := decide_eq_true c20
   clear c20
   by_cases c21 : x9_1 < (((rd_T35 l0_0 t240).f0).length : Int)
   rotate_left
   · rw [if_neg c21] at H
     exact absurd H (by simp)
   rw [if_pos c21] at H
   have c21b0 := decide_eq_true c21
   clear c21
   replace H := Option.bind_eq_some_iff.mp H
   obtain ⟨t244, A220, H⟩ := H
   replace H : (if t244 = true then (if ((rd_T32 ((rd_T35 l0_0 t240).f0) x9_1).f1.f0) = 1 then (if x5_1.length < 2199023255552 then (spec_l12Room.l0 k1 (x5_1 ++ [(⟨1, (rd_T32 ((rd_T35 l0_0 t240).f0) x9_1).f1.f2, (rd_T32 ((rd_T35 l0_0 t240).f0) x9_1).f1.f3, 0, (⟨0, 0, 0, 0⟩ : S30)⟩ : S81)]) t240 (wrap64 (x9_1 + 1)) l0_0 l0_1) else (none)) else (spec_l12Room.l0 k1 x5_1 t240 (wrap64 (x9_1 + 1)) l0_0 l0_1)) else (spec_l12Room.l0 k1 x5_1 t240 (wrap64 (x9_1 + 1)) l0_0 l0_1)) = some (r1, r2, r3) := H
   have A22 := am A220
   clear A220
   by_cases c23 : t244 = true
   rotate_left
   · replace c23 := Bool.eq_false_iff.mpr c23
     subst c23
     have H1 : (spec_l12Room.l0 k1 x5_1 t240 (wrap64 (x9_1 + 1)) l0_0 l0_1) = some (r1, r2, r3) := by rw [if_neg (show ¬ (false = true) by decide)] at H; exact H
     clear H
     have H := H1
     clear H1
     have H' := am H
     clear H
     obtain ⟨hcz41_0, hcz41_1⟩ := b2 BK234.out
     obtain ⟨hfz41_0, hfz41_1⟩ := f2 BK234.out
     have p241 : 0 ≤ (t240 : Int) := ofb
     have q241 : t240 < (l0_0.length : Int) := ofb
     obtain ⟨ad241, A241_0, c241_0, e241, hx241_0, hx241_1, hl241_0, hi241_0⟩ := at_T35 HR0_0.out t240 p241 q241
     cases e241
     replace hx241_0 := up HB.out hx241_0
     replace hx241_1 := up HB.out hx241_1
     have HR241_0 := am hi241_0
     have HC241_0 := am hl241_0
     clear hi241_0 hl241_0
     replace p241 := eq_true p241
     replace q241 := eq_true q241
     have p242 : 0 ≤ (x9_1 : Int) := ofb
     have q242 : x9_1 < (((rd_T35 l0_0 t240).f0).length : Int) := ofb
     obtain ⟨ad242, e242, hx242_0, hx242_1, hx242_2, hx242_3, hx242_4⟩ := at_T32 HR241_0.out x9_1 p242 q242
     cases e242
     replace hx242_0 := up HB.out hx242_0
     replace hx242_1 := up HB.out hx242_1
     replace hx242_2 := up HB.out hx242_2
     replace hx242_3 := up HB.out hx242_3
     replace hx242_4 := up HB.out hx242_4
     replace p242 := eq_true p242
     replace q242 := eq_true q242
     go_wp2_with (first | (refine bx 10 #[.int .i64 0, .int .i64 0, .int .i64 0, .int .i64 0, .int .i64 0] 32 rfl ?_; intro gb243 hg w42 hbox hb; replace HO_5 := am (Kd.R_below (pr HO_5.out) hb); have BK243 := am (hbox); have GW243 := am ((by rw [hg]; exact (below_size (bg1 HB.out GE234.out)) : w.heap.size ≤ gb243)); have GE243 := GW243; replace HB := am (below_step (bg1 HB.out GE234.out) hb); have NB234_243 := am ((by rw [hg]; exact Nat.ne_of_lt (blk_lt (pb BK234.out)) : gb234 ≠ gb243)); have NB243_234 := am (Ne.symm NB234_243.out); replace BK234 := am (blk_below (pb BK234.out) hb); clear hb hbox hg; have hnb43 := NB243_234.out; have hnc43 := NB234_243.out; obtain ⟨hcz44_0, hcz44_1, hcz44_2, hcz44_3, hcz44_4⟩ := b5 BK243.out; obtain ⟨hfz44_0, hfz44_1, hfz44_2, hfz44_3, hfz44_4⟩ := f5 BK243.out; obtain ⟨hcz45_0, hcz45_1⟩ := b2 BK234.out; obtain ⟨hfz45_0, hfz45_1⟩ := f2 BK234.out) | (refine gl 40 Try.func15 #[.slice (some ad241) l0_0.length c0_0, .agg #[.int .i64 ((rd_T32 ((rd_T35 l0_0 t240).f0) x9_1).f0), .int .i64 ((rd_T32 ((rd_T35 l0_0 t240).f0) x9_1).f1.f0), .int .i64 ((rd_T32 ((rd_T35 l0_0 t240).f0) x9_1).f1.f1), .int .i64 ((rd_T32 ((rd_T35 l0_0 t240).f0) x9_1).f1.f2), .int .i64 ((rd_T32 ((rd_T35 l0_0 t240).f0) x9_1).f1.f3)]] rfl ?_; (with_reducible refine (spec_l3Live.calls k1 _ _ l0_0 ((rd_T32 ((rd_T35 l0_0 t240).f0) x9_1).f0) ((rd_T32 ((rd_T35 l0_0 t240).f0) x9_1).f1.f0) ((rd_T32 ((rd_T35 l0_0 t240).f0) x9_1).f1.f1) ((rd_T32 ((rd_T35 l0_0 t240).f0) x9_1).f1.f2) ((rd_T32 ((rd_T35 l0_0 t240).f0) x9_1).f1.f3) false _ ?side1 ?side2 A22.out).mono ?_); (case side1 => exact Kd.C_below HR0_0.out (bg2 HB.out GE234.out GE243.out)); (case side2 => exact HC0_0.out); rintro e w46 ⟨rfl, hb⟩; refine ⟨_, rfl, ?_⟩; replace HO_5 := am (Kd.R_below (by (with_reducible repeat (first | apply Kd.R_alloc | apply Kd.R_drewN | apply Kd.R_drew)); exact (Kd.R_mono (Kd.R_far (p := ⟨gb243, 4, none⟩) (Kd.R_far (p := ⟨gb243, 3, none⟩) (Kd.R_far (p := ⟨gb243, 2, none⟩) (Kd.R_far (p := ⟨gb243, 1, none⟩) (Kd.R_far (p := ⟨gb243, 0, none⟩) (Kd.R_types HO_5.out BK243.out (by decide)) (fun _ hk => hk.2) (.int .i64 ((rd_T32 ((rd_T35 l0_0 t240).f0) x9_1).f0))) (fun _ hk => hk.2) (.int .i64 ((rd_T32 ((rd_T35 l0_0 t240).f0) x9_1).f1.f0))) (fun _ hk => hk.2) (.int .i64 ((rd_T32 ((rd_T35 l0_0 t240).f0) x9_1).f1.f1))) (fun _ hk => hk.2) (.int .i64 ((rd_T32 ((rd_T35 l0_0 t240).f0) x9_1).f1.f2))) (fun _ hk => hk.2) (.int .i64 ((rd_T32 ((rd_T35 l0_0 t240).f0) x9_1).f1.f3))) (fun _ h_ => h_.1))) hb); replace BK234 := am (blk_below (g := gb234) (o := .cells #[.slice (some ad241) l0_0.length c0_0, .slice A0_1 l0_1.length c0_1] 57 (0, 0)) (by (with_reducible repeat (first | refine blk_drewN ?_ _ | refine blk_drew ?_ | refine blk_alloc ?_ _)); refine blk_far ?_ NB234_243.out _; (with_reducible repeat (first | refine blk_drewN ?_ _ | refine blk_drew ?_ | refine blk_alloc ?_ _)); refine blk_far ?_ NB234_243.out _; (with_reducible repeat (first | refine blk_drewN ?_ _ | refine blk_drew ?_ | refine blk_alloc ?_ _)); refine blk_far ?_ NB234_243.out _; (with_reducible repeat (first | refine blk_drewN ?_ _ | refine blk_drew ?_ | refine blk_alloc ?_ _)); refine blk_far ?_ NB234_243.out _; (with_reducible repeat (first | refine blk_drewN ?_ _ | refine blk_drew ?_ | refine blk_alloc ?_ _)); refine blk_far ?_ NB234_243.out _; (with_reducible repeat (first | refine blk_drewN ?_ _ | refine blk_drew ?_ | refine blk_alloc ?_ _)); exact BK234.out) hb); replace BK243 := am (blk_below (g := gb243) (o := .cells #[.int .i64 ((rd_T32 ((rd_T35 l0_0 t240).f0) x9_1).f0), .int .i64 ((rd_T32 ((rd_T35 l0_0 t240).f0) x9_1).f1.f0), .int .i64 ((rd_T32 ((rd_T35 l0_0 t240).f0) x9_1).f1.f1), .int .i64 ((rd_T32 ((rd_T35 l0_0 t240).f0) x9_1).f1.f2), .int .i64 ((rd_T32 ((rd_T35 l0_0 t240).f0) x9_1).f1.f3)] 32 (0, 0)) (by (with_reducible repeat (first | refine blk_drewN ?_ _ | refine blk_drew ?_ | refine blk_alloc ?_ _)); refine blk_put (cs := #[.int .i64 ((rd_T32 ((rd_T35 l0_0 t240).f0) x9_1).f0), .int .i64 ((rd_T32 ((rd_T35 l0_0 t240).f0) x9_1).f1.f0), .int .i64 ((rd_T32 ((rd_T35 l0_0 t240).f0) x9_1).f1.f1), .int .i64 ((rd_T32 ((rd_T35 l0_0 t240).f0) x9_1).f1.f2), .int .i64 0]) ?_ 4 _ rfl; (with_reducible repeat (first | refine blk_drewN ?_ _ | refine blk_drew ?_ | refine blk_alloc ?_ _)); refine blk_put (cs := #[.int .i64 ((rd_T32 ((rd_T35 l0_0 t240).f0) x9_1).f0), .int .i64 ((rd_T32 ((rd_T35 l0_0 t240).f0) x9_1).f1.f0), .int .i64 ((rd_T32 ((rd_T35 l0_0 t240).f0) x9_1).f1.f1), .int .i64 0, .int .i64 0]) ?_ 3 _ rfl; (with_reducible repeat (first | refine blk_drewN ?_ _ | refine blk_drew ?_ | refine blk_alloc ?_ _)); refine blk_put (cs := #[.int .i64 ((rd_T32 ((rd_T35 l0_0 t240).f0) x9_1).f0), .int .i64 ((rd_T32 ((rd_T35 l0_0 t240).f0) x9_1).f1.f0), .int .i64 0, .int .i64 0, .int .i64 0]) ?_ 2 _ rfl; (with_reducible repeat (first | refine blk_drewN ?_ _ | refine blk_drew ?_ | refine blk_alloc ?_ _)); refine blk_put (cs := #[.int .i64 ((rd_T32 ((rd_T35 l0_0 t240).f0) x9_1).f0), .int .i64 0, .int .i64 0, .int .i64 0, .int .i64 0]) ?_ 1 _ rfl; (with_reducible repeat (first | refine blk_drewN ?_ _ | refine blk_drew ?_ | refine blk_alloc ?_ _)); refine blk_put (cs := #[.int .i64 0, .int .i64 0, .int .i64 0, .int .i64 0, .int .i64 0]) ?_ 0 _ rfl; (with_reducible repeat (first | refine blk_drewN ?_ _ | refine blk_drew ?_ | refine blk_alloc ?_ _)); exact BK243.out) hb); replace HB := am (below_step (bg2 HB.out GE234.out GE243.out) hb); (try clear hb); (try clear hb2); (try clear hk); (try clear hi)))
     go_roundg k1
     case measure => have := HK1.out; omega
     case rel => exact ⟨(x5_1), (wrap64 (x9_1 + 1)), rf, H', ⟨by have := HK1.out; omega⟩, ⟨pr HO_5.out⟩, ⟨pb BK234.out⟩, ⟨bg2 HB.out GE234.out GE243.out⟩⟩
   subst c23
   have H1 : (if ((rd_T32 ((rd_T35 l0_0 t240).f0) x9_1).f1.f0) = 1 then (if x5_1.length < 2199023255552 then (spec_l12Room.l0 k1 (x5_1 ++ [(⟨1, (rd_T32 ((rd_T35 l0_0 t240).f0) x9_1).f1.f2, (rd_T32 ((rd_T35 l0_0 t240).f0) x9_1).f1.f3, 0, (⟨0, 0, 0, 0⟩ : S30)⟩ : S81)]) t240 (wrap64 (x9_1 + 1)) l0_0 l0_1) else (none)) else (spec_l12Room.l0 k1 x5_1 t240 (wrap64 (x9_1 + 1)) l0_0 l0_1)) = some (r1, r2, r3) := by rw [if_pos rfl] at H; exact H
   clear H
   have H := H1
   clear H1
   by_cases c24 : ((rd_T32 ((rd_T35 l0_0 t240).f0) x9_1).f1.f0) = 1
   rotate_left
   · rw [if_neg c24] at H
     have c24b0 : (((rd_T32 ((rd_T35 l0_0 t240).f0) x9_1).f1.f0) == 1) = false := beq_eq_false_iff_ne.mpr c24
     have c24b1 : (((rd_T32 ((rd_T35 l0_0 t240).f0) x9_1).f1.f0) != 1) = true := bne_iff_ne.mpr c24
     have H' := am H
     clear H
     obtain ⟨hcz34_0, hcz34_1⟩ := b2 BK234.out
     obtain ⟨hfz34_0, hfz34_1⟩ := f2 BK234.out
     have p241 : 0 ≤ (t240 : Int) := ofb
     have q241 : t240 < (l0_0.length : Int) := ofb
     obtain ⟨ad241, A241_0, c241_0, e241, hx241_0, hx241_1, hl241_0, hi241_0⟩ := at_T35 HR0_0.out t240 p241 q241
     cases e241
     replace hx241_0 := up HB.out hx241_0
     replace hx241_1 := up HB.out hx241_1
     have HR241_0 := am hi241_0
     have HC241_0 := am hl241_0
     clear hi241_0 hl241_0
     replace p241 := eq_true p241
     replace q241 := eq_true q241
     have p242 : 0 ≤ (x9_1 : Int) := ofb
     have q242 : x9_1 < (((rd_T35 l0_0 t240).f0).length : Int) := ofb
     obtain ⟨ad242, e242, hx242_0, hx242_1, hx242_2, hx242_3, hx242_4⟩ := at_T32 HR241_0.out x9_1 p242 q242
     cases e242
     replace hx242_0 := up HB.out hx242_0
     replace hx242_1 := up HB.out hx242_1
     replace hx242_2 := up HB.out hx242_2
     replace hx242_3 := up HB.out hx242_3
     replace hx242_4 := up HB.out hx242_4
     replace p242 := eq_true p242
     replace q242 := eq_true q242
     go_wp2_with (first | (refine bx 10 #[.int .i64 0, .int .i64 0, .int .i64 0, .int .i64 0, .int .i64 0] 32 rfl ?_; intro gb243 hg w35 hbox hb; replace HO_5 := am (Kd.R_below (pr HO_5.out) hb); have BK243 := am (hbox); have GW243 := am ((by rw [hg]; exact (below_size (bg1 HB.out GE234.out)) : w.heap.size ≤ gb243)); have GE243 := GW243; replace HB := am (below_step (bg1 HB.out GE234.out) hb); have NB234_243 := am ((by rw [hg]; exact Nat.ne_of_lt (blk_lt (pb BK234.out)) : gb234 ≠ gb243)); have NB243_234 := am (Ne.symm NB234_243.out); replace BK234 := am (blk_below (pb BK234.out) hb); clear hb hbox hg; have hnb36 := NB243_234.out; have hnc36 := NB234_243.out; obtain ⟨hcz37_0, hcz37_1, hcz37_2, hcz37_3, hcz37_4⟩ := b5 BK243.out; obtain ⟨hfz37_0, hfz37_1, hfz37_2, hfz37_3, hfz37_4⟩ := f5 BK243.out; obtain ⟨hcz38_0, hcz38_1⟩ := b2 BK234.out; obtain ⟨hfz38_0, hfz38_1⟩ := f2 BK234.out) | (refine gl 40 Try.func15 #[.slice (some ad241) l0_0.length c0_0, .agg #[.int .i64 ((rd_T32 ((rd_T35 l0_0 t240).f0) x9_1).f0), .int .i64 ((rd_T32 ((rd_T35 l0_0 t240).f0) x9_1).f1.f0), .int .i64 ((rd_T32 ((rd_T35 l0_0 t240).f0) x9_1).f1.f1), .int .i64 ((rd_T32 ((rd_T35 l0_0 t240).f0) x9_1).f1.f2), .int .i64 ((rd_T32 ((rd_T35 l0_0 t240).f0) x9_1).f1.f3)]] rfl ?_; (with_reducible refine (spec_l3Live.calls k1 _ _ l0_0 ((rd_T32 ((rd_T35 l0_0 t240).f0) x9_1).f0) ((rd_T32 ((rd_T35 l0_0 t240).f0) x9_1).f1.f0) ((rd_T32 ((rd_T35 l0_0 t240).f0) x9_1).f1.f1) ((rd_T32 ((rd_T35 l0_0 t240).f0) x9_1).f1.f2) ((rd_T32 ((rd_T35 l0_0 t240).f0) x9_1).f1.f3) true _ ?side1 ?side2 A22.out).mono ?_); (case side1 => exact Kd.C_below HR0_0.out (bg2 HB.out GE234.out GE243.out)); (case side2 => exact HC0_0.out); rintro e w39 ⟨rfl, hb⟩; refine ⟨_, rfl, ?_⟩; replace HO_5 := am (Kd.R_below (by (with_reducible repeat (first | apply Kd.R_alloc | apply Kd.R_drewN | apply Kd.R_drew)); exact (Kd.R_mono (Kd.R_far (p := ⟨gb243, 4, none⟩) (Kd.R_far (p := ⟨gb243, 3, none⟩) (Kd.R_far (p := ⟨gb243, 2, none⟩) (Kd.R_far (p := ⟨gb243, 1, none⟩) (Kd.R_far (p := ⟨gb243, 0, none⟩) (Kd.R_types HO_5.out BK243.out (by decide)) (fun _ hk => hk.2) (.int .i64 ((rd_T32 ((rd_T35 l0_0 t240).f0) x9_1).f0))) (fun _ hk => hk.2) (.int .i64 ((rd_T32 ((rd_T35 l0_0 t240).f0) x9_1).f1.f0))) (fun _ hk => hk.2) (.int .i64 ((rd_T32 ((rd_T35 l0_0 t240).f0) x9_1).f1.f1))) (fun _ hk => hk.2) (.int .i64 ((rd_T32 ((rd_T35 l0_0 t240).f0) x9_1).f1.f2))) (fun _ hk => hk.2) (.int .i64 ((rd_T32 ((rd_T35 l0_0 t240).f0) x9_1).f1.f3))) (fun _ h_ => h_.1))) hb); replace BK234 := am (blk_below (g := gb234) (o := .cells #[.slice (some ad241) l0_0.length c0_0, .slice A0_1 l0_1.length c0_1] 57 (0, 0)) (by (with_reducible repeat (first | refine blk_drewN ?_ _ | refine blk_drew ?_ | refine blk_alloc ?_ _)); refine blk_far ?_ NB234_243.out _; (with_reducible repeat (first | refine blk_drewN ?_ _ | refine blk_drew ?_ | refine blk_alloc ?_ _)); refine blk_far ?_ NB234_243.out _; (with_reducible repeat (first | refine blk_drewN ?_ _ | refine blk_drew ?_ | refine blk_alloc ?_ _)); refine blk_far ?_ NB234_243.out _; (with_reducible repeat (first | refine blk_drewN ?_ _ | refine blk_drew ?_ | refine blk_alloc ?_ _)); refine blk_far ?_ NB234_243.out _; (with_reducible repeat (first | refine blk_drewN ?_ _ | refine blk_drew ?_ | refine blk_alloc ?_ _)); refine blk_far ?_ NB234_243.out _; (with_reducible repeat (first | refine blk_drewN ?_ _ | refine blk_drew ?_ | refine blk_alloc ?_ _)); exact BK234.out) hb); replace BK243 := am (blk_below (g := gb243) (o := .cells #[.int .i64 ((rd_T32 ((rd_T35 l0_0 t240).f0) x9_1).f0), .int .i64 ((rd_T32 ((rd_T35 l0_0 t240).f0) x9_1).f1.f0), .int .i64 ((rd_T32 ((rd_T35 l0_0 t240).f0) x9_1).f1.f1), .int .i64 ((rd_T32 ((rd_T35 l0_0 t240).f0) x9_1).f1.f2), .int .i64 ((rd_T32 ((rd_T35 l0_0 t240).f0) x9_1).f1.f3)] 32 (0, 0)) (by (with_reducible repeat (first | refine blk_drewN ?_ _ | refine blk_drew ?_ | refine blk_alloc ?_ _)); refine blk_put (cs := #[.int .i64 ((rd_T32 ((rd_T35 l0_0 t240).f0) x9_1).f0), .int .i64 ((rd_T32 ((rd_T35 l0_0 t240).f0) x9_1).f1.f0), .int .i64 ((rd_T32 ((rd_T35 l0_0 t240).f0) x9_1).f1.f1), .int .i64 ((rd_T32 ((rd_T35 l0_0 t240).f0) x9_1).f1.f2), .int .i64 0]) ?_ 4 _ rfl; (with_reducible repeat (first | refine blk_drewN ?_ _ | refine blk_drew ?_ | refine blk_alloc ?_ _)); refine blk_put (cs := #[.int .i64 ((rd_T32 ((rd_T35 l0_0 t240).f0) x9_1).f0), .int .i64 ((rd_T32 ((rd_T35 l0_0 t240).f0) x9_1).f1.f0), .int .i64 ((rd_T32 ((rd_T35 l0_0 t240).f0) x9_1).f1.f1), .int .i64 0, .int .i64 0]) ?_ 3 _ rfl; (with_reducible repeat (first | refine blk_drewN ?_ _ | refine blk_drew ?_ | refine blk_alloc ?_ _)); refine blk_put (cs := #[.int .i64 ((rd_T32 ((rd_T35 l0_0 t240).f0) x9_1).f0), .int .i64 ((rd_T32 ((rd_T35 l0_0 t240).f0) x9_1).f1.f0), .int .i64 0, .int .i64 0, .int .i64 0]) ?_ 2 _ rfl; (with_reducible repeat (first | refine blk_drewN ?_ _ | refine blk_drew ?_ | refine blk_alloc ?_ _)); refine blk_put (cs := #[.int .i64 ((rd_T32 ((rd_T35 l0_0 t240).f0) x9_1).f0), .int .i64 0, .int .i64 0, .int .i64 0, .int .i64 0]) ?_ 1 _ rfl; (with_reducible repeat (first | refine blk_drewN ?_ _ | refine blk_drew ?_ | refine blk_alloc ?_ _)); refine blk_put (cs := #[.int .i64 0, .int .i64 0, .int .i64 0, .int .i64 0, .int .i64 0]) ?_ 0 _ rfl; (with_reducible repeat (first | refine blk_drewN ?_ _ | refine blk_drew ?_ | refine blk_alloc ?_ _)); exact BK243.out) hb); replace HB := am (below_step (bg2 HB.out GE234.out GE243.out) hb); (try clear hb); (try clear hb2); (try clear hk); (try clear hi); have hcz40_0 : w39.cell? ⟨gb243, 0, none⟩ = some (.int .i64 ((rd_T32 ((rd_T35 l0_0 t240).f0) x9_1).f0)) := (blk_cell BK243.out 0).trans rfl; have hcz40_1 : w39.cell? ⟨gb243, 1, none⟩ = some (.int .i64 ((rd_T32 ((rd_T35 l0_0 t240).f0) x9_1).f1.f0)) := (blk_cell BK243.out 1).trans rfl; have hcz40_2 : w39.cell? ⟨gb243, 2, none⟩ = some (.int .i64 ((rd_T32 ((rd_T35 l0_0 t240).f0) x9_1).f1.f1)) := (blk_cell BK243.out 2).trans rfl; have hcz40_3 : w39.cell? ⟨gb243, 3, none⟩ = some (.int .i64 ((rd_T32 ((rd_T35 l0_0 t240).f0) x9_1).f1.f2)) := (blk_cell BK243.out 3).trans rfl; have hcz40_4 : w39.cell? ⟨gb243, 4, none⟩ = some (.int .i64 ((rd_T32 ((rd_T35 l0_0 t240).f0) x9_1).f1.f3)) := (blk_cell BK243.out 4).trans rfl; obtain ⟨hfz40_0, hfz40_1, hfz40_2, hfz40_3, hfz40_4⟩ := f5 BK243.out))
     go_roundg k1
     case measure => have := HK1.out; omega
     case rel => exact ⟨(x5_1), (wrap64 (x9_1 + 1)), rf, H', ⟨by have := HK1.out; omega⟩, ⟨pr HO_5.out⟩, ⟨pb BK234.out⟩, ⟨bg2 HB.out GE234.out GE243.out⟩⟩
   rw [if_pos c24] at H
   have c24b0 : (((rd_T32 ((rd_T35 l0_0 t240).f0) x9_1).f1.f0) == 1) = true := beq_iff_eq.mpr c24
   have c24b1 : (((rd_T32 ((rd_T35 l0_0 t240).f0) x9_1).f1.f0) != 1) = false := bne_eq_false_iff_eq.mpr c24
   clear c24
   by_cases c25 : x5_1.length < 2199023255552
   rotate_left
   · rw [if_neg c25] at H
     exact absurd H (by simp)
   rw [if_pos c25] at H
   have LMc25 := am c25
   clear c25
   obtain ⟨y245, hy245⟩ : ∃ y_ : List (S81), y_ = (x5_1 ++ [(⟨1, (rd_T32 ((rd_T35 l0_0 t240).f0) x9_1).f1.f2, (rd_T32 ((rd_T35 l0_0 t240).f0) x9_1).f1.f3, 0, (⟨0, 0, 0, 0⟩ : S30)⟩ : S81)]) := ⟨_, rfl⟩
   replace H : (spec_l12Room.l0 k1 y245 t240 (wrap64 (x9_1 + 1)) l0_0 l0_1) = some (r1, r2, r3) := by first | (rw [hy245]; with_reducible exact H) | (have H2_ := (Option.bind_some _ _).symm.trans H; rw [hy245]; with_reducible exact H2_) | (have H2_ := (Option.bind_some _ _).symm.trans H; with_reducible exact H2_) | with_reducible exact H | (rw [hy245]; exact H) | exact H
   have Ny245 := am hy245
   clear hy245
   have H' := am H
   clear H
   obtain ⟨hcz26_0, hcz26_1⟩ := b2 BK234.out
   obtain ⟨hfz26_0, hfz26_1⟩ := f2 BK234.out
   have p241 : 0 ≤ (t240 : Int) := ofb
   have q241 : t240 < (l0_0.length : Int) := ofb
   obtain ⟨ad241, A241_0, c241_0, e241, hx241_0, hx241_1, hl241_0, hi241_0⟩ := at_T35 HR0_0.out t240 p241 q241
   cases e241
   replace hx241_0 := up HB.out hx241_0
   replace hx241_1 := up HB.out hx241_1
   have HR241_0 := am hi241_0
   have HC241_0 := am hl241_0
   clear hi241_0 hl241_0
   replace p241 := eq_true p241
   replace q241 := eq_true q241
   have p242 : 0 ≤ (x9_1 : Int) := ofb
   have q242 : x9_1 < (((rd_T35 l0_0 t240).f0).length : Int) := ofb
   obtain ⟨ad242, e242, hx242_0, hx242_1, hx242_2, hx242_3, hx242_4⟩ := at_T32 HR241_0.out x9_1 p242 q242
   cases e242
   replace hx242_0 := up HB.out hx242_0
   replace hx242_1 := up HB.out hx242_1
   replace hx242_2 := up HB.out hx242_2
   replace hx242_3 := up HB.out hx242_3
   replace hx242_4 := up HB.out hx242_4
   replace p242 := eq_true p242
   replace q242 := eq_true q242
   go_wp2_with (first | (refine bx 10 #[.int .i64 0, .int .i64 0, .int .i64 0, .int .i64 0, .int .i64 0] 32 rfl ?_; intro gb243 hg w27 hbox hb; replace HO_5 := am (Kd.R_below (pr HO_5.out) hb); have BK243 := am (hbox); have GW243 := am ((by rw [hg]; exact (below_size (bg1 HB.out GE234.out)) : w.heap.size ≤ gb243)); have GE243 := GW243; replace HB := am (below_step (bg1 HB.out GE234.out) hb); have NB234_243 := am ((by rw [hg]; exact Nat.ne_of_lt (blk_lt (pb BK234.out)) : gb234 ≠ gb243)); have NB243_234 := am (Ne.symm NB234_243.out); replace BK234 := am (blk_below (pb BK234.out) hb); clear hb hbox hg; have hnb28 := NB243_234.out; have hnc28 := NB234_243.out; obtain ⟨hcz29_0, hcz29_1, hcz29_2, hcz29_3, hcz29_4⟩ := b5 BK243.out; obtain ⟨hfz29_0, hfz29_1, hfz29_2, hfz29_3, hfz29_4⟩ := f5 BK243.out; obtain ⟨hcz30_0, hcz30_1⟩ := b2 BK234.out; obtain ⟨hfz30_0, hfz30_1⟩ := f2 BK234.out) | (refine gl 40 Try.func15 #[.slice (some ad241) l0_0.length c0_0, .agg #[.int .i64 ((rd_T32 ((rd_T35 l0_0 t240).f0) x9_1).f0), .int .i64 ((rd_T32 ((rd_T35 l0_0 t240).f0) x9_1).f1.f0), .int .i64 ((rd_T32 ((rd_T35 l0_0 t240).f0) x9_1).f1.f1), .int .i64 ((rd_T32 ((rd_T35 l0_0 t240).f0) x9_1).f1.f2), .int .i64 ((rd_T32 ((rd_T35 l0_0 t240).f0) x9_1).f1.f3)]] rfl ?_; (with_reducible refine (spec_l3Live.calls k1 _ _ l0_0 ((rd_T32 ((rd_T35 l0_0 t240).f0) x9_1).f0) ((rd_T32 ((rd_T35 l0_0 t240).f0) x9_1).f1.f0) ((rd_T32 ((rd_T35 l0_0 t240).f0) x9_1).f1.f1) ((rd_T32 ((rd_T35 l0_0 t240).f0) x9_1).f1.f2) ((rd_T32 ((rd_T35 l0_0 t240).f0) x9_1).f1.f3) true _ ?side1 ?side2 A22.out).mono ?_); (case side1 => exact Kd.C_below HR0_0.out (bg2 HB.out GE234.out GE243.out)); (case side2 => exact HC0_0.out); rintro e w31 ⟨rfl, hb⟩; refine ⟨_, rfl, ?_⟩; replace HO_5 := am (Kd.R_below (by (with_reducible repeat (first | apply Kd.R_alloc | apply Kd.R_drewN | apply Kd.R_drew)); exact (Kd.R_mono (Kd.R_far (p := ⟨gb243, 4, none⟩) (Kd.R_far (p := ⟨gb243, 3, none⟩) (Kd.R_far (p := ⟨gb243, 2, none⟩) (Kd.R_far (p := ⟨gb243, 1, none⟩) (Kd.R_far (p := ⟨gb243, 0, none⟩) (Kd.R_types HO_5.out BK243.out (by decide)) (fun _ hk => hk.2) (.int .i64 ((rd_T32 ((rd_T35 l0_0 t240).f0) x9_1).f0))) (fun _ hk => hk.2) (.int .i64 ((rd_T32 ((rd_T35 l0_0 t240).f0) x9_1).f1.f0))) (fun _ hk => hk.2) (.int .i64 ((rd_T32 ((rd_T35 l0_0 t240).f0) x9_1).f1.f1))) (fun _ hk => hk.2) (.int .i64 ((rd_T32 ((rd_T35 l0_0 t240).f0) x9_1).f1.f2))) (fun _ hk => hk.2) (.int .i64 ((rd_T32 ((rd_T35 l0_0 t240).f0) x9_1).f1.f3))) (fun _ h_ => h_.1))) hb); replace BK234 := am (blk_below (g := gb234) (o := .cells #[.slice (some ad241) l0_0.length c0_0, .slice A0_1 l0_1.length c0_1] 57 (0, 0)) (by (with_reducible repeat (first | refine blk_drewN ?_ _ | refine blk_drew ?_ | refine blk_alloc ?_ _)); refine blk_far ?_ NB234_243.out _; (with_reducible repeat (first | refine blk_drewN ?_ _ | refine blk_drew ?_ | refine blk_alloc ?_ _)); refine blk_far ?_ NB234_243.out _; (with_reducible repeat (first | refine blk_drewN ?_ _ | refine blk_drew ?_ | refine blk_alloc ?_ _)); refine blk_far ?_ NB234_243.out _; (with_reducible repeat (first | refine blk_drewN ?_ _ | refine blk_drew ?_ | refine blk_alloc ?_ _)); refine blk_far ?_ NB234_243.out _; (with_reducible repeat (first | refine blk_drewN ?_ _ | refine blk_drew ?_ | refine blk_alloc ?_ _)); refine blk_far ?_ NB234_243.out _; (with_reducible repeat (first | refine blk_drewN ?_ _ | refine blk_drew ?_ | refine blk_alloc ?_ _)); exact BK234.out) hb); replace BK243 := am (blk_below (g := gb243) (o := .cells #[.int .i64 ((rd_T32 ((rd_T35 l0_0 t240).f0) x9_1).f0), .int .i64 ((rd_T32 ((rd_T35 l0_0 t240).f0) x9_1).f1.f0), .int .i64 ((rd_T32 ((rd_T35 l0_0 t240).f0) x9_1).f1.f1), .int .i64 ((rd_T32 ((rd_T35 l0_0 t240).f0) x9_1).f1.f2), .int .i64 ((rd_T32 ((rd_T35 l0_0 t240).f0) x9_1).f1.f3)] 32 (0, 0)) (by (with_reducible repeat (first | refine blk_drewN ?_ _ | refine blk_drew ?_ | refine blk_alloc ?_ _)); refine blk_put (cs := #[.int .i64 ((rd_T32 ((rd_T35 l0_0 t240).f0) x9_1).f0), .int .i64 ((rd_T32 ((rd_T35 l0_0 t240).f0) x9_1).f1.f0), .int .i64 ((rd_T32 ((rd_T35 l0_0 t240).f0) x9_1).f1.f1), .int .i64 ((rd_T32 ((rd_T35 l0_0 t240).f0) x9_1).f1.f2), .int .i64 0]) ?_ 4 _ rfl; (with_reducible repeat (first | refine blk_drewN ?_ _ | refine blk_drew ?_ | refine blk_alloc ?_ _)); refine blk_put (cs := #[.int .i64 ((rd_T32 ((rd_T35 l0_0 t240).f0) x9_1).f0), .int .i64 ((rd_T32 ((rd_T35 l0_0 t240).f0) x9_1).f1.f0), .int .i64 ((rd_T32 ((rd_T35 l0_0 t240).f0) x9_1).f1.f1), .int .i64 0, .int .i64 0]) ?_ 3 _ rfl; (with_reducible repeat (first | refine blk_drewN ?_ _ | refine blk_drew ?_ | refine blk_alloc ?_ _)); refine blk_put (cs := #[.int .i64 ((rd_T32 ((rd_T35 l0_0 t240).f0) x9_1).f0), .int .i64 ((rd_T32 ((rd_T35 l0_0 t240).f0) x9_1).f1.f0), .int .i64 0, .int .i64 0, .int .i64 0]) ?_ 2 _ rfl; (with_reducible repeat (first | refine blk_drewN ?_ _ | refine blk_drew ?_ | refine blk_alloc ?_ _)); refine blk_put (cs := #[.int .i64 ((rd_T32 ((rd_T35 l0_0 t240).f0) x9_1).f0), .int .i64 0, .int .i64 0, .int .i64 0, .int .i64 0]) ?_ 1 _ rfl; (with_reducible repeat (first | refine blk_drewN ?_ _ | refine blk_drew ?_ | refine blk_alloc ?_ _)); refine blk_put (cs := #[.int .i64 0, .int .i64 0, .int .i64 0, .int .i64 0, .int .i64 0]) ?_ 0 _ rfl; (with_reducible repeat (first | refine blk_drewN ?_ _ | refine blk_drew ?_ | refine blk_alloc ?_ _)); exact BK243.out) hb); replace HB := am (below_step (bg2 HB.out GE234.out GE243.out) hb); (try clear hb); (try clear hb2); (try clear hk); (try clear hi); have hcz32_0 : w31.cell? ⟨gb243, 0, none⟩ = some (.int .i64 ((rd_T32 ((rd_T35 l0_0 t240).f0) x9_1).f0)) := (blk_cell BK243.out 0).trans rfl; have hcz32_1 : w31.cell? ⟨gb243, 1, none⟩ = some (.int .i64 ((rd_T32 ((rd_T35 l0_0 t240).f0) x9_1).f1.f0)) := (blk_cell BK243.out 1).trans rfl; have hcz32_2 : w31.cell? ⟨gb243, 2, none⟩ = some (.int .i64 ((rd_T32 ((rd_T35 l0_0 t240).f0) x9_1).f1.f1)) := (blk_cell BK243.out 2).trans rfl; have hcz32_3 : w31.cell? ⟨gb243, 3, none⟩ = some (.int .i64 ((rd_T32 ((rd_T35 l0_0 t240).f0) x9_1).f1.f2)) := (blk_cell BK243.out 3).trans rfl; have hcz32_4 : w31.cell? ⟨gb243, 4, none⟩ = some (.int .i64 ((rd_T32 ((rd_T35 l0_0 t240).f0) x9_1).f1.f3)) := (blk_cell BK243.out 4).trans rfl; obtain ⟨hfz32_0, hfz32_1, hfz32_2, hfz32_3, hfz32_4⟩ := f5 BK243.out) | ((with_reducible refine gate_builtin (b := .append) (xs := #[.tmp 47, .tmp 55]) rfl ?_); at_builtin; refine Kd.R_append k81 (w0 := w) w.heap.size rfl (.tmp 47) (.tmp 55) 73 81 (.agg #[(.int .i64 0), (.int .i64 0), (.int .i64 0), (.int .i64 0), (.int .i64 0), (.int .i64 0), (.int .i64 0), (.int .i64 0)]) 64 rfl Try.underlying73 info81 rfl (by decide) (by omega) u5 x5_1 (⟨1, (rd_T32 ((rd_T35 l0_0 t240).f0) x9_1).f1.f2, (rd_T32 ((rd_T35 l0_0 t240).f0) x9_1).f1.f3, 0, (⟨0, 0, 0, 0⟩ : S30)⟩ : S81) [.int .i64 1, .int .i64 ((rd_T32 ((rd_T35 l0_0 t240).f0) x9_1).f1.f2), .int .i64 ((rd_T32 ((rd_T35 l0_0 t240).f0) x9_1).f1.f3), .int .i64 0, .int .i64 0, .int .i64 0, .int .i64 0, .int .i64 0] (fun _ => True) (fun _ => False) rfl rfl ?aP (fun _ hk => hk.elim) ?aF ?aO ?aB ?aS ?aL ?_; (case aP => exact k81_mkM _ _ _ (⟨1, (rd_T32 ((rd_T35 l0_0 t240).f0) x9_1).f1.f2, (rd_T32 ((rd_T35 l0_0 t240).f0) x9_1).f1.f3, 0, (⟨0, 0, 0, 0⟩ : S30)⟩ : S81)); (case aB => exact (bg2 HB.out GE234.out GE243.out)); (case aF => exact (fun _ _ => trivial)); (case aO => exact (pr HO_5.out)); (case aS => exact (below_size (bg2 HB.out GE234.out GE243.out))); (case aL => have := LMc25.out; omega); intro v246 w33 ho hb hg hat; rw [← Ny245.out] at ho; replace BK234 := am (blk_grown (g := gb234) (o := .cells #[.slice (some ad241) l0_0.length c0_0, .slice A0_1 l0_1.length c0_1] 57 (0, 0)) (pb BK234.out) hg (Kd.R_ne HO_5.out BK234.out (by decide))); replace BK243 := am (blk_grown (g := gb243) (o := .cells #[.int .i64 ((rd_T32 ((rd_T35 l0_0 t240).f0) x9_1).f0), .int .i64 ((rd_T32 ((rd_T35 l0_0 t240).f0) x9_1).f1.f0), .int .i64 ((rd_T32 ((rd_T35 l0_0 t240).f0) x9_1).f1.f1), .int .i64 ((rd_T32 ((rd_T35 l0_0 t240).f0) x9_1).f1.f2), .int .i64 ((rd_T32 ((rd_T35 l0_0 t240).f0) x9_1).f1.f3)] 32 (0, 0)) (pb BK243.out) hg (Kd.R_ne HO_5.out BK243.out (by decide))); replace HB := am (hb); have HO247 := am (ho); clear HO_5; clear ho hb hg hat))
   go_roundg k1
   case measure => have := HK1.out; omega
   case rel => exact ⟨(y245), (wrap64 (x9_1 + 1)), rf, H', ⟨by have := HK1.out; omega⟩, ⟨pr HO247.out⟩, ⟨pb BK234.out⟩, ⟨bg2 HB.out GE234.out GE243.out⟩⟩
end Go.Proofs.Ytcanhdofmbekeaa.Rp
