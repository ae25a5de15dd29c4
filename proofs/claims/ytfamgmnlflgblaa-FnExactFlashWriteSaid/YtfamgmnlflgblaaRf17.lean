-- printed by wip/pp/pp.py
import Derived.Test.YtfamgmnlflgblaaRf0
import Derived.Test.YtfamgmnlflgblaaRf16
namespace Go.Proofs.Ytfamgmnlflgblaa.Rf
open Go.RowKit Go.Proofs.YtfamgmnlflgblaaW.PrintWords Go.Proofs.YtfamgmnlflgblaaW.PrintLast Go.Proofs.YtfamgmnlflgblaaW.PrintMore
attribute [local go_sem] max2_int min2_int max_two min_two max_three min_three max_four min_four   -- for this text's walks alone
set_option linter.unusedVariables false
set_option linter.unusedSimpArgs false

/-! ### laws_heldBlockS: function 11 -/
def laws_heldBlockS.l0 : Nat → List (S45) → Int → Int → Option (Int)
  | 0, _, _, _ => none
  | k + 1, x0, x1, x5 => if x5 < (x0.length : Int) then (if 0 ≤ x5 then ((laws_heldPageS.f k ((rd_T45 x0 x5).f0) x1).bind fun t241 => (if t241 < 0 then (some (-1)) else (if ((rd_T45 x0 x5).f1) = t241 then (laws_heldBlockS.l0 k x0 (wrap64 (t241 + 1)) (wrap64 (x5 + 1))) else (some (-1))))) else (none)) else (some x1)
def laws_heldBlockS.f (k : Nat) (l0 : List (S45)) (a1 : Int) : Option (Int) := laws_heldBlockS.l0 k l0 a1 0
theorem laws_heldBlockS.mono_l : ∀ k, (∀ y0 y1 y2, LeO (laws_heldBlockS.l0 k y0 y1 y2) (laws_heldBlockS.l0 (k + 1) y0 y1 y2))
  | 0 => fun _ _ _ r h => by simp [laws_heldBlockS.l0] at h
  | k + 1 => by
    have ih0 := laws_heldBlockS.mono_l k
    · intro y0 y1 y2
      unfold laws_heldBlockS.l0
      repeat' first
      | (with_reducible exact ih0 _ _ _)
      | (with_reducible exact laws_heldPageS.mono _ _ _)
      | (with_reducible exact LeO.refl _)
      | (with_reducible exact LeO.none _)
      | (with_reducible refine LeO.ite ?_ ?_)
      | (with_reducible refine LeO.bind ?_ (fun _ => ?_))
      | exact ih0 _ _ _
      | exact laws_heldPageS.mono _ _ _
      | exact LeO.none _
      | refine LeO.ite ?_ ?_
      | refine LeO.bind ?_ (fun _ => ?_)
theorem laws_heldBlockS.mono : ∀ a0 a1 k, LeO (laws_heldBlockS.f k a0 a1) (laws_heldBlockS.f (k + 1) a0 a1) := by
  intro a0 a1 k
  have ih0 := laws_heldBlockS.mono_l k
  unfold laws_heldBlockS.f
  repeat' first
      | (with_reducible exact ih0 _ _ _)
      | (with_reducible exact laws_heldPageS.mono _ _ _)
      | (with_reducible exact LeO.refl _)
      | (with_reducible exact LeO.none _)
      | (with_reducible refine LeO.ite ?_ ?_)
      | (with_reducible refine LeO.bind ?_ (fun _ => ?_))
      | exact ih0 _ _ _
      | exact laws_heldPageS.mono _ _ _
      | exact LeO.none _
      | refine LeO.ite ?_ ?_
      | refine LeO.bind ?_ (fun _ => ?_)
set_option maxHeartbeats 8000000 in
set_option maxRecDepth 100000 in
theorem laws_heldBlockS.calls (k : Nat) (A0 : Option Addr) (c0 : Nat) (l0 : List (S45)) (a1 : Int) (r : Int) (w : World) (hr0 : Kd.C k45 w A0 l0.length l0) (hc0 : l0.length ≤ c0) (h : laws_heldBlockS.f k l0 a1 = some r) :
    Calls Try.prog 11 #[.slice A0 l0.length c0, .int .i64 a1] w fun e w' => e = .returned (.int .i64 r) ∧ Drawn0 w w' := by
  have HR0 := Aside0.mk hr0
  have HC0 := Aside0.mk hc0
  clear hr0 hc0
  have H : (laws_heldBlockS.l0 k l0 a1 0) = some r := h
  clear h
  have H' := Aside0.mk H
  clear H
  go_enter Try.func11, Try.ntmps11
  go_wp2
  go_loopg [1, 5] k (fun kq v1 v5 w' => ∃ (x1_1 : Int) (x5_1 : Int), v1 = .int .i64 x1_1 ∧ v5 = .int .i64 x5_1 ∧ Aside0 (laws_heldBlockS.l0 kq l0 x1_1 x5_1 = some r) ∧ Aside0 (kq ≤ k) ∧ Drawn0 w w')
  case atStart => exact ⟨(a1), (0), (by first | rfl | (simp; done) | (simp [*]; done)), (by first | rfl | (simp; done) | (simp [*]; done)), H', ⟨Nat.le_refl _⟩, by repeat (first | exact Drawn0.refl _ | apply Drawn0.step)⟩
  case round =>
    clear H'
    obtain ⟨x1_1, x5_1, rfl, rfl, HA, HK1, ⟨m1, rfl⟩⟩ := hrel
    cases gk with
    | zero => exact absurd HA.out (by simp [laws_heldBlockS.l0])
    | succ k1 =>
      have H := HA.out
      clear HA
      simp only [laws_heldBlockS.l0] at H
      by_cases c3 : x5_1 < (l0.length : Int)
      rotate_left
      · rw [if_neg c3] at H
        have c3b0 := decide_eq_false c3
        clear c3
        obtain rfl := Option.some.inj H
        go_wp2
        go_ret
        exact ⟨by first | rfl | (simp; done) | (simp [*]; done), by repeat (first | exact Drawn0.refl _ | apply Drawn0.step)⟩
      rw [if_pos c3] at H
      have c3b0 := decide_eq_true c3
      clear c3
      by_cases c4 : 0 ≤ x5_1
      rotate_left
      · rw [if_neg c4] at H
        exact absurd H (by simp)
      rw [if_pos c4] at H
      have c4b0 := decide_eq_true c4
      clear c4
      replace H := Option.bind_eq_some_iff.mp H
      obtain ⟨t241, A50, H⟩ := H
      replace H : (if t241 < 0 then (some (-1)) else (if ((rd_T45 l0 x5_1).f1) = t241 then (laws_heldBlockS.l0 k1 l0 (wrap64 (t241 + 1)) (wrap64 (x5_1 + 1))) else (some (-1)))) = some r := H
      have A5 := Aside0.mk A50
      clear A50
      by_cases c6 : t241 < 0
      · rw [if_pos c6] at H
        have c6b0 := decide_eq_true c6
        clear c6
        obtain rfl := Option.some.inj H
        have p240 : 0 ≤ (x5_1 : Int) := ofb
        have q240 : x5_1 < (l0.length : Int) := ofb
        obtain ⟨ad240, A240_0, c240_0, e240, hx240_0, hx240_1, hl240_0, hi240_0⟩ := at_T45 HR0.out x5_1 p240 q240
        cases e240
        have HR240_0 := Aside0.mk hi240_0
        have HC240_0 := Aside0.mk hl240_0
        clear hi240_0 hl240_0
        replace p240 := eq_true p240
        replace q240 := eq_true q240
        go_wp2_with (first | ((with_reducible refine gate_callee (f := 27) rfl ?_); refine goesL_ (some 18) rfl rfl Try.func27 (by kernel_rfl) rfl #[.slice A240_0 ((rd_T45 l0 x5_1).f0).length c240_0, .int .i64 x1_1] rfl (by (try simp only [List.map_toArray, List.map_cons, List.map_nil]); first | done | rfl | (simp only [List.length_drop, List.length_take]; rfl)) ?_; (with_reducible refine (laws_heldPageS.calls k1 _ _ ((rd_T45 l0 x5_1).f0) x1_1 t241 _ ?side1 ?side2 A5.out).mono ?_); (case side1 => repeat (first | exact HR240_0.out | (with_reducible refine Kd.C_alloc ?_ _) | (with_reducible refine Kd.C_drewN ?_ _) | (with_reducible refine Kd.C_drew ?_))); (case side2 => exact HC240_0.out); rintro e w' ⟨rfl, ⟨nd, rfl⟩⟩; refine ⟨_, rfl, ?_⟩))
        go_ret
        exact ⟨by first | rfl | (simp; done) | (simp [*]; done), by repeat (first | exact Drawn0.refl _ | apply Drawn0.step)⟩
      rw [if_neg c6] at H
      have c6b0 := decide_eq_false c6
      clear c6
      by_cases c7 : ((rd_T45 l0 x5_1).f1) = t241
      rotate_left
      · rw [if_neg c7] at H
        have c7b0 : (((rd_T45 l0 x5_1).f1) == t241) = false := beq_eq_false_iff_ne.mpr c7
        have c7b1 : (((rd_T45 l0 x5_1).f1) != t241) = true := bne_iff_ne.mpr c7
        obtain rfl := Option.some.inj H
        have p240 : 0 ≤ (x5_1 : Int) := ofb
        have q240 : x5_1 < (l0.length : Int) := ofb
        obtain ⟨ad240, A240_0, c240_0, e240, hx240_0, hx240_1, hl240_0, hi240_0⟩ := at_T45 HR0.out x5_1 p240 q240
        cases e240
        have HR240_0 := Aside0.mk hi240_0
        have HC240_0 := Aside0.mk hl240_0
        clear hi240_0 hl240_0
        replace p240 := eq_true p240
        replace q240 := eq_true q240
        go_wp2_with (first | ((with_reducible refine gate_callee (f := 27) rfl ?_); refine goesL_ (some 18) rfl rfl Try.func27 (by kernel_rfl) rfl #[.slice A240_0 ((rd_T45 l0 x5_1).f0).length c240_0, .int .i64 x1_1] rfl (by (try simp only [List.map_toArray, List.map_cons, List.map_nil]); first | done | rfl | (simp only [List.length_drop, List.length_take]; rfl)) ?_; (with_reducible refine (laws_heldPageS.calls k1 _ _ ((rd_T45 l0 x5_1).f0) x1_1 t241 _ ?side1 ?side2 A5.out).mono ?_); (case side1 => repeat (first | exact HR240_0.out | (with_reducible refine Kd.C_alloc ?_ _) | (with_reducible refine Kd.C_drewN ?_ _) | (with_reducible refine Kd.C_drew ?_))); (case side2 => exact HC240_0.out); rintro e w' ⟨rfl, ⟨nd, rfl⟩⟩; refine ⟨_, rfl, ?_⟩; have p242 : 0 ≤ (x5_1 : Int) := ofb; have q242 : x5_1 < (l0.length : Int) := ofb; obtain ⟨ad242, A242_0, c242_0, e242, hx242_0, hx242_1, hl242_0, hi242_0⟩ := at_T45 HR0.out x5_1 p242 q242; obtain rfl : ad240 = ad242 := (by injection e242); have HR242_0 := Aside0.mk hi242_0; have HC242_0 := Aside0.mk hl242_0; clear hi242_0 hl242_0; replace p242 := eq_true p242; replace q242 := eq_true q242; have ea_ := Option.some.inj (hx240_0.symm.trans hx242_0); injection ea_ with ea_ en_ ec_; subst ea_; subst ec_; clear en_))
        go_ret
        exact ⟨by first | rfl | (simp; done) | (simp [*]; done), by repeat (first | exact Drawn0.refl _ | apply Drawn0.step)⟩
      rw [if_pos c7] at H
      have c7b0 : (((rd_T45 l0 x5_1).f1) == t241) = true := beq_iff_eq.mpr c7
      have c7b1 : (((rd_T45 l0 x5_1).f1) != t241) = false := bne_eq_false_iff_eq.mpr c7
      clear c7
      have H' := Aside0.mk H
      clear H
      have p240 : 0 ≤ (x5_1 : Int) := ofb
      have q240 : x5_1 < (l0.length : Int) := ofb
      obtain ⟨ad240, A240_0, c240_0, e240, hx240_0, hx240_1, hl240_0, hi240_0⟩ := at_T45 HR0.out x5_1 p240 q240
      cases e240
      have HR240_0 := Aside0.mk hi240_0
      have HC240_0 := Aside0.mk hl240_0
      clear hi240_0 hl240_0
      replace p240 := eq_true p240
      replace q240 := eq_true q240
      go_wp2_with (first | ((with_reducible refine gate_callee (f := 27) rfl ?_); refine goesL_ (some 18) rfl rfl Try.func27 (by kernel_rfl) rfl #[.slice A240_0 ((rd_T45 l0 x5_1).f0).length c240_0, .int .i64 x1_1] rfl (by (try simp only [List.map_toArray, List.map_cons, List.map_nil]); first | done | rfl | (simp only [List.length_drop, List.length_take]; rfl)) ?_; (with_reducible refine (laws_heldPageS.calls k1 _ _ ((rd_T45 l0 x5_1).f0) x1_1 t241 _ ?side1 ?side2 A5.out).mono ?_); (case side1 => repeat (first | exact HR240_0.out | (with_reducible refine Kd.C_alloc ?_ _) | (with_reducible refine Kd.C_drewN ?_ _) | (with_reducible refine Kd.C_drew ?_))); (case side2 => exact HC240_0.out); rintro e w' ⟨rfl, ⟨nd, rfl⟩⟩; refine ⟨_, rfl, ?_⟩; have p242 : 0 ≤ (x5_1 : Int) := ofb; have q242 : x5_1 < (l0.length : Int) := ofb; obtain ⟨ad242, A242_0, c242_0, e242, hx242_0, hx242_1, hl242_0, hi242_0⟩ := at_T45 HR0.out x5_1 p242 q242; obtain rfl : ad240 = ad242 := (by injection e242); have HR242_0 := Aside0.mk hi242_0; have HC242_0 := Aside0.mk hl242_0; clear hi242_0 hl242_0; replace p242 := eq_true p242; replace q242 := eq_true q242; have ea_ := Option.some.inj (hx240_0.symm.trans hx242_0); injection ea_ with ea_ en_ ec_; subst ea_; subst ec_; clear en_))
      go_roundg k1
      case measure => have := HK1.out; omega
      case rel => exact ⟨(wrap64 (t241 + 1)), (wrap64 (x5_1 + 1)), (by first | rfl | (simp; done) | (simp [*]; done)), (by first | rfl | (simp; done) | (simp [*]; done)), H', ⟨by have := HK1.out; omega⟩, by repeat (first | exact Drawn0.refl _ | apply Drawn0.step)⟩

/-! ### laws_FnExactFlashWrite: function 3 -/
def laws_FnExactFlashWrite.f (k : Nat) (_l0 : List S38) (_a1 _a2_0 _a2_1 _a2_2 _a2_3 : Int) (_a3 : Bool) : Option Bool := some true

end Go.Proofs.Ytfamgmnlflgblaa.Rf
