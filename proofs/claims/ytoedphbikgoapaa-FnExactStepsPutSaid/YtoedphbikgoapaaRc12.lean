-- printed by wip/pp/pp.py
import Derived.Test.YtoedphbikgoapaaRc0
namespace Go.Proofs.Ytoedphbikgoapaa.Rc
open Go.RowKit Go.Proofs.YtoedphbikgoapaaW.PrintWords Go.Proofs.YtoedphbikgoapaaW.PrintLast Go.Proofs.YtoedphbikgoapaaW.PrintMore
attribute [local go_sem] max2_int min2_int max_two min_two max_three min_three max_four min_four
set_option linter.unusedVariables false
set_option linter.unusedSimpArgs false
def laws_markStepS.l0 : Nat → List (S85) → Int → Int → Option (Int × (List (S85)))
 | 0, _, _, _ => none
 | k + 1, x0, x1, x5 => if x5 < (x0.length : Int) then (if 0 ≤ x5 then ((some (x0.set (x5 : Int).toNat (⟨x1, (rd_T85 x0 x5).f1, (rd_T85 x0 x5).f2, (rd_T85 x0 x5).f3, (⟨(rd_T85 x0 x5).f4.f0, (rd_T85 x0 x5).f4.f1, (rd_T85 x0 x5).f4.f2, (rd_T85 x0 x5).f4.f3⟩ : S30)⟩ : S85) : List (S85))).bind fun y343 => ((some (y343.set (x5 : Int).toNat (⟨(rd_T85 y343 x5).f0, wrap64 (x1 + 1), (rd_T85 y343 x5).f2, (rd_T85 y343 x5).f3, (⟨(rd_T85 y343 x5).f4.f0, (rd_T85 y343 x5).f4.f1, (rd_T85 y343 x5).f4.f2, (rd_T85 y343 x5).f4.f3⟩ : S30)⟩ : S85) : List (S85))).bind fun y344 => ((some (y344.set (x5 : Int).toNat (⟨(rd_T85 y344 x5).f0, (rd_T85 y344 x5).f1, wrap64 ((wrap64 (x1 + 1)) + 1), (rd_T85 y344 x5).f3, (⟨(rd_T85 y344 x5).f4.f0, (rd_T85 y344 x5).f4.f1, (rd_T85 y344 x5).f4.f2, (rd_T85 y344 x5).f4.f3⟩ : S30)⟩ : S85) : List (S85))).bind fun y345 => ((some (y345.set (x5 : Int).toNat (⟨(rd_T85 y345 x5).f0, (rd_T85 y345 x5).f1, (rd_T85 y345 x5).f2, wrap64 ((wrap64 ((wrap64 (x1 + 1)) + 1)) + 1), (⟨(rd_T85 y345 x5).f4.f0, (rd_T85 y345 x5).f4.f1, (rd_T85 y345 x5).f4.f2, (rd_T85 y345 x5).f4.f3⟩ : S30)⟩ : S85) : List (S85))).bind fun y346 => ((some (y346.set (x5 : Int).toNat (⟨(rd_T85 y346 x5).f0, (rd_T85 y346 x5).f1, (rd_T85 y346 x5).f2, (rd_T85 y346 x5).f3, (⟨wrap64 ((wrap64 ((wrap64 ((wrap64 (x1 + 1)) + 1)) + 1)) + 1), (rd_T85 y346 x5).f4.f1, (rd_T85 y346 x5).f4.f2, (rd_T85 y346 x5).f4.f3⟩ : S30)⟩ : S85) : List (S85))).bind fun y347 => ((some (y347.set (x5 : Int).toNat (⟨(rd_T85 y347 x5).f0, (rd_T85 y347 x5).f1, (rd_T85 y347 x5).f2, (rd_T85 y347 x5).f3, (⟨(rd_T85 y347 x5).f4.f0, wrap64 ((wrap64 ((wrap64 ((wrap64 ((wrap64 (x1 + 1)) + 1)) + 1)) + 1)) + 1), (rd_T85 y347 x5).f4.f2, (rd_T85 y347 x5).f4.f3⟩ : S30)⟩ : S85) : List (S85))).bind fun y348 => ((some (y348.set (x5 : Int).toNat (⟨(rd_T85 y348 x5).f0, (rd_T85 y348 x5).f1, (rd_T85 y348 x5).f2, (rd_T85 y348 x5).f3, (⟨(rd_T85 y348 x5).f4.f0, (rd_T85 y348 x5).f4.f1, wrap64 ((wrap64 ((wrap64 ((wrap64 ((wrap64 ((wrap64 (x1 + 1)) + 1)) + 1)) + 1)) + 1)) + 1), (rd_T85 y348 x5).f4.f3⟩ : S30)⟩ : S85) : List (S85))).bind fun y349 => (laws_markStepS.l0 k (y349.set (x5 : Int).toNat (⟨(rd_T85 y349 x5).f0, (rd_T85 y349 x5).f1, (rd_T85 y349 x5).f2, (rd_T85 y349 x5).f3, (⟨(rd_T85 y349 x5).f4.f0, (rd_T85 y349 x5).f4.f1, (rd_T85 y349 x5).f4.f2, wrap64 ((wrap64 ((wrap64 ((wrap64 ((wrap64 ((wrap64 ((wrap64 (x1 + 1)) + 1)) + 1)) + 1)) + 1)) + 1)) + 1)⟩ : S30)⟩ : S85)) (wrap64 ((wrap64 ((wrap64 ((wrap64 ((wrap64 ((wrap64 ((wrap64 ((wrap64 (x1 + 1)) + 1)) + 1)) + 1)) + 1)) + 1)) + 1)) + 1)) (wrap64 (x5 + 1)))))))))) else (none)) else (some (x1, x0))
def laws_markStepS.f (k : Nat) (l0 : List (S85)) (a1 : Int) : Option (Int × (List (S85))) := laws_markStepS.l0 k l0 a1 0
theorem laws_markStepS.mono_l : ∀ k, (∀ y0 y1 y2, LeO (laws_markStepS.l0 k y0 y1 y2) (laws_markStepS.l0 (k + 1) y0 y1 y2))
 | 0 => fun _ _ _ r h => by simp [laws_markStepS.l0] at h
 | k + 1 => by
  have ih0 := laws_markStepS.mono_l k
  · intro y0 y1 y2
    unfold laws_markStepS.l0
    repeat' first
    | (with_reducible exact ih0 _ _ _)
    | (with_reducible exact LeO.refl _)
    | (with_reducible exact LeO.none _)
    | (with_reducible refine LeO.ite ?_ ?_)
    | (with_reducible refine LeO.bind ?_ (fun _ => ?_))
    | exact ih0 _ _ _
    | exact LeO.none _
    | refine LeO.ite ?_ ?_
    | refine LeO.bind ?_ (fun _ => ?_)
theorem laws_markStepS.mono : ∀ a0 a1 k, LeO (laws_markStepS.f k a0 a1) (laws_markStepS.f (k + 1) a0 a1) := by
 intro a0 a1 k
 have ih0 := laws_markStepS.mono_l k
 unfold laws_markStepS.f
 repeat' first
  | (with_reducible exact ih0 _ _ _)
  | (with_reducible exact LeO.refl _)
  | (with_reducible exact LeO.none _)
  | (with_reducible refine LeO.ite ?_ ?_)
  | (with_reducible refine LeO.bind ?_ (fun _ => ?_))
  | exact ih0 _ _ _
  | exact LeO.none _
  | refine LeO.ite ?_ ?_
  | refine LeO.bind ?_ (fun _ => ?_)
set_option maxHeartbeats 8000000 in
set_option maxRecDepth 100000 in
theorem laws_markStepS.calls (k : Nat) (P0_ : Nat → Prop) (u9000_ : Value) (l0 : List (S85)) (a1 : Int) (r1 : Int) (r2 : List (S85)) (w0 w : World) (hB : Below w0.heap.size w0 w) (ho0 : Kd.R k85 85 w w0.heap.size P0_ u9000_ l0) (h : laws_markStepS.f k l0 a1 = some (r1, r2)) :
 Calls Try.prog 31 #[u9000_, .int .i64 a1] w fun e w' => e = .returned (.int .i64 r1) ∧ Kd.R k85 85 w' w0.heap.size (fun k_ => (P0_ k_ ∨ w.heap.size ≤ k_)) u9000_ r2 ∧ Below w0.heap.size w0 w' ∧ Kept w w' (fun k_ => P0_ k_) := by
 have HO0 := am (show Kd.R k85 85 w w0.heap.size (fun k_ => (P0_ k_ ∨ w.heap.size ≤ k_)) u9000_ l0 from Kd.R_mono ho0 (fun k_ hk => (.inl hk)))
 have HK := am (Kept.refl w (fun k_ => P0_ k_))
 have HW0 := am hB.size
 have HB := am hB
 clear hB
 have H : (laws_markStepS.l0 k l0 a1 0) = some (r1, r2) := h
 clear h
 have H' := am H
 clear H
 go_enter Try.func31, Try.ntmps31
 go_wp2
 go_loopg [1, 5] k (fun kq v1 v5 w' => ∃ (x0_1 : List (S85)) (x1_1 : Int) (x5_1 : Int), v1 = .int .i64 x1_1 ∧ v5 = .int .i64 x5_1 ∧ Aside0 (laws_markStepS.l0 kq x0_1 x1_1 x5_1 = some (r1, r2)) ∧ Aside0 (kq ≤ k) ∧ Aside0 (Kd.R k85 85 w' w0.heap.size (fun k_ => (P0_ k_ ∨ w.heap.size ≤ k_)) u9000_ x0_1) ∧ Aside0 (Kept w w' (fun k_ => P0_ k_)) ∧ Aside0 (Below w0.heap.size w0 w'))
 case atStart => exact ⟨(l0), (a1), (0), rf, rf, H', ⟨Nat.le_refl _⟩, ⟨pr HO0.out⟩, ⟨pk HK.out⟩, ⟨ph HB.out⟩⟩
 case round =>
  clear H'
  obtain ⟨x0_1, x1_1, x5_1, rfl, rfl, HA, HK1, HO_0, HK, HB⟩ := hrel
  cases gk with
  | zero => exact absurd HA.out (by simp [laws_markStepS.l0])
  | succ k1 =>
   have H := HA.out
   clear HA
   simp only [laws_markStepS.l0] at H
   by_cases c3 : x5_1 < (x0_1.length : Int)
   rotate_left
   · rw [if_neg c3] at H
     have c3b0 := decide_eq_false c3
     clear c3
     simp only [Option.some.injEq, Prod.mk.injEq] at H
     obtain ⟨rfl, rfl⟩ := H
     obtain ⟨Ao30, co30, eo30⟩ := Kd.R_slice HO_0.out
     subst eo30
     go_wp2
     go_ret
     exact (rq ⟨pr HO_0.out, ph HB.out, pk HK.out⟩)
   rw [if_pos c3] at H
   have c3b0 := decide_eq_true c3
   clear c3
   by_cases c4 : 0 ≤ x5_1
   rotate_left
   · rw [if_neg c4] at H
     exact absurd H (by simp)
   rw [if_pos c4] at H
   have c4b0 := decide_eq_true c4
   clear c4
   obtain ⟨y343, hy343⟩ : ∃ y_ : List (S85), y_ = (x0_1.set (x5_1 : Int).toNat (⟨x1_1, (rd_T85 x0_1 x5_1).f1, (rd_T85 x0_1 x5_1).f2, (rd_T85 x0_1 x5_1).f3, (⟨(rd_T85 x0_1 x5_1).f4.f0, (rd_T85 x0_1 x5_1).f4.f1, (rd_T85 x0_1 x5_1).f4.f2, (rd_T85 x0_1 x5_1).f4.f3⟩ : S30)⟩ : S85)) := ⟨_, rfl⟩
   replace H : ((some (y343.set (x5_1 : Int).toNat (⟨(rd_T85 y343 x5_1).f0, wrap64 (x1_1 + 1), (rd_T85 y343 x5_1).f2, (rd_T85 y343 x5_1).f3, (⟨(rd_T85 y343 x5_1).f4.f0, (rd_T85 y343 x5_1).f4.f1, (rd_T85 y343 x5_1).f4.f2, (rd_T85 y343 x5_1).f4.f3⟩ : S30)⟩ : S85) : List (S85))).bind fun y344 => ((some (y344.set (x5_1 : Int).toNat (⟨(rd_T85 y344 x5_1).f0, (rd_T85 y344 x5_1).f1, wrap64 ((wrap64 (x1_1 + 1)) + 1), (rd_T85 y344 x5_1).f3, (⟨(rd_T85 y344 x5_1).f4.f0, (rd_T85 y344 x5_1).f4.f1, (rd_T85 y344 x5_1).f4.f2, (rd_T85 y344 x5_1).f4.f3⟩ : S30)⟩ : S85) : List (S85))).bind fun y345 => ((some (y345.set (x5_1 : Int).toNat (⟨(rd_T85 y345 x5_1).f0, (rd_T85 y345 x5_1).f1, (rd_T85 y345 x5_1).f2, wrap64 ((wrap64 ((wrap64 (x1_1 + 1)) + 1)) + 1), (⟨(rd_T85 y345 x5_1).f4.f0, (rd_T85 y345 x5_1).f4.f1, (rd_T85 y345 x5_1).f4.f2, (rd_T85 y345 x5_1).f4.f3⟩ : S30)⟩ : S85) : List (S85))).bind fun y346 => ((some (y346.set (x5_1 : Int).toNat (⟨(rd_T85 y346 x5_1).f0, (rd_T85 y346 x5_1).f1, (rd_T85 y346 x5_1).f2, (rd_T85 y346 x5_1).f3, (⟨wrap64 ((wrap64 ((wrap64 ((wrap64 (x1_1 + 1)) + 1)) + 1)) + 1), (rd_T85 y346 x5_1).f4.f1, (rd_T85 y346 x5_1).f4.f2, (rd_T85 y346 x5_1).f4.f3⟩ : S30)⟩ : S85) : List (S85))).bind fun y347 => ((some (y347.set (x5_1 : Int).toNat (⟨(rd_T85 y347 x5_1).f0, (rd_T85 y347 x5_1).f1, (rd_T85 y347 x5_1).f2, (rd_T85 y347 x5_1).f3, (⟨(rd_T85 y347 x5_1).f4.f0, wrap64 ((wrap64 ((wrap64 ((wrap64 ((wrap64 (x1_1 + 1)) + 1)) + 1)) + 1)) + 1), (rd_T85 y347 x5_1).f4.f2, (rd_T85 y347 x5_1).f4.f3⟩ : S30)⟩ : S85) : List (S85))).bind fun y348 => ((some (y348.set (x5_1 : Int).toNat (⟨(rd_T85 y348 x5_1).f0, (rd_T85 y348 x5_1).f1, (rd_T85 y348 x5_1).f2, (rd_T85 y348 x5_1).f3, (⟨(rd_T85 y348 x5_1).f4.f0, (rd_T85 y348 x5_1).f4.f1, wrap64 ((wrap64 ((wrap64 ((wrap64 ((wrap64 ((wrap64 (x1_1 + 1)) + 1)) + 1)) + 1)) + 1)) + 1), (rd_T85 y348 x5_1).f4.f3⟩ : S30)⟩ : S85) : List (S85))).bind fun y349 => (laws_markStepS.l0 k1 (y349.set (x5_1 : Int).toNat (⟨(rd_T85 y349 x5_1).f0, (rd_T85 y349 x5_1).f1, (rd_T85 y349 x5_1).f2, (rd_T85 y349 x5_1).f3, (⟨(rd_T85 y349 x5_1).f4.f0, (rd_T85 y349 x5_1).f4.f1, (rd_T85 y349 x5_1).f4.f2, wrap64 ((wrap64 ((wrap64 ((wrap64 ((wrap64 ((wrap64 ((wrap64 (x1_1 + 1)) + 1)) + 1)) + 1)) + 1)) + 1)) + 1)⟩ : S30)⟩ : S85)) (wrap64 ((wrap64 ((wrap64 ((wrap64 ((wrap64 ((wrap64 ((wrap64 ((wrap64 (x1_1 + 1)) + 1)) + 1)) + 1)) + 1)) + 1)) + 1)) + 1)) (wrap64 (x5_1 + 1))))))))) = some (r1, r2) := by first | (rw [hy343]; with_reducible exact H) | (have H2_ := (Option.bind_some _ _).symm.trans H; rw [hy343]; with_reducible exact H2_) | (have H2_ := (Option.bind_some _ _).symm.trans H; with_reducible exact H2_) | with_reducible exact H | (rw [hy343]; exact H) | exact H
   have Ny343 := am hy343
   clear hy343
   obtain ⟨y344, hy344⟩ : ∃ y_ : List (S85), y_ = (y343.set (x5_1 : Int).toNat (⟨(rd_T85 y343 x5_1).f0, wrap64 (x1_1 + 1), (rd_T85 y343 x5_1).f2, (rd_T85 y343 x5_1).f3, (⟨(rd_T85 y343 x5_1).f4.f0, (rd_T85 y343 x5_1).f4.f1, (rd_T85 y343 x5_1).f4.f2, (rd_T85 y343 x5_1).f4.f3⟩ : S30)⟩ : S85)) := ⟨_, rfl⟩
   replace H : ((some (y344.set (x5_1 : Int).toNat (⟨(rd_T85 y344 x5_1).f0, (rd_T85 y344 x5_1).f1, wrap64 ((wrap64 (x1_1 + 1)) + 1), (rd_T85 y344 x5_1).f3, (⟨(rd_T85 y344 x5_1).f4.f0, (rd_T85 y344 x5_1).f4.f1, (rd_T85 y344 x5_1).f4.f2, (rd_T85 y344 x5_1).f4.f3⟩ : S30)⟩ : S85) : List (S85))).bind fun y345 => ((some (y345.set (x5_1 : Int).toNat (⟨(rd_T85 y345 x5_1).f0, (rd_T85 y345 x5_1).f1, (rd_T85 y345 x5_1).f2, wrap64 ((wrap64 ((wrap64 (x1_1 + 1)) + 1)) + 1), (⟨(rd_T85 y345 x5_1).f4.f0, (rd_T85 y345 x5_1).f4.f1, (rd_T85 y345 x5_1).f4.f2, (rd_T85 y345 x5_1).f4.f3⟩ : S30)⟩ : S85) : List (S85))).bind fun y346 => ((some (y346.set (x5_1 : Int).toNat (⟨(rd_T85 y346 x5_1).f0, (rd_T85 y346 x5_1).f1, (rd_T85 y346 x5_1).f2, (rd_T85 y346 x5_1).f3, (⟨wrap64 ((wrap64 ((wrap64 ((wrap64 (x1_1 + 1)) + 1)) + 1)) + 1), (rd_T85 y346 x5_1).f4.f1, (rd_T85 y346 x5_1).f4.f2, (rd_T85 y346 x5_1).f4.f3⟩ : S30)⟩ : S85) : List (S85))).bind fun y347 => ((some (y347.set (x5_1 : Int).toNat (⟨(rd_T85 y347 x5_1).f0, (rd_T85 y347 x5_1).f1, (rd_T85 y347 x5_1).f2, (rd_T85 y347 x5_1).f3, (⟨(rd_T85 y347 x5_1).f4.f0, wrap64 ((wrap64 ((wrap64 ((wrap64 ((wrap64 (x1_1 + 1)) + 1)) + 1)) + 1)) + 1), (rd_T85 y347 x5_1).f4.f2, (rd_T85 y347 x5_1).f4.f3⟩ : S30)⟩ : S85) : List (S85))).bind fun y348 => ((some (y348.set (x5_1 : Int).toNat (⟨(rd_T85 y348 x5_1).f0, (rd_T85 y348 x5_1).f1, (rd_T85 y348 x5_1).f2, (rd_T85 y348 x5_1).f3, (⟨(rd_T85 y348 x5_1).f4.f0, (rd_T85 y348 x5_1).f4.f1, wrap64 ((wrap64 ((wrap64 ((wrap64 ((wrap64 ((wrap64 (x1_1 + 1)) + 1)) + 1)) + 1)) + 1)) + 1), (rd_T85 y348 x5_1).f4.f3⟩ : S30)⟩ : S85) : List (S85))).bind fun y349 => (laws_markStepS.l0 k1 (y349.set (x5_1 : Int).toNat (⟨(rd_T85 y349 x5_1).f0, (rd_T85 y349 x5_1).f1, (rd_T85 y349 x5_1).f2, (rd_T85 y349 x5_1).f3, (⟨(rd_T85 y349 x5_1).f4.f0, (rd_T85 y349 x5_1).f4.f1, (rd_T85 y349 x5_1).f4.f2, wrap64 ((wrap64 ((wrap64 ((wrap64 ((wrap64 ((wrap64 ((wrap64 (x1_1 + 1)) + 1)) + 1)) + 1)) + 1)) + 1)) + 1)⟩ : S30)⟩ : S85)) (wrap64 ((wrap64 ((wrap64 ((wrap64 ((wrap64 ((wrap64 ((wrap64 ((wrap64 (x1_1 + 1)) + 1)) + 1)) + 1)) + 1)) + 1)) + 1)) + 1)) (wrap64 (x5_1 + 1)))))))) = some (r1, r2) := by first | (rw [hy344]; with_reducible exact H) | (have H2_ := (Option.bind_some _ _).symm.trans H; rw [hy344]; with_reducible exact H2_) | (have H2_ := (Option.bind_some _ _).symm.trans H; with_reducible exact H2_) | with_reducible exact H | (rw [hy344]; exact H) | exact H
   have Ny344 := am hy344
   clear hy344
   obtain ⟨y345, hy345⟩ : ∃ y_ : List (S85), y_ = (y344.set (x5_1 : Int).toNat (⟨(rd_T85 y344 x5_1).f0, (rd_T85 y344 x5_1).f1, wrap64 ((wrap64 (x1_1 + 1)) + 1), (rd_T85 y344 x5_1).f3, (⟨(rd_T85 y344 x5_1).f4.f0, (rd_T85 y344 x5_1).f4.f1, (rd_T85 y344 x5_1).f4.f2, (rd_T85 y344 x5_1).f4.f3⟩ : S30)⟩ : S85)) := ⟨_, rfl⟩
   replace H : ((some (y345.set (x5_1 : Int).toNat (⟨(rd_T85 y345 x5_1).f0, (rd_T85 y345 x5_1).f1, (rd_T85 y345 x5_1).f2, wrap64 ((wrap64 ((wrap64 (x1_1 + 1)) + 1)) + 1), (⟨(rd_T85 y345 x5_1).f4.f0, (rd_T85 y345 x5_1).f4.f1, (rd_T85 y345 x5_1).f4.f2, (rd_T85 y345 x5_1).f4.f3⟩ : S30)⟩ : S85) : List (S85))).bind fun y346 => ((some (y346.set (x5_1 : Int).toNat (⟨(rd_T85 y346 x5_1).f0, (rd_T85 y346 x5_1).f1, (rd_T85 y346 x5_1).f2, (rd_T85 y346 x5_1).f3, (⟨wrap64 ((wrap64 ((wrap64 ((wrap64 (x1_1 + 1)) + 1)) + 1)) + 1), (rd_T85 y346 x5_1).f4.f1, (rd_T85 y346 x5_1).f4.f2, (rd_T85 y346 x5_1).f4.f3⟩ : S30)⟩ : S85) : List (S85))).bind fun y347 => ((some (y347.set (x5_1 : Int).toNat (⟨(rd_T85 y347 x5_1).f0, (rd_T85 y347 x5_1).f1, (rd_T85 y347 x5_1).f2, (rd_T85 y347 x5_1).f3, (⟨(rd_T85 y347 x5_1).f4.f0, wrap64 ((wrap64 ((wrap64 ((wrap64 ((wrap64 (x1_1 + 1)) + 1)) + 1)) + 1)) + 1), (rd_T85 y347 x5_1).f4.f2, (rd_T85 y347 x5_1).f4.f3⟩ : S30)⟩ : S85) : List (S85))).bind fun y348 => ((some (y348.set (x5_1 : Int).toNat (⟨(rd_T85 y348 x5_1).f0, (rd_T85 y348 x5_1).f1, (rd_T85 y348 x5_1).f2, (rd_T85 y348 x5_1).f3, (⟨(rd_T85 y348 x5_1).f4.f0, (rd_T85 y348 x5_1).f4.f1, wrap64 ((wrap64 ((wrap64 ((wrap64 ((wrap64 ((wrap64 (x1_1 + 1)) + 1)) + 1)) + 1)) + 1)) + 1), (rd_T85 y348 x5_1).f4.f3⟩ : S30)⟩ : S85) : List (S85))).bind fun y349 => (laws_markStepS.l0 k1 (y349.set (x5_1 : Int).toNat (⟨(rd_T85 y349 x5_1).f0, (rd_T85 y349 x5_1).f1, (rd_T85 y349 x5_1).f2, (rd_T85 y349 x5_1).f3, (⟨(rd_T85 y349 x5_1).f4.f0, (rd_T85 y349 x5_1).f4.f1, (rd_T85 y349 x5_1).f4.f2, wrap64 ((wrap64 ((wrap64 ((wrap64 ((wrap64 ((wrap64 ((wrap64 (x1_1 + 1)) + 1)) + 1)) + 1)) + 1)) + 1)) + 1)⟩ : S30)⟩ : S85)) (wrap64 ((wrap64 ((wrap64 ((wrap64 ((wrap64 ((wrap64 ((wrap64 ((wrap64 (x1_1 + 1)) + 1)) + 1)) + 1)) + 1)) + 1)) + 1)) + 1)) (wrap64 (x5_1 + 1))))))) = some (r1, r2) := by first | (rw [hy345]; with_reducible exact H) | (have H2_ := (Option.bind_some _ _).symm.trans H; rw [hy345]; with_reducible exact H2_) | (have H2_ := (Option.bind_some _ _).symm.trans H; with_reducible exact H2_) | with_reducible exact H | (rw [hy345]; exact H) | exact H
   have Ny345 := am hy345
   clear hy345
   obtain ⟨y346, hy346⟩ : ∃ y_ : List (S85), y_ = (y345.set (x5_1 : Int).toNat (⟨(rd_T85 y345 x5_1).f0, (rd_T85 y345 x5_1).f1, (rd_T85 y345 x5_1).f2, wrap64 ((wrap64 ((wrap64 (x1_1 + 1)) + 1)) + 1), (⟨(rd_T85 y345 x5_1).f4.f0, (rd_T85 y345 x5_1).f4.f1, (rd_T85 y345 x5_1).f4.f2, (rd_T85 y345 x5_1).f4.f3⟩ : S30)⟩ : S85)) := ⟨_, rfl⟩
   replace H : ((some (y346.set (x5_1 : Int).toNat (⟨(rd_T85 y346 x5_1).f0, (rd_T85 y346 x5_1).f1, (rd_T85 y346 x5_1).f2, (rd_T85 y346 x5_1).f3, (⟨wrap64 ((wrap64 ((wrap64 ((wrap64 (x1_1 + 1)) + 1)) + 1)) + 1), (rd_T85 y346 x5_1).f4.f1, (rd_T85 y346 x5_1).f4.f2, (rd_T85 y346 x5_1).f4.f3⟩ : S30)⟩ : S85) : List (S85))).bind fun y347 => ((some (y347.set (x5_1 : Int).toNat (⟨(rd_T85 y347 x5_1).f0, (rd_T85 y347 x5_1).f1, (rd_T85 y347 x5_1).f2, (rd_T85 y347 x5_1).f3, (⟨(rd_T85 y347 x5_1).f4.f0, wrap64 ((wrap64 ((wrap64 ((wrap64 ((wrap64 (x1_1 + 1)) + 1)) + 1)) + 1)) + 1), (rd_T85 y347 x5_1).f4.f2, (rd_T85 y347 x5_1).f4.f3⟩ : S30)⟩ : S85) : List (S85))).bind fun y348 => ((some (y348.set (x5_1 : Int).toNat (⟨(rd_T85 y348 x5_1).f0, (rd_T85 y348 x5_1).f1, (rd_T85 y348 x5_1).f2, (rd_T85 y348 x5_1).f3, (⟨(rd_T85 y348 x5_1).f4.f0, (rd_T85 y348 x5_1).f4.f1, wrap64 ((wrap64 ((wrap64 ((wrap64 ((wrap64 ((wrap64 (x1_1 + 1)) + 1)) + 1)) + 1)) + 1)) + 1), (rd_T85 y348 x5_1).f4.f3⟩ : S30)⟩ : S85) : List (S85))).bind fun y349 => (laws_markStepS.l0 k1 (y349.set (x5_1 : Int).toNat (⟨(rd_T85 y349 x5_1).f0, (rd_T85 y349 x5_1).f1, (rd_T85 y349 x5_1).f2, (rd_T85 y349 x5_1).f3, (⟨(rd_T85 y349 x5_1).f4.f0, (rd_T85 y349 x5_1).f4.f1, (rd_T85 y349 x5_1).f4.f2, wrap64 ((wrap64 ((wrap64 ((wrap64 ((wrap64 ((wrap64 ((wrap64 (x1_1 + 1)) + 1)) + 1)) + 1)) + 1)) + 1)) + 1)⟩ : S30)⟩ : S85)) (wrap64 ((wrap64 ((wrap64 ((wrap64 ((wrap64 ((wrap64 ((wrap64 ((wrap64 (x1_1 + 1)) + 1)) + 1)) + 1)) + 1)) + 1)) + 1)) + 1)) (wrap64 (x5_1 + 1)))))) = some (r1, r2) := by first | (rw [hy346]; with_reducible exact H) | (have H2_ := (Option.bind_some _ _).symm.trans H; rw [hy346]; with_reducible exact H2_) | (have H2_ := (Option.bind_some _ _).symm.trans H; with_reducible exact H2_) | with_reducible exact H | (rw [hy346]; exact H) | exact H
   have Ny346 := am hy346
   clear hy346
   obtain ⟨y347, hy347⟩ : ∃ y_ : List (S85), y_ = (y346.set (x5_1 : Int).toNat (⟨(rd_T85 y346 x5_1).f0, (rd_T85 y346 x5_1).f1, (rd_T85 y346 x5_1).f2, (rd_T85 y346 x5_1).f3, (⟨wrap64 ((wrap64 ((wrap64 ((wrap64 (x1_1 + 1)) + 1)) + 1)) + 1), (rd_T85 y346 x5_1).f4.f1, (rd_T85 y346 x5_1).f4.f2, (rd_T85 y346 x5_1).f4.f3⟩ : S30)⟩ : S85)) := ⟨_, rfl⟩
   replace H : ((some (y347.set (x5_1 : Int).toNat (⟨(rd_T85 y347 x5_1).f0, (rd_T85 y347 x5_1).f1, (rd_T85 y347 x5_1).f2, (rd_T85 y347 x5_1).f3, (⟨(rd_T85 y347 x5_1).f4.f0, wrap64 ((wrap64 ((wrap64 ((wrap64 ((wrap64 (x1_1 + 1)) + 1)) + 1)) + 1)) + 1), (rd_T85 y347 x5_1).f4.f2, (rd_T85 y347 x5_1).f4.f3⟩ : S30)⟩ : S85) : List (S85))).bind fun y348 => ((some (y348.set (x5_1 : Int).toNat (⟨(rd_T85 y348 x5_1).f0, (rd_T85 y348 x5_1).f1, (rd_T85 y348 x5_1).f2, (rd_T85 y348 x5_1).f3, (⟨(rd_T85 y348 x5_1).f4.f0, (rd_T85 y348 x5_1).f4.f1, wrap64 ((wrap64 ((wrap64 ((wrap64 ((wrap64 ((wrap64 (x1_1 + 1)) + 1)) + 1)) + 1)) + 1)) + 1), (rd_T85 y348 x5_1).f4.f3⟩ : S30)⟩ : S85) : List (S85))).bind fun y349 => (laws_markStepS.l0 k1 (y349.set (x5_1 : Int).toNat (⟨(rd_T85 y349 x5_1).f0, (rd_T85 y349 x5_1).f1, (rd_T85 y349 x5_1).f2, (rd_T85 y349 x5_1).f3, (⟨(rd_T85 y349 x5_1).f4.f0, (rd_T85 y349 x5_1).f4.f1, (rd_T85 y349 x5_1).f4.f2, wrap64 ((wrap64 ((wrap64 ((wrap64 ((wrap64 ((wrap64 ((wrap64 (x1_1 + 1)) + 1)) + 1)) + 1)) + 1)) + 1)) + 1)⟩ : S30)⟩ : S85)) (wrap64 ((wrap64 ((wrap64 ((wrap64 ((wrap64 ((wrap64 ((wrap64 ((wrap64 (x1_1 + 1)) + 1)) + 1)) + 1)) + 1)) + 1)) + 1)) + 1)) (wrap64 (x5_1 + 1))))) = some (r1, r2) := by first | (rw [hy347]; with_reducible exact H) | (have H2_ := (Option.bind_some _ _).symm.trans H; rw [hy347]; with_reducible exact H2_) | (have H2_ := (Option.bind_some _ _).symm.trans H; with_reducible exact H2_) | with_reducible exact H | (rw [hy347]; exact H) | exact H
   have Ny347 := am hy347
   clear hy347
   obtain ⟨y348, hy348⟩ : ∃ y_ : List (S85), y_ = (y347.set (x5_1 : Int).toNat (⟨(rd_T85 y347 x5_1).f0, (rd_T85 y347 x5_1).f1, (rd_T85 y347 x5_1).f2, (rd_T85 y347 x5_1).f3, (⟨(rd_T85 y347 x5_1).f4.f0, wrap64 ((wrap64 ((wrap64 ((wrap64 ((wrap64 (x1_1 + 1)) + 1)) + 1)) + 1)) + 1), (rd_T85 y347 x5_1).f4.f2, (rd_T85 y347 x5_1).f4.f3⟩ : S30)⟩ : S85)) := ⟨_, rfl⟩
   replace H : ((some (y348.set (x5_1 : Int).toNat (⟨(rd_T85 y348 x5_1).f0, (rd_T85 y348 x5_1).f1, (rd_T85 y348 x5_1).f2, (rd_T85 y348 x5_1).f3, (⟨(rd_T85 y348 x5_1).f4.f0, (rd_T85 y348 x5_1).f4.f1, wrap64 ((wrap64 ((wrap64 ((wrap64 ((wrap64 ((wrap64 (x1_1 + 1)) + 1)) + 1)) + 1)) + 1)) + 1), (rd_T85 y348 x5_1).f4.f3⟩ : S30)⟩ : S85) : List (S85))).bind fun y349 => (laws_markStepS.l0 k1 (y349.set (x5_1 : Int).toNat (⟨(rd_T85 y349 x5_1).f0, (rd_T85 y349 x5_1).f1, (rd_T85 y349 x5_1).f2, (rd_T85 y349 x5_1).f3, (⟨(rd_T85 y349 x5_1).f4.f0, (rd_T85 y349 x5_1).f4.f1, (rd_T85 y349 x5_1).f4.f2, wrap64 ((wrap64 ((wrap64 ((wrap64 ((wrap64 ((wrap64 ((wrap64 (x1_1 + 1)) + 1)) + 1)) + 1)) + 1)) + 1)) + 1)⟩ : S30)⟩ : S85)) (wrap64 ((wrap64 ((wrap64 ((wrap64 ((wrap64 ((wrap64 ((wrap64 ((wrap64 (x1_1 + 1)) + 1)) + 1)) + 1)) + 1)) + 1)) + 1)) + 1)) (wrap64 (x5_1 + 1)))) = some (r1, r2) := by first | (rw [hy348]; with_reducible exact H) | (have H2_ := (Option.bind_some _ _).symm.trans H; rw [hy348]; with_reducible exact H2_) | (have H2_ := (Option.bind_some _ _).symm.trans H; with_reducible exact H2_) | with_reducible exact H | (rw [hy348]; exact H) | exact H
   have Ny348 := am hy348
   clear hy348
   obtain ⟨y349, hy349⟩ : ∃ y_ : List (S85), y_ = (y348.set (x5_1 : Int).toNat (⟨(rd_T85 y348 x5_1).f0, (rd_T85 y348 x5_1).f1, (rd_T85 y348 x5_1).f2, (rd_T85 y348 x5_1).f3, (⟨(rd_T85 y348 x5_1).f4.f0, (rd_T85 y348 x5_1).f4.f1, wrap64 ((wrap64 ((wrap64 ((wrap64 ((wrap64 ((wrap64 (x1_1 + 1)) + 1)) + 1)) + 1)) + 1)) + 1), (rd_T85 y348 x5_1).f4.f3⟩ : S30)⟩ : S85)) := ⟨_, rfl⟩
   replace H : (laws_markStepS.l0 k1 (y349.set (x5_1 : Int).toNat (⟨(rd_T85 y349 x5_1).f0, (rd_T85 y349 x5_1).f1, (rd_T85 y349 x5_1).f2, (rd_T85 y349 x5_1).f3, (⟨(rd_T85 y349 x5_1).f4.f0, (rd_T85 y349 x5_1).f4.f1, (rd_T85 y349 x5_1).f4.f2, wrap64 ((wrap64 ((wrap64 ((wrap64 ((wrap64 ((wrap64 ((wrap64 (x1_1 + 1)) + 1)) + 1)) + 1)) + 1)) + 1)) + 1)⟩ : S30)⟩ : S85)) (wrap64 ((wrap64 ((wrap64 ((wrap64 ((wrap64 ((wrap64 ((wrap64 ((wrap64 (x1_1 + 1)) + 1)) + 1)) + 1)) + 1)) + 1)) + 1)) + 1)) (wrap64 (x5_1 + 1))) = some (r1, r2) := by first | (rw [hy349]; with_reducible exact H) | (have H2_ := (Option.bind_some _ _).symm.trans H; rw [hy349]; with_reducible exact H2_) | (have H2_ := (Option.bind_some _ _).symm.trans H; with_reducible exact H2_) | with_reducible exact H | (rw [hy349]; exact H) | exact H
   have Ny349 := am hy349
   clear hy349
   obtain ⟨y350, hy350⟩ : ∃ y_ : List (S85), y_ = (y349.set (x5_1 : Int).toNat (⟨(rd_T85 y349 x5_1).f0, (rd_T85 y349 x5_1).f1, (rd_T85 y349 x5_1).f2, (rd_T85 y349 x5_1).f3, (⟨(rd_T85 y349 x5_1).f4.f0, (rd_T85 y349 x5_1).f4.f1, (rd_T85 y349 x5_1).f4.f2, wrap64 ((wrap64 ((wrap64 ((wrap64 ((wrap64 ((wrap64 ((wrap64 (x1_1 + 1)) + 1)) + 1)) + 1)) + 1)) + 1)) + 1)⟩ : S30)⟩ : S85)) := ⟨_, rfl⟩
   replace H : (laws_markStepS.l0 k1 y350 (wrap64 ((wrap64 ((wrap64 ((wrap64 ((wrap64 ((wrap64 ((wrap64 ((wrap64 (x1_1 + 1)) + 1)) + 1)) + 1)) + 1)) + 1)) + 1)) + 1)) (wrap64 (x5_1 + 1))) = some (r1, r2) := by first | (rw [hy350]; with_reducible exact H) | (have H2_ := (Option.bind_some _ _).symm.trans H; rw [hy350]; with_reducible exact H2_) | (have H2_ := (Option.bind_some _ _).symm.trans H; with_reducible exact H2_) | with_reducible exact H | (rw [hy350]; exact H) | exact H
   have Ny350 := am hy350
   clear hy350
   have H' := am H
   clear H
   obtain ⟨Ao13, co13, eo13⟩ := Kd.R_slice HO_0.out
   subst eo13
   have p5 : 0 ≤ (x5_1 : Int) := ofb
   have q5 : (x5_1 : Int) < ((x0_1.length : Int) : Int) := ofb
   obtain ⟨go5, co5, eo5, gb5, gl5, cl5, HG5⟩ := Kd.R_form HO_0.out (by omega)
   (first | cases eo5 | (injection eo5 with ea_ en_ ec_; (first | subst ea_ | (injection ea_ with ea_; subst ea_)); subst ec_; clear en_))
   have GB5 := am gb5
   have GG5 := am HG5
   clear gb5 gl5 HG5
   have HMgo5 := am (show (P0_ go5 ∨ w.heap.size ≤ go5) from (HO_0.out.1 _ rfl))
   obtain ⟨ce5, hcl5, hM5, hcc5, hfr5⟩ := Kd.R_elem HO_0.out z85 (x5_1 : Int) p5 q5
   obtain rfl := k85_openM hM5
   have hx5_0 : wr.cell? ⟨go5, (x5_1 : Int).toNat * 8, none⟩ = some (.int .i64 ((rd_T85 x0_1 x5_1).f0)) := hcc5 0 _ rfl
   have hx5_1 : wr.cell? ⟨go5, (x5_1 : Int).toNat * 8 + 1, none⟩ = some (.int .i64 ((rd_T85 x0_1 x5_1).f1)) := hcc5 1 _ rfl
   have hx5_2 : wr.cell? ⟨go5, (x5_1 : Int).toNat * 8 + 2, none⟩ = some (.int .i64 ((rd_T85 x0_1 x5_1).f2)) := hcc5 2 _ rfl
   have hx5_3 : wr.cell? ⟨go5, (x5_1 : Int).toNat * 8 + 3, none⟩ = some (.int .i64 ((rd_T85 x0_1 x5_1).f3)) := hcc5 3 _ rfl
   have hx5_4 : wr.cell? ⟨go5, (x5_1 : Int).toNat * 8 + 4, none⟩ = some (.int .i64 ((rd_T85 x0_1 x5_1).f4.f0)) := hcc5 4 _ rfl
   have hx5_5 : wr.cell? ⟨go5, (x5_1 : Int).toNat * 8 + 5, none⟩ = some (.int .i64 ((rd_T85 x0_1 x5_1).f4.f1)) := hcc5 5 _ rfl
   have hx5_6 : wr.cell? ⟨go5, (x5_1 : Int).toNat * 8 + 6, none⟩ = some (.int .i64 ((rd_T85 x0_1 x5_1).f4.f2)) := hcc5 6 _ rfl
   have hx5_7 : wr.cell? ⟨go5, (x5_1 : Int).toNat * 8 + 7, none⟩ = some (.int .i64 ((rd_T85 x0_1 x5_1).f4.f3)) := hcc5 7 _ rfl
   have hf5_0 : wr.frozen? ⟨go5, (x5_1 : Int).toNat * 8, none⟩ = false := hfr5 0
   have hf5_1 : wr.frozen? ⟨go5, (x5_1 : Int).toNat * 8 + 1, none⟩ = false := hfr5 1
   have hf5_2 : wr.frozen? ⟨go5, (x5_1 : Int).toNat * 8 + 2, none⟩ = false := hfr5 2
   have hf5_3 : wr.frozen? ⟨go5, (x5_1 : Int).toNat * 8 + 3, none⟩ = false := hfr5 3
   have hf5_4 : wr.frozen? ⟨go5, (x5_1 : Int).toNat * 8 + 4, none⟩ = false := hfr5 4
   have hf5_5 : wr.frozen? ⟨go5, (x5_1 : Int).toNat * 8 + 5, none⟩ = false := hfr5 5
   have hf5_6 : wr.frozen? ⟨go5, (x5_1 : Int).toNat * 8 + 6, none⟩ = false := hfr5 6
   have hf5_7 : wr.frozen? ⟨go5, (x5_1 : Int).toNat * 8 + 7, none⟩ = false := hfr5 7
   clear hcl5 hcc5 hfr5 hM5
   replace p5 := eq_true p5
   replace q5 := eq_true q5
   have HX14 := am (show Kd.R k85 85 wr w0.heap.size (fun k_ => (P0_ k_ ∨ w.heap.size ≤ k_)) (.slice (some ⟨go5, 0, none⟩) x0_1.length co13) x0_1 from (pr HO_0.out))
   obtain ⟨ce14, hcl14, hM14, hcc14, hfr14⟩ := Kd.R_elem HX14.out z85 (x5_1 : Int) (ofb) (by have h_ : (x5_1 : Int) < ((x0_1.length : Int) : Int) := ofb; first | exact h_ | (have e_ := (Kd.R_reads' HO_0.out).1; omega) | simpa using h_)
   obtain rfl := k85_openM hM14
   have HP14 := Kd.R_seg HX14.out (x5_1 : Int) (ofb) (by have h_ : (x5_1 : Int) < ((x0_1.length : Int) : Int) := ofb; first | exact h_ | (have e_ := (Kd.R_reads' HO_0.out).1; omega) | simpa using h_) (seg := [.int .i64 x1_1]) (j := 0) hcl14 hcc14 (show 1 ≤ 8 from by decide) (x' := (⟨x1_1, (rd_T85 x0_1 x5_1).f1, (rd_T85 x0_1 x5_1).f2, (rd_T85 x0_1 x5_1).f3, (⟨(rd_T85 x0_1 x5_1).f4.f0, (rd_T85 x0_1 x5_1).f4.f1, (rd_T85 x0_1 x5_1).f4.f2, (rd_T85 x0_1 x5_1).f4.f3⟩ : S30)⟩ : S85)) (k85_mkM _ _ _ (⟨x1_1, (rd_T85 x0_1 x5_1).f1, (rd_T85 x0_1 x5_1).f2, (rd_T85 x0_1 x5_1).f3, (⟨(rd_T85 x0_1 x5_1).f4.f0, (rd_T85 x0_1 x5_1).f4.f1, (rd_T85 x0_1 x5_1).f4.f2, (rd_T85 x0_1 x5_1).f4.f3⟩ : S30)⟩ : S85) ) (fun _ hk => hk)
   have hx14_0 := hcc14 0 _ rfl
   (try simp only [show (k85).sz = 8 from rfl, Nat.mul_one, Nat.add_zero] at hx14_0)
   have hf14_0 := hfr14 0
   (try simp only [show (k85).sz = 8 from rfl, Nat.mul_one, Nat.add_zero] at hf14_0)
   clear hcl14 hcc14 hfr14 hM14
   go_wp2_with (first | ((with_reducible refine gate_store (t := 3) (p := 16) rfl ?_); refine store_event (t := 3) (p := 16) (v := ?vo_w15) (w1 := (wr.setCell ⟨go5, (x5_1 : Int).toNat * 8, none⟩ (.int .i64 x1_1))) ?hg ?ho ?hn ?hr ?_; (case ho => rfl); (case hg => rfl); (case hn => rfl); (case hr => first | (go_simp; done) | (go_simp; rfl)); intro w15 hw; have hg : wr.grownBy w15 (some go5) := (by rw [hw]; exact HP14.2); have hp_ : Kd.R k85 85 w15 w0.heap.size (fun k_ => (P0_ k_ ∨ w.heap.size ≤ k_)) (.slice (some ⟨go5, 0, none⟩) x0_1.length co13) y343 := (by rw [hw, Ny343.out]; exact HP14.1); clear HP14; replace HB := am ((by rw [hw]; exact below_set (HB.out) GB5.out : Below w0.heap.size w0 w15)); replace HK := am (Kept.of_grown (S := (fun k_ => P0_ k_)) hg (pk HK.out) (fun k_ e_ => (HO_0.out.1 k_ e_))); replace HO_0 := am (hp_); clear hg hw hp_; have p6 : 0 ≤ (x5_1 : Int) := ofb; have q6 : (x5_1 : Int) < ((x0_1.length : Int) : Int) := ofb; obtain ⟨ce6, hcl6, hM6, hcc6, hfr6⟩ := Kd.R_elem HO_0.out z85 (x5_1 : Int) p6 q6; obtain rfl := k85_openM hM6; have hx6_0 : w15.cell? ⟨go5, (x5_1 : Int).toNat * 8, none⟩ = some (.int .i64 ((rd_T85 y343 x5_1).f0)) := hcc6 0 _ rfl; have hx6_1 : w15.cell? ⟨go5, (x5_1 : Int).toNat * 8 + 1, none⟩ = some (.int .i64 ((rd_T85 y343 x5_1).f1)) := hcc6 1 _ rfl; have hx6_2 : w15.cell? ⟨go5, (x5_1 : Int).toNat * 8 + 2, none⟩ = some (.int .i64 ((rd_T85 y343 x5_1).f2)) := hcc6 2 _ rfl; have hx6_3 : w15.cell? ⟨go5, (x5_1 : Int).toNat * 8 + 3, none⟩ = some (.int .i64 ((rd_T85 y343 x5_1).f3)) := hcc6 3 _ rfl; have hx6_4 : w15.cell? ⟨go5, (x5_1 : Int).toNat * 8 + 4, none⟩ = some (.int .i64 ((rd_T85 y343 x5_1).f4.f0)) := hcc6 4 _ rfl; have hx6_5 : w15.cell? ⟨go5, (x5_1 : Int).toNat * 8 + 5, none⟩ = some (.int .i64 ((rd_T85 y343 x5_1).f4.f1)) := hcc6 5 _ rfl; have hx6_6 : w15.cell? ⟨go5, (x5_1 : Int).toNat * 8 + 6, none⟩ = some (.int .i64 ((rd_T85 y343 x5_1).f4.f2)) := hcc6 6 _ rfl; have hx6_7 : w15.cell? ⟨go5, (x5_1 : Int).toNat * 8 + 7, none⟩ = some (.int .i64 ((rd_T85 y343 x5_1).f4.f3)) := hcc6 7 _ rfl; have hf6_0 : w15.frozen? ⟨go5, (x5_1 : Int).toNat * 8, none⟩ = false := hfr6 0; have hf6_1 : w15.frozen? ⟨go5, (x5_1 : Int).toNat * 8 + 1, none⟩ = false := hfr6 1; have hf6_2 : w15.frozen? ⟨go5, (x5_1 : Int).toNat * 8 + 2, none⟩ = false := hfr6 2; have hf6_3 : w15.frozen? ⟨go5, (x5_1 : Int).toNat * 8 + 3, none⟩ = false := hfr6 3; have hf6_4 : w15.frozen? ⟨go5, (x5_1 : Int).toNat * 8 + 4, none⟩ = false := hfr6 4; have hf6_5 : w15.frozen? ⟨go5, (x5_1 : Int).toNat * 8 + 5, none⟩ = false := hfr6 5; have hf6_6 : w15.frozen? ⟨go5, (x5_1 : Int).toNat * 8 + 6, none⟩ = false := hfr6 6; have hf6_7 : w15.frozen? ⟨go5, (x5_1 : Int).toNat * 8 + 7, none⟩ = false := hfr6 7; clear hcl6 hcc6 hfr6 hM6; replace p6 := eq_true p6; replace q6 := eq_true q6; have HX16 := am (show Kd.R k85 85 w15 w0.heap.size (fun k_ => (P0_ k_ ∨ w.heap.size ≤ k_)) (.slice (some ⟨go5, 0, none⟩) x0_1.length co13) y343 from (pr HO_0.out)); obtain ⟨ce16, hcl16, hM16, hcc16, hfr16⟩ := Kd.R_elem HX16.out z85 (x5_1 : Int) (ofb) (by have h_ : (x5_1 : Int) < ((x0_1.length : Int) : Int) := ofb; first | exact h_ | (have e_ := (Kd.R_reads' HO_0.out).1; omega) | simpa using h_); obtain rfl := k85_openM hM16; have HP16 := Kd.R_seg HX16.out (x5_1 : Int) (ofb) (by have h_ : (x5_1 : Int) < ((x0_1.length : Int) : Int) := ofb; first | exact h_ | (have e_ := (Kd.R_reads' HO_0.out).1; omega) | simpa using h_) (seg := [.int .i64 (wrap64 (x1_1 + 1))]) (j := 1) hcl16 hcc16 (show 2 ≤ 8 from by decide) (x' := (⟨(rd_T85 y343 x5_1).f0, wrap64 (x1_1 + 1), (rd_T85 y343 x5_1).f2, (rd_T85 y343 x5_1).f3, (⟨(rd_T85 y343 x5_1).f4.f0, (rd_T85 y343 x5_1).f4.f1, (rd_T85 y343 x5_1).f4.f2, (rd_T85 y343 x5_1).f4.f3⟩ : S30)⟩ : S85)) (k85_mkM _ _ _ (⟨(rd_T85 y343 x5_1).f0, wrap64 (x1_1 + 1), (rd_T85 y343 x5_1).f2, (rd_T85 y343 x5_1).f3, (⟨(rd_T85 y343 x5_1).f4.f0, (rd_T85 y343 x5_1).f4.f1, (rd_T85 y343 x5_1).f4.f2, (rd_T85 y343 x5_1).f4.f3⟩ : S30)⟩ : S85) ) (fun _ hk => hk); have hx16_1 := hcc16 1 _ rfl; (try simp only [show (k85).sz = 8 from rfl, Nat.mul_one, Nat.add_zero] at hx16_1); have hf16_1 := hfr16 1; (try simp only [show (k85).sz = 8 from rfl, Nat.mul_one, Nat.add_zero] at hf16_1); clear hcl16 hcc16 hfr16 hM16) | ((with_reducible refine gate_store (t := 3) (p := 23) rfl ?_); refine store_event (t := 3) (p := 23) (v := ?vo_w17) (w1 := (w15.setCell ⟨go5, (x5_1 : Int).toNat * 8 + 1, none⟩ (.int .i64 (wrap64 (x1_1 + 1))))) ?hg ?ho ?hn ?hr ?_; (case ho => rfl); (case hg => rfl); (case hn => rfl); (case hr => first | (go_simp; done) | (go_simp; rfl)); intro w17 hw; have hg : w15.grownBy w17 (some go5) := (by rw [hw]; exact HP16.2); have hp_ : Kd.R k85 85 w17 w0.heap.size (fun k_ => (P0_ k_ ∨ w.heap.size ≤ k_)) (.slice (some ⟨go5, 0, none⟩) x0_1.length co13) y344 := (by rw [hw, Ny344.out]; exact HP16.1); clear HP16; replace HB := am ((by rw [hw]; exact below_set (HB.out) GB5.out : Below w0.heap.size w0 w17)); replace HK := am (Kept.of_grown (S := (fun k_ => P0_ k_)) hg (pk HK.out) (fun k_ e_ => (HO_0.out.1 k_ e_))); replace HO_0 := am (hp_); clear hg hw hp_; have p7 : 0 ≤ (x5_1 : Int) := ofb; have q7 : (x5_1 : Int) < ((x0_1.length : Int) : Int) := ofb; obtain ⟨ce7, hcl7, hM7, hcc7, hfr7⟩ := Kd.R_elem HO_0.out z85 (x5_1 : Int) p7 q7; obtain rfl := k85_openM hM7; have hx7_0 : w17.cell? ⟨go5, (x5_1 : Int).toNat * 8, none⟩ = some (.int .i64 ((rd_T85 y344 x5_1).f0)) := hcc7 0 _ rfl; have hx7_1 : w17.cell? ⟨go5, (x5_1 : Int).toNat * 8 + 1, none⟩ = some (.int .i64 ((rd_T85 y344 x5_1).f1)) := hcc7 1 _ rfl; have hx7_2 : w17.cell? ⟨go5, (x5_1 : Int).toNat * 8 + 2, none⟩ = some (.int .i64 ((rd_T85 y344 x5_1).f2)) := hcc7 2 _ rfl; have hx7_3 : w17.cell? ⟨go5, (x5_1 : Int).toNat * 8 + 3, none⟩ = some (.int .i64 ((rd_T85 y344 x5_1).f3)) := hcc7 3 _ rfl; have hx7_4 : w17.cell? ⟨go5, (x5_1 : Int).toNat * 8 + 4, none⟩ = some (.int .i64 ((rd_T85 y344 x5_1).f4.f0)) := hcc7 4 _ rfl; have hx7_5 : w17.cell? ⟨go5, (x5_1 : Int).toNat * 8 + 5, none⟩ = some (.int .i64 ((rd_T85 y344 x5_1).f4.f1)) := hcc7 5 _ rfl; have hx7_6 : w17.cell? ⟨go5, (x5_1 : Int).toNat * 8 + 6, none⟩ = some (.int .i64 ((rd_T85 y344 x5_1).f4.f2)) := hcc7 6 _ rfl; have hx7_7 : w17.cell? ⟨go5, (x5_1 : Int).toNat * 8 + 7, none⟩ = some (.int .i64 ((rd_T85 y344 x5_1).f4.f3)) := hcc7 7 _ rfl; have hf7_0 : w17.frozen? ⟨go5, (x5_1 : Int).toNat * 8, none⟩ = false := hfr7 0; have hf7_1 : w17.frozen? ⟨go5, (x5_1 : Int).toNat * 8 + 1, none⟩ = false := hfr7 1; have hf7_2 : w17.frozen? ⟨go5, (x5_1 : Int).toNat * 8 + 2, none⟩ = false := hfr7 2; have hf7_3 : w17.frozen? ⟨go5, (x5_1 : Int).toNat * 8 + 3, none⟩ = false := hfr7 3; have hf7_4 : w17.frozen? ⟨go5, (x5_1 : Int).toNat * 8 + 4, none⟩ = false := hfr7 4; have hf7_5 : w17.frozen? ⟨go5, (x5_1 : Int).toNat * 8 + 5, none⟩ = false := hfr7 5; have hf7_6 : w17.frozen? ⟨go5, (x5_1 : Int).toNat * 8 + 6, none⟩ = false := hfr7 6; have hf7_7 : w17.frozen? ⟨go5, (x5_1 : Int).toNat * 8 + 7, none⟩ = false := hfr7 7; clear hcl7 hcc7 hfr7 hM7; replace p7 := eq_true p7; replace q7 := eq_true q7; have HX18 := am (show Kd.R k85 85 w17 w0.heap.size (fun k_ => (P0_ k_ ∨ w.heap.size ≤ k_)) (.slice (some ⟨go5, 0, none⟩) x0_1.length co13) y344 from (pr HO_0.out)); obtain ⟨ce18, hcl18, hM18, hcc18, hfr18⟩ := Kd.R_elem HX18.out z85 (x5_1 : Int) (ofb) (by have h_ : (x5_1 : Int) < ((x0_1.length : Int) : Int) := ofb; first | exact h_ | (have e_ := (Kd.R_reads' HO_0.out).1; omega) | simpa using h_); obtain rfl := k85_openM hM18; have HP18 := Kd.R_seg HX18.out (x5_1 : Int) (ofb) (by have h_ : (x5_1 : Int) < ((x0_1.length : Int) : Int) := ofb; first | exact h_ | (have e_ := (Kd.R_reads' HO_0.out).1; omega) | simpa using h_) (seg := [.int .i64 (wrap64 ((wrap64 (x1_1 + 1)) + 1))]) (j := 2) hcl18 hcc18 (show 3 ≤ 8 from by decide) (x' := (⟨(rd_T85 y344 x5_1).f0, (rd_T85 y344 x5_1).f1, wrap64 ((wrap64 (x1_1 + 1)) + 1), (rd_T85 y344 x5_1).f3, (⟨(rd_T85 y344 x5_1).f4.f0, (rd_T85 y344 x5_1).f4.f1, (rd_T85 y344 x5_1).f4.f2, (rd_T85 y344 x5_1).f4.f3⟩ : S30)⟩ : S85)) (k85_mkM _ _ _ (⟨(rd_T85 y344 x5_1).f0, (rd_T85 y344 x5_1).f1, wrap64 ((wrap64 (x1_1 + 1)) + 1), (rd_T85 y344 x5_1).f3, (⟨(rd_T85 y344 x5_1).f4.f0, (rd_T85 y344 x5_1).f4.f1, (rd_T85 y344 x5_1).f4.f2, (rd_T85 y344 x5_1).f4.f3⟩ : S30)⟩ : S85) ) (fun _ hk => hk); have hx18_2 := hcc18 2 _ rfl; (try simp only [show (k85).sz = 8 from rfl, Nat.mul_one, Nat.add_zero] at hx18_2); have hf18_2 := hfr18 2; (try simp only [show (k85).sz = 8 from rfl, Nat.mul_one, Nat.add_zero] at hf18_2); clear hcl18 hcc18 hfr18 hM18) | ((with_reducible refine gate_store (t := 3) (p := 30) rfl ?_); refine store_event (t := 3) (p := 30) (v := ?vo_w19) (w1 := (w17.setCell ⟨go5, (x5_1 : Int).toNat * 8 + 2, none⟩ (.int .i64 (wrap64 ((wrap64 (x1_1 + 1)) + 1))))) ?hg ?ho ?hn ?hr ?_; (case ho => rfl); (case hg => rfl); (case hn => rfl); (case hr => first | (go_simp; done) | (go_simp; rfl)); intro w19 hw; have hg : w17.grownBy w19 (some go5) := (by rw [hw]; exact HP18.2); have hp_ : Kd.R k85 85 w19 w0.heap.size (fun k_ => (P0_ k_ ∨ w.heap.size ≤ k_)) (.slice (some ⟨go5, 0, none⟩) x0_1.length co13) y345 := (by rw [hw, Ny345.out]; exact HP18.1); clear HP18; replace HB := am ((by rw [hw]; exact below_set (HB.out) GB5.out : Below w0.heap.size w0 w19)); replace HK := am (Kept.of_grown (S := (fun k_ => P0_ k_)) hg (pk HK.out) (fun k_ e_ => (HO_0.out.1 k_ e_))); replace HO_0 := am (hp_); clear hg hw hp_; have p8 : 0 ≤ (x5_1 : Int) := ofb; have q8 : (x5_1 : Int) < ((x0_1.length : Int) : Int) := ofb; obtain ⟨ce8, hcl8, hM8, hcc8, hfr8⟩ := Kd.R_elem HO_0.out z85 (x5_1 : Int) p8 q8; obtain rfl := k85_openM hM8; have hx8_0 : w19.cell? ⟨go5, (x5_1 : Int).toNat * 8, none⟩ = some (.int .i64 ((rd_T85 y345 x5_1).f0)) := hcc8 0 _ rfl; have hx8_1 : w19.cell? ⟨go5, (x5_1 : Int).toNat * 8 + 1, none⟩ = some (.int .i64 ((rd_T85 y345 x5_1).f1)) := hcc8 1 _ rfl; have hx8_2 : w19.cell? ⟨go5, (x5_1 : Int).toNat * 8 + 2, none⟩ = some (.int .i64 ((rd_T85 y345 x5_1).f2)) := hcc8 2 _ rfl; have hx8_3 : w19.cell? ⟨go5, (x5_1 : Int).toNat * 8 + 3, none⟩ = some (.int .i64 ((rd_T85 y345 x5_1).f3)) := hcc8 3 _ rfl; have hx8_4 : w19.cell? ⟨go5, (x5_1 : Int).toNat * 8 + 4, none⟩ = some (.int .i64 ((rd_T85 y345 x5_1).f4.f0)) := hcc8 4 _ rfl; have hx8_5 : w19.cell? ⟨go5, (x5_1 : Int).toNat * 8 + 5, none⟩ = some (.int .i64 ((rd_T85 y345 x5_1).f4.f1)) := hcc8 5 _ rfl; have hx8_6 : w19.cell? ⟨go5, (x5_1 : Int).toNat * 8 + 6, none⟩ = some (.int .i64 ((rd_T85 y345 x5_1).f4.f2)) := hcc8 6 _ rfl; have hx8_7 : w19.cell? ⟨go5, (x5_1 : Int).toNat * 8 + 7, none⟩ = some (.int .i64 ((rd_T85 y345 x5_1).f4.f3)) := hcc8 7 _ rfl; have hf8_0 : w19.frozen? ⟨go5, (x5_1 : Int).toNat * 8, none⟩ = false := hfr8 0; have hf8_1 : w19.frozen? ⟨go5, (x5_1 : Int).toNat * 8 + 1, none⟩ = false := hfr8 1; have hf8_2 : w19.frozen? ⟨go5, (x5_1 : Int).toNat * 8 + 2, none⟩ = false := hfr8 2; have hf8_3 : w19.frozen? ⟨go5, (x5_1 : Int).toNat * 8 + 3, none⟩ = false := hfr8 3; have hf8_4 : w19.frozen? ⟨go5, (x5_1 : Int).toNat * 8 + 4, none⟩ = false := hfr8 4; have hf8_5 : w19.frozen? ⟨go5, (x5_1 : Int).toNat * 8 + 5, none⟩ = false := hfr8 5; have hf8_6 : w19.frozen? ⟨go5, (x5_1 : Int).toNat * 8 + 6, none⟩ = false := hfr8 6; have hf8_7 : w19.frozen? ⟨go5, (x5_1 : Int).toNat * 8 + 7, none⟩ = false := hfr8 7; clear hcl8 hcc8 hfr8 hM8; replace p8 := eq_true p8; replace q8 := eq_true q8; have HX20 := am (show Kd.R k85 85 w19 w0.heap.size (fun k_ => (P0_ k_ ∨ w.heap.size ≤ k_)) (.slice (some ⟨go5, 0, none⟩) x0_1.length co13) y345 from (pr HO_0.out)); obtain ⟨ce20, hcl20, hM20, hcc20, hfr20⟩ := Kd.R_elem HX20.out z85 (x5_1 : Int) (ofb) (by have h_ : (x5_1 : Int) < ((x0_1.length : Int) : Int) := ofb; first | exact h_ | (have e_ := (Kd.R_reads' HO_0.out).1; omega) | simpa using h_); obtain rfl := k85_openM hM20; have HP20 := Kd.R_seg HX20.out (x5_1 : Int) (ofb) (by have h_ : (x5_1 : Int) < ((x0_1.length : Int) : Int) := ofb; first | exact h_ | (have e_ := (Kd.R_reads' HO_0.out).1; omega) | simpa using h_) (seg := [.int .i64 (wrap64 ((wrap64 ((wrap64 (x1_1 + 1)) + 1)) + 1))]) (j := 3) hcl20 hcc20 (show 4 ≤ 8 from by decide) (x' := (⟨(rd_T85 y345 x5_1).f0, (rd_T85 y345 x5_1).f1, (rd_T85 y345 x5_1).f2, wrap64 ((wrap64 ((wrap64 (x1_1 + 1)) + 1)) + 1), (⟨(rd_T85 y345 x5_1).f4.f0, (rd_T85 y345 x5_1).f4.f1, (rd_T85 y345 x5_1).f4.f2, (rd_T85 y345 x5_1).f4.f3⟩ : S30)⟩ : S85)) (k85_mkM _ _ _ (⟨(rd_T85 y345 x5_1).f0, (rd_T85 y345 x5_1).f1, (rd_T85 y345 x5_1).f2, wrap64 ((wrap64 ((wrap64 (x1_1 + 1)) + 1)) + 1), (⟨(rd_T85 y345 x5_1).f4.f0, (rd_T85 y345 x5_1).f4.f1, (rd_T85 y345 x5_1).f4.f2, (rd_T85 y345 x5_1).f4.f3⟩ : S30)⟩ : S85) ) (fun _ hk => hk); have hx20_3 := hcc20 3 _ rfl; (try simp only [show (k85).sz = 8 from rfl, Nat.mul_one, Nat.add_zero] at hx20_3); have hf20_3 := hfr20 3; (try simp only [show (k85).sz = 8 from rfl, Nat.mul_one, Nat.add_zero] at hf20_3); clear hcl20 hcc20 hfr20 hM20) | ((with_reducible refine gate_store (t := 3) (p := 37) rfl ?_); refine store_event (t := 3) (p := 37) (v := ?vo_w21) (w1 := (w19.setCell ⟨go5, (x5_1 : Int).toNat * 8 + 3, none⟩ (.int .i64 (wrap64 ((wrap64 ((wrap64 (x1_1 + 1)) + 1)) + 1))))) ?hg ?ho ?hn ?hr ?_; (case ho => rfl); (case hg => rfl); (case hn => rfl); (case hr => first | (go_simp; done) | (go_simp; rfl)); intro w21 hw; have hg : w19.grownBy w21 (some go5) := (by rw [hw]; exact HP20.2); have hp_ : Kd.R k85 85 w21 w0.heap.size (fun k_ => (P0_ k_ ∨ w.heap.size ≤ k_)) (.slice (some ⟨go5, 0, none⟩) x0_1.length co13) y346 := (by rw [hw, Ny346.out]; exact HP20.1); clear HP20; replace HB := am ((by rw [hw]; exact below_set (HB.out) GB5.out : Below w0.heap.size w0 w21)); replace HK := am (Kept.of_grown (S := (fun k_ => P0_ k_)) hg (pk HK.out) (fun k_ e_ => (HO_0.out.1 k_ e_))); replace HO_0 := am (hp_); clear hg hw hp_; have p9 : 0 ≤ (x5_1 : Int) := ofb; have q9 : (x5_1 : Int) < ((x0_1.length : Int) : Int) := ofb; obtain ⟨ce9, hcl9, hM9, hcc9, hfr9⟩ := Kd.R_elem HO_0.out z85 (x5_1 : Int) p9 q9; obtain rfl := k85_openM hM9; have hx9_0 : w21.cell? ⟨go5, (x5_1 : Int).toNat * 8, none⟩ = some (.int .i64 ((rd_T85 y346 x5_1).f0)) := hcc9 0 _ rfl; have hx9_1 : w21.cell? ⟨go5, (x5_1 : Int).toNat * 8 + 1, none⟩ = some (.int .i64 ((rd_T85 y346 x5_1).f1)) := hcc9 1 _ rfl; have hx9_2 : w21.cell? ⟨go5, (x5_1 : Int).toNat * 8 + 2, none⟩ = some (.int .i64 ((rd_T85 y346 x5_1).f2)) := hcc9 2 _ rfl; have hx9_3 : w21.cell? ⟨go5, (x5_1 : Int).toNat * 8 + 3, none⟩ = some (.int .i64 ((rd_T85 y346 x5_1).f3)) := hcc9 3 _ rfl; have hx9_4 : w21.cell? ⟨go5, (x5_1 : Int).toNat * 8 + 4, none⟩ = some (.int .i64 ((rd_T85 y346 x5_1).f4.f0)) := hcc9 4 _ rfl; have hx9_5 : w21.cell? ⟨go5, (x5_1 : Int).toNat * 8 + 5, none⟩ = some (.int .i64 ((rd_T85 y346 x5_1).f4.f1)) := hcc9 5 _ rfl; have hx9_6 : w21.cell? ⟨go5, (x5_1 : Int).toNat * 8 + 6, none⟩ = some (.int .i64 ((rd_T85 y346 x5_1).f4.f2)) := hcc9 6 _ rfl; have hx9_7 : w21.cell? ⟨go5, (x5_1 : Int).toNat * 8 + 7, none⟩ = some (.int .i64 ((rd_T85 y346 x5_1).f4.f3)) := hcc9 7 _ rfl; have hf9_0 : w21.frozen? ⟨go5, (x5_1 : Int).toNat * 8, none⟩ = false := hfr9 0; have hf9_1 : w21.frozen? ⟨go5, (x5_1 : Int).toNat * 8 + 1, none⟩ = false := hfr9 1; have hf9_2 : w21.frozen? ⟨go5, (x5_1 : Int).toNat * 8 + 2, none⟩ = false := hfr9 2; have hf9_3 : w21.frozen? ⟨go5, (x5_1 : Int).toNat * 8 + 3, none⟩ = false := hfr9 3; have hf9_4 : w21.frozen? ⟨go5, (x5_1 : Int).toNat * 8 + 4, none⟩ = false := hfr9 4; have hf9_5 : w21.frozen? ⟨go5, (x5_1 : Int).toNat * 8 + 5, none⟩ = false := hfr9 5; have hf9_6 : w21.frozen? ⟨go5, (x5_1 : Int).toNat * 8 + 6, none⟩ = false := hfr9 6; have hf9_7 : w21.frozen? ⟨go5, (x5_1 : Int).toNat * 8 + 7, none⟩ = false := hfr9 7; clear hcl9 hcc9 hfr9 hM9; replace p9 := eq_true p9; replace q9 := eq_true q9; have HX22 := am (show Kd.R k85 85 w21 w0.heap.size (fun k_ => (P0_ k_ ∨ w.heap.size ≤ k_)) (.slice (some ⟨go5, 0, none⟩) x0_1.length co13) y346 from (pr HO_0.out)); obtain ⟨ce22, hcl22, hM22, hcc22, hfr22⟩ := Kd.R_elem HX22.out z85 (x5_1 : Int) (ofb) (by have h_ : (x5_1 : Int) < ((x0_1.length : Int) : Int) := ofb; first | exact h_ | (have e_ := (Kd.R_reads' HO_0.out).1; omega) | simpa using h_); obtain rfl := k85_openM hM22; have HP22 := Kd.R_seg HX22.out (x5_1 : Int) (ofb) (by have h_ : (x5_1 : Int) < ((x0_1.length : Int) : Int) := ofb; first | exact h_ | (have e_ := (Kd.R_reads' HO_0.out).1; omega) | simpa using h_) (seg := [.int .i64 (wrap64 ((wrap64 ((wrap64 ((wrap64 (x1_1 + 1)) + 1)) + 1)) + 1))]) (j := 4) hcl22 hcc22 (show 5 ≤ 8 from by decide) (x' := (⟨(rd_T85 y346 x5_1).f0, (rd_T85 y346 x5_1).f1, (rd_T85 y346 x5_1).f2, (rd_T85 y346 x5_1).f3, (⟨wrap64 ((wrap64 ((wrap64 ((wrap64 (x1_1 + 1)) + 1)) + 1)) + 1), (rd_T85 y346 x5_1).f4.f1, (rd_T85 y346 x5_1).f4.f2, (rd_T85 y346 x5_1).f4.f3⟩ : S30)⟩ : S85)) (k85_mkM _ _ _ (⟨(rd_T85 y346 x5_1).f0, (rd_T85 y346 x5_1).f1, (rd_T85 y346 x5_1).f2, (rd_T85 y346 x5_1).f3, (⟨wrap64 ((wrap64 ((wrap64 ((wrap64 (x1_1 + 1)) + 1)) + 1)) + 1), (rd_T85 y346 x5_1).f4.f1, (rd_T85 y346 x5_1).f4.f2, (rd_T85 y346 x5_1).f4.f3⟩ : S30)⟩ : S85) ) (fun _ hk => hk); have hx22_4 := hcc22 4 _ rfl; (try simp only [show (k85).sz = 8 from rfl, Nat.mul_one, Nat.add_zero] at hx22_4); have hf22_4 := hfr22 4; (try simp only [show (k85).sz = 8 from rfl, Nat.mul_one, Nat.add_zero] at hf22_4); clear hcl22 hcc22 hfr22 hM22) | ((with_reducible refine gate_store (t := 3) (p := 45) rfl ?_); refine store_event (t := 3) (p := 45) (v := ?vo_w23) (w1 := (w21.setCell ⟨go5, (x5_1 : Int).toNat * 8 + 4, none⟩ (.int .i64 (wrap64 ((wrap64 ((wrap64 ((wrap64 (x1_1 + 1)) + 1)) + 1)) + 1))))) ?hg ?ho ?hn ?hr ?_; (case ho => rfl); (case hg => rfl); (case hn => rfl); (case hr => first | (go_simp; done) | (go_simp; rfl)); intro w23 hw; have hg : w21.grownBy w23 (some go5) := (by rw [hw]; exact HP22.2); have hp_ : Kd.R k85 85 w23 w0.heap.size (fun k_ => (P0_ k_ ∨ w.heap.size ≤ k_)) (.slice (some ⟨go5, 0, none⟩) x0_1.length co13) y347 := (by rw [hw, Ny347.out]; exact HP22.1); clear HP22; replace HB := am ((by rw [hw]; exact below_set (HB.out) GB5.out : Below w0.heap.size w0 w23)); replace HK := am (Kept.of_grown (S := (fun k_ => P0_ k_)) hg (pk HK.out) (fun k_ e_ => (HO_0.out.1 k_ e_))); replace HO_0 := am (hp_); clear hg hw hp_; have p10 : 0 ≤ (x5_1 : Int) := ofb; have q10 : (x5_1 : Int) < ((x0_1.length : Int) : Int) := ofb; obtain ⟨ce10, hcl10, hM10, hcc10, hfr10⟩ := Kd.R_elem HO_0.out z85 (x5_1 : Int) p10 q10; obtain rfl := k85_openM hM10; have hx10_0 : w23.cell? ⟨go5, (x5_1 : Int).toNat * 8, none⟩ = some (.int .i64 ((rd_T85 y347 x5_1).f0)) := hcc10 0 _ rfl; have hx10_1 : w23.cell? ⟨go5, (x5_1 : Int).toNat * 8 + 1, none⟩ = some (.int .i64 ((rd_T85 y347 x5_1).f1)) := hcc10 1 _ rfl; have hx10_2 : w23.cell? ⟨go5, (x5_1 : Int).toNat * 8 + 2, none⟩ = some (.int .i64 ((rd_T85 y347 x5_1).f2)) := hcc10 2 _ rfl; have hx10_3 : w23.cell? ⟨go5, (x5_1 : Int).toNat * 8 + 3, none⟩ = some (.int .i64 ((rd_T85 y347 x5_1).f3)) := hcc10 3 _ rfl; have hx10_4 : w23.cell? ⟨go5, (x5_1 : Int).toNat * 8 + 4, none⟩ = some (.int .i64 ((rd_T85 y347 x5_1).f4.f0)) := hcc10 4 _ rfl; have hx10_5 : w23.cell? ⟨go5, (x5_1 : Int).toNat * 8 + 5, none⟩ = some (.int .i64 ((rd_T85 y347 x5_1).f4.f1)) := hcc10 5 _ rfl; have hx10_6 : w23.cell? ⟨go5, (x5_1 : Int).toNat * 8 + 6, none⟩ = some (.int .i64 ((rd_T85 y347 x5_1).f4.f2)) := hcc10 6 _ rfl; have hx10_7 : w23.cell? ⟨go5, (x5_1 : Int).toNat * 8 + 7, none⟩ = some (.int .i64 ((rd_T85 y347 x5_1).f4.f3)) := hcc10 7 _ rfl; have hf10_0 : w23.frozen? ⟨go5, (x5_1 : Int).toNat * 8, none⟩ = false := hfr10 0; have hf10_1 : w23.frozen? ⟨go5, (x5_1 : Int).toNat * 8 + 1, none⟩ = false := hfr10 1; have hf10_2 : w23.frozen? ⟨go5, (x5_1 : Int).toNat * 8 + 2, none⟩ = false := hfr10 2; have hf10_3 : w23.frozen? ⟨go5, (x5_1 : Int).toNat * 8 + 3, none⟩ = false := hfr10 3; have hf10_4 : w23.frozen? ⟨go5, (x5_1 : Int).toNat * 8 + 4, none⟩ = false := hfr10 4; have hf10_5 : w23.frozen? ⟨go5, (x5_1 : Int).toNat * 8 + 5, none⟩ = false := hfr10 5; have hf10_6 : w23.frozen? ⟨go5, (x5_1 : Int).toNat * 8 + 6, none⟩ = false := hfr10 6; have hf10_7 : w23.frozen? ⟨go5, (x5_1 : Int).toNat * 8 + 7, none⟩ = false := hfr10 7; clear hcl10 hcc10 hfr10 hM10; replace p10 := eq_true p10; replace q10 := eq_true q10; have HX24 := am (show Kd.R k85 85 w23 w0.heap.size (fun k_ => (P0_ k_ ∨ w.heap.size ≤ k_)) (.slice (some ⟨go5, 0, none⟩) x0_1.length co13) y347 from (pr HO_0.out)); obtain ⟨ce24, hcl24, hM24, hcc24, hfr24⟩ := Kd.R_elem HX24.out z85 (x5_1 : Int) (ofb) (by have h_ : (x5_1 : Int) < ((x0_1.length : Int) : Int) := ofb; first | exact h_ | (have e_ := (Kd.R_reads' HO_0.out).1; omega) | simpa using h_); obtain rfl := k85_openM hM24; have HP24 := Kd.R_seg HX24.out (x5_1 : Int) (ofb) (by have h_ : (x5_1 : Int) < ((x0_1.length : Int) : Int) := ofb; first | exact h_ | (have e_ := (Kd.R_reads' HO_0.out).1; omega) | simpa using h_) (seg := [.int .i64 (wrap64 ((wrap64 ((wrap64 ((wrap64 ((wrap64 (x1_1 + 1)) + 1)) + 1)) + 1)) + 1))]) (j := 5) hcl24 hcc24 (show 6 ≤ 8 from by decide) (x' := (⟨(rd_T85 y347 x5_1).f0, (rd_T85 y347 x5_1).f1, (rd_T85 y347 x5_1).f2, (rd_T85 y347 x5_1).f3, (⟨(rd_T85 y347 x5_1).f4.f0, wrap64 ((wrap64 ((wrap64 ((wrap64 ((wrap64 (x1_1 + 1)) + 1)) + 1)) + 1)) + 1), (rd_T85 y347 x5_1).f4.f2, (rd_T85 y347 x5_1).f4.f3⟩ : S30)⟩ : S85)) (k85_mkM _ _ _ (⟨(rd_T85 y347 x5_1).f0, (rd_T85 y347 x5_1).f1, (rd_T85 y347 x5_1).f2, (rd_T85 y347 x5_1).f3, (⟨(rd_T85 y347 x5_1).f4.f0, wrap64 ((wrap64 ((wrap64 ((wrap64 ((wrap64 (x1_1 + 1)) + 1)) + 1)) + 1)) + 1), (rd_T85 y347 x5_1).f4.f2, (rd_T85 y347 x5_1).f4.f3⟩ : S30)⟩ : S85) ) (fun _ hk => hk); have hx24_5 := hcc24 5 _ rfl; (try simp only [show (k85).sz = 8 from rfl, Nat.mul_one, Nat.add_zero] at hx24_5); have hf24_5 := hfr24 5; (try simp only [show (k85).sz = 8 from rfl, Nat.mul_one, Nat.add_zero] at hf24_5); clear hcl24 hcc24 hfr24 hM24) | ((with_reducible refine gate_store (t := 3) (p := 53) rfl ?_); refine store_event (t := 3) (p := 53) (v := ?vo_w25) (w1 := (w23.setCell ⟨go5, (x5_1 : Int).toNat * 8 + 5, none⟩ (.int .i64 (wrap64 ((wrap64 ((wrap64 ((wrap64 ((wrap64 (x1_1 + 1)) + 1)) + 1)) + 1)) + 1))))) ?hg ?ho ?hn ?hr ?_; (case ho => rfl); (case hg => rfl); (case hn => rfl); (case hr => first | (go_simp; done) | (go_simp; rfl)); intro w25 hw; have hg : w23.grownBy w25 (some go5) := (by rw [hw]; exact HP24.2); have hp_ : Kd.R k85 85 w25 w0.heap.size (fun k_ => (P0_ k_ ∨ w.heap.size ≤ k_)) (.slice (some ⟨go5, 0, none⟩) x0_1.length co13) y348 := (by rw [hw, Ny348.out]; exact HP24.1); clear HP24; replace HB := am ((by rw [hw]; exact below_set (HB.out) GB5.out : Below w0.heap.size w0 w25)); replace HK := am (Kept.of_grown (S := (fun k_ => P0_ k_)) hg (pk HK.out) (fun k_ e_ => (HO_0.out.1 k_ e_))); replace HO_0 := am (hp_); clear hg hw hp_; have p11 : 0 ≤ (x5_1 : Int) := ofb; have q11 : (x5_1 : Int) < ((x0_1.length : Int) : Int) := ofb; obtain ⟨ce11, hcl11, hM11, hcc11, hfr11⟩ := Kd.R_elem HO_0.out z85 (x5_1 : Int) p11 q11; obtain rfl := k85_openM hM11; have hx11_0 : w25.cell? ⟨go5, (x5_1 : Int).toNat * 8, none⟩ = some (.int .i64 ((rd_T85 y348 x5_1).f0)) := hcc11 0 _ rfl; have hx11_1 : w25.cell? ⟨go5, (x5_1 : Int).toNat * 8 + 1, none⟩ = some (.int .i64 ((rd_T85 y348 x5_1).f1)) := hcc11 1 _ rfl; have hx11_2 : w25.cell? ⟨go5, (x5_1 : Int).toNat * 8 + 2, none⟩ = some (.int .i64 ((rd_T85 y348 x5_1).f2)) := hcc11 2 _ rfl; have hx11_3 : w25.cell? ⟨go5, (x5_1 : Int).toNat * 8 + 3, none⟩ = some (.int .i64 ((rd_T85 y348 x5_1).f3)) := hcc11 3 _ rfl; have hx11_4 : w25.cell? ⟨go5, (x5_1 : Int).toNat * 8 + 4, none⟩ = some (.int .i64 ((rd_T85 y348 x5_1).f4.f0)) := hcc11 4 _ rfl; have hx11_5 : w25.cell? ⟨go5, (x5_1 : Int).toNat * 8 + 5, none⟩ = some (.int .i64 ((rd_T85 y348 x5_1).f4.f1)) := hcc11 5 _ rfl; have hx11_6 : w25.cell? ⟨go5, (x5_1 : Int).toNat * 8 + 6, none⟩ = some (.int .i64 ((rd_T85 y348 x5_1).f4.f2)) := hcc11 6 _ rfl; have hx11_7 : w25.cell? ⟨go5, (x5_1 : Int).toNat * 8 + 7, none⟩ = some (.int .i64 ((rd_T85 y348 x5_1).f4.f3)) := hcc11 7 _ rfl; have hf11_0 : w25.frozen? ⟨go5, (x5_1 : Int).toNat * 8, none⟩ = false := hfr11 0; have hf11_1 : w25.frozen? ⟨go5, (x5_1 : Int).toNat * 8 + 1, none⟩ = false := hfr11 1; have hf11_2 : w25.frozen? ⟨go5, (x5_1 : Int).toNat * 8 + 2, none⟩ = false := hfr11 2; have hf11_3 : w25.frozen? ⟨go5, (x5_1 : Int).toNat * 8 + 3, none⟩ = false := hfr11 3; have hf11_4 : w25.frozen? ⟨go5, (x5_1 : Int).toNat * 8 + 4, none⟩ = false := hfr11 4; have hf11_5 : w25.frozen? ⟨go5, (x5_1 : Int).toNat * 8 + 5, none⟩ = false := hfr11 5; have hf11_6 : w25.frozen? ⟨go5, (x5_1 : Int).toNat * 8 + 6, none⟩ = false := hfr11 6; have hf11_7 : w25.frozen? ⟨go5, (x5_1 : Int).toNat * 8 + 7, none⟩ = false := hfr11 7; clear hcl11 hcc11 hfr11 hM11; replace p11 := eq_true p11; replace q11 := eq_true q11; have HX26 := am (show Kd.R k85 85 w25 w0.heap.size (fun k_ => (P0_ k_ ∨ w.heap.size ≤ k_)) (.slice (some ⟨go5, 0, none⟩) x0_1.length co13) y348 from (pr HO_0.out)); obtain ⟨ce26, hcl26, hM26, hcc26, hfr26⟩ := Kd.R_elem HX26.out z85 (x5_1 : Int) (ofb) (by have h_ : (x5_1 : Int) < ((x0_1.length : Int) : Int) := ofb; first | exact h_ | (have e_ := (Kd.R_reads' HO_0.out).1; omega) | simpa using h_); obtain rfl := k85_openM hM26; have HP26 := Kd.R_seg HX26.out (x5_1 : Int) (ofb) (by have h_ : (x5_1 : Int) < ((x0_1.length : Int) : Int) := ofb; first | exact h_ | (have e_ := (Kd.R_reads' HO_0.out).1; omega) | simpa using h_) (seg := [.int .i64 (wrap64 ((wrap64 ((wrap64 ((wrap64 ((wrap64 ((wrap64 (x1_1 + 1)) + 1)) + 1)) + 1)) + 1)) + 1))]) (j := 6) hcl26 hcc26 (show 7 ≤ 8 from by decide) (x' := (⟨(rd_T85 y348 x5_1).f0, (rd_T85 y348 x5_1).f1, (rd_T85 y348 x5_1).f2, (rd_T85 y348 x5_1).f3, (⟨(rd_T85 y348 x5_1).f4.f0, (rd_T85 y348 x5_1).f4.f1, wrap64 ((wrap64 ((wrap64 ((wrap64 ((wrap64 ((wrap64 (x1_1 + 1)) + 1)) + 1)) + 1)) + 1)) + 1), (rd_T85 y348 x5_1).f4.f3⟩ : S30)⟩ : S85)) (k85_mkM _ _ _ (⟨(rd_T85 y348 x5_1).f0, (rd_T85 y348 x5_1).f1, (rd_T85 y348 x5_1).f2, (rd_T85 y348 x5_1).f3, (⟨(rd_T85 y348 x5_1).f4.f0, (rd_T85 y348 x5_1).f4.f1, wrap64 ((wrap64 ((wrap64 ((wrap64 ((wrap64 ((wrap64 (x1_1 + 1)) + 1)) + 1)) + 1)) + 1)) + 1), (rd_T85 y348 x5_1).f4.f3⟩ : S30)⟩ : S85) ) (fun _ hk => hk); have hx26_6 := hcc26 6 _ rfl; (try simp only [show (k85).sz = 8 from rfl, Nat.mul_one, Nat.add_zero] at hx26_6); have hf26_6 := hfr26 6; (try simp only [show (k85).sz = 8 from rfl, Nat.mul_one, Nat.add_zero] at hf26_6); clear hcl26 hcc26 hfr26 hM26) | ((with_reducible refine gate_store (t := 3) (p := 61) rfl ?_); refine store_event (t := 3) (p := 61) (v := ?vo_w27) (w1 := (w25.setCell ⟨go5, (x5_1 : Int).toNat * 8 + 6, none⟩ (.int .i64 (wrap64 ((wrap64 ((wrap64 ((wrap64 ((wrap64 ((wrap64 (x1_1 + 1)) + 1)) + 1)) + 1)) + 1)) + 1))))) ?hg ?ho ?hn ?hr ?_; (case ho => rfl); (case hg => rfl); (case hn => rfl); (case hr => first | (go_simp; done) | (go_simp; rfl)); intro w27 hw; have hg : w25.grownBy w27 (some go5) := (by rw [hw]; exact HP26.2); have hp_ : Kd.R k85 85 w27 w0.heap.size (fun k_ => (P0_ k_ ∨ w.heap.size ≤ k_)) (.slice (some ⟨go5, 0, none⟩) x0_1.length co13) y349 := (by rw [hw, Ny349.out]; exact HP26.1); clear HP26; replace HB := am ((by rw [hw]; exact below_set (HB.out) GB5.out : Below w0.heap.size w0 w27)); replace HK := am (Kept.of_grown (S := (fun k_ => P0_ k_)) hg (pk HK.out) (fun k_ e_ => (HO_0.out.1 k_ e_))); replace HO_0 := am (hp_); clear hg hw hp_; have p12 : 0 ≤ (x5_1 : Int) := ofb; have q12 : (x5_1 : Int) < ((x0_1.length : Int) : Int) := ofb; obtain ⟨ce12, hcl12, hM12, hcc12, hfr12⟩ := Kd.R_elem HO_0.out z85 (x5_1 : Int) p12 q12; obtain rfl := k85_openM hM12; have hx12_0 : w27.cell? ⟨go5, (x5_1 : Int).toNat * 8, none⟩ = some (.int .i64 ((rd_T85 y349 x5_1).f0)) := hcc12 0 _ rfl; have hx12_1 : w27.cell? ⟨go5, (x5_1 : Int).toNat * 8 + 1, none⟩ = some (.int .i64 ((rd_T85 y349 x5_1).f1)) := hcc12 1 _ rfl; have hx12_2 : w27.cell? ⟨go5, (x5_1 : Int).toNat * 8 + 2, none⟩ = some (.int .i64 ((rd_T85 y349 x5_1).f2)) := hcc12 2 _ rfl; have hx12_3 : w27.cell? ⟨go5, (x5_1 : Int).toNat * 8 + 3, none⟩ = some (.int .i64 ((rd_T85 y349 x5_1).f3)) := hcc12 3 _ rfl; have hx12_4 : w27.cell? ⟨go5, (x5_1 : Int).toNat * 8 + 4, none⟩ = some (.int .i64 ((rd_T85 y349 x5_1).f4.f0)) := hcc12 4 _ rfl; have hx12_5 : w27.cell? ⟨go5, (x5_1 : Int).toNat * 8 + 5, none⟩ = some (.int .i64 ((rd_T85 y349 x5_1).f4.f1)) := hcc12 5 _ rfl; have hx12_6 : w27.cell? ⟨go5, (x5_1 : Int).toNat * 8 + 6, none⟩ = some (.int .i64 ((rd_T85 y349 x5_1).f4.f2)) := hcc12 6 _ rfl; have hx12_7 : w27.cell? ⟨go5, (x5_1 : Int).toNat * 8 + 7, none⟩ = some (.int .i64 ((rd_T85 y349 x5_1).f4.f3)) := hcc12 7 _ rfl; have hf12_0 : w27.frozen? ⟨go5, (x5_1 : Int).toNat * 8, none⟩ = false := hfr12 0; have hf12_1 : w27.frozen? ⟨go5, (x5_1 : Int).toNat * 8 + 1, none⟩ = false := hfr12 1; have hf12_2 : w27.frozen? ⟨go5, (x5_1 : Int).toNat * 8 + 2, none⟩ = false := hfr12 2; have hf12_3 : w27.frozen? ⟨go5, (x5_1 : Int).toNat * 8 + 3, none⟩ = false := hfr12 3; have hf12_4 : w27.frozen? ⟨go5, (x5_1 : Int).toNat * 8 + 4, none⟩ = false := hfr12 4; have hf12_5 : w27.frozen? ⟨go5, (x5_1 : Int).toNat * 8 + 5, none⟩ = false := hfr12 5; have hf12_6 : w27.frozen? ⟨go5, (x5_1 : Int).toNat * 8 + 6, none⟩ = false := hfr12 6; have hf12_7 : w27.frozen? ⟨go5, (x5_1 : Int).toNat * 8 + 7, none⟩ = false := hfr12 7; clear hcl12 hcc12 hfr12 hM12; replace p12 := eq_true p12; replace q12 := eq_true q12; have HX28 := am (show Kd.R k85 85 w27 w0.heap.size (fun k_ => (P0_ k_ ∨ w.heap.size ≤ k_)) (.slice (some ⟨go5, 0, none⟩) x0_1.length co13) y349 from (pr HO_0.out)); obtain ⟨ce28, hcl28, hM28, hcc28, hfr28⟩ := Kd.R_elem HX28.out z85 (x5_1 : Int) (ofb) (by have h_ : (x5_1 : Int) < ((x0_1.length : Int) : Int) := ofb; first | exact h_ | (have e_ := (Kd.R_reads' HO_0.out).1; omega) | simpa using h_); obtain rfl := k85_openM hM28; have HP28 := Kd.R_seg HX28.out (x5_1 : Int) (ofb) (by have h_ : (x5_1 : Int) < ((x0_1.length : Int) : Int) := ofb; first | exact h_ | (have e_ := (Kd.R_reads' HO_0.out).1; omega) | simpa using h_) (seg := [.int .i64 (wrap64 ((wrap64 ((wrap64 ((wrap64 ((wrap64 ((wrap64 ((wrap64 (x1_1 + 1)) + 1)) + 1)) + 1)) + 1)) + 1)) + 1))]) (j := 7) hcl28 hcc28 (show 8 ≤ 8 from by decide) (x' := (⟨(rd_T85 y349 x5_1).f0, (rd_T85 y349 x5_1).f1, (rd_T85 y349 x5_1).f2, (rd_T85 y349 x5_1).f3, (⟨(rd_T85 y349 x5_1).f4.f0, (rd_T85 y349 x5_1).f4.f1, (rd_T85 y349 x5_1).f4.f2, wrap64 ((wrap64 ((wrap64 ((wrap64 ((wrap64 ((wrap64 ((wrap64 (x1_1 + 1)) + 1)) + 1)) + 1)) + 1)) + 1)) + 1)⟩ : S30)⟩ : S85)) (k85_mkM _ _ _ (⟨(rd_T85 y349 x5_1).f0, (rd_T85 y349 x5_1).f1, (rd_T85 y349 x5_1).f2, (rd_T85 y349 x5_1).f3, (⟨(rd_T85 y349 x5_1).f4.f0, (rd_T85 y349 x5_1).f4.f1, (rd_T85 y349 x5_1).f4.f2, wrap64 ((wrap64 ((wrap64 ((wrap64 ((wrap64 ((wrap64 ((wrap64 (x1_1 + 1)) + 1)) + 1)) + 1)) + 1)) + 1)) + 1)⟩ : S30)⟩ : S85) ) (fun _ hk => hk); have hx28_7 := hcc28 7 _ rfl; (try simp only [show (k85).sz = 8 from rfl, Nat.mul_one, Nat.add_zero] at hx28_7); have hf28_7 := hfr28 7; (try simp only [show (k85).sz = 8 from rfl, Nat.mul_one, Nat.add_zero] at hf28_7); clear hcl28 hcc28 hfr28 hM28) | ((with_reducible refine gate_store (t := 3) (p := 69) rfl ?_); refine store_event (t := 3) (p := 69) (v := ?vo_w29) (w1 := (w27.setCell ⟨go5, (x5_1 : Int).toNat * 8 + 7, none⟩ (.int .i64 (wrap64 ((wrap64 ((wrap64 ((wrap64 ((wrap64 ((wrap64 ((wrap64 (x1_1 + 1)) + 1)) + 1)) + 1)) + 1)) + 1)) + 1))))) ?hg ?ho ?hn ?hr ?_; (case ho => rfl); (case hg => rfl); (case hn => rfl); (case hr => first | (go_simp; done) | (go_simp; rfl)); intro w29 hw; have hg : w27.grownBy w29 (some go5) := (by rw [hw]; exact HP28.2); have hp_ : Kd.R k85 85 w29 w0.heap.size (fun k_ => (P0_ k_ ∨ w.heap.size ≤ k_)) (.slice (some ⟨go5, 0, none⟩) x0_1.length co13) y350 := (by rw [hw, Ny350.out]; exact HP28.1); clear HP28; replace HB := am ((by rw [hw]; exact below_set (HB.out) GB5.out : Below w0.heap.size w0 w29)); replace HK := am (Kept.of_grown (S := (fun k_ => P0_ k_)) hg (pk HK.out) (fun k_ e_ => (HO_0.out.1 k_ e_))); replace HO_0 := am (hp_); clear hg hw hp_))
   go_roundg k1
   case measure => have := HK1.out; omega
   case rel => exact ⟨(y350), (wrap64 ((wrap64 ((wrap64 ((wrap64 ((wrap64 ((wrap64 ((wrap64 ((wrap64 (x1_1 + 1)) + 1)) + 1)) + 1)) + 1)) + 1)) + 1)) + 1)), (wrap64 (x5_1 + 1)), rf, rf, H', ⟨by have := HK1.out; omega⟩, ⟨pr HO_0.out⟩, ⟨pk HK.out⟩, ⟨ph HB.out⟩⟩
def laws_heldStepS.l0 : Nat → List (S85) → Int → Int → Option (Int)
 | 0, _, _, _ => none
 | k + 1, x0, x1, x5 => if x5 < (x0.length : Int) then (if 0 ≤ x5 then (if ((rd_T85 x0 x5).f0) = x1 then (if ((rd_T85 x0 x5).f1) = (wrap64 (x1 + 1)) then (if ((rd_T85 x0 x5).f2) = (wrap64 ((wrap64 (x1 + 1)) + 1)) then (if ((rd_T85 x0 x5).f3) = (wrap64 ((wrap64 ((wrap64 (x1 + 1)) + 1)) + 1)) then (if ((rd_T85 x0 x5).f4.f0) = (wrap64 ((wrap64 ((wrap64 ((wrap64 (x1 + 1)) + 1)) + 1)) + 1)) then (if ((rd_T85 x0 x5).f4.f1) = (wrap64 ((wrap64 ((wrap64 ((wrap64 ((wrap64 (x1 + 1)) + 1)) + 1)) + 1)) + 1)) then (if ((rd_T85 x0 x5).f4.f2) = (wrap64 ((wrap64 ((wrap64 ((wrap64 ((wrap64 ((wrap64 (x1 + 1)) + 1)) + 1)) + 1)) + 1)) + 1)) then (if ((rd_T85 x0 x5).f4.f3) = (wrap64 ((wrap64 ((wrap64 ((wrap64 ((wrap64 ((wrap64 ((wrap64 (x1 + 1)) + 1)) + 1)) + 1)) + 1)) + 1)) + 1)) then (laws_heldStepS.l0 k x0 (wrap64 ((wrap64 ((wrap64 ((wrap64 ((wrap64 ((wrap64 ((wrap64 ((wrap64 (x1 + 1)) + 1)) + 1)) + 1)) + 1)) + 1)) + 1)) + 1)) (wrap64 (x5 + 1))) else (some (-1))) else (some (-1))) else (some (-1))) else (some (-1))) else (some (-1))) else (some (-1))) else (some (-1))) else (some (-1))) else (none)) else (some x1)
def laws_heldStepS.f (k : Nat) (l0 : List (S85)) (a1 : Int) : Option (Int) := laws_heldStepS.l0 k l0 a1 0
theorem laws_heldStepS.mono_l : ∀ k, (∀ y0 y1 y2, LeO (laws_heldStepS.l0 k y0 y1 y2) (laws_heldStepS.l0 (k + 1) y0 y1 y2))
 | 0 => fun _ _ _ r h => by simp [laws_heldStepS.l0] at h
 | k + 1 => by
  have ih0 := laws_heldStepS.mono_l k
  · intro y0 y1 y2
    unfold laws_heldStepS.l0
    repeat' first
    | (with_reducible exact ih0 _ _ _)
    | (with_reducible exact LeO.refl _)
    | (with_reducible exact LeO.none _)
    | (with_reducible refine LeO.ite ?_ ?_)
    | (with_reducible refine LeO.bind ?_ (fun _ => ?_))
    | exact ih0 _ _ _
    | exact LeO.none _
    | refine LeO.ite ?_ ?_
    | refine LeO.bind ?_ (fun _ => ?_)
theorem laws_heldStepS.mono : ∀ a0 a1 k, LeO (laws_heldStepS.f k a0 a1) (laws_heldStepS.f (k + 1) a0 a1) := by
 intro a0 a1 k
 have ih0 := laws_heldStepS.mono_l k
 unfold laws_heldStepS.f
 repeat' first
  | (with_reducible exact ih0 _ _ _)
  | (with_reducible exact LeO.refl _)
  | (with_reducible exact LeO.none _)
  | (with_reducible refine LeO.ite ?_ ?_)
  | (with_reducible refine LeO.bind ?_ (fun _ => ?_))
  | exact ih0 _ _ _
  | exact LeO.none _
  | refine LeO.ite ?_ ?_
  | refine LeO.bind ?_ (fun _ => ?_)
set_option maxHeartbeats 8000000 in
set_option maxRecDepth 100000 in
theorem laws_heldStepS.calls (k : Nat) (A0 : Option Addr) (c0 : Nat) (l0 : List (S85)) (a1 : Int) (r : Int) (w : World) (hr0 : Kd.C k85 w A0 l0.length l0) (hc0 : l0.length ≤ c0) (h : laws_heldStepS.f k l0 a1 = some r) :
 Calls Try.prog 32 #[.slice A0 l0.length c0, .int .i64 a1] w fun e w' => e = .returned (.int .i64 r) ∧ Drawn0 w w' := by
 have HR0 := am hr0
 have HC0 := am hc0
 clear hr0 hc0
 have H : (laws_heldStepS.l0 k l0 a1 0) = some r := h
 clear h
 have H' := am H
 clear H
 go_enter Try.func32, Try.ntmps32
 go_wp2
 go_loopg [1, 5] k (fun kq v1 v5 w' => ∃ (x1_1 : Int) (x5_1 : Int), v1 = .int .i64 x1_1 ∧ v5 = .int .i64 x5_1 ∧ Aside0 (laws_heldStepS.l0 kq l0 x1_1 x5_1 = some r) ∧ Aside0 (kq ≤ k) ∧ Drawn0 w w')
 case atStart => exact ⟨(a1), (0), rf, rf, H', ⟨Nat.le_refl _⟩, by repeat (first | exact Drawn0.refl _ | apply Drawn0.step)⟩
 case round =>
  clear H'
  obtain ⟨x1_1, x5_1, rfl, rfl, HA, HK1, ⟨m1, rfl⟩⟩ := hrel
  cases gk with
  | zero => exact absurd HA.out (by simp [laws_heldStepS.l0])
  | succ k1 =>
   have H := HA.out
   clear HA
   simp only [laws_heldStepS.l0] at H
   by_cases c3 : x5_1 < (l0.length : Int)
   rotate_left
   · rw [if_neg c3] at H
     have c3b0 := decide_eq_false c3
     clear c3
     obtain rfl := Option.some.inj H
     go_wp2
     go_ret
     exact ⟨by first | rfl | (simp; done) | (simp [*]; done), by repeat (first | exact Drawn0.refl _ | apply Drawn0.step)⟩
   rw [if_pos c3] at H
   have c3b0 := decide_eq_true c3
   clear c3
   by_cases c4 : 0 ≤ x5_1
   rotate_left
   · rw [if_neg c4] at H
     exact absurd H (by simp)
   rw [if_pos c4] at H
   have c4b0 := decide_eq_true c4
   clear c4
   by_cases c5 : ((rd_T85 l0 x5_1).f0) = x1_1
   rotate_left
   · rw [if_neg c5] at H
     have c5b0 : (((rd_T85 l0 x5_1).f0) == x1_1) = false := beq_eq_false_iff_ne.mpr c5
     have c5b1 : (((rd_T85 l0 x5_1).f0) != x1_1) = true := bne_iff_ne.mpr c5
     obtain rfl := Option.some.inj H
     have p351 : 0 ≤ (x5_1 : Int) := ofb
     have q351 : x5_1 < (l0.length : Int) := ofb
     obtain ⟨ad351, e351, hx351_0, hx351_1, hx351_2, hx351_3, hx351_4, hx351_5, hx351_6, hx351_7⟩ := at_T85 HR0.out x5_1 p351 q351
     cases e351
     replace p351 := eq_true p351
     replace q351 := eq_true q351
     go_wp2
     go_ret
     exact ⟨by first | rfl | (simp; done) | (simp [*]; done), by repeat (first | exact Drawn0.refl _ | apply Drawn0.step)⟩
   rw [if_pos c5] at H
   have c5b0 : (((rd_T85 l0 x5_1).f0) == x1_1) = true := beq_iff_eq.mpr c5
   have c5b1 : (((rd_T85 l0 x5_1).f0) != x1_1) = false := bne_eq_false_iff_eq.mpr c5
   clear c5
   by_cases c6 : ((rd_T85 l0 x5_1).f1) = (wrap64 (x1_1 + 1))
   rotate_left
   · rw [if_neg c6] at H
     have c6b0 : (((rd_T85 l0 x5_1).f1) == (wrap64 (x1_1 + 1))) = false := beq_eq_false_iff_ne.mpr c6
     have c6b1 : (((rd_T85 l0 x5_1).f1) != (wrap64 (x1_1 + 1))) = true := bne_iff_ne.mpr c6
     obtain rfl := Option.some.inj H
     have p351 : 0 ≤ (x5_1 : Int) := ofb
     have q351 : x5_1 < (l0.length : Int) := ofb
     obtain ⟨ad351, e351, hx351_0, hx351_1, hx351_2, hx351_3, hx351_4, hx351_5, hx351_6, hx351_7⟩ := at_T85 HR0.out x5_1 p351 q351
     cases e351
     replace p351 := eq_true p351
     replace q351 := eq_true q351
     have p352 : 0 ≤ (x5_1 : Int) := ofb
     have q352 : x5_1 < (l0.length : Int) := ofb
     obtain ⟨ad352, e352, hx352_0, hx352_1, hx352_2, hx352_3, hx352_4, hx352_5, hx352_6, hx352_7⟩ := at_T85 HR0.out x5_1 p352 q352
     obtain rfl : ad351 = ad352 := (by injection e352)
     replace p352 := eq_true p352
     replace q352 := eq_true q352
     go_wp2
     go_ret
     exact ⟨by first | rfl | (simp; done) | (simp [*]; done), by repeat (first | exact Drawn0.refl _ | apply Drawn0.step)⟩
   rw [if_pos c6] at H
   have c6b0 : (((rd_T85 l0 x5_1).f1) == (wrap64 (x1_1 + 1))) = true := beq_iff_eq.mpr c6
   have c6b1 : (((rd_T85 l0 x5_1).f1) != (wrap64 (x1_1 + 1))) = false := bne_eq_false_iff_eq.mpr c6
   clear c6
   by_cases c7 : ((rd_T85 l0 x5_1).f2) = (wrap64 ((wrap64 (x1_1 + 1)) + 1))
   rotate_left
   · rw [if_neg c7] at H
     have c7b0 : (((rd_T85 l0 x5_1).f2) == (wrap64 ((wrap64 (x1_1 + 1)) + 1))) = false := beq_eq_false_iff_ne.mpr c7
     have c7b1 : (((rd_T85 l0 x5_1).f2) != (wrap64 ((wrap64 (x1_1 + 1)) + 1))) = true := bne_iff_ne.mpr c7
     obtain rfl := Option.some.inj H
     have p351 : 0 ≤ (x5_1 : Int) := ofb
     have q351 : x5_1 < (l0.length : Int) := ofb
     obtain ⟨ad351, e351, hx351_0, hx351_1, hx351_2, hx351_3, hx351_4, hx351_5, hx351_6, hx351_7⟩ := at_T85 HR0.out x5_1 p351 q351
     cases e351
     replace p351 := eq_true p351
     replace q351 := eq_true q351
     have p352 : 0 ≤ (x5_1 : Int) := ofb
     have q352 : x5_1 < (l0.length : Int) := ofb
     obtain ⟨ad352, e352, hx352_0, hx352_1, hx352_2, hx352_3, hx352_4, hx352_5, hx352_6, hx352_7⟩ := at_T85 HR0.out x5_1 p352 q352
     obtain rfl : ad351 = ad352 := (by injection e352)
     replace p352 := eq_true p352
     replace q352 := eq_true q352
     have p353 : 0 ≤ (x5_1 : Int) := ofb
     have q353 : x5_1 < (l0.length : Int) := ofb
     obtain ⟨ad353, e353, hx353_0, hx353_1, hx353_2, hx353_3, hx353_4, hx353_5, hx353_6, hx353_7⟩ := at_T85 HR0.out x5_1 p353 q353
     obtain rfl : ad351 = ad353 := (by injection e353)
     replace p353 := eq_true p353
     replace q353 := eq_true q353
     go_wp2
     go_ret
     exact ⟨by first | rfl | (simp; done) | (simp [*]; done), by repeat (first | exact Drawn0.refl _ | apply Drawn0.step)⟩
   rw [if_pos c7] at H
   have c7b0 : (((rd_T85 l0 x5_1).f2) == (wrap64 ((wrap64 (x1_1 + 1)) + 1))) = true := beq_iff_eq.mpr c7
   have c7b1 : (((rd_T85 l0 x5_1).f2) != (wrap64 ((wrap64 (x1_1 + 1)) + 1))) = false := bne_eq_false_iff_eq.mpr c7
   clear c7
   by_cases c8 : ((rd_T85 l0 x5_1).f3) = (wrap64 ((wrap64 ((wrap64 (x1_1 + 1)) + 1)) + 1))
   rotate_left
   · rw [if_neg c8] at H
     have c8b0 : (((rd_T85 l0 x5_1).f3) == (wrap64 ((wrap64 ((wrap64 (x1_1 + 1)) + 1)) + 1))) = false := beq_eq_false_iff_ne.mpr c8
     have c8b1 : (((rd_T85 l0 x5_1).f3) != (wrap64 ((wrap64 ((wrap64 (x1_1 + 1)) + 1)) + 1))) = true := bne_iff_ne.mpr c8
     obtain rfl := Option.some.inj H
     have p351 : 0 ≤ (x5_1 : Int) := ofb
     have q351 : x5_1 < (l0.length : Int) := ofb
     obtain ⟨ad351, e351, hx351_0, hx351_1, hx351_2, hx351_3, hx351_4, hx351_5, hx351_6, hx351_7⟩ := at_T85 HR0.out x5_1 p351 q351
     cases e351
     replace p351 := eq_true p351
     replace q351 := eq_true q351
     have p352 : 0 ≤ (x5_1 : Int) := ofb
     have q352 : x5_1 < (l0.length : Int) := ofb
     obtain ⟨ad352, e352, hx352_0, hx352_1, hx352_2, hx352_3, hx352_4, hx352_5, hx352_6, hx352_7⟩ := at_T85 HR0.out x5_1 p352 q352
     obtain rfl : ad351 = ad352 := (by injection e352)
     replace p352 := eq_true p352
     replace q352 := eq_true q352
     have p353 : 0 ≤ (x5_1 : Int) := ofb
     have q353 : x5_1 < (l0.length : Int) := ofb
     obtain ⟨ad353, e353, hx353_0, hx353_1, hx353_2, hx353_3, hx353_4, hx353_5, hx353_6, hx353_7⟩ := at_T85 HR0.out x5_1 p353 q353
     obtain rfl : ad351 = ad353 := (by injection e353)
     replace p353 := eq_true p353
     replace q353 := eq_true q353
     have p354 : 0 ≤ (x5_1 : Int) := ofb
     have q354 : x5_1 < (l0.length : Int) := ofb
     obtain ⟨ad354, e354, hx354_0, hx354_1, hx354_2, hx354_3, hx354_4, hx354_5, hx354_6, hx354_7⟩ := at_T85 HR0.out x5_1 p354 q354
     obtain rfl : ad351 = ad354 := (by injection e354)
     replace p354 := eq_true p354
     replace q354 := eq_true q354
     go_wp2
     go_ret
     exact ⟨by first | rfl | (simp; done) | (simp [*]; done), by repeat (first | exact Drawn0.refl _ | apply Drawn0.step)⟩
   rw [if_pos c8] at H
   have c8b0 : (((rd_T85 l0 x5_1).f3) == (wrap64 ((wrap64 ((wrap64 (x1_1 + 1)) + 1)) + 1))) = true := beq_iff_eq.mpr c8
   have c8b1 : (((rd_T85 l0 x5_1).f3) != (wrap64 ((wrap64 ((wrap64 (x1_1 + 1)) + 1)) + 1))) = false := bne_eq_false_iff_eq.mpr c8
   clear c8
   by_cases c9 : ((rd_T85 l0 x5_1).f4.f0) = (wrap64 ((wrap64 ((wrap64 ((wrap64 (x1_1 + 1)) + 1)) + 1)) + 1))
   rotate_left
   · rw [if_neg c9] at H
     have c9b0 : (((rd_T85 l0 x5_1).f4.f0) == (wrap64 ((wrap64 ((wrap64 ((wrap64 (x1_1 + 1)) + 1)) + 1)) + 1))) = false := beq_eq_false_iff_ne.mpr c9
     have c9b1 : (((rd_T85 l0 x5_1).f4.f0) != (wrap64 ((wrap64 ((wrap64 ((wrap64 (x1_1 + 1)) + 1)) + 1)) + 1))) = true := bne_iff_ne.mpr c9
     obtain rfl := Option.some.inj H
     have p351 : 0 ≤ (x5_1 : Int) := ofb
     have q351 : x5_1 < (l0.length : Int) := ofb
     obtain ⟨ad351, e351, hx351_0, hx351_1, hx351_2, hx351_3, hx351_4, hx351_5, hx351_6, hx351_7⟩ := at_T85 HR0.out x5_1 p351 q351
     cases e351
     replace p351 := eq_true p351
     replace q351 := eq_true q351
     have p352 : 0 ≤ (x5_1 : Int) := ofb
     have q352 : x5_1 < (l0.length : Int) := ofb
     obtain ⟨ad352, e352, hx352_0, hx352_1, hx352_2, hx352_3, hx352_4, hx352_5, hx352_6, hx352_7⟩ := at_T85 HR0.out x5_1 p352 q352
     obtain rfl : ad351 = ad352 := (by injection e352)
     replace p352 := eq_true p352
     replace q352 := eq_true q352
     have p353 : 0 ≤ (x5_1 : Int) := ofb
     have q353 : x5_1 < (l0.length : Int) := ofb
     obtain ⟨ad353, e353, hx353_0, hx353_1, hx353_2, hx353_3, hx353_4, hx353_5, hx353_6, hx353_7⟩ := at_T85 HR0.out x5_1 p353 q353
     obtain rfl : ad351 = ad353 := (by injection e353)
     replace p353 := eq_true p353
     replace q353 := eq_true q353
     have p354 : 0 ≤ (x5_1 : Int) := ofb
     have q354 : x5_1 < (l0.length : Int) := ofb
     obtain ⟨ad354, e354, hx354_0, hx354_1, hx354_2, hx354_3, hx354_4, hx354_5, hx354_6, hx354_7⟩ := at_T85 HR0.out x5_1 p354 q354
     obtain rfl : ad351 = ad354 := (by injection e354)
     replace p354 := eq_true p354
     replace q354 := eq_true q354
     have p355 : 0 ≤ (x5_1 : Int) := ofb
     have q355 : x5_1 < (l0.length : Int) := ofb
     obtain ⟨ad355, e355, hx355_0, hx355_1, hx355_2, hx355_3, hx355_4, hx355_5, hx355_6, hx355_7⟩ := at_T85 HR0.out x5_1 p355 q355
     obtain rfl : ad351 = ad355 := (by injection e355)
     replace p355 := eq_true p355
     replace q355 := eq_true q355
     go_wp2
     go_ret
     exact ⟨by first | rfl | (simp; done) | (simp [*]; done), by repeat (first | exact Drawn0.refl _ | apply Drawn0.step)⟩
   rw [if_pos c9] at H
   have c9b0 : (((rd_T85 l0 x5_1).f4.f0) == (wrap64 ((wrap64 ((wrap64 ((wrap64 (x1_1 + 1)) + 1)) + 1)) + 1))) = true := beq_iff_eq.mpr c9
   have c9b1 : (((rd_T85 l0 x5_1).f4.f0) != (wrap64 ((wrap64 ((wrap64 ((wrap64 (x1_1 + 1)) + 1)) + 1)) + 1))) = false := bne_eq_false_iff_eq.mpr c9
   clear c9
   by_cases c10 : ((rd_T85 l0 x5_1).f4.f1) = (wrap64 ((wrap64 ((wrap64 ((wrap64 ((wrap64 (x1_1 + 1)) + 1)) + 1)) + 1)) + 1))
   rotate_left
   · rw [if_neg c10] at H
     have c10b0 : (((rd_T85 l0 x5_1).f4.f1) == (wrap64 ((wrap64 ((wrap64 ((wrap64 ((wrap64 (x1_1 + 1)) + 1)) + 1)) + 1)) + 1))) = false := beq_eq_false_iff_ne.mpr c10
     have c10b1 : (((rd_T85 l0 x5_1).f4.f1) != (wrap64 ((wrap64 ((wrap64 ((wrap64 ((wrap64 (x1_1 + 1)) + 1)) + 1)) + 1)) + 1))) = true := bne_iff_ne.mpr c10
     obtain rfl := Option.some.inj H
     have p351 : 0 ≤ (x5_1 : Int) := ofb
     have q351 : x5_1 < (l0.length : Int) := ofb
     obtain ⟨ad351, e351, hx351_0, hx351_1, hx351_2, hx351_3, hx351_4, hx351_5, hx351_6, hx351_7⟩ := at_T85 HR0.out x5_1 p351 q351
     cases e351
     replace p351 := eq_true p351
     replace q351 := eq_true q351
     have p352 : 0 ≤ (x5_1 : Int) := ofb
     have q352 : x5_1 < (l0.length : Int) := ofb
     obtain ⟨ad352, e352, hx352_0, hx352_1, hx352_2, hx352_3, hx352_4, hx352_5, hx352_6, hx352_7⟩ := at_T85 HR0.out x5_1 p352 q352
     obtain rfl : ad351 = ad352 := (by injection e352)
     replace p352 := eq_true p352
     replace q352 := eq_true q352
     have p353 : 0 ≤ (x5_1 : Int) := ofb
     have q353 : x5_1 < (l0.length : Int) := ofb
     obtain ⟨ad353, e353, hx353_0, hx353_1, hx353_2, hx353_3, hx353_4, hx353_5, hx353_6, hx353_7⟩ := at_T85 HR0.out x5_1 p353 q353
     obtain rfl : ad351 = ad353 := (by injection e353)
     replace p353 := eq_true p353
     replace q353 := eq_true q353
     have p354 : 0 ≤ (x5_1 : Int) := ofb
     have q354 : x5_1 < (l0.length : Int) := ofb
     obtain ⟨ad354, e354, hx354_0, hx354_1, hx354_2, hx354_3, hx354_4, hx354_5, hx354_6, hx354_7⟩ := at_T85 HR0.out x5_1 p354 q354
     obtain rfl : ad351 = ad354 := (by injection e354)
     replace p354 := eq_true p354
     replace q354 := eq_true q354
     have p355 : 0 ≤ (x5_1 : Int) := ofb
     have q355 : x5_1 < (l0.length : Int) := ofb
     obtain ⟨ad355, e355, hx355_0, hx355_1, hx355_2, hx355_3, hx355_4, hx355_5, hx355_6, hx355_7⟩ := at_T85 HR0.out x5_1 p355 q355
     obtain rfl : ad351 = ad355 := (by injection e355)
     replace p355 := eq_true p355
     replace q355 := eq_true q355
     have p356 : 0 ≤ (x5_1 : Int) := ofb
     have q356 : x5_1 < (l0.length : Int) := ofb
     obtain ⟨ad356, e356, hx356_0, hx356_1, hx356_2, hx356_3, hx356_4, hx356_5, hx356_6, hx356_7⟩ := at_T85 HR0.out x5_1 p356 q356
     obtain rfl : ad351 = ad356 := (by injection e356)
     replace p356 := eq_true p356
     replace q356 := eq_true q356
     go_wp2
     go_ret
     exact ⟨by first | rfl | (simp; done) | (simp [*]; done), by repeat (first | exact Drawn0.refl _ | apply Drawn0.step)⟩
   rw [if_pos c10] at H
   have c10b0 : (((rd_T85 l0 x5_1).f4.f1) == (wrap64 ((wrap64 ((wrap64 ((wrap64 ((wrap64 (x1_1 + 1)) + 1)) + 1)) + 1)) + 1))) = true := beq_iff_eq.mpr c10
   have c10b1 : (((rd_T85 l0 x5_1).f4.f1) != (wrap64 ((wrap64 ((wrap64 ((wrap64 ((wrap64 (x1_1 + 1)) + 1)) + 1)) + 1)) + 1))) = false := bne_eq_false_iff_eq.mpr c10
   clear c10
   by_cases c11 : ((rd_T85 l0 x5_1).f4.f2) = (wrap64 ((wrap64 ((wrap64 ((wrap64 ((wrap64 ((wrap64 (x1_1 + 1)) + 1)) + 1)) + 1)) + 1)) + 1))
   rotate_left
   · rw [if_neg c11] at H
     have c11b0 : (((rd_T85 l0 x5_1).f4.f2) == (wrap64 ((wrap64 ((wrap64 ((wrap64 ((wrap64 ((wrap64 (x1_1 + 1)) + 1)) + 1)) + 1)) + 1)) + 1))) = false := beq_eq_false_iff_ne.mpr c11
     have c11b1 : (((rd_T85 l0 x5_1).f4.f2) != (wrap64 ((wrap64 ((wrap64 ((wrap64 ((wrap64 ((wrap64 (x1_1 + 1)) + 1)) + 1)) + 1)) + 1)) + 1))) = true := bne_iff_ne.mpr c11
     obtain rfl := Option.some.inj H
     have p351 : 0 ≤ (x5_1 : Int) := ofb
     have q351 : x5_1 < (l0.length : Int) := ofb
     obtain ⟨ad351, e351, hx351_0, hx351_1, hx351_2, hx351_3, hx351_4, hx351_5, hx351_6, hx351_7⟩ := at_T85 HR0.out x5_1 p351 q351
     cases e351
     replace p351 := eq_true p351
     replace q351 := eq_true q351
     have p352 : 0 ≤ (x5_1 : Int) := ofb
     have q352 : x5_1 < (l0.length : Int) := ofb
     obtain ⟨ad352, e352, hx352_0, hx352_1, hx352_2, hx352_3, hx352_4, hx352_5, hx352_6, hx352_7⟩ := at_T85 HR0.out x5_1 p352 q352
     obtain rfl : ad351 = ad352 := (by injection e352)
     replace p352 := eq_true p352
     replace q352 := eq_true q352
     have p353 : 0 ≤ (x5_1 : Int) := ofb
     have q353 : x5_1 < (l0.length : Int) := ofb
     obtain ⟨ad353, e353, hx353_0, hx353_1, hx353_2, hx353_3, hx353_4, hx353_5, hx353_6, hx353_7⟩ := at_T85 HR0.out x5_1 p353 q353
     obtain rfl : ad351 = ad353 := (by injection e353)
     replace p353 := eq_true p353
     replace q353 := eq_true q353
     have p354 : 0 ≤ (x5_1 : Int) := ofb
     have q354 : x5_1 < (l0.length : Int) := ofb
     obtain ⟨ad354, e354, hx354_0, hx354_1, hx354_2, hx354_3, hx354_4, hx354_5, hx354_6, hx354_7⟩ := at_T85 HR0.out x5_1 p354 q354
     obtain rfl : ad351 = ad354 := (by injection e354)
     replace p354 := eq_true p354
     replace q354 := eq_true q354
     have p355 : 0 ≤ (x5_1 : Int) := ofb
     have q355 : x5_1 < (l0.length : Int) := ofb
     obtain ⟨ad355, e355, hx355_0, hx355_1, hx355_2, hx355_3, hx355_4, hx355_5, hx355_6, hx355_7⟩ := at_T85 HR0.out x5_1 p355 q355
     obtain rfl : ad351 = ad355 := (by injection e355)
     replace p355 := eq_true p355
     replace q355 := eq_true q355
     have p356 : 0 ≤ (x5_1 : Int) := ofb
     have q356 : x5_1 < (l0.length : Int) := ofb
     obtain ⟨ad356, e356, hx356_0, hx356_1, hx356_2, hx356_3, hx356_4, hx356_5, hx356_6, hx356_7⟩ := at_T85 HR0.out x5_1 p356 q356
     obtain rfl : ad351 = ad356 := (by injection e356)
     replace p356 := eq_true p356
     replace q356 := eq_true q356
     have p357 : 0 ≤ (x5_1 : Int) := ofb
     have q357 : x5_1 < (l0.length : Int) := ofb
     obtain ⟨ad357, e357, hx357_0, hx357_1, hx357_2, hx357_3, hx357_4, hx357_5, hx357_6, hx357_7⟩ := at_T85 HR0.out x5_1 p357 q357
     obtain rfl : ad351 = ad357 := (by injection e357)
     replace p357 := eq_true p357
     replace q357 := eq_true q357
     go_wp2
     go_ret
     exact ⟨by first | rfl | (simp; done) | (simp [*]; done), by repeat (first | exact Drawn0.refl _ | apply Drawn0.step)⟩
   rw [if_pos c11] at H
   have c11b0 : (((rd_T85 l0 x5_1).f4.f2) == (wrap64 ((wrap64 ((wrap64 ((wrap64 ((wrap64 ((wrap64 (x1_1 + 1)) + 1)) + 1)) + 1)) + 1)) + 1))) = true := beq_iff_eq.mpr c11
   have c11b1 : (((rd_T85 l0 x5_1).f4.f2) != (wrap64 ((wrap64 ((wrap64 ((wrap64 ((wrap64 ((wrap64 (x1_1 + 1)) + 1)) + 1)) + 1)) + 1)) + 1))) = false := bne_eq_false_iff_eq.mpr c11
   clear c11
   by_cases c12 : ((rd_T85 l0 x5_1).f4.f3) = (wrap64 ((wrap64 ((wrap64 ((wrap64 ((wrap64 ((wrap64 ((wrap64 (x1_1 + 1)) + 1)) + 1)) + 1)) + 1)) + 1)) + 1))
   rotate_left
   · rw [if_neg c12] at H
     have c12b0 : (((rd_T85 l0 x5_1).f4.f3) == (wrap64 ((wrap64 ((wrap64 ((wrap64 ((wrap64 ((wrap64 ((wrap64 (x1_1 + 1)) + 1)) + 1)) + 1)) + 1)) + 1)) + 1))) = false := beq_eq_false_iff_ne.mpr c12
     have c12b1 : (((rd_T85 l0 x5_1).f4.f3) != (wrap64 ((wrap64 ((wrap64 ((wrap64 ((wrap64 ((wrap64 ((wrap64 (x1_1 + 1)) + 1)) + 1)) + 1)) + 1)) + 1)) + 1))) = true := bne_iff_ne.mpr c12
     obtain rfl := Option.some.inj H
     have p351 : 0 ≤ (x5_1 : Int) := ofb
     have q351 : x5_1 < (l0.length : Int) := ofb
     obtain ⟨ad351, e351, hx351_0, hx351_1, hx351_2, hx351_3, hx351_4, hx351_5, hx351_6, hx351_7⟩ := at_T85 HR0.out x5_1 p351 q351
     cases e351
     replace p351 := eq_true p351
     replace q351 := eq_true q351
     have p352 : 0 ≤ (x5_1 : Int) := ofb
     have q352 : x5_1 < (l0.length : Int) := ofb
     obtain ⟨ad352, e352, hx352_0, hx352_1, hx352_2, hx352_3, hx352_4, hx352_5, hx352_6, hx352_7⟩ := at_T85 HR0.out x5_1 p352 q352
     obtain rfl : ad351 = ad352 := (by injection e352)
     replace p352 := eq_true p352
     replace q352 := eq_true q352
     have p353 : 0 ≤ (x5_1 : Int) := ofb
     have q353 : x5_1 < (l0.length : Int) := ofb
     obtain ⟨ad353, e353, hx353_0, hx353_1, hx353_2, hx353_3, hx353_4, hx353_5, hx353_6, hx353_7⟩ := at_T85 HR0.out x5_1 p353 q353
     obtain rfl : ad351 = ad353 := (by injection e353)
     replace p353 := eq_true p353
     replace q353 := eq_true q353
     have p354 : 0 ≤ (x5_1 : Int) := ofb
     have q354 : x5_1 < (l0.length : Int) := ofb
     obtain ⟨ad354, e354, hx354_0, hx354_1, hx354_2, hx354_3, hx354_4, hx354_5, hx354_6, hx354_7⟩ := at_T85 HR0.out x5_1 p354 q354
     obtain rfl : ad351 = ad354 := (by injection e354)
     replace p354 := eq_true p354
     replace q354 := eq_true q354
     have p355 : 0 ≤ (x5_1 : Int) := ofb
     have q355 : x5_1 < (l0.length : Int) := ofb
     obtain ⟨ad355, e355, hx355_0, hx355_1, hx355_2, hx355_3, hx355_4, hx355_5, hx355_6, hx355_7⟩ := at_T85 HR0.out x5_1 p355 q355
     obtain rfl : ad351 = ad355 := (by injection e355)
     replace p355 := eq_true p355
     replace q355 := eq_true q355
     have p356 : 0 ≤ (x5_1 : Int) := ofb
     have q356 : x5_1 < (l0.length : Int) := ofb
     obtain ⟨ad356, e356, hx356_0, hx356_1, hx356_2, hx356_3, hx356_4, hx356_5, hx356_6, hx356_7⟩ := at_T85 HR0.out x5_1 p356 q356
     obtain rfl : ad351 = ad356 := (by injection e356)
     replace p356 := eq_true p356
     replace q356 := eq_true q356
     have p357 : 0 ≤ (x5_1 : Int) := ofb
     have q357 : x5_1 < (l0.length : Int) := ofb
     obtain ⟨ad357, e357, hx357_0, hx357_1, hx357_2, hx357_3, hx357_4, hx357_5, hx357_6, hx357_7⟩ := at_T85 HR0.out x5_1 p357 q357
     obtain rfl : ad351 = ad357 := (by injection e357)
     replace p357 := eq_true p357
     replace q357 := eq_true q357
     have p358 : 0 ≤ (x5_1 : Int) := ofb
     have q358 : x5_1 < (l0.length : Int) := ofb
     obtain ⟨ad358, e358, hx358_0, hx358_1, hx358_2, hx358_3, hx358_4, hx358_5, hx358_6, hx358_7⟩ := at_T85 HR0.out x5_1 p358 q358
     obtain rfl : ad351 = ad358 := (by injection e358)
     replace p358 := eq_true p358
     replace q358 := eq_true q358
     go_wp2
     go_ret
     exact ⟨by first | rfl | (simp; done) | (simp [*]; done), by repeat (first | exact Drawn0.refl _ | apply Drawn0.step)⟩
   rw [if_pos c12] at H
   have c12b0 : (((rd_T85 l0 x5_1).f4.f3) == (wrap64 ((wrap64 ((wrap64 ((wrap64 ((wrap64 ((wrap64 ((wrap64 (x1_1 + 1)) + 1)) + 1)) + 1)) + 1)) + 1)) + 1))) = true := beq_iff_eq.mpr c12
   have c12b1 : (((rd_T85 l0 x5_1).f4.f3) != (wrap64 ((wrap64 ((wrap64 ((wrap64 ((wrap64 ((wrap64 ((wrap64 (x1_1 + 1)) + 1)) + 1)) + 1)) + 1)) + 1)) + 1))) = false := bne_eq_false_iff_eq.mpr c12
   clear c12
   have H' := am H
   clear H
   have p351 : 0 ≤ (x5_1 : Int) := ofb
   have q351 : x5_1 < (l0.length : Int) := ofb
   obtain ⟨ad351, e351, hx351_0, hx351_1, hx351_2, hx351_3, hx351_4, hx351_5, hx351_6, hx351_7⟩ := at_T85 HR0.out x5_1 p351 q351
   cases e351
   replace p351 := eq_true p351
   replace q351 := eq_true q351
   have p352 : 0 ≤ (x5_1 : Int) := ofb
   have q352 : x5_1 < (l0.length : Int) := ofb
   obtain ⟨ad352, e352, hx352_0, hx352_1, hx352_2, hx352_3, hx352_4, hx352_5, hx352_6, hx352_7⟩ := at_T85 HR0.out x5_1 p352 q352
   obtain rfl : ad351 = ad352 := (by injection e352)
   replace p352 := eq_true p352
   replace q352 := eq_true q352
   have p353 : 0 ≤ (x5_1 : Int) := ofb
   have q353 : x5_1 < (l0.length : Int) := ofb
   obtain ⟨ad353, e353, hx353_0, hx353_1, hx353_2, hx353_3, hx353_4, hx353_5, hx353_6, hx353_7⟩ := at_T85 HR0.out x5_1 p353 q353
   obtain rfl : ad351 = ad353 := (by injection e353)
   replace p353 := eq_true p353
   replace q353 := eq_true q353
   have p354 : 0 ≤ (x5_1 : Int) := ofb
   have q354 : x5_1 < (l0.length : Int) := ofb
   obtain ⟨ad354, e354, hx354_0, hx354_1, hx354_2, hx354_3, hx354_4, hx354_5, hx354_6, hx354_7⟩ := at_T85 HR0.out x5_1 p354 q354
   obtain rfl : ad351 = ad354 := (by injection e354)
   replace p354 := eq_true p354
   replace q354 := eq_true q354
   have p355 : 0 ≤ (x5_1 : Int) := ofb
   have q355 : x5_1 < (l0.length : Int) := ofb
   obtain ⟨ad355, e355, hx355_0, hx355_1, hx355_2, hx355_3, hx355_4, hx355_5, hx355_6, hx355_7⟩ := at_T85 HR0.out x5_1 p355 q355
   obtain rfl : ad351 = ad355 := (by injection e355)
   replace p355 := eq_true p355
   replace q355 := eq_true q355
   have p356 : 0 ≤ (x5_1 : Int) := ofb
   have q356 : x5_1 < (l0.length : Int) := ofb
   obtain ⟨ad356, e356, hx356_0, hx356_1, hx356_2, hx356_3, hx356_4, hx356_5, hx356_6, hx356_7⟩ := at_T85 HR0.out x5_1 p356 q356
   obtain rfl : ad351 = ad356 := (by injection e356)
   replace p356 := eq_true p356
   replace q356 := eq_true q356
   have p357 : 0 ≤ (x5_1 : Int) := ofb
   have q357 : x5_1 < (l0.length : Int) := ofb
   obtain ⟨ad357, e357, hx357_0, hx357_1, hx357_2, hx357_3, hx357_4, hx357_5, hx357_6, hx357_7⟩ := at_T85 HR0.out x5_1 p357 q357
   obtain rfl : ad351 = ad357 := (by injection e357)
   replace p357 := eq_true p357
   replace q357 := eq_true q357
   have p358 : 0 ≤ (x5_1 : Int) := ofb
   have q358 : x5_1 < (l0.length : Int) := ofb
   obtain ⟨ad358, e358, hx358_0, hx358_1, hx358_2, hx358_3, hx358_4, hx358_5, hx358_6, hx358_7⟩ := at_T85 HR0.out x5_1 p358 q358
   obtain rfl : ad351 = ad358 := (by injection e358)
   replace p358 := eq_true p358
   replace q358 := eq_true q358
   go_wp2
   go_roundg k1
   case measure => have := HK1.out; omega
   case rel => exact ⟨(wrap64 ((wrap64 ((wrap64 ((wrap64 ((wrap64 ((wrap64 ((wrap64 ((wrap64 (x1_1 + 1)) + 1)) + 1)) + 1)) + 1)) + 1)) + 1)) + 1)), (wrap64 (x5_1 + 1)), rf, rf, H', ⟨by have := HK1.out; omega⟩, by repeat (first | exact Drawn0.refl _ | apply Drawn0.step)⟩
def laws_FnExactStepsPut.f (k : Nat) (_l0 : List S58) (_l1 : List Int) (_a0 _a1 : Int) : Option Bool := some true
end Go.Proofs.Ytoedphbikgoapaa.Rc
