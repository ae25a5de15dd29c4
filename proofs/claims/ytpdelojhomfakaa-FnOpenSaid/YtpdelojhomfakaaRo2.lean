-- printed by wip/pp/pp.py
import Derived.Test.YtpdelojhomfakaaRo0
import Derived.Test.YtpdelojhomfakaaRo1
namespace Go.Proofs.Ytpdelojhomfakaa.Ro
open Go.RowKit Go.Proofs.YtpdelojhomfakaaW.PrintWords Go.Proofs.YtpdelojhomfakaaW.PrintLast Go.Proofs.YtpdelojhomfakaaW.PrintMore
attribute [local go_sem] max2_int min2_int max_two min_two max_three min_three max_four min_four
set_option linter.unusedVariables false
set_option linter.unusedSimpArgs false
def spec_l2Write.j0 : Nat → List (S31) → Int → Bool → Int → Bool → Int → Int → Int → Int → Option ((List (S31)) × Bool)
 | 0, _, _, _, _, _, _, _, _, _ => none
 | k + 1, x0, x1, x3, x10, x24, x152000, x152001, x152002, x152003 => if x24 = true then (some (x0, false)) else (if x3 = true then (if 0 ≤ x1 then (if x1 < (x0.length : Int) then (if 0 ≤ (wrap64 (4 - x10)) then (if (wrap64 (4 - x10)) < (((rd_T31 x0 x1).f0).length : Int) then (some ((x0.set (x1 : Int).toNat (⟨(((rd_T31 x0 x1).f0).set ((wrap64 (4 - x10)) : Int).toNat (⟨2, (⟨0, 0, 0, 0⟩ : S41)⟩ : S43)), (rd_T31 x0 x1).f1⟩ : S31)), true)) else (none)) else (none)) else (none)) else (none)) else (if 0 ≤ x1 then (if x1 < (x0.length : Int) then (if 0 ≤ (wrap64 (4 - x10)) then (if (wrap64 (4 - x10)) < (((rd_T31 x0 x1).f0).length : Int) then (some ((x0.set (x1 : Int).toNat (⟨(((rd_T31 x0 x1).f0).set ((wrap64 (4 - x10)) : Int).toNat (⟨1, (⟨x152000, x152001, x152002, x152003⟩ : S41)⟩ : S43)), (rd_T31 x0 x1).f1⟩ : S31)), true)) else (none)) else (none)) else (none)) else (none)))
def spec_l2Write.f (k : Nat) (l0 : List (S31)) (a1 : Int) (a2_0 : Int) (a2_1 : Int) (a2_2 : Int) (a2_3 : Int) (a3 : Bool) : Option ((List (S31)) × Bool) := if 0 ≤ a1 then (if a1 < (l0.length : Int) then ((spec_l2Clean.f k ((rd_T31 l0 a1).f0) ((rd_T31 l0 a1).f1)).bind fun t153 => (if t153 = 0 then (spec_l2Write.j0 k l0 a1 a3 t153 true a2_0 a2_1 a2_2 a2_3) else ((spec_l2Seq.f k l0 a2_1).bind fun t154 => (spec_l2Write.j0 k l0 a1 a3 t153 t154 a2_0 a2_1 a2_2 a2_3)))) else (none)) else (none)
theorem spec_l2Write.mono_l : ∀ k, (∀ y0 y1 y2 y3 y4 y5 y6 y7 y8, LeO (spec_l2Write.j0 k y0 y1 y2 y3 y4 y5 y6 y7 y8) (spec_l2Write.j0 (k + 1) y0 y1 y2 y3 y4 y5 y6 y7 y8))
 | 0 => fun _ _ _ _ _ _ _ _ _ r h => by simp [spec_l2Write.j0] at h
 | k + 1 => by
  have ih0 := spec_l2Write.mono_l k
  · intro y0 y1 y2 y3 y4 y5 y6 y7 y8
    unfold spec_l2Write.j0
    repeat' first
    | (with_reducible exact ih0 _ _ _ _ _ _ _ _ _)
    | (with_reducible exact spec_l2Clean.mono _ _ _)
    | (with_reducible exact spec_l2Seq.mono _ _ _)
    | (with_reducible exact LeO.refl _)
    | (with_reducible exact LeO.none _)
    | (with_reducible refine LeO.ite ?_ ?_)
    | (with_reducible refine LeO.bind ?_ (fun _ => ?_))
    | exact ih0 _ _ _ _ _ _ _ _ _
    | exact spec_l2Clean.mono _ _ _
    | exact spec_l2Seq.mono _ _ _
    | exact LeO.none _
    | refine LeO.ite ?_ ?_
    | refine LeO.bind ?_ (fun _ => ?_)
theorem spec_l2Write.mono : ∀ a0 a1 a2 a3 a4 a5 a6 k, LeO (spec_l2Write.f k a0 a1 a2 a3 a4 a5 a6) (spec_l2Write.f (k + 1) a0 a1 a2 a3 a4 a5 a6) := by
 intro a0 a1 a2 a3 a4 a5 a6 k
 have ih0 := spec_l2Write.mono_l k
 unfold spec_l2Write.f
 repeat' first
  | (with_reducible exact ih0 _ _ _ _ _ _ _ _ _)
  | (with_reducible exact spec_l2Clean.mono _ _ _)
  | (with_reducible exact spec_l2Seq.mono _ _ _)
  | (with_reducible exact LeO.refl _)
  | (with_reducible exact LeO.none _)
  | (with_reducible refine LeO.ite ?_ ?_)
  | (with_reducible refine LeO.bind ?_ (fun _ => ?_))
  | exact ih0 _ _ _ _ _ _ _ _ _
  | exact spec_l2Clean.mono _ _ _
  | exact spec_l2Seq.mono _ _ _
  | exact LeO.none _
  | refine LeO.ite ?_ ?_
  | refine LeO.bind ?_ (fun _ => ?_)
def spec_l2Write.T7 : Bool × List (List Nat × List Nat) := (true, [([], []), ([], []), ([0, 1], [0, 1]), ([2], [2]), ([3], [3]), ([], []), ([5], [5]), ([], []), ([4, 6, 0, 1, 2, 3, 4, 5, 6, 7], [4, 6]), ([8, 7, 0, 1, 2, 3, 4, 5, 6, 7], [7, 8])])
def spec_l2Write.B7 : List Nat := [0, 0, 3, 7, 15, 0, 32, 0, 255, 511]
theorem spec_l2Write.tab7 : rtab .any (opsOf Try.f43 7) = spec_l2Write.T7 := by kernel_rfl
theorem spec_l2Write.bits7 : waitsOk spec_l2Write.T7.2 spec_l2Write.B7 = true := by kernel_rfl
set_option maxHeartbeats 8000000 in
set_option maxRecDepth 100000 in
theorem spec_l2Write.calls (k : Nat) (P0_ : Nat → Prop) (u9000_ : Value) (l0 : List (S31)) (a1 : Int) (a2_0 : Int) (a2_1 : Int) (a2_2 : Int) (a2_3 : Int) (a3 : Bool) (r1 : List (S31)) (r2 : Bool) (w0 w : World) (hB : Below w0.heap.size w0 w) (ho0 : Kd.S k31 31 w w0.heap.size P0_ u9000_ l0) (h : spec_l2Write.f k l0 a1 a2_0 a2_1 a2_2 a2_3 a3 = some (r1, r2)) :
 Calls Try.prog 43 #[u9000_, .int .i64 a1, .agg #[.int .i64 a2_0, .int .i64 a2_1, .int .i64 a2_2, .int .i64 a2_3], .bool a3] w fun e w' => ∃ v0_ : Value, e = .returned (.tuple #[v0_, .bool r2]) ∧ Kd.S k31 31 w' w0.heap.size (fun k_ => (P0_ k_ ∨ w.heap.size ≤ k_)) v0_ r1 ∧ Below w0.heap.size w0 w' ∧ Kept w w' (fun k_ => P0_ k_) := by
 have hu41 := Try.underlying41
 have hu31 := Try.underlying31
 have hu43 := Try.underlying43
 have HO0 := am (show Kd.S k31 31 w w0.heap.size (fun k_ => (P0_ k_ ∨ w.heap.size ≤ k_)) u9000_ l0 from Kd.S_mono ho0 (fun k_ hk => (.inl hk)))
 have HK := am (Kept.refl w (fun k_ => P0_ k_))
 have HW0 := am hB.size
 have HB := am hB
 clear hB
 have H : (if 0 ≤ a1 then (if a1 < (l0.length : Int) then ((spec_l2Clean.f k ((rd_T31 l0 a1).f0) ((rd_T31 l0 a1).f1)).bind fun t153 => (if t153 = 0 then (spec_l2Write.j0 k l0 a1 a3 t153 true a2_0 a2_1 a2_2 a2_3) else ((spec_l2Seq.f k l0 a2_1).bind fun t154 => (spec_l2Write.j0 k l0 a1 a3 t153 t154 a2_0 a2_1 a2_2 a2_3)))) else (none)) else (none)) = some (r1, r2) := h
 clear h
 by_cases c5 : 0 ≤ a1
 rotate_left
 · rw [if_neg c5] at H
   exact absurd H (by simp)
 rw [if_pos c5] at H
 have c5b0 := decide_eq_true c5
 clear c5
 by_cases c6 : a1 < (l0.length : Int)
 rotate_left
 · rw [if_neg c6] at H
   exact absurd H (by simp)
 rw [if_pos c6] at H
 have c6b0 := decide_eq_true c6
 clear c6
 replace H := Option.bind_eq_some_iff.mp H
 obtain ⟨t153, A70, H⟩ := H
 replace H : (if t153 = 0 then (spec_l2Write.j0 k l0 a1 a3 t153 true a2_0 a2_1 a2_2 a2_3) else ((spec_l2Seq.f k l0 a2_1).bind fun t154 => (spec_l2Write.j0 k l0 a1 a3 t153 t154 a2_0 a2_1 a2_2 a2_3))) = some (r1, r2) := H
 have A7 := am A70
 clear A70
 have HC8 := am H
 clear H
 go_enter Try.func43, Try.ntmps43
 go_upto_region 2 with (first | (refine bx 6 #[.int .i64 a2_0, .int .i64 a2_1, .int .i64 a2_2, .int .i64 a2_3] 41 rfl ?_; intro gb151 hg w9 hbox hb; replace HO0 := am (Kd.S_below (ps HO0.out) hb); have BK151 := am (hbox); have GW151 := am ((by rw [hg]; exact (by first | exact HK.out.1 | exact (show Kept w _ (fun k_ => P0_ k_) from pk HK.out).1) : w.heap.size ≤ gb151)); replace HK := am (Kept.below (S := (fun k_ => P0_ k_)) (pk HK.out) hb); have GE151 := am ((by rw [hg]; exact (below_size (ph HB.out)) : w0.heap.size ≤ gb151)); replace HB := am (below_step (ph HB.out) hb); clear hb hbox hg; obtain ⟨Ao10, co10, eo10⟩ := Kd.S_slice HO0.out; subst eo10; have p152 : 0 ≤ (a1 : Int) := ofb; have q152 : a1 < (l0.length : Int) := ofb; obtain ⟨ad152, A152_0, c152_0, e152, hx152_0, hx152_1, hl152_0, hi152_0⟩ := at_T31 (Kd.S_reads' HO0.out).2.2 a1 p152 q152; cases e152; obtain ⟨ce152, hce152, hMe152, hcc152⟩ := Kd.S_get HO0.out z31 a1 p152 (by first | exact q152 | exact ofb | (have e_ := (Kd.S_reads' HO0.out).1; omega)); obtain ⟨ve152_0, rfl, ge152_0⟩ := k31_openM hMe152; have hv152_0 := hcc152 0 _ rfl; rw [Nat.add_zero] at hv152_0; replace hv152_0 := Option.some.inj (hv152_0.symm.trans hx152_0); rw [hv152_0] at ge152_0; have HL152_0 := am (show Kd.R k43 43 _ _ _ _ ((rd_T31 l0 a1).f0) from ge152_0); clear hv152_0 ge152_0; have HX152_0 := am hx152_0; clear hcc152 hce152; have HR152_0 := am hi152_0; have HC152_0 := am hl152_0; clear hi152_0 hl152_0; replace p152 := eq_true p152; replace q152 := eq_true q152) | (refine gl 16 Try.func21 #[.agg #[.slice A152_0 ((rd_T31 l0 a1).f0).length c152_0, .int .i64 ((rd_T31 l0 a1).f1)]] rfl ?_; (with_reducible refine (spec_l2Clean.calls k _ _ ((rd_T31 l0 a1).f0) ((rd_T31 l0 a1).f1) t153 _ ?side1 ?side2 A7.out).mono ?_); (case side1 => repeat (first | exact (by repeat (first | (with_reducible exact HR152_0.out) | (with_reducible refine Kd.C_alloc ?_ _) | (with_reducible refine Kd.C_drewN ?_ _) | (with_reducible refine Kd.C_drew ?_) | exact HR152_0.out)) | (with_reducible refine Kd.C_alloc ?_ _) | (with_reducible refine Kd.C_drewN ?_ _) | (with_reducible refine Kd.C_drew ?_))); (case side2 => exact HC152_0.out); rintro e w11 ⟨rfl, hb⟩; refine ⟨_, rfl, ?_⟩; replace HO0 := am (Kd.S_below (ps HO0.out) hb); replace HL152_0 := am (Kd.R_below (pr HL152_0.out) hb); replace BK151 := am (blk_below (pb BK151.out) hb); replace HR152_0 := am (Kd.C_below (by repeat (first | (with_reducible exact HR152_0.out) | (with_reducible refine Kd.C_alloc ?_ _) | (with_reducible refine Kd.C_drewN ?_ _) | (with_reducible refine Kd.C_drew ?_) | exact HR152_0.out)) hb); replace HX152_0 := am (pw_cell_below hb HX152_0.out); replace HK := am (Kept.below (S := (fun k_ => P0_ k_)) (by repeat (first | (with_reducible first | exact HK.out | apply Kept.alloc | apply Kept.drewN | apply Kept.drew | refine Kept.setCell ?_ (.inr GW151.out) _) | exact HK.out)) hb); replace HB := am (below_step (bg1 HB.out GE151.out) hb); (try clear hb); (try clear hb2); (try clear hk); (try clear hi)))
 (try simp only [Act.put, List.setIfInBounds_toArray, List.set_cons_zero, List.set_cons_succ])
 go_cut [24] (fun v24 wc => ∃ (kq : Nat) (x24_7 : Bool), v24 = .bool x24_7 ∧ Aside0 (spec_l2Write.j0 kq l0 a1 a3 t153 x24_7 a2_0 a2_1 a2_2 a2_3 = some (r1, r2)) ∧ Aside0 (kq ≤ k) ∧ Aside0 (Kd.S k31 31 wc w0.heap.size (fun k_ => (P0_ k_ ∨ w.heap.size ≤ k_)) (.slice (some ad152) l0.length co10) l0) ∧ Aside0 (wc.heap[gb151]? = some (.cells #[.int .i64 a2_0, .int .i64 a2_1, .int .i64 a2_2, .int .i64 a2_3] 41 (0, 0))) ∧ Aside0 (Kd.C k43 wc A152_0 ((rd_T31 l0 a1).f0).length ((rd_T31 l0 a1).f0)) ∧ Aside0 (Kept w wc (fun k_ => P0_ k_)) ∧ Aside0 (Below w0.heap.size w0 wc))
 case first =>
  have H := HC8.out
  clear HC8
  by_cases c12 : t153 = 0
  · rw [if_pos c12] at H
    have c12b0 : (t153 == 0) = true := beq_iff_eq.mpr c12
    have c12b1 : (t153 != 0) = false := bne_eq_false_iff_eq.mpr c12
    clear c12
    (first | rw [c12b0] | (simp only [i64_w, i32_w]; rw [c12b0]) | skip)
    have H' := am H
    clear H
    go_wp2
    go_meet
    case rel => exact ⟨_, (true), rf, H', ⟨by first | omega | exact Nat.le_refl _⟩, ⟨ps HO0.out⟩, ⟨pb BK151.out⟩, ⟨by repeat (first | (with_reducible exact HR152_0.out) | (with_reducible refine Kd.C_alloc ?_ _) | (with_reducible refine Kd.C_drewN ?_ _) | (with_reducible refine Kd.C_drew ?_) | exact HR152_0.out)⟩, ⟨by repeat (first | (with_reducible first | exact HK.out | apply Kept.alloc | apply Kept.drewN | apply Kept.drew | refine Kept.setCell ?_ (.inr GW151.out) _) | exact HK.out)⟩, ⟨bg1 HB.out GE151.out⟩⟩
  rw [if_neg c12] at H
  have c12b0 : (t153 == 0) = false := beq_eq_false_iff_ne.mpr c12
  have c12b1 : (t153 != 0) = true := bne_iff_ne.mpr c12
  (first | rw [c12b0] | (simp only [i64_w, i32_w]; rw [c12b0]) | skip)
  replace H := Option.bind_eq_some_iff.mp H
  obtain ⟨t154, A130, H⟩ := H
  replace H : (spec_l2Write.j0 k l0 a1 a3 t153 t154 a2_0 a2_1 a2_2 a2_3) = some (r1, r2) := H
  have A13 := am A130
  clear A130
  have H' := am H
  clear H
  obtain ⟨hcz14_0, hcz14_1, hcz14_2, hcz14_3⟩ := b4 BK151.out
  obtain ⟨hfz14_0, hfz14_1, hfz14_2, hfz14_3⟩ := f4 BK151.out
  go_wp2_with (first | (go_at_call 47; (with_reducible refine (spec_l2Seq.calls k _ _ l0 a2_1 t154 _ ?side1 ?side2 A13.out).mono ?_); (case side1 => repeat (first | exact (Kd.S_reads' HO0.out).2.2 | (with_reducible refine Kd.C_alloc ?_ _) | (with_reducible refine Kd.C_drewN ?_ _) | (with_reducible refine Kd.C_drew ?_))); (case side2 => exact (Kd.S_reads' HO0.out).2.1); rintro e w' ⟨rfl, ⟨nd, rfl⟩⟩))
  go_meet
  case rel => exact ⟨_, (t154), rf, H', ⟨by first | omega | exact Nat.le_refl _⟩, ⟨ps HO0.out⟩, ⟨pb BK151.out⟩, ⟨by repeat (first | (with_reducible exact HR152_0.out) | (with_reducible refine Kd.C_alloc ?_ _) | (with_reducible refine Kd.C_drewN ?_ _) | (with_reducible refine Kd.C_drew ?_) | exact HR152_0.out)⟩, ⟨by repeat (first | (with_reducible first | exact HK.out | apply Kept.alloc | apply Kept.drewN | apply Kept.drew | refine Kept.setCell ?_ (.inr GW151.out) _) | exact HK.out)⟩, ⟨bg1 HB.out GE151.out⟩⟩
 case rest =>
  clear HC8
  obtain ⟨kq, x24_7, rfl, HA, HJ7, HO_0, BK151, HR152_0, HK, HB⟩ := hcut
  cases kq with
  | zero => exact absurd HA.out (by simp [spec_l2Write.j0])
  | succ kj7 =>
   have H := HA.out
   clear HA
   simp only [spec_l2Write.j0] at H
   by_cases c15 : x24_7 = true
   · subst c15
     have H1 : (some (l0, false)) = some (r1, r2) := by rw [if_pos rfl] at H; exact H
     clear H
     have H := H1
     clear H1
     simp only [Option.some.injEq, Prod.mk.injEq] at H
     obtain ⟨rfl, rfl⟩ := H
     go_wp2
     go_ret2
     exact ⟨_, rq ⟨ps HO_0.out, bg1 HB.out GE151.out, by repeat (first | (with_reducible first | exact HK.out | apply Kept.alloc | apply Kept.drewN | apply Kept.drew | refine Kept.setCell ?_ (.inr GW151.out) _) | exact HK.out)⟩⟩
   replace c15 := Bool.eq_false_iff.mpr c15
   subst c15
   have H1 : (if a3 = true then (if 0 ≤ a1 then (if a1 < (l0.length : Int) then (if 0 ≤ (wrap64 (4 - t153)) then (if (wrap64 (4 - t153)) < (((rd_T31 l0 a1).f0).length : Int) then (some ((l0.set (a1 : Int).toNat (⟨(((rd_T31 l0 a1).f0).set ((wrap64 (4 - t153)) : Int).toNat (⟨2, (⟨0, 0, 0, 0⟩ : S41)⟩ : S43)), (rd_T31 l0 a1).f1⟩ : S31)), true)) else (none)) else (none)) else (none)) else (none)) else (if 0 ≤ a1 then (if a1 < (l0.length : Int) then (if 0 ≤ (wrap64 (4 - t153)) then (if (wrap64 (4 - t153)) < (((rd_T31 l0 a1).f0).length : Int) then (some ((l0.set (a1 : Int).toNat (⟨(((rd_T31 l0 a1).f0).set ((wrap64 (4 - t153)) : Int).toNat (⟨1, (⟨a2_0, a2_1, a2_2, a2_3⟩ : S41)⟩ : S43)), (rd_T31 l0 a1).f1⟩ : S31)), true)) else (none)) else (none)) else (none)) else (none))) = some (r1, r2) := by rw [if_neg (show ¬ (false = true) by decide)] at H; exact H
   clear H
   have H := H1
   clear H1
   by_cases c16 : a3 = true
   rotate_left
   · replace c16 := Bool.eq_false_iff.mpr c16
     subst c16
     have H1 : (if 0 ≤ a1 then (if a1 < (l0.length : Int) then (if 0 ≤ (wrap64 (4 - t153)) then (if (wrap64 (4 - t153)) < (((rd_T31 l0 a1).f0).length : Int) then (some ((l0.set (a1 : Int).toNat (⟨(((rd_T31 l0 a1).f0).set ((wrap64 (4 - t153)) : Int).toNat (⟨1, (⟨a2_0, a2_1, a2_2, a2_3⟩ : S41)⟩ : S43)), (rd_T31 l0 a1).f1⟩ : S31)), true)) else (none)) else (none)) else (none)) else (none)) = some (r1, r2) := by rw [if_neg (show ¬ (false = true) by decide)] at H; exact H
     clear H
     have H := H1
     clear H1
     by_cases c31 : 0 ≤ a1
     rotate_left
     · rw [if_neg c31] at H
       exact absurd H (by simp)
     rw [if_pos c31] at H
     have c31b0 := decide_eq_true c31
     clear c31
     by_cases c32 : a1 < (l0.length : Int)
     rotate_left
     · rw [if_neg c32] at H
       exact absurd H (by simp)
     rw [if_pos c32] at H
     have c32b0 := decide_eq_true c32
     clear c32
     obtain ⟨ji33, hji33⟩ : ∃ j_ : Int, (wrap64 (4 - t153)) = j_ := ⟨_, rfl⟩
     replace H : (if 0 ≤ (ji33) then (if (ji33) < (((rd_T31 l0 a1).f0).length : Int) then (some ((l0.set (a1 : Int).toNat (⟨(((rd_T31 l0 a1).f0).set ((ji33) : Int).toNat (⟨1, (⟨a2_0, a2_1, a2_2, a2_3⟩ : S41)⟩ : S43)), (rd_T31 l0 a1).f1⟩ : S31)), true)) else (none)) else (none)) = some (r1, r2) := by first | (rw [hji33] at H; exact H) | (simp only [hji33] at H ⊢; exact H)
     have hji33w : (IntKind.i64.wrap (4 - t153)) = ji33 := (i64_w _).trans hji33
     by_cases c34 : 0 ≤ (ji33)
     rotate_left
     · rw [if_neg c34] at H
       exact absurd H (by simp)
     rw [if_pos c34] at H
     have c34b0 := decide_eq_true c34
     clear c34
     by_cases c35 : (ji33) < (((rd_T31 l0 a1).f0).length : Int)
     rotate_left
     · rw [if_neg c35] at H
       exact absurd H (by simp)
     rw [if_pos c35] at H
     have c35b0 := decide_eq_true c35
     clear c35
     obtain ⟨y161, hy161⟩ : ∃ y_ : List (S43), y_ = (((rd_T31 l0 a1).f0).set ((ji33) : Int).toNat (⟨1, (⟨a2_0, a2_1, a2_2, a2_3⟩ : S41)⟩ : S43)) := ⟨_, rfl⟩
     replace H : (some ((l0.set (a1 : Int).toNat (⟨y161, (rd_T31 l0 a1).f1⟩ : S31)), true)) = some (r1, r2) := by first | (rw [hy161]; with_reducible exact H) | (have H2_ := (Option.bind_some _ _).symm.trans H; rw [hy161]; with_reducible exact H2_) | (have H2_ := (Option.bind_some _ _).symm.trans H; with_reducible exact H2_) | with_reducible exact H | (rw [hy161]; exact H) | exact H
     have Ny161 := am hy161
     clear hy161
     obtain ⟨y163, hy163⟩ : ∃ y_ : List (S31), y_ = (l0.set (a1 : Int).toNat (⟨y161, (rd_T31 l0 a1).f1⟩ : S31)) := ⟨_, rfl⟩
     replace H : (some (y163, true)) = some (r1, r2) := by first | (rw [hy163]; with_reducible exact H) | (have H2_ := (Option.bind_some _ _).symm.trans H; rw [hy163]; with_reducible exact H2_) | (have H2_ := (Option.bind_some _ _).symm.trans H; with_reducible exact H2_) | with_reducible exact H | (rw [hy163]; exact H) | exact H
     have Ny163 := am hy163
     clear hy163
     simp only [Option.some.injEq, Prod.mk.injEq] at H
     obtain ⟨rfl, rfl⟩ := H
     obtain ⟨hcz37_0, hcz37_1, hcz37_2, hcz37_3⟩ := b4 BK151.out
     obtain ⟨hfz37_0, hfz37_1, hfz37_2, hfz37_3⟩ := f4 BK151.out
     try go_wp2_with (first | (refine bx 11 #[.int .i64 0, .int .i64 0, .int .i64 0, .int .i64 0, .int .i64 0] 43 rfl ?_; intro gb155 hg w38 hbox hb; replace HO_0 := am (Kd.S_below (Kd.S_elderB (ps HO_0.out) gb155 (Nat.le_of_eq hg.symm)) hb); replace HR152_0 := am (Kd.C_below (by repeat (first | (with_reducible exact HR152_0.out) | (with_reducible refine Kd.C_alloc ?_ _) | (with_reducible refine Kd.C_drewN ?_ _) | (with_reducible refine Kd.C_drew ?_) | exact HR152_0.out)) hb); have BK155 := am (hbox); have GW155 := am ((by rw [hg]; exact (by first | exact HK.out.1 | exact (show Kept w _ (fun k_ => P0_ k_) from by repeat (first | (with_reducible first | exact HK.out | apply Kept.alloc | apply Kept.drewN | apply Kept.drew | refine Kept.setCell ?_ (.inr GW151.out) _) | exact HK.out)).1) : w.heap.size ≤ gb155)); replace HK := am (Kept.below (S := (fun k_ => P0_ k_)) (by repeat (first | (with_reducible first | exact HK.out | apply Kept.alloc | apply Kept.drewN | apply Kept.drew | refine Kept.setCell ?_ (.inr GW151.out) _) | exact HK.out)) hb); have GE155 := am ((by rw [hg]; exact (below_size (bg1 HB.out GE151.out)) : w0.heap.size ≤ gb155)); replace HB := am (below_step (bg1 HB.out GE151.out) hb); have NB151_155 := am ((by rw [hg]; exact Nat.ne_of_lt (blk_lt (pb BK151.out)) : gb151 ≠ gb155)); have NB155_151 := am (Ne.symm NB151_155.out); replace BK151 := am (blk_below (pb BK151.out) hb); clear hb hbox hg; have hnb39 := NB155_151.out; have hnc39 := NB151_155.out; obtain ⟨hcz40_0, hcz40_1, hcz40_2, hcz40_3, hcz40_4⟩ := b5 BK155.out; obtain ⟨hfz40_0, hfz40_1, hfz40_2, hfz40_3, hfz40_4⟩ := f5 BK155.out))
     have n0_ : Aside0 (Kd.S k31 31 (((((w38.setCell ⟨gb155, 0, none⟩ (.int .i64 1)).setCell ⟨gb155, 1, none⟩ (.int .i64 a2_0)).setCell ⟨gb155, 2, none⟩ (.int .i64 a2_1)).setCell ⟨gb155, 3, none⟩ (.int .i64 a2_2)).setCell ⟨gb155, 4, none⟩ (.int .i64 a2_3)) w0.heap.size (fun k_ => (P0_ k_ ∨ w.heap.size ≤ k_) ∧ k_ ≠ gb155) (.slice (some ad152) l0.length co10) l0) := ⟨by (with_reducible repeat (first | apply Kd.S_alloc | apply Kd.S_drewN | apply Kd.S_drew)); exact Kd.S_mono (Kd.S_far (p := ⟨gb155, 4, none⟩) (Kd.S_far (p := ⟨gb155, 3, none⟩) (Kd.S_far (p := ⟨gb155, 2, none⟩) (Kd.S_far (p := ⟨gb155, 1, none⟩) (Kd.S_far (p := ⟨gb155, 0, none⟩) (Kd.S_mono HO_0.out (fun k_ hk => (⟨hk, hk.2⟩ : _ ∧ k_ ≠ gb155))) (fun _ hk => hk.2) (.int .i64 1)) (fun _ hk => hk.2) (.int .i64 a2_0)) (fun _ hk => hk.2) (.int .i64 a2_1)) (fun _ hk => hk.2) (.int .i64 a2_2)) (fun _ hk => hk.2) (.int .i64 a2_3)) (fun _ hk => ⟨hk.1.1, hk.1.2⟩)⟩
     have n1_ : Aside0 ((((((w38.setCell ⟨gb155, 0, none⟩ (.int .i64 1)).setCell ⟨gb155, 1, none⟩ (.int .i64 a2_0)).setCell ⟨gb155, 2, none⟩ (.int .i64 a2_1)).setCell ⟨gb155, 3, none⟩ (.int .i64 a2_2)).setCell ⟨gb155, 4, none⟩ (.int .i64 a2_3)).heap[gb151]? = some (.cells #[.int .i64 a2_0, .int .i64 a2_1, .int .i64 a2_2, .int .i64 a2_3] 41 (0, 0))) := ⟨by (with_reducible repeat (first | refine blk_drewN ?_ _ | refine blk_drew ?_ | refine blk_alloc ?_ _)); refine blk_far ?_ NB151_155.out _; (with_reducible repeat (first | refine blk_drewN ?_ _ | refine blk_drew ?_ | refine blk_alloc ?_ _)); refine blk_far ?_ NB151_155.out _; (with_reducible repeat (first | refine blk_drewN ?_ _ | refine blk_drew ?_ | refine blk_alloc ?_ _)); refine blk_far ?_ NB151_155.out _; (with_reducible repeat (first | refine blk_drewN ?_ _ | refine blk_drew ?_ | refine blk_alloc ?_ _)); refine blk_far ?_ NB151_155.out _; (with_reducible repeat (first | refine blk_drewN ?_ _ | refine blk_drew ?_ | refine blk_alloc ?_ _)); refine blk_far ?_ NB151_155.out _; (with_reducible repeat (first | refine blk_drewN ?_ _ | refine blk_drew ?_ | refine blk_alloc ?_ _)); exact BK151.out⟩
     have n2_ : Aside0 ((((((w38.setCell ⟨gb155, 0, none⟩ (.int .i64 1)).setCell ⟨gb155, 1, none⟩ (.int .i64 a2_0)).setCell ⟨gb155, 2, none⟩ (.int .i64 a2_1)).setCell ⟨gb155, 3, none⟩ (.int .i64 a2_2)).setCell ⟨gb155, 4, none⟩ (.int .i64 a2_3)).heap[gb155]? = some (.cells #[.int .i64 1, .int .i64 a2_0, .int .i64 a2_1, .int .i64 a2_2, .int .i64 a2_3] 43 (0, 0))) := ⟨by (with_reducible repeat (first | refine blk_drewN ?_ _ | refine blk_drew ?_ | refine blk_alloc ?_ _)); refine blk_put (cs := #[.int .i64 1, .int .i64 a2_0, .int .i64 a2_1, .int .i64 a2_2, .int .i64 0]) ?_ 4 _ rfl; (with_reducible repeat (first | refine blk_drewN ?_ _ | refine blk_drew ?_ | refine blk_alloc ?_ _)); refine blk_put (cs := #[.int .i64 1, .int .i64 a2_0, .int .i64 a2_1, .int .i64 0, .int .i64 0]) ?_ 3 _ rfl; (with_reducible repeat (first | refine blk_drewN ?_ _ | refine blk_drew ?_ | refine blk_alloc ?_ _)); refine blk_put (cs := #[.int .i64 1, .int .i64 a2_0, .int .i64 0, .int .i64 0, .int .i64 0]) ?_ 2 _ rfl; (with_reducible repeat (first | refine blk_drewN ?_ _ | refine blk_drew ?_ | refine blk_alloc ?_ _)); refine blk_put (cs := #[.int .i64 1, .int .i64 0, .int .i64 0, .int .i64 0, .int .i64 0]) ?_ 1 _ rfl; (with_reducible repeat (first | refine blk_drewN ?_ _ | refine blk_drew ?_ | refine blk_alloc ?_ _)); refine blk_put (cs := #[.int .i64 0, .int .i64 0, .int .i64 0, .int .i64 0, .int .i64 0]) ?_ 0 _ rfl; (with_reducible repeat (first | refine blk_drewN ?_ _ | refine blk_drew ?_ | refine blk_alloc ?_ _)); exact BK155.out⟩
     have n3_ : Aside0 (Kept w (((((w38.setCell ⟨gb155, 0, none⟩ (.int .i64 1)).setCell ⟨gb155, 1, none⟩ (.int .i64 a2_0)).setCell ⟨gb155, 2, none⟩ (.int .i64 a2_1)).setCell ⟨gb155, 3, none⟩ (.int .i64 a2_2)).setCell ⟨gb155, 4, none⟩ (.int .i64 a2_3)) (fun k_ => P0_ k_)) := ⟨by repeat (first | (with_reducible first | exact HK.out | apply Kept.alloc | apply Kept.drewN | apply Kept.drew | refine Kept.setCell ?_ (.inr GW151.out) _ | refine Kept.setCell ?_ (.inr GW155.out) _) | exact HK.out)⟩
     have n4_ : Aside0 (Below w0.heap.size w0 (((((w38.setCell ⟨gb155, 0, none⟩ (.int .i64 1)).setCell ⟨gb155, 1, none⟩ (.int .i64 a2_0)).setCell ⟨gb155, 2, none⟩ (.int .i64 a2_1)).setCell ⟨gb155, 3, none⟩ (.int .i64 a2_2)).setCell ⟨gb155, 4, none⟩ (.int .i64 a2_3))) := ⟨bg2 HB.out GE151.out GE155.out⟩
     (try clear HO_0)
     (try clear BK151)
     (try clear BK155)
     (try clear HK)
     (try clear HB)
     generalize (((((w38.setCell ⟨gb155, 0, none⟩ (.int .i64 1)).setCell ⟨gb155, 1, none⟩ (.int .i64 a2_0)).setCell ⟨gb155, 2, none⟩ (.int .i64 a2_1)).setCell ⟨gb155, 3, none⟩ (.int .i64 a2_2)).setCell ⟨gb155, 4, none⟩ (.int .i64 a2_3)) = w41 at n0_ n1_ n2_ n3_ n4_ ⊢
     have HO_0 := n0_
     have BK151 := n1_
     have BK155 := n2_
     have HK := n3_
     have HB := n4_
     clear n0_ n1_ n2_ n3_ n4_
     replace HO_0 := am (Kd.S_drew HO_0.out)
     replace BK151 := am (blk_drew BK151.out)
     replace BK155 := am (blk_drew BK155.out)
     replace HK := am (Kept.drew HK.out)
     replace HB := am (below_drew1 HB.out)
     have p160 : 0 ≤ (a1 : Int) := ofb
     have q160 : a1 < (l0.length : Int) := ofb
     obtain ⟨ad160, A160_0, c160_0, e160, hx160_0, hx160_1, hl160_0, hi160_0⟩ := at_T31 (Kd.S_reads' HO_0.out).2.2 a1 p160 q160
     obtain rfl : ad152 = ad160 := (by injection e160)
     obtain ⟨ce160, hce160, hMe160, hcc160⟩ := Kd.S_get HO_0.out z31 a1 p160 (by first | exact q160 | exact ofb | (have e_ := (Kd.S_reads' HO_0.out).1; omega))
     obtain ⟨ve160_0, rfl, ge160_0⟩ := k31_openM hMe160
     have hv160_0 := hcc160 0 _ rfl
     rw [Nat.add_zero] at hv160_0
     replace hv160_0 := Option.some.inj (hv160_0.symm.trans hx160_0)
     rw [hv160_0] at ge160_0
     have HL160_0 := am (show Kd.R k43 43 _ _ _ _ ((rd_T31 l0 a1).f0) from ge160_0)
     clear hv160_0 ge160_0
     have HX160_0 := am hx160_0
     clear hcc160 hce160
     have HR160_0 := am hi160_0
     have HC160_0 := am hl160_0
     clear hi160_0 hl160_0
     replace p160 := eq_true p160
     replace q160 := eq_true q160
     have p36 : 0 ≤ ((ji33) : Int) := ofb
     have q36 : ((ji33) : Int) < ((((rd_T31 l0 a1).f0).length : Int) : Int) := ofb
     obtain ⟨go36, co36, eo36, gb36, gl36, cl36, HG36⟩ := Kd.R_form HL160_0.out (by omega)
     (first | cases eo36 | (injection eo36 with ea_ en_ ec_; (first | subst ea_ | (injection ea_ with ea_; subst ea_)); subst ec_; clear en_))
     have GB36 := am gb36
     have GG36 := am HG36
     clear gb36 gl36 HG36
     have HMgo36 := am (show (P0_ go36 ∨ w.heap.size ≤ go36) from (HL160_0.out.1 _ rfl).1.1)
     obtain ⟨ce36, hcl36, hM36, hcc36, hfr36⟩ := Kd.R_elem HL160_0.out z43 ((ji33) : Int) p36 q36
     obtain rfl := k43_openM hM36
     have hx36_0 : World.cell? _ ⟨go36, ((ji33) : Int).toNat * 5, none⟩ = some (.int .i64 ((rd_T43 ((rd_T31 l0 a1).f0) (ji33)).f0)) := hcc36 0 _ rfl
     have hx36_1 : World.cell? _ ⟨go36, ((ji33) : Int).toNat * 5 + 1, none⟩ = some (.int .i64 ((rd_T43 ((rd_T31 l0 a1).f0) (ji33)).f1.f0)) := hcc36 1 _ rfl
     have hx36_2 : World.cell? _ ⟨go36, ((ji33) : Int).toNat * 5 + 2, none⟩ = some (.int .i64 ((rd_T43 ((rd_T31 l0 a1).f0) (ji33)).f1.f1)) := hcc36 2 _ rfl
     have hx36_3 : World.cell? _ ⟨go36, ((ji33) : Int).toNat * 5 + 3, none⟩ = some (.int .i64 ((rd_T43 ((rd_T31 l0 a1).f0) (ji33)).f1.f2)) := hcc36 3 _ rfl
     have hx36_4 : World.cell? _ ⟨go36, ((ji33) : Int).toNat * 5 + 4, none⟩ = some (.int .i64 ((rd_T43 ((rd_T31 l0 a1).f0) (ji33)).f1.f3)) := hcc36 4 _ rfl
     have hf36_0 : World.frozen? _ ⟨go36, ((ji33) : Int).toNat * 5, none⟩ = false := hfr36 0
     have hf36_1 : World.frozen? _ ⟨go36, ((ji33) : Int).toNat * 5 + 1, none⟩ = false := hfr36 1
     have hf36_2 : World.frozen? _ ⟨go36, ((ji33) : Int).toNat * 5 + 2, none⟩ = false := hfr36 2
     have hf36_3 : World.frozen? _ ⟨go36, ((ji33) : Int).toNat * 5 + 3, none⟩ = false := hfr36 3
     have hf36_4 : World.frozen? _ ⟨go36, ((ji33) : Int).toNat * 5 + 4, none⟩ = false := hfr36 4
     clear hcl36 hcc36 hfr36 hM36
     replace p36 := eq_true p36
     replace q36 := eq_true q36
     have hq43 : (a1 : Int) < (l0.length : Int) := (by have h_ : (a1 : Int) < ((l0.length : Int) : Int) := ofb; first | exact h_ | (have e_ := (Kd.S_reads' HO_0.out).1; omega) | simpa only [List.length_set, List.length_set] using h_)
     obtain ⟨oki43, ce43, hcl43, hM43, hcc43, hok43, hbk43⟩ := Kd.S_borrow HO_0.out z31 (a1 : Int) (ofb) hq43
     obtain ⟨ve43_0, rfl, ge43_0⟩ := k31_openM hM43
     have hv43 := hcc43 0 _ rfl
     rw [Nat.add_zero] at hv43
     replace hv43 := Option.some.inj (hv43.symm.trans HX160_0.out)
     subst hv43
     clear hcc43 hcl43
     replace ge43_0 := (show Kd.R k43 43 _ _ _ _ ((rd_T31 l0 a1).f0) from ge43_0)
     obtain ⟨cf43, hcl43, hN43, hcc43, hfr43⟩ := Kd.R_elem ge43_0 z43 ((ji33) : Int) (ofb) (by have h_ : ((ji33) : Int) < ((((rd_T31 l0 a1).f0).length : Int) : Int) := ofb; first | exact h_ | (have e_ := (Kd.R_reads' HR160_0.out).1; omega) | simpa using h_)
     obtain rfl := k43_openM hN43
     have HP43 := Kd.R_seg ge43_0 ((ji33) : Int) (ofb) (by have h_ : ((ji33) : Int) < ((((rd_T31 l0 a1).f0).length : Int) : Int) := ofb; first | exact h_ | (have e_ := (Kd.R_reads' HR160_0.out).1; omega) | simpa using h_) (seg := [.int .i64 1, .int .i64 a2_0, .int .i64 a2_1, .int .i64 a2_2, .int .i64 a2_3]) (j := 0) hcl43 hcc43 (show 5 ≤ 5 from by decide) (x' := (⟨1, (⟨a2_0, a2_1, a2_2, a2_3⟩ : S41)⟩ : S43)) (k43_mkM _ _ _ (⟨1, (⟨a2_0, a2_1, a2_2, a2_3⟩ : S41)⟩ : S43)) (fun _ hk => hk)
     clear hcl43 hcc43 hfr43 hN43
     rw [← Ny161.out] at HP43
     have HS43 := hbk43 HP43.2 (fun k_ e_ => by injection e_ with e_; subst e_; exact ge43_0.1 _ rfl) (x' := (⟨y161, (rd_T31 l0 a1).f1⟩ : S31)) (k31_mkM _ _ _ (⟨y161, (rd_T31 l0 a1).f1⟩ : S31) HP43.1)
     rw [← Ny163.out] at HS43
     have HQ43 := am HS43
     clear HP43 HS43 hbk43 hok43
     refine start_ (n := 10) (S := fun w' => w'.cell? ⟨gb155, 0, none⟩ = some (.int .i64 1) ∧ w'.cell? ⟨gb155, 1, none⟩ = some (.int .i64 a2_0) ∧ w'.cell? ⟨gb155, 2, none⟩ = some (.int .i64 a2_1) ∧ w'.cell? ⟨gb155, 3, none⟩ = some (.int .i64 a2_2) ∧ w'.cell? ⟨gb155, 4, none⟩ = some (.int .i64 a2_3) ∧ w'.cell? (ad152.add ((a1).toNat * 2)) = some (.slice (some ⟨go36, 0, none⟩) ((rd_T31 l0 a1).f0).length c160_0) ∧ w'.cell? ⟨(ad152.add ((a1).toNat * 2)).block, (ad152.add ((a1).toNat * 2)).off + 1, none⟩ = some (.int .i64 ((rd_T31 l0 a1).f1))) (ds := [9]) #[false, false, false, false, false, false, false, false, false, false] (by kernel_rfl) rfl rfl ⟨(blk_cell BK155.out 0).trans rfl, (blk_cell BK155.out 1).trans rfl, (blk_cell BK155.out 2).trans rfl, (blk_cell BK155.out 3).trans rfl, (blk_cell BK155.out 4).trans rfl, hx160_0, hx160_1⟩ (fun hHeld => ?_); refine with_tabW spec_l2Write.tab7 spec_l2Write.bits7 (fun HT_ HW_ => ?_)
     generalize w41.drew = w42 at HO_0 BK151 BK155 HK HB GG36 HL160_0 HQ43 HR160_0 HX160_0 hf36_0 hf36_1 hf36_2 hf36_3 hf36_4 hx160_0 hx160_1 hx36_0 hx36_1 hx36_2 hx36_3 hx36_4 hHeld ⊢
     refine pj_ 0 30 #[true, false, false, false, false, false, false, false, false, false] rfl rfl (any_of HT_.out (by kernel_rfl)) (fun _ _ _ h => h) ?_
     refine pj_ 1 31 #[true, true, false, false, false, false, false, false, false, false] rfl rfl (any_of HT_.out (by kernel_rfl)) (fun _ _ _ h => h) ?_
     refine pj_ 2 32 #[true, true, true, false, false, false, false, false, false, false] rfl rfl (any_of HT_.out (by kernel_rfl)) (fun _ _ _ h => h) ?_
     refine pj_ 3 33 #[true, true, true, true, false, false, false, false, false, false] rfl rfl (any_of HT_.out (by kernel_rfl)) (fun _ _ _ h => h) ?_
     refine pj_ 5 35 #[true, true, true, true, false, true, false, false, false, false] rfl rfl (any_of HT_.out (by kernel_rfl)) (fun _ _ _ h => h) ?_
     refine pj_ 6 36 #[true, true, true, true, false, true, true, false, false, false] rfl rfl (any_of HT_.out (by kernel_rfl)) (fun _ _ _ h => h) ?_
     refine pm_ 4 34 #[true, true, true, true, true, true, true, false, false, false] rfl rfl (take_ofW HT_.out HW_.out (by kernel_rfl)) (fun _ _ _ h => h) hHeld ?_
     refine pm_ 7 37 #[true, true, true, true, true, true, true, true, false, false] rfl rfl (take_ofW HT_.out HW_.out (by kernel_rfl)) (fun _ _ _ h => h) hHeld ?_
     refine pj_ 8 38 #[true, true, true, true, true, true, true, true, true, false] rfl rfl (any_of HT_.out (by kernel_rfl)) (fun _ _ _ h => h) ?_
     refine last_ (i := 9) (N := none) #[true, true, true, true, true, true, true, true, true, true] rfl rfl (one_of HT_.out (by kernel_rfl)) (by decide) (fun K hK => ?_)
     refine skip_ (w1 := ?_) (by rfl) rfl ?_ ?_
     rotate_left
     · go_simp
       rfl
     refine hK.out _ _ ?_
     clear hK K
     refine done_ (done_of HT_.out (by kernel_rfl)) ?_
     try go_wp2
     go_ret2
     exact ⟨_, by first | rfl | (simp [errW_none, errW_some] <;> rfl) | (simp only [← hji33]; first | rfl | (simp [errW_none, errW_some] <;> rfl)) | (simp [*, errW_none, errW_some] <;> rfl), by (with_reducible repeat (first | apply Kd.S_alloc | apply Kd.S_drewN | apply Kd.S_drew)); exact Kd.S_mono HQ43.out (fun _ hk => hk.1), by repeat (first | (with_reducible first | exact HB.out | apply below_alloc | apply pw_below_drewN | apply below_drew1 | refine below_set ?_ GB36.out | refine below_set ?_ GB36.out | refine below_set ?_ GB36.out | refine below_set ?_ GB36.out | refine below_set ?_ GB36.out | refine below_set ?_ GE151.out | refine below_set ?_ GE155.out) | exact HB.out), by repeat (first | (with_reducible first | exact HK.out | apply Kept.alloc | apply Kept.drewN | apply Kept.drew | refine Kept.setCell ?_ HMgo36.out _ | refine Kept.setCell ?_ HMgo36.out _ | refine Kept.setCell ?_ HMgo36.out _ | refine Kept.setCell ?_ HMgo36.out _ | refine Kept.setCell ?_ HMgo36.out _ | refine Kept.setCell ?_ (.inr GW151.out) _ | refine Kept.setCell ?_ (.inr GW155.out) _) | exact HK.out)⟩
   subst c16
   have H1 : (if 0 ≤ a1 then (if a1 < (l0.length : Int) then (if 0 ≤ (wrap64 (4 - t153)) then (if (wrap64 (4 - t153)) < (((rd_T31 l0 a1).f0).length : Int) then (some ((l0.set (a1 : Int).toNat (⟨(((rd_T31 l0 a1).f0).set ((wrap64 (4 - t153)) : Int).toNat (⟨2, (⟨0, 0, 0, 0⟩ : S41)⟩ : S43)), (rd_T31 l0 a1).f1⟩ : S31)), true)) else (none)) else (none)) else (none)) else (none)) = some (r1, r2) := by rw [if_pos rfl] at H; exact H
   clear H
   have H := H1
   clear H1
   by_cases c17 : 0 ≤ a1
   rotate_left
   · rw [if_neg c17] at H
     exact absurd H (by simp)
   rw [if_pos c17] at H
   have c17b0 := decide_eq_true c17
   clear c17
   by_cases c18 : a1 < (l0.length : Int)
   rotate_left
   · rw [if_neg c18] at H
     exact absurd H (by simp)
   rw [if_pos c18] at H
   have c18b0 := decide_eq_true c18
   clear c18
   obtain ⟨ji19, hji19⟩ : ∃ j_ : Int, (wrap64 (4 - t153)) = j_ := ⟨_, rfl⟩
   replace H : (if 0 ≤ (ji19) then (if (ji19) < (((rd_T31 l0 a1).f0).length : Int) then (some ((l0.set (a1 : Int).toNat (⟨(((rd_T31 l0 a1).f0).set ((ji19) : Int).toNat (⟨2, (⟨0, 0, 0, 0⟩ : S41)⟩ : S43)), (rd_T31 l0 a1).f1⟩ : S31)), true)) else (none)) else (none)) = some (r1, r2) := by first | (rw [hji19] at H; exact H) | (simp only [hji19] at H ⊢; exact H)
   have hji19w : (IntKind.i64.wrap (4 - t153)) = ji19 := (i64_w _).trans hji19
   by_cases c20 : 0 ≤ (ji19)
   rotate_left
   · rw [if_neg c20] at H
     exact absurd H (by simp)
   rw [if_pos c20] at H
   have c20b0 := decide_eq_true c20
   clear c20
   by_cases c21 : (ji19) < (((rd_T31 l0 a1).f0).length : Int)
   rotate_left
   · rw [if_neg c21] at H
     exact absurd H (by simp)
   rw [if_pos c21] at H
   have c21b0 := decide_eq_true c21
   clear c21
   obtain ⟨y157, hy157⟩ : ∃ y_ : List (S43), y_ = (((rd_T31 l0 a1).f0).set ((ji19) : Int).toNat (⟨2, (⟨0, 0, 0, 0⟩ : S41)⟩ : S43)) := ⟨_, rfl⟩
   replace H : (some ((l0.set (a1 : Int).toNat (⟨y157, (rd_T31 l0 a1).f1⟩ : S31)), true)) = some (r1, r2) := by first | (rw [hy157]; with_reducible exact H) | (have H2_ := (Option.bind_some _ _).symm.trans H; rw [hy157]; with_reducible exact H2_) | (have H2_ := (Option.bind_some _ _).symm.trans H; with_reducible exact H2_) | with_reducible exact H | (rw [hy157]; exact H) | exact H
   have Ny157 := am hy157
   clear hy157
   obtain ⟨y159, hy159⟩ : ∃ y_ : List (S31), y_ = (l0.set (a1 : Int).toNat (⟨y157, (rd_T31 l0 a1).f1⟩ : S31)) := ⟨_, rfl⟩
   replace H : (some (y159, true)) = some (r1, r2) := by first | (rw [hy159]; with_reducible exact H) | (have H2_ := (Option.bind_some _ _).symm.trans H; rw [hy159]; with_reducible exact H2_) | (have H2_ := (Option.bind_some _ _).symm.trans H; with_reducible exact H2_) | with_reducible exact H | (rw [hy159]; exact H) | exact H
   have Ny159 := am hy159
   clear hy159
   simp only [Option.some.injEq, Prod.mk.injEq] at H
   obtain ⟨rfl, rfl⟩ := H
   obtain ⟨hcz23_0, hcz23_1, hcz23_2, hcz23_3⟩ := b4 BK151.out
   obtain ⟨hfz23_0, hfz23_1, hfz23_2, hfz23_3⟩ := f4 BK151.out
   try go_wp2_with (first | (refine bx 11 #[.int .i64 0, .int .i64 0, .int .i64 0, .int .i64 0, .int .i64 0] 43 rfl ?_; intro gb155 hg w24 hbox hb; replace HO_0 := am (Kd.S_below (Kd.S_elderB (ps HO_0.out) gb155 (Nat.le_of_eq hg.symm)) hb); replace HR152_0 := am (Kd.C_below (by repeat (first | (with_reducible exact HR152_0.out) | (with_reducible refine Kd.C_alloc ?_ _) | (with_reducible refine Kd.C_drewN ?_ _) | (with_reducible refine Kd.C_drew ?_) | exact HR152_0.out)) hb); have BK155 := am (hbox); have GW155 := am ((by rw [hg]; exact (by first | exact HK.out.1 | exact (show Kept w _ (fun k_ => P0_ k_) from by repeat (first | (with_reducible first | exact HK.out | apply Kept.alloc | apply Kept.drewN | apply Kept.drew | refine Kept.setCell ?_ (.inr GW151.out) _) | exact HK.out)).1) : w.heap.size ≤ gb155)); replace HK := am (Kept.below (S := (fun k_ => P0_ k_)) (by repeat (first | (with_reducible first | exact HK.out | apply Kept.alloc | apply Kept.drewN | apply Kept.drew | refine Kept.setCell ?_ (.inr GW151.out) _) | exact HK.out)) hb); have GE155 := am ((by rw [hg]; exact (below_size (bg1 HB.out GE151.out)) : w0.heap.size ≤ gb155)); replace HB := am (below_step (bg1 HB.out GE151.out) hb); have NB151_155 := am ((by rw [hg]; exact Nat.ne_of_lt (blk_lt (pb BK151.out)) : gb151 ≠ gb155)); have NB155_151 := am (Ne.symm NB151_155.out); replace BK151 := am (blk_below (pb BK151.out) hb); clear hb hbox hg; have hnb25 := NB155_151.out; have hnc25 := NB151_155.out; obtain ⟨hcz26_0, hcz26_1, hcz26_2, hcz26_3, hcz26_4⟩ := b5 BK155.out; obtain ⟨hfz26_0, hfz26_1, hfz26_2, hfz26_3, hfz26_4⟩ := f5 BK155.out))
   have n0_ : Aside0 (Kd.S k31 31 ((((((((((w24.setCell ⟨gb155, 0, none⟩ (.int .i64 1)).setCell ⟨gb155, 1, none⟩ (.int .i64 a2_0)).setCell ⟨gb155, 2, none⟩ (.int .i64 a2_1)).setCell ⟨gb155, 3, none⟩ (.int .i64 a2_2)).setCell ⟨gb155, 4, none⟩ (.int .i64 a2_3)).setCell ⟨gb155, 0, none⟩ (.int .i64 2)).setCell ⟨gb155, 1, none⟩ (.int .i64 0)).setCell ⟨gb155, 2, none⟩ (.int .i64 0)).setCell ⟨gb155, 3, none⟩ (.int .i64 0)).setCell ⟨gb155, 4, none⟩ (.int .i64 0)) w0.heap.size (fun k_ => (P0_ k_ ∨ w.heap.size ≤ k_) ∧ k_ ≠ gb155) (.slice (some ad152) l0.length co10) l0) := ⟨by (with_reducible repeat (first | apply Kd.S_alloc | apply Kd.S_drewN | apply Kd.S_drew)); exact Kd.S_mono (Kd.S_far (p := ⟨gb155, 4, none⟩) (Kd.S_far (p := ⟨gb155, 3, none⟩) (Kd.S_far (p := ⟨gb155, 2, none⟩) (Kd.S_far (p := ⟨gb155, 1, none⟩) (Kd.S_far (p := ⟨gb155, 0, none⟩) (Kd.S_far (p := ⟨gb155, 4, none⟩) (Kd.S_far (p := ⟨gb155, 3, none⟩) (Kd.S_far (p := ⟨gb155, 2, none⟩) (Kd.S_far (p := ⟨gb155, 1, none⟩) (Kd.S_far (p := ⟨gb155, 0, none⟩) (Kd.S_mono HO_0.out (fun k_ hk => (⟨hk, hk.2⟩ : _ ∧ k_ ≠ gb155))) (fun _ hk => hk.2) (.int .i64 1)) (fun _ hk => hk.2) (.int .i64 a2_0)) (fun _ hk => hk.2) (.int .i64 a2_1)) (fun _ hk => hk.2) (.int .i64 a2_2)) (fun _ hk => hk.2) (.int .i64 a2_3)) (fun _ hk => hk.2) (.int .i64 2)) (fun _ hk => hk.2) (.int .i64 0)) (fun _ hk => hk.2) (.int .i64 0)) (fun _ hk => hk.2) (.int .i64 0)) (fun _ hk => hk.2) (.int .i64 0)) (fun _ hk => ⟨hk.1.1, hk.1.2⟩)⟩
   have n1_ : Aside0 (((((((((((w24.setCell ⟨gb155, 0, none⟩ (.int .i64 1)).setCell ⟨gb155, 1, none⟩ (.int .i64 a2_0)).setCell ⟨gb155, 2, none⟩ (.int .i64 a2_1)).setCell ⟨gb155, 3, none⟩ (.int .i64 a2_2)).setCell ⟨gb155, 4, none⟩ (.int .i64 a2_3)).setCell ⟨gb155, 0, none⟩ (.int .i64 2)).setCell ⟨gb155, 1, none⟩ (.int .i64 0)).setCell ⟨gb155, 2, none⟩ (.int .i64 0)).setCell ⟨gb155, 3, none⟩ (.int .i64 0)).setCell ⟨gb155, 4, none⟩ (.int .i64 0)).heap[gb151]? = some (.cells #[.int .i64 a2_0, .int .i64 a2_1, .int .i64 a2_2, .int .i64 a2_3] 41 (0, 0))) := ⟨by (with_reducible repeat (first | refine blk_drewN ?_ _ | refine blk_drew ?_ | refine blk_alloc ?_ _)); refine blk_far ?_ NB151_155.out _; (with_reducible repeat (first | refine blk_drewN ?_ _ | refine blk_drew ?_ | refine blk_alloc ?_ _)); refine blk_far ?_ NB151_155.out _; (with_reducible repeat (first | refine blk_drewN ?_ _ | refine blk_drew ?_ | refine blk_alloc ?_ _)); refine blk_far ?_ NB151_155.out _; (with_reducible repeat (first | refine blk_drewN ?_ _ | refine blk_drew ?_ | refine blk_alloc ?_ _)); refine blk_far ?_ NB151_155.out _; (with_reducible repeat (first | refine blk_drewN ?_ _ | refine blk_drew ?_ | refine blk_alloc ?_ _)); refine blk_far ?_ NB151_155.out _; (with_reducible repeat (first | refine blk_drewN ?_ _ | refine blk_drew ?_ | refine blk_alloc ?_ _)); refine blk_far ?_ NB151_155.out _; (with_reducible repeat (first | refine blk_drewN ?_ _ | refine blk_drew ?_ | refine blk_alloc ?_ _)); refine blk_far ?_ NB151_155.out _; (with_reducible repeat (first | refine blk_drewN ?_ _ | refine blk_drew ?_ | refine blk_alloc ?_ _)); refine blk_far ?_ NB151_155.out _; (with_reducible repeat (first | refine blk_drewN ?_ _ | refine blk_drew ?_ | refine blk_alloc ?_ _)); refine blk_far ?_ NB151_155.out _; (with_reducible repeat (first | refine blk_drewN ?_ _ | refine blk_drew ?_ | refine blk_alloc ?_ _)); refine blk_far ?_ NB151_155.out _; (with_reducible repeat (first | refine blk_drewN ?_ _ | refine blk_drew ?_ | refine blk_alloc ?_ _)); exact BK151.out⟩
   have n2_ : Aside0 (((((((((((w24.setCell ⟨gb155, 0, none⟩ (.int .i64 1)).setCell ⟨gb155, 1, none⟩ (.int .i64 a2_0)).setCell ⟨gb155, 2, none⟩ (.int .i64 a2_1)).setCell ⟨gb155, 3, none⟩ (.int .i64 a2_2)).setCell ⟨gb155, 4, none⟩ (.int .i64 a2_3)).setCell ⟨gb155, 0, none⟩ (.int .i64 2)).setCell ⟨gb155, 1, none⟩ (.int .i64 0)).setCell ⟨gb155, 2, none⟩ (.int .i64 0)).setCell ⟨gb155, 3, none⟩ (.int .i64 0)).setCell ⟨gb155, 4, none⟩ (.int .i64 0)).heap[gb155]? = some (.cells #[.int .i64 2, .int .i64 0, .int .i64 0, .int .i64 0, .int .i64 0] 43 (0, 0))) := ⟨by (with_reducible repeat (first | refine blk_drewN ?_ _ | refine blk_drew ?_ | refine blk_alloc ?_ _)); refine blk_put (cs := #[.int .i64 2, .int .i64 0, .int .i64 0, .int .i64 0, .int .i64 a2_3]) ?_ 4 _ rfl; (with_reducible repeat (first | refine blk_drewN ?_ _ | refine blk_drew ?_ | refine blk_alloc ?_ _)); refine blk_put (cs := #[.int .i64 2, .int .i64 0, .int .i64 0, .int .i64 a2_2, .int .i64 a2_3]) ?_ 3 _ rfl; (with_reducible repeat (first | refine blk_drewN ?_ _ | refine blk_drew ?_ | refine blk_alloc ?_ _)); refine blk_put (cs := #[.int .i64 2, .int .i64 0, .int .i64 a2_1, .int .i64 a2_2, .int .i64 a2_3]) ?_ 2 _ rfl; (with_reducible repeat (first | refine blk_drewN ?_ _ | refine blk_drew ?_ | refine blk_alloc ?_ _)); refine blk_put (cs := #[.int .i64 2, .int .i64 a2_0, .int .i64 a2_1, .int .i64 a2_2, .int .i64 a2_3]) ?_ 1 _ rfl; (with_reducible repeat (first | refine blk_drewN ?_ _ | refine blk_drew ?_ | refine blk_alloc ?_ _)); refine blk_put (cs := #[.int .i64 1, .int .i64 a2_0, .int .i64 a2_1, .int .i64 a2_2, .int .i64 a2_3]) ?_ 0 _ rfl; (with_reducible repeat (first | refine blk_drewN ?_ _ | refine blk_drew ?_ | refine blk_alloc ?_ _)); refine blk_put (cs := #[.int .i64 1, .int .i64 a2_0, .int .i64 a2_1, .int .i64 a2_2, .int .i64 0]) ?_ 4 _ rfl; (with_reducible repeat (first | refine blk_drewN ?_ _ | refine blk_drew ?_ | refine blk_alloc ?_ _)); refine blk_put (cs := #[.int .i64 1, .int .i64 a2_0, .int .i64 a2_1, .int .i64 0, .int .i64 0]) ?_ 3 _ rfl; (with_reducible repeat (first | refine blk_drewN ?_ _ | refine blk_drew ?_ | refine blk_alloc ?_ _)); refine blk_put (cs := #[.int .i64 1, .int .i64 a2_0, .int .i64 0, .int .i64 0, .int .i64 0]) ?_ 2 _ rfl; (with_reducible repeat (first | refine blk_drewN ?_ _ | refine blk_drew ?_ | refine blk_alloc ?_ _)); refine blk_put (cs := #[.int .i64 1, .int .i64 0, .int .i64 0, .int .i64 0, .int .i64 0]) ?_ 1 _ rfl; (with_reducible repeat (first | refine blk_drewN ?_ _ | refine blk_drew ?_ | refine blk_alloc ?_ _)); refine blk_put (cs := #[.int .i64 0, .int .i64 0, .int .i64 0, .int .i64 0, .int .i64 0]) ?_ 0 _ rfl; (with_reducible repeat (first | refine blk_drewN ?_ _ | refine blk_drew ?_ | refine blk_alloc ?_ _)); exact BK155.out⟩
   have n3_ : Aside0 (Kept w ((((((((((w24.setCell ⟨gb155, 0, none⟩ (.int .i64 1)).setCell ⟨gb155, 1, none⟩ (.int .i64 a2_0)).setCell ⟨gb155, 2, none⟩ (.int .i64 a2_1)).setCell ⟨gb155, 3, none⟩ (.int .i64 a2_2)).setCell ⟨gb155, 4, none⟩ (.int .i64 a2_3)).setCell ⟨gb155, 0, none⟩ (.int .i64 2)).setCell ⟨gb155, 1, none⟩ (.int .i64 0)).setCell ⟨gb155, 2, none⟩ (.int .i64 0)).setCell ⟨gb155, 3, none⟩ (.int .i64 0)).setCell ⟨gb155, 4, none⟩ (.int .i64 0)) (fun k_ => P0_ k_)) := ⟨by repeat (first | (with_reducible first | exact HK.out | apply Kept.alloc | apply Kept.drewN | apply Kept.drew | refine Kept.setCell ?_ (.inr GW151.out) _ | refine Kept.setCell ?_ (.inr GW155.out) _) | exact HK.out)⟩
   have n4_ : Aside0 (Below w0.heap.size w0 ((((((((((w24.setCell ⟨gb155, 0, none⟩ (.int .i64 1)).setCell ⟨gb155, 1, none⟩ (.int .i64 a2_0)).setCell ⟨gb155, 2, none⟩ (.int .i64 a2_1)).setCell ⟨gb155, 3, none⟩ (.int .i64 a2_2)).setCell ⟨gb155, 4, none⟩ (.int .i64 a2_3)).setCell ⟨gb155, 0, none⟩ (.int .i64 2)).setCell ⟨gb155, 1, none⟩ (.int .i64 0)).setCell ⟨gb155, 2, none⟩ (.int .i64 0)).setCell ⟨gb155, 3, none⟩ (.int .i64 0)).setCell ⟨gb155, 4, none⟩ (.int .i64 0))) := ⟨bg2 HB.out GE151.out GE155.out⟩
   (try clear HO_0)
   (try clear BK151)
   (try clear BK155)
   (try clear HK)
   (try clear HB)
   generalize ((((((((((w24.setCell ⟨gb155, 0, none⟩ (.int .i64 1)).setCell ⟨gb155, 1, none⟩ (.int .i64 a2_0)).setCell ⟨gb155, 2, none⟩ (.int .i64 a2_1)).setCell ⟨gb155, 3, none⟩ (.int .i64 a2_2)).setCell ⟨gb155, 4, none⟩ (.int .i64 a2_3)).setCell ⟨gb155, 0, none⟩ (.int .i64 2)).setCell ⟨gb155, 1, none⟩ (.int .i64 0)).setCell ⟨gb155, 2, none⟩ (.int .i64 0)).setCell ⟨gb155, 3, none⟩ (.int .i64 0)).setCell ⟨gb155, 4, none⟩ (.int .i64 0)) = w27 at n0_ n1_ n2_ n3_ n4_ ⊢
   have HO_0 := n0_
   have BK151 := n1_
   have BK155 := n2_
   have HK := n3_
   have HB := n4_
   clear n0_ n1_ n2_ n3_ n4_
   replace HO_0 := am (Kd.S_drew HO_0.out)
   replace BK151 := am (blk_drew BK151.out)
   replace BK155 := am (blk_drew BK155.out)
   replace HK := am (Kept.drew HK.out)
   replace HB := am (below_drew1 HB.out)
   have p156 : 0 ≤ (a1 : Int) := ofb
   have q156 : a1 < (l0.length : Int) := ofb
   obtain ⟨ad156, A156_0, c156_0, e156, hx156_0, hx156_1, hl156_0, hi156_0⟩ := at_T31 (Kd.S_reads' HO_0.out).2.2 a1 p156 q156
   obtain rfl : ad152 = ad156 := (by injection e156)
   obtain ⟨ce156, hce156, hMe156, hcc156⟩ := Kd.S_get HO_0.out z31 a1 p156 (by first | exact q156 | exact ofb | (have e_ := (Kd.S_reads' HO_0.out).1; omega))
   obtain ⟨ve156_0, rfl, ge156_0⟩ := k31_openM hMe156
   have hv156_0 := hcc156 0 _ rfl
   rw [Nat.add_zero] at hv156_0
   replace hv156_0 := Option.some.inj (hv156_0.symm.trans hx156_0)
   rw [hv156_0] at ge156_0
   have HL156_0 := am (show Kd.R k43 43 _ _ _ _ ((rd_T31 l0 a1).f0) from ge156_0)
   clear hv156_0 ge156_0
   have HX156_0 := am hx156_0
   clear hcc156 hce156
   have HR156_0 := am hi156_0
   have HC156_0 := am hl156_0
   clear hi156_0 hl156_0
   replace p156 := eq_true p156
   replace q156 := eq_true q156
   have p22 : 0 ≤ ((ji19) : Int) := ofb
   have q22 : ((ji19) : Int) < ((((rd_T31 l0 a1).f0).length : Int) : Int) := ofb
   obtain ⟨go22, co22, eo22, gb22, gl22, cl22, HG22⟩ := Kd.R_form HL156_0.out (by omega)
   (first | cases eo22 | (injection eo22 with ea_ en_ ec_; (first | subst ea_ | (injection ea_ with ea_; subst ea_)); subst ec_; clear en_))
   have GB22 := am gb22
   have GG22 := am HG22
   clear gb22 gl22 HG22
   have HMgo22 := am (show (P0_ go22 ∨ w.heap.size ≤ go22) from (HL156_0.out.1 _ rfl).1.1)
   obtain ⟨ce22, hcl22, hM22, hcc22, hfr22⟩ := Kd.R_elem HL156_0.out z43 ((ji19) : Int) p22 q22
   obtain rfl := k43_openM hM22
   have hx22_0 : World.cell? _ ⟨go22, ((ji19) : Int).toNat * 5, none⟩ = some (.int .i64 ((rd_T43 ((rd_T31 l0 a1).f0) (ji19)).f0)) := hcc22 0 _ rfl
   have hx22_1 : World.cell? _ ⟨go22, ((ji19) : Int).toNat * 5 + 1, none⟩ = some (.int .i64 ((rd_T43 ((rd_T31 l0 a1).f0) (ji19)).f1.f0)) := hcc22 1 _ rfl
   have hx22_2 : World.cell? _ ⟨go22, ((ji19) : Int).toNat * 5 + 2, none⟩ = some (.int .i64 ((rd_T43 ((rd_T31 l0 a1).f0) (ji19)).f1.f1)) := hcc22 2 _ rfl
   have hx22_3 : World.cell? _ ⟨go22, ((ji19) : Int).toNat * 5 + 3, none⟩ = some (.int .i64 ((rd_T43 ((rd_T31 l0 a1).f0) (ji19)).f1.f2)) := hcc22 3 _ rfl
   have hx22_4 : World.cell? _ ⟨go22, ((ji19) : Int).toNat * 5 + 4, none⟩ = some (.int .i64 ((rd_T43 ((rd_T31 l0 a1).f0) (ji19)).f1.f3)) := hcc22 4 _ rfl
   have hf22_0 : World.frozen? _ ⟨go22, ((ji19) : Int).toNat * 5, none⟩ = false := hfr22 0
   have hf22_1 : World.frozen? _ ⟨go22, ((ji19) : Int).toNat * 5 + 1, none⟩ = false := hfr22 1
   have hf22_2 : World.frozen? _ ⟨go22, ((ji19) : Int).toNat * 5 + 2, none⟩ = false := hfr22 2
   have hf22_3 : World.frozen? _ ⟨go22, ((ji19) : Int).toNat * 5 + 3, none⟩ = false := hfr22 3
   have hf22_4 : World.frozen? _ ⟨go22, ((ji19) : Int).toNat * 5 + 4, none⟩ = false := hfr22 4
   clear hcl22 hcc22 hfr22 hM22
   replace p22 := eq_true p22
   replace q22 := eq_true q22
   have hq29 : (a1 : Int) < (l0.length : Int) := (by have h_ : (a1 : Int) < ((l0.length : Int) : Int) := ofb; first | exact h_ | (have e_ := (Kd.S_reads' HO_0.out).1; omega) | simpa only [List.length_set, List.length_set] using h_)
   obtain ⟨oki29, ce29, hcl29, hM29, hcc29, hok29, hbk29⟩ := Kd.S_borrow HO_0.out z31 (a1 : Int) (ofb) hq29
   obtain ⟨ve29_0, rfl, ge29_0⟩ := k31_openM hM29
   have hv29 := hcc29 0 _ rfl
   rw [Nat.add_zero] at hv29
   replace hv29 := Option.some.inj (hv29.symm.trans HX156_0.out)
   subst hv29
   clear hcc29 hcl29
   replace ge29_0 := (show Kd.R k43 43 _ _ _ _ ((rd_T31 l0 a1).f0) from ge29_0)
   obtain ⟨cf29, hcl29, hN29, hcc29, hfr29⟩ := Kd.R_elem ge29_0 z43 ((ji19) : Int) (ofb) (by have h_ : ((ji19) : Int) < ((((rd_T31 l0 a1).f0).length : Int) : Int) := ofb; first | exact h_ | (have e_ := (Kd.R_reads' HR156_0.out).1; omega) | simpa using h_)
   obtain rfl := k43_openM hN29
   have HP29 := Kd.R_seg ge29_0 ((ji19) : Int) (ofb) (by have h_ : ((ji19) : Int) < ((((rd_T31 l0 a1).f0).length : Int) : Int) := ofb; first | exact h_ | (have e_ := (Kd.R_reads' HR156_0.out).1; omega) | simpa using h_) (seg := [.int .i64 2, .int .i64 0, .int .i64 0, .int .i64 0, .int .i64 0]) (j := 0) hcl29 hcc29 (show 5 ≤ 5 from by decide) (x' := (⟨2, (⟨0, 0, 0, 0⟩ : S41)⟩ : S43)) (k43_mkM _ _ _ (⟨2, (⟨0, 0, 0, 0⟩ : S41)⟩ : S43)) (fun _ hk => hk)
   clear hcl29 hcc29 hfr29 hN29
   rw [← Ny157.out] at HP29
   have HS29 := hbk29 HP29.2 (fun k_ e_ => by injection e_ with e_; subst e_; exact ge29_0.1 _ rfl) (x' := (⟨y157, (rd_T31 l0 a1).f1⟩ : S31)) (k31_mkM _ _ _ (⟨y157, (rd_T31 l0 a1).f1⟩ : S31) HP29.1)
   rw [← Ny159.out] at HS29
   have HQ29 := am HS29
   clear HP29 HS29 hbk29 hok29
   refine start_ (n := 10) (S := fun w' => w'.cell? ⟨gb155, 0, none⟩ = some (.int .i64 2) ∧ w'.cell? ⟨gb155, 1, none⟩ = some (.int .i64 0) ∧ w'.cell? ⟨gb155, 2, none⟩ = some (.int .i64 0) ∧ w'.cell? ⟨gb155, 3, none⟩ = some (.int .i64 0) ∧ w'.cell? ⟨gb155, 4, none⟩ = some (.int .i64 0) ∧ w'.cell? (ad152.add ((a1).toNat * 2)) = some (.slice (some ⟨go22, 0, none⟩) ((rd_T31 l0 a1).f0).length c156_0) ∧ w'.cell? ⟨(ad152.add ((a1).toNat * 2)).block, (ad152.add ((a1).toNat * 2)).off + 1, none⟩ = some (.int .i64 ((rd_T31 l0 a1).f1))) (ds := [9]) #[false, false, false, false, false, false, false, false, false, false] (by kernel_rfl) rfl rfl ⟨(blk_cell BK155.out 0).trans rfl, (blk_cell BK155.out 1).trans rfl, (blk_cell BK155.out 2).trans rfl, (blk_cell BK155.out 3).trans rfl, (blk_cell BK155.out 4).trans rfl, hx156_0, hx156_1⟩ (fun hHeld => ?_); refine with_tabW spec_l2Write.tab7 spec_l2Write.bits7 (fun HT_ HW_ => ?_)
   generalize w27.drew = w28 at HO_0 BK151 BK155 HK HB GG22 HL156_0 HQ29 HR156_0 HX156_0 hf22_0 hf22_1 hf22_2 hf22_3 hf22_4 hx156_0 hx156_1 hx22_0 hx22_1 hx22_2 hx22_3 hx22_4 hHeld ⊢
   refine pj_ 0 30 #[true, false, false, false, false, false, false, false, false, false] rfl rfl (any_of HT_.out (by kernel_rfl)) (fun _ _ _ h => h) ?_
   refine pj_ 1 31 #[true, true, false, false, false, false, false, false, false, false] rfl rfl (any_of HT_.out (by kernel_rfl)) (fun _ _ _ h => h) ?_
   refine pj_ 2 32 #[true, true, true, false, false, false, false, false, false, false] rfl rfl (any_of HT_.out (by kernel_rfl)) (fun _ _ _ h => h) ?_
   refine pj_ 3 33 #[true, true, true, true, false, false, false, false, false, false] rfl rfl (any_of HT_.out (by kernel_rfl)) (fun _ _ _ h => h) ?_
   refine pj_ 5 35 #[true, true, true, true, false, true, false, false, false, false] rfl rfl (any_of HT_.out (by kernel_rfl)) (fun _ _ _ h => h) ?_
   refine pj_ 6 36 #[true, true, true, true, false, true, true, false, false, false] rfl rfl (any_of HT_.out (by kernel_rfl)) (fun _ _ _ h => h) ?_
   refine pm_ 4 34 #[true, true, true, true, true, true, true, false, false, false] rfl rfl (take_ofW HT_.out HW_.out (by kernel_rfl)) (fun _ _ _ h => h) hHeld ?_
   refine pm_ 7 37 #[true, true, true, true, true, true, true, true, false, false] rfl rfl (take_ofW HT_.out HW_.out (by kernel_rfl)) (fun _ _ _ h => h) hHeld ?_
   refine pj_ 8 38 #[true, true, true, true, true, true, true, true, true, false] rfl rfl (any_of HT_.out (by kernel_rfl)) (fun _ _ _ h => h) ?_
   refine last_ (i := 9) (N := none) #[true, true, true, true, true, true, true, true, true, true] rfl rfl (one_of HT_.out (by kernel_rfl)) (by decide) (fun K hK => ?_)
   refine skip_ (w1 := ?_) (by rfl) rfl ?_ ?_
   rotate_left
   · go_simp
     rfl
   refine hK.out _ _ ?_
   clear hK K
   refine done_ (done_of HT_.out (by kernel_rfl)) ?_
   try go_wp2
   go_ret2
   exact ⟨_, by first | rfl | (simp [errW_none, errW_some] <;> rfl) | (simp only [← hji19]; first | rfl | (simp [errW_none, errW_some] <;> rfl)) | (simp [*, errW_none, errW_some] <;> rfl), by (with_reducible repeat (first | apply Kd.S_alloc | apply Kd.S_drewN | apply Kd.S_drew)); exact Kd.S_mono HQ29.out (fun _ hk => hk.1), by repeat (first | (with_reducible first | exact HB.out | apply below_alloc | apply pw_below_drewN | apply below_drew1 | refine below_set ?_ GB22.out | refine below_set ?_ GB22.out | refine below_set ?_ GB22.out | refine below_set ?_ GB22.out | refine below_set ?_ GB22.out | refine below_set ?_ GE151.out | refine below_set ?_ GE155.out) | exact HB.out), by repeat (first | (with_reducible first | exact HK.out | apply Kept.alloc | apply Kept.drewN | apply Kept.drew | refine Kept.setCell ?_ HMgo22.out _ | refine Kept.setCell ?_ HMgo22.out _ | refine Kept.setCell ?_ HMgo22.out _ | refine Kept.setCell ?_ HMgo22.out _ | refine Kept.setCell ?_ HMgo22.out _ | refine Kept.setCell ?_ (.inr GW151.out) _ | refine Kept.setCell ?_ (.inr GW155.out) _) | exact HK.out)⟩
end Go.Proofs.Ytpdelojhomfakaa.Ro
