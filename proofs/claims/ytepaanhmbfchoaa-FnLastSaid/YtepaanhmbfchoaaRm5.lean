-- printed by wip/pp/pp.py
import Derived.Test.YtepaanhmbfchoaaRm0
import Derived.Test.YtepaanhmbfchoaaRm4
namespace Go.Proofs.Ytepaanhmbfchoaa.Rm
open Go.RowKit Go.Proofs.YtepaanhmbfchoaaW.PrintWords Go.Proofs.YtepaanhmbfchoaaW.PrintLast Go.Proofs.YtepaanhmbfchoaaW.PrintMore
attribute [local go_sem] max2_int min2_int max_two min_two max_three min_three max_four min_four
set_option linter.unusedVariables false
set_option linter.unusedSimpArgs false
def spec_l12Room.l0 : Nat → List (S80) → Int → Int → List (S35) → List Int → Option ((List (S80)) × Int × Bool)
 | 0, _, _, _, _, _ => none
 | k + 1, x5, x8, x9, x227000, x227001 => if x9 < 4 then (if 0 ≤ x8 then (if x8 < (x227000.length : Int) then (if 0 ≤ x9 then (if x9 < (((rd_T35 x227000 x8).f0).length : Int) then ((spec_l3Live.f k x227000 ((rd_T32 ((rd_T35 x227000 x8).f0) x9).f0) ((rd_T32 ((rd_T35 x227000 x8).f0) x9).f1.f0) ((rd_T32 ((rd_T35 x227000 x8).f0) x9).f1.f1) ((rd_T32 ((rd_T35 x227000 x8).f0) x9).f1.f2) ((rd_T32 ((rd_T35 x227000 x8).f0) x9).f1.f3)).bind fun t236 => (if t236 = true then (if ((rd_T32 ((rd_T35 x227000 x8).f0) x9).f1.f0) = 1 then (if x5.length < 2199023255552 then (spec_l12Room.l0 k (x5 ++ [(⟨1, (rd_T32 ((rd_T35 x227000 x8).f0) x9).f1.f2, (rd_T32 ((rd_T35 x227000 x8).f0) x9).f1.f3, 0, (⟨0, 0, 0, 0⟩ : S27)⟩ : S80)]) x8 (wrap64 (x9 + 1)) x227000 x227001) else (none)) else (spec_l12Room.l0 k x5 x8 (wrap64 (x9 + 1)) x227000 x227001)) else (spec_l12Room.l0 k x5 x8 (wrap64 (x9 + 1)) x227000 x227001))) else (none)) else (none)) else (none)) else (none)) else (if x5.length < 2199023255552 then (if 0 ≤ x8 then (if x8 < (x227000.length : Int) then (some ((x5 ++ [(⟨2, 0, 0, x8, (⟨0, 0, 0, 0⟩ : S27)⟩ : S80)]), x8, decide (((rd_T35 x227000 x8).f1) < 200))) else (none)) else (none)) else (none))
def spec_l12Room.f (k : Nat) (l0_0 : List (S35)) (l0_1 : List Int) : Option ((List (S80)) × Int × Bool) := (some (([] : List (S80)) : List (S80))).bind fun y227 => ((spec_l3Open.f k l0_0).bind fun bt230 => (if bt230.2 = true then (some (y227, bt230.1, true)) else ((spec_l3Old.f k l0_0).bind fun t232 => (spec_l12Room.l0 k y227 t232 0 l0_0 l0_1))))
theorem spec_l12Room.mono_l : ∀ k, (∀ y0 y1 y2 y3 y4, LeO (spec_l12Room.l0 k y0 y1 y2 y3 y4) (spec_l12Room.l0 (k + 1) y0 y1 y2 y3 y4))
 | 0 => fun _ _ _ _ _ r h => by simp [spec_l12Room.l0] at h
 | k + 1 => by
  have ih0 := spec_l12Room.mono_l k
  · intro y0 y1 y2 y3 y4
    unfold spec_l12Room.l0
    repeat' first
    | (with_reducible exact ih0 _ _ _ _ _)
    | (with_reducible exact spec_l3Live.mono _ _ _ _ _ _ _)
    | (with_reducible exact spec_l3Old.mono _ _)
    | (with_reducible exact spec_l3Open.mono _ _)
    | (with_reducible exact LeO.refl _)
    | (with_reducible exact LeO.none _)
    | (with_reducible refine LeO.ite ?_ ?_)
    | (with_reducible refine LeO.bind ?_ (fun _ => ?_))
    | exact ih0 _ _ _ _ _
    | exact spec_l3Live.mono _ _ _ _ _ _ _
    | exact spec_l3Old.mono _ _
    | exact spec_l3Open.mono _ _
    | exact LeO.none _
    | refine LeO.ite ?_ ?_
    | refine LeO.bind ?_ (fun _ => ?_)
theorem spec_l12Room.mono : ∀ a0 a1 k, LeO (spec_l12Room.f k a0 a1) (spec_l12Room.f (k + 1) a0 a1) := by
 intro a0 a1 k
 have ih0 := spec_l12Room.mono_l k
 unfold spec_l12Room.f
 repeat' first
  | (with_reducible exact ih0 _ _ _ _ _)
  | (with_reducible exact spec_l3Live.mono _ _ _ _ _ _ _)
  | (with_reducible exact spec_l3Old.mono _ _)
  | (with_reducible exact spec_l3Open.mono _ _)
  | (with_reducible exact LeO.refl _)
  | (with_reducible exact LeO.none _)
  | (with_reducible refine LeO.ite ?_ ?_)
  | (with_reducible refine LeO.bind ?_ (fun _ => ?_))
  | exact ih0 _ _ _ _ _
  | exact spec_l3Live.mono _ _ _ _ _ _ _
  | exact spec_l3Old.mono _ _
  | exact spec_l3Open.mono _ _
  | exact LeO.none _
  | refine LeO.ite ?_ ?_
  | refine LeO.bind ?_ (fun _ => ?_)
def spec_l12Room.T12 : Bool × List (List Nat × List Nat) := (true, [([], []), ([], []), ([1], [1]), ([2], [2]), ([0, 3], [0, 3]), ([], []), ([], []), ([6], [6]), ([], []), ([7, 8], [7, 8]), ([9], [9]), ([10], [10]), ([11], [11]), ([4, 4, 0, 1, 2, 3, 4], [4]), ([5, 13, 0, 1, 2, 3, 4, 5, 13], [5]), ([12, 14, 0, 1, 2, 3, 4, 5, 6, 7, 8, 9, 10, 11, 12, 13, 14], [12])])
def spec_l12Room.B12 : List Nat := [0, 0, 2, 6, 15, 0, 0, 64, 0, 448, 960, 1984, 4032, 31, 8255, 32767]
theorem spec_l12Room.tab12 : rtab .any (opsOf Try.f43 12) = spec_l12Room.T12 := by kernel_rfl
theorem spec_l12Room.bits12 : waitsOk spec_l12Room.T12.2 spec_l12Room.B12 = true := by kernel_rfl
set_option maxHeartbeats 8000000 in
set_option maxRecDepth 100000 in
theorem spec_l12Room.calls (k : Nat) (A0_0 : Option Addr) (c0_0 : Nat) (l0_0 : List (S35)) (A0_1 : Option Addr) (c0_1 : Nat) (l0_1 : List Int) (r1 : List (S80)) (r2 : Int) (r3 : Bool) (w : World) (hr0_0 : Kd.C k35 w A0_0 l0_0.length l0_0) (hc0_0 : l0_0.length ≤ c0_0) (hr0_1 : Kd.C (Kd.int .i64) w A0_1 l0_1.length l0_1) (hc0_1 : l0_1.length ≤ c0_1) (h : spec_l12Room.f k l0_0 l0_1 = some (r1, r2, r3)) :
 Calls Try.prog 43 #[.agg #[.slice A0_0 l0_0.length c0_0, .slice A0_1 l0_1.length c0_1]] w fun e w' => ∃ v0_ : Value, e = .returned (.tuple #[v0_, .int .i64 r2, .bool r3]) ∧ Kd.R k80 80 w' w.heap.size (fun _ => True) v0_ r1 ∧ Below w.heap.size w w' := by
 have hu56 := Try.underlying56
 have hu32 := Try.underlying32
 have hu80 := Try.underlying80
 have HR0_0 := am hr0_0
 have HC0_0 := am hc0_0
 clear hr0_0 hc0_0
 have HR0_1 := am hr0_1
 have HC0_1 := am hc0_1
 clear hr0_1 hc0_1
 have HB := am (Below.refl w.heap.size w)
 have H : ((some (([] : List (S80)) : List (S80))).bind fun y227 => ((spec_l3Open.f k l0_0).bind fun bt230 => (if bt230.2 = true then (some (y227, bt230.1, true)) else ((spec_l3Old.f k l0_0).bind fun t232 => (spec_l12Room.l0 k y227 t232 0 l0_0 l0_1))))) = some (r1, r2, r3) := h
 clear h
 obtain ⟨y227, hy227⟩ : ∃ y_ : List (S80), y_ = (([] : List (S80))) := ⟨_, rfl⟩
 replace H : ((spec_l3Open.f k l0_0).bind fun bt230 => (if bt230.2 = true then (some (y227, bt230.1, true)) else ((spec_l3Old.f k l0_0).bind fun t232 => (spec_l12Room.l0 k y227 t232 0 l0_0 l0_1)))) = some (r1, r2, r3) := by first | (rw [hy227]; with_reducible exact H) | (have H2_ := (Option.bind_some _ _).symm.trans H; rw [hy227]; with_reducible exact H2_) | (have H2_ := (Option.bind_some _ _).symm.trans H; with_reducible exact H2_) | with_reducible exact H | (rw [hy227]; exact H) | exact H
 have Ny227 := am hy227
 clear hy227
 replace H := Option.bind_eq_some_iff.mp H
 obtain ⟨⟨t230, t231⟩, A20, H⟩ := H
 replace H : (if t231 = true then (some (y227, t230, true)) else ((spec_l3Old.f k l0_0).bind fun t232 => (spec_l12Room.l0 k y227 t232 0 l0_0 l0_1))) = some (r1, r2, r3) := H
 have A2 := am A20
 clear A20
 by_cases c3 : t231 = true
 · subst c3
   have H1 : (some (y227, t230, true)) = some (r1, r2, r3) := by rw [if_pos rfl] at H; exact H
   clear H
   have H := H1
   clear H1
   simp only [Option.some.injEq, Prod.mk.injEq] at H
   obtain ⟨rfl, rfl, rfl⟩ := H
   go_enter Try.func43, Try.ntmps43
   go_wp2_with (first | (refine bx 1 #[.slice A0_0 l0_0.length c0_0, .slice A0_1 l0_1.length c0_1] 56 rfl ?_; intro gb226 hg w4 hbox hb; have BK226 := am (hbox); have GW226 := am ((by rw [hg]; exact (below_size (ph HB.out)) : w.heap.size ≤ gb226)); have GE226 := GW226; replace HB := am (below_step (ph HB.out) hb); clear hb hbox hg) | ((with_reducible refine gate_dst (N := 11) rfl ?_); refine Kd.R_lit k80 _ 80 ?hg (N := 11) ?hd (xs := ([] : List (S80))) (inner := []) (ok := fun _ => True) (okp := fun _ => True) ?hr ?hp (fun _ hk => hk) trivial (Below.refl _ _) (Nat.le_refl _) (by simp) ?_; (case hd => rfl); (case hg => rfl); (case hr => first | (go_simp; done) | (go_simp; rfl)); (case hp => exact (Reps.none _ _)); intro v228 w5 ho6 hb hg_ hnew_; clear hg_ hnew_; (first | rw [← Ny227.out] at ho6 | (simp only [Int.reduceToNat] at ho6; rw [← Ny227.out] at ho6)); have HO229 := am (Kd.R_lower ho6 (below_size (bg1 HB.out GE226.out))); replace BK226 := am (blk_below (pb BK226.out) hb); replace HB := am (below_step (bg1 HB.out GE226.out) hb); clear hb ho6; obtain ⟨hcz7_0, hcz7_1⟩ := b2 BK226.out; obtain ⟨hfz7_0, hfz7_1⟩ := f2 BK226.out) | (refine gl 15 Try.func47 #[.slice A0_0 l0_0.length c0_0] rfl ?_; (with_reducible refine (spec_l3Open.calls k _ _ l0_0 t230 true _ ?side1 ?side2 A2.out).mono ?_); (case side1 => exact pc (Kd.C_below HR0_0.out HB.out)); (case side2 => exact HC0_0.out); rintro e w8 ⟨rfl, hb⟩; refine ⟨_, rfl, ?_⟩; replace HO229 := am (Kd.R_below (pr HO229.out) hb); replace BK226 := am (blk_below (pb BK226.out) hb); replace HB := am (below_step (bg1 HB.out GE226.out) hb); (try clear hb); (try clear hb2); (try clear hk); (try clear hi)))
   go_ret3
   exact ⟨_, rq ⟨pr HO229.out, bg1 HB.out GE226.out⟩⟩
 replace c3 := Bool.eq_false_iff.mpr c3
 subst c3
 have H1 : ((spec_l3Old.f k l0_0).bind fun t232 => (spec_l12Room.l0 k y227 t232 0 l0_0 l0_1)) = some (r1, r2, r3) := by rw [if_neg (show ¬ (false = true) by decide)] at H; exact H
 clear H
 have H := H1
 clear H1
 replace H := Option.bind_eq_some_iff.mp H
 obtain ⟨t232, A90, H⟩ := H
 replace H : (spec_l12Room.l0 k y227 t232 0 l0_0 l0_1) = some (r1, r2, r3) := H
 have A9 := am A90
 clear A90
 have H' := am H
 clear H
 go_enter Try.func43, Try.ntmps43
 go_wp2_with (first | (refine bx 1 #[.slice A0_0 l0_0.length c0_0, .slice A0_1 l0_1.length c0_1] 56 rfl ?_; intro gb226 hg w10 hbox hb; have BK226 := am (hbox); have GW226 := am ((by rw [hg]; exact (below_size (ph HB.out)) : w.heap.size ≤ gb226)); have GE226 := GW226; replace HB := am (below_step (ph HB.out) hb); clear hb hbox hg) | ((with_reducible refine gate_dst (N := 11) rfl ?_); refine Kd.R_lit k80 _ 80 ?hg (N := 11) ?hd (xs := ([] : List (S80))) (inner := []) (ok := fun _ => True) (okp := fun _ => True) ?hr ?hp (fun _ hk => hk) trivial (Below.refl _ _) (Nat.le_refl _) (by simp) ?_; (case hd => rfl); (case hg => rfl); (case hr => first | (go_simp; done) | (go_simp; rfl)); (case hp => exact (Reps.none _ _)); intro v228 w11 ho12 hb hg_ hnew_; clear hg_ hnew_; (first | rw [← Ny227.out] at ho12 | (simp only [Int.reduceToNat] at ho12; rw [← Ny227.out] at ho12)); have HO229 := am (Kd.R_lower ho12 (below_size (bg1 HB.out GE226.out))); replace BK226 := am (blk_below (pb BK226.out) hb); replace HB := am (below_step (bg1 HB.out GE226.out) hb); clear hb ho12; obtain ⟨hcz13_0, hcz13_1⟩ := b2 BK226.out; obtain ⟨hfz13_0, hfz13_1⟩ := f2 BK226.out) | (refine gl 15 Try.func47 #[.slice A0_0 l0_0.length c0_0] rfl ?_; (with_reducible refine (spec_l3Open.calls k _ _ l0_0 t230 false _ ?side1 ?side2 A2.out).mono ?_); (case side1 => exact pc (Kd.C_below HR0_0.out HB.out)); (case side2 => exact HC0_0.out); rintro e w14 ⟨rfl, hb⟩; refine ⟨_, rfl, ?_⟩; replace HO229 := am (Kd.R_below (pr HO229.out) hb); replace BK226 := am (blk_below (pb BK226.out) hb); replace HB := am (below_step (bg1 HB.out GE226.out) hb); (try clear hb); (try clear hb2); (try clear hk); (try clear hi); obtain ⟨hcz15_0, hcz15_1⟩ := b2 BK226.out; obtain ⟨hfz15_0, hfz15_1⟩ := f2 BK226.out) | (refine gl 23 Try.func48 #[.slice A0_0 l0_0.length c0_0] rfl ?_; (with_reducible refine (spec_l3Old.calls k _ _ l0_0 t232 _ ?side1 ?side2 A9.out).mono ?_); (case side1 => exact pc (Kd.C_below HR0_0.out HB.out)); (case side2 => exact HC0_0.out); rintro e w16 ⟨rfl, hb⟩; refine ⟨_, rfl, ?_⟩; replace HO229 := am (Kd.R_below (pr HO229.out) hb); replace BK226 := am (blk_below (pb BK226.out) hb); replace HB := am (below_step (bg1 HB.out GE226.out) hb); (try clear hb); (try clear hb2); (try clear hk); (try clear hi)))
 go_loopg [5, 9] k (fun kq v5 v9 w' => ∃ (x5_1 : List (S80)) (x9_1 : Int), v9 = .int .i64 x9_1 ∧ Aside0 (spec_l12Room.l0 kq x5_1 t232 x9_1 l0_0 l0_1 = some (r1, r2, r3)) ∧ Aside0 (kq ≤ k) ∧ Aside0 (Kd.R k80 80 w' w.heap.size (fun _ => True) v5 x5_1) ∧ Aside0 (w'.heap[gb226]? = some (.cells #[(.slice A0_0 l0_0.length c0_0), (.slice A0_1 l0_1.length c0_1)] 56 (0, 0))) ∧ Aside0 (Below w.heap.size w w'))
 case atStart => exact ⟨(y227), (0), rf, H', ⟨Nat.le_refl _⟩, ⟨pr HO229.out⟩, ⟨pb BK226.out⟩, ⟨bg1 HB.out GE226.out⟩⟩
 case round =>
  clear H'
  obtain ⟨x5_1, x9_1, rfl, HA, HK1, HO_5, BK226, HB⟩ := hrel
  cases gk with
  | zero => exact absurd HA.out (by simp [spec_l12Room.l0])
  | succ k1 =>
   have H := HA.out
   clear HA
   simp only [spec_l12Room.l0] at H
   by_cases c17 : x9_1 < 4
   rotate_left
   · rw [if_neg c17] at H
     have c17b0 := decide_eq_false c17
     clear c17
     by_cases c47 : x5_1.length < 2199023255552
     rotate_left
     · rw [if_neg c47] at H
       exact absurd H (by simp)
     rw [if_pos c47] at H
     have LMc47 := am c47
     clear c47
     obtain ⟨y240, hy240⟩ : ∃ y_ : List (S80), y_ = (x5_1 ++ [(⟨2, 0, 0, t232, (⟨0, 0, 0, 0⟩ : S27)⟩ : S80)]) := ⟨_, rfl⟩
     replace H : (if 0 ≤ t232 then (if t232 < (l0_0.length : Int) then (some (y240, t232, decide (((rd_T35 l0_0 t232).f1) < 200))) else (none)) else (none)) = some (r1, r2, r3) := by first | (rw [hy240]; with_reducible exact H) | (have H2_ := (Option.bind_some _ _).symm.trans H; rw [hy240]; with_reducible exact H2_) | (have H2_ := (Option.bind_some _ _).symm.trans H; with_reducible exact H2_) | with_reducible exact H | (rw [hy240]; exact H) | exact H
     have Ny240 := am hy240
     clear hy240
     by_cases c48 : 0 ≤ t232
     rotate_left
     · rw [if_neg c48] at H
       exact absurd H (by simp)
     rw [if_pos c48] at H
     have c48b0 := decide_eq_true c48
     clear c48
     by_cases c49 : t232 < (l0_0.length : Int)
     rotate_left
     · rw [if_neg c49] at H
       exact absurd H (by simp)
     rw [if_pos c49] at H
     have c49b0 := decide_eq_true c49
     clear c49
     simp only [Option.some.injEq, Prod.mk.injEq] at H
     obtain ⟨rfl, rfl, rfl⟩ := H
     try go_wp2
     replace HO_5 := am (Kd.R_drew HO_5.out)
     replace BK226 := am (blk_drew BK226.out)
     replace HB := am (below_drew1 HB.out)
     have p243 : 0 ≤ (t232 : Int) := ofb
     have q243 : t232 < (l0_0.length : Int) := ofb
     obtain ⟨ad243, A243_0, c243_0, e243, hx243_0, hx243_1, hl243_0, hi243_0⟩ := at_T35 HR0_0.out t232 p243 q243
     have hw243_1 := hx243_1
     have hw243_0 := hx243_0
     cases e243
     replace hx243_0 := up HB.out hx243_0
     replace hx243_1 := up HB.out hx243_1
     have HR243_0 := am hi243_0
     have HC243_0 := am hl243_0
     clear hi243_0 hl243_0
     replace p243 := eq_true p243
     replace q243 := eq_true q243
     refine start_ (n := 16) (S := fun w' => w'.cell? ⟨gb226, 0, none⟩ = some (.slice (some ad243) l0_0.length c0_0) ∧ w'.cell? ⟨gb226, 1, none⟩ = some (.slice A0_1 l0_1.length c0_1) ∧ w'.cell? (ad243.add ((t232).toNat * 2)) = some (.slice A243_0 ((rd_T35 l0_0 t232).f0).length c243_0) ∧ w'.cell? ⟨(ad243.add ((t232).toNat * 2)).block, (ad243.add ((t232).toNat * 2)).off + 1, none⟩ = some (.int .i64 ((rd_T35 l0_0 t232).f1))) (ds := []) #[false, false, false, false, false, false, false, false, false, false, false, false, false, false, false, false] (by kernel_rfl) rfl rfl ⟨(blk_cell BK226.out 0).trans rfl, (blk_cell BK226.out 1).trans rfl, ((HB.out.cell (World.block_lt_of_cell? w _ hw243_0)).trans hw243_0), ((HB.out.cell (World.block_lt_of_cell? w _ hw243_1)).trans hw243_1)⟩ (fun hHeld => ?_); refine with_tabW spec_l12Room.tab12 spec_l12Room.bits12 (fun HT_ HW_ => ?_)
     generalize wr.drew = w50 at HO_5 BK226 HB HR243_0 hx243_0 hx243_1 hHeld ⊢
     refine pj_ 0 57 #[true, false, false, false, false, false, false, false, false, false, false, false, false, false, false, false] rfl rfl (any_of HT_.out (by kernel_rfl)) (fun _ _ _ h => h) ?_
     refine pj_ 1 58 #[true, true, false, false, false, false, false, false, false, false, false, false, false, false, false, false] rfl rfl (any_of HT_.out (by kernel_rfl)) (fun _ _ _ h => h) ?_
     refine pj_ 2 59 #[true, true, true, false, false, false, false, false, false, false, false, false, false, false, false, false] rfl rfl (any_of HT_.out (by kernel_rfl)) (fun _ _ _ h => h) ?_
     refine pj_ 5 62 #[true, true, true, false, false, true, false, false, false, false, false, false, false, false, false, false] rfl rfl (any_of HT_.out (by kernel_rfl)) (fun _ _ _ h => h) ?_
     refine pj_ 6 63 #[true, true, true, false, false, true, true, false, false, false, false, false, false, false, false, false] rfl rfl (any_of HT_.out (by kernel_rfl)) (fun _ _ _ h => h) ?_
     refine pj_ 8 65 #[true, true, true, false, false, true, true, false, true, false, false, false, false, false, false, false] rfl rfl (any_of HT_.out (by kernel_rfl)) (fun _ _ _ h => h) ?_
     refine pm_ 7 64 #[true, true, true, false, false, true, true, true, true, false, false, false, false, false, false, false] rfl rfl (take_ofW HT_.out HW_.out (by kernel_rfl)) (fun _ _ _ h => h) hHeld ?_
     refine pj_ 9 66 #[true, true, true, false, false, true, true, true, true, true, false, false, false, false, false, false] rfl rfl (any_of HT_.out (by kernel_rfl)) (fun _ _ _ h => h) ?_
     refine pj_ 10 67 #[true, true, true, false, false, true, true, true, true, true, true, false, false, false, false, false] rfl rfl (any_of HT_.out (by kernel_rfl)) (fun _ _ _ h => h) ?_
     refine pm_ 11 68 #[true, true, true, false, false, true, true, true, true, true, true, true, false, false, false, false] rfl rfl (take_ofW HT_.out HW_.out (by kernel_rfl)) (fun _ _ _ h => h) hHeld ?_
     refine pj_ 12 69 #[true, true, true, false, false, true, true, true, true, true, true, true, true, false, false, false] rfl rfl (any_of HT_.out (by kernel_rfl)) (fun _ _ _ h => h) ?_
     refine one_ (i := 3) (N := some 60) #[true, true, true, true, false, true, true, true, true, true, true, true, true, false, false, false] rfl rfl (one_of HT_.out (by kernel_rfl)) (by decide) (fun K hK => ?_)
     refine value_ (w1 := ?_) (v := ?_) (by rfl) rfl ?_ ?_
     rotate_left 2
     · go_simp
       constructor
       · rfl
       · rfl
     refine hK.out _ _ ⟨(blk_cell (blk_alloc BK226.out _) 0).trans rfl, (blk_cell (blk_alloc BK226.out _) 1).trans rfl, (World.cell?_alloc_lt _ _ _ (World.block_lt_of_cell? _ _ (((HB.out.cell (World.block_lt_of_cell? w _ hw243_0)).trans hw243_0)))).trans (((HB.out.cell (World.block_lt_of_cell? w _ hw243_0)).trans hw243_0)), (World.cell?_alloc_lt _ _ _ (World.block_lt_of_cell? _ _ (((HB.out.cell (World.block_lt_of_cell? w _ hw243_1)).trans hw243_1)))).trans (((HB.out.cell (World.block_lt_of_cell? w _ hw243_1)).trans hw243_1))⟩ (fun hHeld => ?_)
     clear hK K
     refine norm_ (a' := ?_) ?_ ?_
     rotate_left
     · show Act.put _ (some 60) _ = _
       simp only [Act.put, List.setIfInBounds_toArray, List.set_cons_zero, List.set_cons_succ, i64_w, i32_w]
       rfl
     refine one_ (i := 4) (N := some 61) #[true, true, true, true, true, true, true, true, true, true, true, true, true, false, false, false] rfl rfl (one_of HT_.out (by kernel_rfl)) (by decide) (fun K hK => ?_)
     refine Kd.R_append_step k80 (w0 := w) w.heap.size (by rfl) (.tmp 57) (.tmp 60) 72 80 (.agg #[(.int .i64 0), (.int .i64 0), (.int .i64 0), (.int .i64 0), (.int .i64 0), (.int .i64 0), (.int .i64 0), (.int .i64 0)]) 64 rfl Try.underlying72 info80 rfl (by decide) (by omega) u5 x5_1 (⟨2, 0, 0, t232, (⟨0, 0, 0, 0⟩ : S27)⟩ : S80) [.int .i64 2, .int .i64 0, .int .i64 0, .int .i64 t232, .int .i64 0, .int .i64 0, .int .i64 0, .int .i64 0] (fun _ => True) (fun _ => False) rfl rfl ?aP (fun _ hk => hk.elim) ?aF ?aO ?aB ?aS ?aL ?_
     (case aP => exact k80_mkM _ _ _ (⟨2, 0, 0, t232, (⟨0, 0, 0, 0⟩ : S27)⟩ : S80))
     (case aB => exact (bg1 HB.out GE226.out))
     (case aF => exact (fun _ _ => trivial))
     (case aO => exact (pr HO_5.out))
     (case aS => exact (below_size (bg1 HB.out GE226.out)))
     (case aL => have := LMc47.out; omega)
     intro v241 w51 ho hb hg hat
     rw [← Ny240.out] at ho
     replace BK226 := am (blk_grown (g := gb226) (o := .cells #[.slice (some ad243) l0_0.length c0_0, .slice A0_1 l0_1.length c0_1] 56 (0, 0)) (pb BK226.out) hg (Kd.R_ne HO_5.out BK226.out (by decide)))
     replace HB := am (hb)
     have HO242 := am (ho)
     clear HO_5
     clear ho hb hg hat
     refine hK.out _ _ ⟨(blk_cell BK226.out 0).trans rfl, (blk_cell BK226.out 1).trans rfl, ((HB.out.cell (World.block_lt_of_cell? w _ hw243_0)).trans hw243_0), ((HB.out.cell (World.block_lt_of_cell? w _ hw243_1)).trans hw243_1)⟩ (fun hHeld => ?_)
     clear hK K
     refine norm_ (a' := ?_) ?_ ?_
     rotate_left
     · show Act.put _ (some 61) _ = _
       simp only [Act.put, List.setIfInBounds_toArray, List.set_cons_zero, List.set_cons_succ, i64_w, i32_w]
       rfl
     refine pj_ 13 2 #[true, true, true, true, true, true, true, true, true, true, true, true, true, true, false, false] rfl rfl (any_of HT_.out (by kernel_rfl)) (fun _ _ _ h => h) ?_
     refine pj_ 14 3 #[true, true, true, true, true, true, true, true, true, true, true, true, true, true, true, false] rfl rfl (any_of HT_.out (by kernel_rfl)) (fun _ _ _ h => h) ?_
     refine pj_ 15 4 #[true, true, true, true, true, true, true, true, true, true, true, true, true, true, true, true] rfl rfl (any_of HT_.out (by kernel_rfl)) (fun _ _ _ h => h) ?_
     refine done_ (done_of HT_.out (by kernel_rfl)) ?_
     try go_wp2
     go_ret3
     exact ⟨_, rq ⟨pr HO242.out, bg1 HB.out GE226.out⟩⟩
   rw [if_pos c17] at H
   have c17b0 := decide_eq_true c17
   clear c17
   by_cases c18 : 0 ≤ t232
   rotate_left
   · rw [if_neg c18] at H
     exact absurd H (by simp)
   rw [if_pos c18] at H
   have c18b0 := decide_eq_true c18
   clear c18
   by_cases c19 : t232 < (l0_0.length : Int)
   rotate_left
   · rw [if_neg c19] at H
     exact absurd H (by simp)
   rw [if_pos c19] at H
   have c19b0 := decide_eq_true c19
   clear c19
   by_cases c20 : 0 ≤ x9_1
   rotate_left
   · rw [if_neg c20] at H
     exact absurd H (by simp)
   rw [if_pos c20] at H
   have c20b0 := decide_eq_true c20
   clear c20
   by_cases c21 : x9_1 < (((rd_T35 l0_0 t232).f0).length : Int)
   rotate_left
   · rw [if_neg c21] at H
     exact absurd H (by simp)
   rw [if_pos c21] at H
   have c21b0 := decide_eq_true c21
   clear c21
   replace H := Option.bind_eq_some_iff.mp H
   obtain ⟨t236, A220, H⟩ := H
   replace H : (if t236 = true then (if ((rd_T32 ((rd_T35 l0_0 t232).f0) x9_1).f1.f0) = 1 then (if x5_1.length < 2199023255552 then (spec_l12Room.l0 k1 (x5_1 ++ [(⟨1, (rd_T32 ((rd_T35 l0_0 t232).f0) x9_1).f1.f2, (rd_T32 ((rd_T35 l0_0 t232).f0) x9_1).f1.f3, 0, (⟨0, 0, 0, 0⟩ : S27)⟩ : S80)]) t232 (wrap64 (x9_1 + 1)) l0_0 l0_1) else (none)) else (spec_l12Room.l0 k1 x5_1 t232 (wrap64 (x9_1 + 1)) l0_0 l0_1)) else (spec_l12Room.l0 k1 x5_1 t232 (wrap64 (x9_1 + 1)) l0_0 l0_1)) = some (r1, r2, r3) := H
   have A22 := am A220
   clear A220
   by_cases c23 : t236 = true
   rotate_left
   · replace c23 := Bool.eq_false_iff.mpr c23
     subst c23
     have H1 : (spec_l12Room.l0 k1 x5_1 t232 (wrap64 (x9_1 + 1)) l0_0 l0_1) = some (r1, r2, r3) := by rw [if_neg (show ¬ (false = true) by decide)] at H; exact H
     clear H
     have H := H1
     clear H1
     have H' := am H
     clear H
     obtain ⟨hcz41_0, hcz41_1⟩ := b2 BK226.out
     obtain ⟨hfz41_0, hfz41_1⟩ := f2 BK226.out
     have p233 : 0 ≤ (t232 : Int) := ofb
     have q233 : t232 < (l0_0.length : Int) := ofb
     obtain ⟨ad233, A233_0, c233_0, e233, hx233_0, hx233_1, hl233_0, hi233_0⟩ := at_T35 HR0_0.out t232 p233 q233
     cases e233
     replace hx233_0 := up HB.out hx233_0
     replace hx233_1 := up HB.out hx233_1
     have HR233_0 := am hi233_0
     have HC233_0 := am hl233_0
     clear hi233_0 hl233_0
     replace p233 := eq_true p233
     replace q233 := eq_true q233
     have p234 : 0 ≤ (x9_1 : Int) := ofb
     have q234 : x9_1 < (((rd_T35 l0_0 t232).f0).length : Int) := ofb
     obtain ⟨ad234, e234, hx234_0, hx234_1, hx234_2, hx234_3, hx234_4⟩ := at_T32 HR233_0.out x9_1 p234 q234
     cases e234
     replace hx234_0 := up HB.out hx234_0
     replace hx234_1 := up HB.out hx234_1
     replace hx234_2 := up HB.out hx234_2
     replace hx234_3 := up HB.out hx234_3
     replace hx234_4 := up HB.out hx234_4
     replace p234 := eq_true p234
     replace q234 := eq_true q234
     go_wp2_with (first | (refine bx 10 #[.int .i64 0, .int .i64 0, .int .i64 0, .int .i64 0, .int .i64 0] 32 rfl ?_; intro gb235 hg w42 hbox hb; replace HO_5 := am (Kd.R_below (pr HO_5.out) hb); have BK235 := am (hbox); have GW235 := am ((by rw [hg]; exact (below_size (bg1 HB.out GE226.out)) : w.heap.size ≤ gb235)); have GE235 := GW235; replace HB := am (below_step (bg1 HB.out GE226.out) hb); have NB226_235 := am ((by rw [hg]; exact Nat.ne_of_lt (blk_lt (pb BK226.out)) : gb226 ≠ gb235)); have NB235_226 := am (Ne.symm NB226_235.out); replace BK226 := am (blk_below (pb BK226.out) hb); clear hb hbox hg; have hnb43 := NB235_226.out; have hnc43 := NB226_235.out; obtain ⟨hcz44_0, hcz44_1, hcz44_2, hcz44_3, hcz44_4⟩ := b5 BK235.out; obtain ⟨hfz44_0, hfz44_1, hfz44_2, hfz44_3, hfz44_4⟩ := f5 BK235.out; obtain ⟨hcz45_0, hcz45_1⟩ := b2 BK226.out; obtain ⟨hfz45_0, hfz45_1⟩ := f2 BK226.out) | (refine gl 40 Try.func49 #[.slice (some ad233) l0_0.length c0_0, .agg #[.int .i64 ((rd_T32 ((rd_T35 l0_0 t232).f0) x9_1).f0), .int .i64 ((rd_T32 ((rd_T35 l0_0 t232).f0) x9_1).f1.f0), .int .i64 ((rd_T32 ((rd_T35 l0_0 t232).f0) x9_1).f1.f1), .int .i64 ((rd_T32 ((rd_T35 l0_0 t232).f0) x9_1).f1.f2), .int .i64 ((rd_T32 ((rd_T35 l0_0 t232).f0) x9_1).f1.f3)]] rfl ?_; (with_reducible refine (spec_l3Live.calls k1 _ _ l0_0 ((rd_T32 ((rd_T35 l0_0 t232).f0) x9_1).f0) ((rd_T32 ((rd_T35 l0_0 t232).f0) x9_1).f1.f0) ((rd_T32 ((rd_T35 l0_0 t232).f0) x9_1).f1.f1) ((rd_T32 ((rd_T35 l0_0 t232).f0) x9_1).f1.f2) ((rd_T32 ((rd_T35 l0_0 t232).f0) x9_1).f1.f3) false _ ?side1 ?side2 A22.out).mono ?_); (case side1 => exact Kd.C_below HR0_0.out (bg2 HB.out GE226.out GE235.out)); (case side2 => exact HC0_0.out); rintro e w46 ⟨rfl, hb⟩; refine ⟨_, rfl, ?_⟩; replace HO_5 := am (Kd.R_below (by (with_reducible repeat (first | apply Kd.R_alloc | apply Kd.R_drewN | apply Kd.R_drew)); exact (Kd.R_mono (Kd.R_far (p := ⟨gb235, 4, none⟩) (Kd.R_far (p := ⟨gb235, 3, none⟩) (Kd.R_far (p := ⟨gb235, 2, none⟩) (Kd.R_far (p := ⟨gb235, 1, none⟩) (Kd.R_far (p := ⟨gb235, 0, none⟩) (Kd.R_types HO_5.out BK235.out (by decide)) (fun _ hk => hk.2) (.int .i64 ((rd_T32 ((rd_T35 l0_0 t232).f0) x9_1).f0))) (fun _ hk => hk.2) (.int .i64 ((rd_T32 ((rd_T35 l0_0 t232).f0) x9_1).f1.f0))) (fun _ hk => hk.2) (.int .i64 ((rd_T32 ((rd_T35 l0_0 t232).f0) x9_1).f1.f1))) (fun _ hk => hk.2) (.int .i64 ((rd_T32 ((rd_T35 l0_0 t232).f0) x9_1).f1.f2))) (fun _ hk => hk.2) (.int .i64 ((rd_T32 ((rd_T35 l0_0 t232).f0) x9_1).f1.f3))) (fun _ h_ => h_.1))) hb); replace BK226 := am (blk_below (g := gb226) (o := .cells #[.slice (some ad233) l0_0.length c0_0, .slice A0_1 l0_1.length c0_1] 56 (0, 0)) (by (with_reducible repeat (first | refine blk_drewN ?_ _ | refine blk_drew ?_ | refine blk_alloc ?_ _)); refine blk_far ?_ NB226_235.out _; (with_reducible repeat (first | refine blk_drewN ?_ _ | refine blk_drew ?_ | refine blk_alloc ?_ _)); refine blk_far ?_ NB226_235.out _; (with_reducible repeat (first | refine blk_drewN ?_ _ | refine blk_drew ?_ | refine blk_alloc ?_ _)); refine blk_far ?_ NB226_235.out _; (with_reducible repeat (first | refine blk_drewN ?_ _ | refine blk_drew ?_ | refine blk_alloc ?_ _)); refine blk_far ?_ NB226_235.out _; (with_reducible repeat (first | refine blk_drewN ?_ _ | refine blk_drew ?_ | refine blk_alloc ?_ _)); refine blk_far ?_ NB226_235.out _; (with_reducible repeat (first | refine blk_drewN ?_ _ | refine blk_drew ?_ | refine blk_alloc ?_ _)); exact BK226.out) hb); replace BK235 := am (blk_below (g := gb235) (o := .cells #[.int .i64 ((rd_T32 ((rd_T35 l0_0 t232).f0) x9_1).f0), .int .i64 ((rd_T32 ((rd_T35 l0_0 t232).f0) x9_1).f1.f0), .int .i64 ((rd_T32 ((rd_T35 l0_0 t232).f0) x9_1).f1.f1), .int .i64 ((rd_T32 ((rd_T35 l0_0 t232).f0) x9_1).f1.f2), .int .i64 ((rd_T32 ((rd_T35 l0_0 t232).f0) x9_1).f1.f3)] 32 (0, 0)) (by (with_reducible repeat (first | refine blk_drewN ?_ _ | refine blk_drew ?_ | refine blk_alloc ?_ _)); refine blk_put (cs := #[.int .i64 ((rd_T32 ((rd_T35 l0_0 t232).f0) x9_1).f0), .int .i64 ((rd_T32 ((rd_T35 l0_0 t232).f0) x9_1).f1.f0), .int .i64 ((rd_T32 ((rd_T35 l0_0 t232).f0) x9_1).f1.f1), .int .i64 ((rd_T32 ((rd_T35 l0_0 t232).f0) x9_1).f1.f2), .int .i64 0]) ?_ 4 _ rfl; (with_reducible repeat (first | refine blk_drewN ?_ _ | refine blk_drew ?_ | refine blk_alloc ?_ _)); refine blk_put (cs := #[.int .i64 ((rd_T32 ((rd_T35 l0_0 t232).f0) x9_1).f0), .int .i64 ((rd_T32 ((rd_T35 l0_0 t232).f0) x9_1).f1.f0), .int .i64 ((rd_T32 ((rd_T35 l0_0 t232).f0) x9_1).f1.f1), .int .i64 0, .int .i64 0]) ?_ 3 _ rfl; (with_reducible repeat (first | refine blk_drewN ?_ _ | refine blk_drew ?_ | refine blk_alloc ?_ _)); refine blk_put (cs := #[.int .i64 ((rd_T32 ((rd_T35 l0_0 t232).f0) x9_1).f0), .int .i64 ((rd_T32 ((rd_T35 l0_0 t232).f0) x9_1).f1.f0), .int .i64 0, .int .i64 0, .int .i64 0]) ?_ 2 _ rfl; (with_reducible repeat (first | refine blk_drewN ?_ _ | refine blk_drew ?_ | refine blk_alloc ?_ _)); refine blk_put (cs := #[.int .i64 ((rd_T32 ((rd_T35 l0_0 t232).f0) x9_1).f0), .int .i64 0, .int .i64 0, .int .i64 0, .int .i64 0]) ?_ 1 _ rfl; (with_reducible repeat (first | refine blk_drewN ?_ _ | refine blk_drew ?_ | refine blk_alloc ?_ _)); refine blk_put (cs := #[.int .i64 0, .int .i64 0, .int .i64 0, .int .i64 0, .int .i64 0]) ?_ 0 _ rfl; (with_reducible repeat (first | refine blk_drewN ?_ _ | refine blk_drew ?_ | refine blk_alloc ?_ _)); exact BK235.out) hb); replace HB := am (below_step (bg2 HB.out GE226.out GE235.out) hb); (try clear hb); (try clear hb2); (try clear hk); (try clear hi)))
     go_roundg k1
     case measure => have := HK1.out; omega
     case rel => exact ⟨(x5_1), (wrap64 (x9_1 + 1)), rf, H', ⟨by have := HK1.out; omega⟩, ⟨pr HO_5.out⟩, ⟨pb BK226.out⟩, ⟨bg2 HB.out GE226.out GE235.out⟩⟩
   subst c23
   have H1 : (if ((rd_T32 ((rd_T35 l0_0 t232).f0) x9_1).f1.f0) = 1 then (if x5_1.length < 2199023255552 then (spec_l12Room.l0 k1 (x5_1 ++ [(⟨1, (rd_T32 ((rd_T35 l0_0 t232).f0) x9_1).f1.f2, (rd_T32 ((rd_T35 l0_0 t232).f0) x9_1).f1.f3, 0, (⟨0, 0, 0, 0⟩ : S27)⟩ : S80)]) t232 (wrap64 (x9_1 + 1)) l0_0 l0_1) else (none)) else (spec_l12Room.l0 k1 x5_1 t232 (wrap64 (x9_1 + 1)) l0_0 l0_1)) = some (r1, r2, r3) := by rw [if_pos rfl] at H; exact H
   clear H
   have H := H1
   clear H1
   by_cases c24 : ((rd_T32 ((rd_T35 l0_0 t232).f0) x9_1).f1.f0) = 1
   rotate_left
   · rw [if_neg c24] at H
     have c24b0 : (((rd_T32 ((rd_T35 l0_0 t232).f0) x9_1).f1.f0) == 1) = false := beq_eq_false_iff_ne.mpr c24
     have c24b1 : (((rd_T32 ((rd_T35 l0_0 t232).f0) x9_1).f1.f0) != 1) = true := bne_iff_ne.mpr c24
     have H' := am H
     clear H
     obtain ⟨hcz34_0, hcz34_1⟩ := b2 BK226.out
     obtain ⟨hfz34_0, hfz34_1⟩ := f2 BK226.out
     have p233 : 0 ≤ (t232 : Int) := ofb
     have q233 : t232 < (l0_0.length : Int) := ofb
     obtain ⟨ad233, A233_0, c233_0, e233, hx233_0, hx233_1, hl233_0, hi233_0⟩ := at_T35 HR0_0.out t232 p233 q233
     cases e233
     replace hx233_0 := up HB.out hx233_0
     replace hx233_1 := up HB.out hx233_1
     have HR233_0 := am hi233_0
     have HC233_0 := am hl233_0
     clear hi233_0 hl233_0
     replace p233 := eq_true p233
     replace q233 := eq_true q233
     have p234 : 0 ≤ (x9_1 : Int) := ofb
     have q234 : x9_1 < (((rd_T35 l0_0 t232).f0).length : Int) := ofb
     obtain ⟨ad234, e234, hx234_0, hx234_1, hx234_2, hx234_3, hx234_4⟩ := at_T32 HR233_0.out x9_1 p234 q234
     cases e234
     replace hx234_0 := up HB.out hx234_0
     replace hx234_1 := up HB.out hx234_1
     replace hx234_2 := up HB.out hx234_2
     replace hx234_3 := up HB.out hx234_3
     replace hx234_4 := up HB.out hx234_4
     replace p234 := eq_true p234
     replace q234 := eq_true q234
     go_wp2_with (first | (refine bx 10 #[.int .i64 0, .int .i64 0, .int .i64 0, .int .i64 0, .int .i64 0] 32 rfl ?_; intro gb235 hg w35 hbox hb; replace HO_5 := am (Kd.R_below (pr HO_5.out) hb); have BK235 := am (hbox); have GW235 := am ((by rw [hg]; exact (below_size (bg1 HB.out GE226.out)) : w.heap.size ≤ gb235)); have GE235 := GW235; replace HB := am (below_step (bg1 HB.out GE226.out) hb); have NB226_235 := am ((by rw [hg]; exact Nat.ne_of_lt (blk_lt (pb BK226.out)) : gb226 ≠ gb235)); have NB235_226 := am (Ne.symm NB226_235.out); replace BK226 := am (blk_below (pb BK226.out) hb); clear hb hbox hg; have hnb36 := NB235_226.out; have hnc36 := NB226_235.out; obtain ⟨hcz37_0, hcz37_1, hcz37_2, hcz37_3, hcz37_4⟩ := b5 BK235.out; obtain ⟨hfz37_0, hfz37_1, hfz37_2, hfz37_3, hfz37_4⟩ := f5 BK235.out; obtain ⟨hcz38_0, hcz38_1⟩ := b2 BK226.out; obtain ⟨hfz38_0, hfz38_1⟩ := f2 BK226.out) | (refine gl 40 Try.func49 #[.slice (some ad233) l0_0.length c0_0, .agg #[.int .i64 ((rd_T32 ((rd_T35 l0_0 t232).f0) x9_1).f0), .int .i64 ((rd_T32 ((rd_T35 l0_0 t232).f0) x9_1).f1.f0), .int .i64 ((rd_T32 ((rd_T35 l0_0 t232).f0) x9_1).f1.f1), .int .i64 ((rd_T32 ((rd_T35 l0_0 t232).f0) x9_1).f1.f2), .int .i64 ((rd_T32 ((rd_T35 l0_0 t232).f0) x9_1).f1.f3)]] rfl ?_; (with_reducible refine (spec_l3Live.calls k1 _ _ l0_0 ((rd_T32 ((rd_T35 l0_0 t232).f0) x9_1).f0) ((rd_T32 ((rd_T35 l0_0 t232).f0) x9_1).f1.f0) ((rd_T32 ((rd_T35 l0_0 t232).f0) x9_1).f1.f1) ((rd_T32 ((rd_T35 l0_0 t232).f0) x9_1).f1.f2) ((rd_T32 ((rd_T35 l0_0 t232).f0) x9_1).f1.f3) true _ ?side1 ?side2 A22.out).mono ?_); (case side1 => exact Kd.C_below HR0_0.out (bg2 HB.out GE226.out GE235.out)); (case side2 => exact HC0_0.out); rintro e w39 ⟨rfl, hb⟩; refine ⟨_, rfl, ?_⟩; replace HO_5 := am (Kd.R_below (by (with_reducible repeat (first | apply Kd.R_alloc | apply Kd.R_drewN | apply Kd.R_drew)); exact (Kd.R_mono (Kd.R_far (p := ⟨gb235, 4, none⟩) (Kd.R_far (p := ⟨gb235, 3, none⟩) (Kd.R_far (p := ⟨gb235, 2, none⟩) (Kd.R_far (p := ⟨gb235, 1, none⟩) (Kd.R_far (p := ⟨gb235, 0, none⟩) (Kd.R_types HO_5.out BK235.out (by decide)) (fun _ hk => hk.2) (.int .i64 ((rd_T32 ((rd_T35 l0_0 t232).f0) x9_1).f0))) (fun _ hk => hk.2) (.int .i64 ((rd_T32 ((rd_T35 l0_0 t232).f0) x9_1).f1.f0))) (fun _ hk => hk.2) (.int .i64 ((rd_T32 ((rd_T35 l0_0 t232).f0) x9_1).f1.f1))) (fun _ hk => hk.2) (.int .i64 ((rd_T32 ((rd_T35 l0_0 t232).f0) x9_1).f1.f2))) (fun _ hk => hk.2) (.int .i64 ((rd_T32 ((rd_T35 l0_0 t232).f0) x9_1).f1.f3))) (fun _ h_ => h_.1))) hb); replace BK226 := am (blk_below (g := gb226) (o := .cells #[.slice (some ad233) l0_0.length c0_0, .slice A0_1 l0_1.length c0_1] 56 (0, 0)) (by (with_reducible repeat (first | refine blk_drewN ?_ _ | refine blk_drew ?_ | refine blk_alloc ?_ _)); refine blk_far ?_ NB226_235.out _; (with_reducible repeat (first | refine blk_drewN ?_ _ | refine blk_drew ?_ | refine blk_alloc ?_ _)); refine blk_far ?_ NB226_235.out _; (with_reducible repeat (first | refine blk_drewN ?_ _ | refine blk_drew ?_ | refine blk_alloc ?_ _)); refine blk_far ?_ NB226_235.out _; (with_reducible repeat (first | refine blk_drewN ?_ _ | refine blk_drew ?_ | refine blk_alloc ?_ _)); refine blk_far ?_ NB226_235.out _; (with_reducible repeat (first | refine blk_drewN ?_ _ | refine blk_drew ?_ | refine blk_alloc ?_ _)); refine blk_far ?_ NB226_235.out _; (with_reducible repeat (first | refine blk_drewN ?_ _ | refine blk_drew ?_ | refine blk_alloc ?_ _)); exact BK226.out) hb); replace BK235 := am (blk_below (g := gb235) (o := .cells #[.int .i64 ((rd_T32 ((rd_T35 l0_0 t232).f0) x9_1).f0), .int .i64 ((rd_T32 ((rd_T35 l0_0 t232).f0) x9_1).f1.f0), .int .i64 ((rd_T32 ((rd_T35 l0_0 t232).f0) x9_1).f1.f1), .int .i64 ((rd_T32 ((rd_T35 l0_0 t232).f0) x9_1).f1.f2), .int .i64 ((rd_T32 ((rd_T35 l0_0 t232).f0) x9_1).f1.f3)] 32 (0, 0)) (by (with_reducible repeat (first | refine blk_drewN ?_ _ | refine blk_drew ?_ | refine blk_alloc ?_ _)); refine blk_put (cs := #[.int .i64 ((rd_T32 ((rd_T35 l0_0 t232).f0) x9_1).f0), .int .i64 ((rd_T32 ((rd_T35 l0_0 t232).f0) x9_1).f1.f0), .int .i64 ((rd_T32 ((rd_T35 l0_0 t232).f0) x9_1).f1.f1), .int .i64 ((rd_T32 ((rd_T35 l0_0 t232).f0) x9_1).f1.f2), .int .i64 0]) ?_ 4 _ rfl; (with_reducible repeat (first | refine blk_drewN ?_ _ | refine blk_drew ?_ | refine blk_alloc ?_ _)); refine blk_put (cs := #[.int .i64 ((rd_T32 ((rd_T35 l0_0 t232).f0) x9_1).f0), .int .i64 ((rd_T32 ((rd_T35 l0_0 t232).f0) x9_1).f1.f0), .int .i64 ((rd_T32 ((rd_T35 l0_0 t232).f0) x9_1).f1.f1), .int .i64 0, .int .i64 0]) ?_ 3 _ rfl; (with_reducible repeat (first | refine blk_drewN ?_ _ | refine blk_drew ?_ | refine blk_alloc ?_ _)); refine blk_put (cs := #[.int .i64 ((rd_T32 ((rd_T35 l0_0 t232).f0) x9_1).f0), .int .i64 ((rd_T32 ((rd_T35 l0_0 t232).f0) x9_1).f1.f0), .int .i64 0, .int .i64 0, .int .i64 0]) ?_ 2 _ rfl; (with_reducible repeat (first | refine blk_drewN ?_ _ | refine blk_drew ?_ | refine blk_alloc ?_ _)); refine blk_put (cs := #[.int .i64 ((rd_T32 ((rd_T35 l0_0 t232).f0) x9_1).f0), .int .i64 0, .int .i64 0, .int .i64 0, .int .i64 0]) ?_ 1 _ rfl; (with_reducible repeat (first | refine blk_drewN ?_ _ | refine blk_drew ?_ | refine blk_alloc ?_ _)); refine blk_put (cs := #[.int .i64 0, .int .i64 0, .int .i64 0, .int .i64 0, .int .i64 0]) ?_ 0 _ rfl; (with_reducible repeat (first | refine blk_drewN ?_ _ | refine blk_drew ?_ | refine blk_alloc ?_ _)); exact BK235.out) hb); replace HB := am (below_step (bg2 HB.out GE226.out GE235.out) hb); (try clear hb); (try clear hb2); (try clear hk); (try clear hi); have hcz40_0 : w39.cell? ⟨gb235, 0, none⟩ = some (.int .i64 ((rd_T32 ((rd_T35 l0_0 t232).f0) x9_1).f0)) := (blk_cell BK235.out 0).trans rfl; have hcz40_1 : w39.cell? ⟨gb235, 1, none⟩ = some (.int .i64 ((rd_T32 ((rd_T35 l0_0 t232).f0) x9_1).f1.f0)) := (blk_cell BK235.out 1).trans rfl; have hcz40_2 : w39.cell? ⟨gb235, 2, none⟩ = some (.int .i64 ((rd_T32 ((rd_T35 l0_0 t232).f0) x9_1).f1.f1)) := (blk_cell BK235.out 2).trans rfl; have hcz40_3 : w39.cell? ⟨gb235, 3, none⟩ = some (.int .i64 ((rd_T32 ((rd_T35 l0_0 t232).f0) x9_1).f1.f2)) := (blk_cell BK235.out 3).trans rfl; have hcz40_4 : w39.cell? ⟨gb235, 4, none⟩ = some (.int .i64 ((rd_T32 ((rd_T35 l0_0 t232).f0) x9_1).f1.f3)) := (blk_cell BK235.out 4).trans rfl; obtain ⟨hfz40_0, hfz40_1, hfz40_2, hfz40_3, hfz40_4⟩ := f5 BK235.out))
     go_roundg k1
     case measure => have := HK1.out; omega
     case rel => exact ⟨(x5_1), (wrap64 (x9_1 + 1)), rf, H', ⟨by have := HK1.out; omega⟩, ⟨pr HO_5.out⟩, ⟨pb BK226.out⟩, ⟨bg2 HB.out GE226.out GE235.out⟩⟩
   rw [if_pos c24] at H
   have c24b0 : (((rd_T32 ((rd_T35 l0_0 t232).f0) x9_1).f1.f0) == 1) = true := beq_iff_eq.mpr c24
   have c24b1 : (((rd_T32 ((rd_T35 l0_0 t232).f0) x9_1).f1.f0) != 1) = false := bne_eq_false_iff_eq.mpr c24
   clear c24
   by_cases c25 : x5_1.length < 2199023255552
   rotate_left
   · rw [if_neg c25] at H
     exact absurd H (by simp)
   rw [if_pos c25] at H
   have LMc25 := am c25
   clear c25
   obtain ⟨y237, hy237⟩ : ∃ y_ : List (S80), y_ = (x5_1 ++ [(⟨1, (rd_T32 ((rd_T35 l0_0 t232).f0) x9_1).f1.f2, (rd_T32 ((rd_T35 l0_0 t232).f0) x9_1).f1.f3, 0, (⟨0, 0, 0, 0⟩ : S27)⟩ : S80)]) := ⟨_, rfl⟩
   replace H : (spec_l12Room.l0 k1 y237 t232 (wrap64 (x9_1 + 1)) l0_0 l0_1) = some (r1, r2, r3) := by first | (rw [hy237]; with_reducible exact H) | (have H2_ := (Option.bind_some _ _).symm.trans H; rw [hy237]; with_reducible exact H2_) | (have H2_ := (Option.bind_some _ _).symm.trans H; with_reducible exact H2_) | with_reducible exact H | (rw [hy237]; exact H) | exact H
   have Ny237 := am hy237
   clear hy237
   have H' := am H
   clear H
   obtain ⟨hcz26_0, hcz26_1⟩ := b2 BK226.out
   obtain ⟨hfz26_0, hfz26_1⟩ := f2 BK226.out
   have p233 : 0 ≤ (t232 : Int) := ofb
   have q233 : t232 < (l0_0.length : Int) := ofb
   obtain ⟨ad233, A233_0, c233_0, e233, hx233_0, hx233_1, hl233_0, hi233_0⟩ := at_T35 HR0_0.out t232 p233 q233
   cases e233
   replace hx233_0 := up HB.out hx233_0
   replace hx233_1 := up HB.out hx233_1
   have HR233_0 := am hi233_0
   have HC233_0 := am hl233_0
   clear hi233_0 hl233_0
   replace p233 := eq_true p233
   replace q233 := eq_true q233
   have p234 : 0 ≤ (x9_1 : Int) := ofb
   have q234 : x9_1 < (((rd_T35 l0_0 t232).f0).length : Int) := ofb
   obtain ⟨ad234, e234, hx234_0, hx234_1, hx234_2, hx234_3, hx234_4⟩ := at_T32 HR233_0.out x9_1 p234 q234
   cases e234
   replace hx234_0 := up HB.out hx234_0
   replace hx234_1 := up HB.out hx234_1
   replace hx234_2 := up HB.out hx234_2
   replace hx234_3 := up HB.out hx234_3
   replace hx234_4 := up HB.out hx234_4
   replace p234 := eq_true p234
   replace q234 := eq_true q234
   go_wp2_with (first | (refine bx 10 #[.int .i64 0, .int .i64 0, .int .i64 0, .int .i64 0, .int .i64 0] 32 rfl ?_; intro gb235 hg w27 hbox hb; replace HO_5 := am (Kd.R_below (pr HO_5.out) hb); have BK235 := am (hbox); have GW235 := am ((by rw [hg]; exact (below_size (bg1 HB.out GE226.out)) : w.heap.size ≤ gb235)); have GE235 := GW235; replace HB := am (below_step (bg1 HB.out GE226.out) hb); have NB226_235 := am ((by rw [hg]; exact Nat.ne_of_lt (blk_lt (pb BK226.out)) : gb226 ≠ gb235)); have NB235_226 := am (Ne.symm NB226_235.out); replace BK226 := am (blk_below (pb BK226.out) hb); clear hb hbox hg; have hnb28 := NB235_226.out; have hnc28 := NB226_235.out; obtain ⟨hcz29_0, hcz29_1, hcz29_2, hcz29_3, hcz29_4⟩ := b5 BK235.out; obtain ⟨hfz29_0, hfz29_1, hfz29_2, hfz29_3, hfz29_4⟩ := f5 BK235.out; obtain ⟨hcz30_0, hcz30_1⟩ := b2 BK226.out; obtain ⟨hfz30_0, hfz30_1⟩ := f2 BK226.out) | (refine gl 40 Try.func49 #[.slice (some ad233) l0_0.length c0_0, .agg #[.int .i64 ((rd_T32 ((rd_T35 l0_0 t232).f0) x9_1).f0), .int .i64 ((rd_T32 ((rd_T35 l0_0 t232).f0) x9_1).f1.f0), .int .i64 ((rd_T32 ((rd_T35 l0_0 t232).f0) x9_1).f1.f1), .int .i64 ((rd_T32 ((rd_T35 l0_0 t232).f0) x9_1).f1.f2), .int .i64 ((rd_T32 ((rd_T35 l0_0 t232).f0) x9_1).f1.f3)]] rfl ?_; (with_reducible refine (spec_l3Live.calls k1 _ _ l0_0 ((rd_T32 ((rd_T35 l0_0 t232).f0) x9_1).f0) ((rd_T32 ((rd_T35 l0_0 t232).f0) x9_1).f1.f0) ((rd_T32 ((rd_T35 l0_0 t232).f0) x9_1).f1.f1) ((rd_T32 ((rd_T35 l0_0 t232).f0) x9_1).f1.f2) ((rd_T32 ((rd_T35 l0_0 t232).f0) x9_1).f1.f3) true _ ?side1 ?side2 A22.out).mono ?_); (case side1 => exact Kd.C_below HR0_0.out (bg2 HB.out GE226.out GE235.out)); (case side2 => exact HC0_0.out); rintro e w31 ⟨rfl, hb⟩; refine ⟨_, rfl, ?_⟩; replace HO_5 := am (Kd.R_below (by (with_reducible repeat (first | apply Kd.R_alloc | apply Kd.R_drewN | apply Kd.R_drew)); exact (Kd.R_mono (Kd.R_far (p := ⟨gb235, 4, none⟩) (Kd.R_far (p := ⟨gb235, 3, none⟩) (Kd.R_far (p := ⟨gb235, 2, none⟩) (Kd.R_far (p := ⟨gb235, 1, none⟩) (Kd.R_far (p := ⟨gb235, 0, none⟩) (Kd.R_types HO_5.out BK235.out (by decide)) (fun _ hk => hk.2) (.int .i64 ((rd_T32 ((rd_T35 l0_0 t232).f0) x9_1).f0))) (fun _ hk => hk.2) (.int .i64 ((rd_T32 ((rd_T35 l0_0 t232).f0) x9_1).f1.f0))) (fun _ hk => hk.2) (.int .i64 ((rd_T32 ((rd_T35 l0_0 t232).f0) x9_1).f1.f1))) (fun _ hk => hk.2) (.int .i64 ((rd_T32 ((rd_T35 l0_0 t232).f0) x9_1).f1.f2))) (fun _ hk => hk.2) (.int .i64 ((rd_T32 ((rd_T35 l0_0 t232).f0) x9_1).f1.f3))) (fun _ h_ => h_.1))) hb); replace BK226 := am (blk_below (g := gb226) (o := .cells #[.slice (some ad233) l0_0.length c0_0, .slice A0_1 l0_1.length c0_1] 56 (0, 0)) (by (with_reducible repeat (first | refine blk_drewN ?_ _ | refine blk_drew ?_ | refine blk_alloc ?_ _)); refine blk_far ?_ NB226_235.out _; (with_reducible repeat (first | refine blk_drewN ?_ _ | refine blk_drew ?_ | refine blk_alloc ?_ _)); refine blk_far ?_ NB226_235.out _; (with_reducible repeat (first | refine blk_drewN ?_ _ | refine blk_drew ?_ | refine blk_alloc ?_ _)); refine blk_far ?_ NB226_235.out _; (with_reducible repeat (first | refine blk_drewN ?_ _ | refine blk_drew ?_ | refine blk_alloc ?_ _)); refine blk_far ?_ NB226_235.out _; (with_reducible repeat (first | refine blk_drewN ?_ _ | refine blk_drew ?_ | refine blk_alloc ?_ _)); refine blk_far ?_ NB226_235.out _; (with_reducible repeat (first | refine blk_drewN ?_ _ | refine blk_drew ?_ | refine blk_alloc ?_ _)); exact BK226.out) hb); replace BK235 := am (blk_below (g := gb235) (o := .cells #[.int .i64 ((rd_T32 ((rd_T35 l0_0 t232).f0) x9_1).f0), .int .i64 ((rd_T32 ((rd_T35 l0_0 t232).f0) x9_1).f1.f0), .int .i64 ((rd_T32 ((rd_T35 l0_0 t232).f0) x9_1).f1.f1), .int .i64 ((rd_T32 ((rd_T35 l0_0 t232).f0) x9_1).f1.f2), .int .i64 ((rd_T32 ((rd_T35 l0_0 t232).f0) x9_1).f1.f3)] 32 (0, 0)) (by (with_reducible repeat (first | refine blk_drewN ?_ _ | refine blk_drew ?_ | refine blk_alloc ?_ _)); refine blk_put (cs := #[.int .i64 ((rd_T32 ((rd_T35 l0_0 t232).f0) x9_1).f0), .int .i64 ((rd_T32 ((rd_T35 l0_0 t232).f0) x9_1).f1.f0), .int .i64 ((rd_T32 ((rd_T35 l0_0 t232).f0) x9_1).f1.f1), .int .i64 ((rd_T32 ((rd_T35 l0_0 t232).f0) x9_1).f1.f2), .int .i64 0]) ?_ 4 _ rfl; (with_reducible repeat (first | refine blk_drewN ?_ _ | refine blk_drew ?_ | refine blk_alloc ?_ _)); refine blk_put (cs := #[.int .i64 ((rd_T32 ((rd_T35 l0_0 t232).f0) x9_1).f0), .int .i64 ((rd_T32 ((rd_T35 l0_0 t232).f0) x9_1).f1.f0), .int .i64 ((rd_T32 ((rd_T35 l0_0 t232).f0) x9_1).f1.f1), .int .i64 0, .int .i64 0]) ?_ 3 _ rfl; (with_reducible repeat (first | refine blk_drewN ?_ _ | refine blk_drew ?_ | refine blk_alloc ?_ _)); refine blk_put (cs := #[.int .i64 ((rd_T32 ((rd_T35 l0_0 t232).f0) x9_1).f0), .int .i64 ((rd_T32 ((rd_T35 l0_0 t232).f0) x9_1).f1.f0), .int .i64 0, .int .i64 0, .int .i64 0]) ?_ 2 _ rfl; (with_reducible repeat (first | refine blk_drewN ?_ _ | refine blk_drew ?_ | refine blk_alloc ?_ _)); refine blk_put (cs := #[.int .i64 ((rd_T32 ((rd_T35 l0_0 t232).f0) x9_1).f0), .int .i64 0, .int .i64 0, .int .i64 0, .int .i64 0]) ?_ 1 _ rfl; (with_reducible repeat (first | refine blk_drewN ?_ _ | refine blk_drew ?_ | refine blk_alloc ?_ _)); refine blk_put (cs := #[.int .i64 0, .int .i64 0, .int .i64 0, .int .i64 0, .int .i64 0]) ?_ 0 _ rfl; (with_reducible repeat (first | refine blk_drewN ?_ _ | refine blk_drew ?_ | refine blk_alloc ?_ _)); exact BK235.out) hb); replace HB := am (below_step (bg2 HB.out GE226.out GE235.out) hb); (try clear hb); (try clear hb2); (try clear hk); (try clear hi); have hcz32_0 : w31.cell? ⟨gb235, 0, none⟩ = some (.int .i64 ((rd_T32 ((rd_T35 l0_0 t232).f0) x9_1).f0)) := (blk_cell BK235.out 0).trans rfl; have hcz32_1 : w31.cell? ⟨gb235, 1, none⟩ = some (.int .i64 ((rd_T32 ((rd_T35 l0_0 t232).f0) x9_1).f1.f0)) := (blk_cell BK235.out 1).trans rfl; have hcz32_2 : w31.cell? ⟨gb235, 2, none⟩ = some (.int .i64 ((rd_T32 ((rd_T35 l0_0 t232).f0) x9_1).f1.f1)) := (blk_cell BK235.out 2).trans rfl; have hcz32_3 : w31.cell? ⟨gb235, 3, none⟩ = some (.int .i64 ((rd_T32 ((rd_T35 l0_0 t232).f0) x9_1).f1.f2)) := (blk_cell BK235.out 3).trans rfl; have hcz32_4 : w31.cell? ⟨gb235, 4, none⟩ = some (.int .i64 ((rd_T32 ((rd_T35 l0_0 t232).f0) x9_1).f1.f3)) := (blk_cell BK235.out 4).trans rfl; obtain ⟨hfz32_0, hfz32_1, hfz32_2, hfz32_3, hfz32_4⟩ := f5 BK235.out) | ((with_reducible refine gate_builtin (b := .append) (xs := #[.tmp 47, .tmp 55]) rfl ?_); at_builtin; refine Kd.R_append k80 (w0 := w) w.heap.size rfl (.tmp 47) (.tmp 55) 72 80 (.agg #[(.int .i64 0), (.int .i64 0), (.int .i64 0), (.int .i64 0), (.int .i64 0), (.int .i64 0), (.int .i64 0), (.int .i64 0)]) 64 rfl Try.underlying72 info80 rfl (by decide) (by omega) u5 x5_1 (⟨1, (rd_T32 ((rd_T35 l0_0 t232).f0) x9_1).f1.f2, (rd_T32 ((rd_T35 l0_0 t232).f0) x9_1).f1.f3, 0, (⟨0, 0, 0, 0⟩ : S27)⟩ : S80) [.int .i64 1, .int .i64 ((rd_T32 ((rd_T35 l0_0 t232).f0) x9_1).f1.f2), .int .i64 ((rd_T32 ((rd_T35 l0_0 t232).f0) x9_1).f1.f3), .int .i64 0, .int .i64 0, .int .i64 0, .int .i64 0, .int .i64 0] (fun _ => True) (fun _ => False) rfl rfl ?aP (fun _ hk => hk.elim) ?aF ?aO ?aB ?aS ?aL ?_; (case aP => exact k80_mkM _ _ _ (⟨1, (rd_T32 ((rd_T35 l0_0 t232).f0) x9_1).f1.f2, (rd_T32 ((rd_T35 l0_0 t232).f0) x9_1).f1.f3, 0, (⟨0, 0, 0, 0⟩ : S27)⟩ : S80)); (case aB => exact (bg2 HB.out GE226.out GE235.out)); (case aF => exact (fun _ _ => trivial)); (case aO => exact (pr HO_5.out)); (case aS => exact (below_size (bg2 HB.out GE226.out GE235.out))); (case aL => have := LMc25.out; omega); intro v238 w33 ho hb hg hat; rw [← Ny237.out] at ho; replace BK226 := am (blk_grown (g := gb226) (o := .cells #[.slice (some ad233) l0_0.length c0_0, .slice A0_1 l0_1.length c0_1] 56 (0, 0)) (pb BK226.out) hg (Kd.R_ne HO_5.out BK226.out (by decide))); replace BK235 := am (blk_grown (g := gb235) (o := .cells #[.int .i64 ((rd_T32 ((rd_T35 l0_0 t232).f0) x9_1).f0), .int .i64 ((rd_T32 ((rd_T35 l0_0 t232).f0) x9_1).f1.f0), .int .i64 ((rd_T32 ((rd_T35 l0_0 t232).f0) x9_1).f1.f1), .int .i64 ((rd_T32 ((rd_T35 l0_0 t232).f0) x9_1).f1.f2), .int .i64 ((rd_T32 ((rd_T35 l0_0 t232).f0) x9_1).f1.f3)] 32 (0, 0)) (pb BK235.out) hg (Kd.R_ne HO_5.out BK235.out (by decide))); replace HB := am (hb); have HO239 := am (ho); clear HO_5; clear ho hb hg hat))
   go_roundg k1
   case measure => have := HK1.out; omega
   case rel => exact ⟨(y237), (wrap64 (x9_1 + 1)), rf, H', ⟨by have := HK1.out; omega⟩, ⟨pr HO239.out⟩, ⟨pb BK226.out⟩, ⟨bg2 HB.out GE226.out GE235.out⟩⟩
end Go.Proofs.Ytepaanhmbfchoaa.Rm
