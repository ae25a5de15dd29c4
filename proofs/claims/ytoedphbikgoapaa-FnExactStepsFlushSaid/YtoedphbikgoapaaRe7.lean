-- printed by wip/pp/pp.py
import Derived.Test.YtoedphbikgoapaaRe0
import Derived.Test.YtoedphbikgoapaaRe4
import Derived.Test.YtoedphbikgoapaaRe6
import Derived.WalkKit
import Derived.OwnWalkIn
import Derived.TacticsInMore
import Derived.LoopNIn
import Derived.LoopIn
import Derived.IntWalk
import Derived.WalkArith
import Derived.Test.YtoedphbikgoapaaWStep
import Derived.RangeFuncLeaves
import Derived.Test.YtoedphbikgoapaaRe5
namespace Go.Proofs.Ytoedphbikgoapaa.Re
open Go.RowKit Go.Proofs.YtoedphbikgoapaaW.PrintWords Go.Proofs.YtoedphbikgoapaaW.PrintLast Go.Proofs.YtoedphbikgoapaaW.PrintMore
attribute [local go_sem] max2_int min2_int max_two min_two max_three min_three max_four min_four
set_option linter.unusedVariables false
set_option linter.unusedSimpArgs false
mutual
def spec_l3Last.l0 : Nat → List (S65) → Int → Int → Int → Int → Int → Int → Option (Int × Int × Int × Int × Bool)
 | 0, _, _, _, _, _, _, _ => none
 | k + 1, x0, x1, x7, x225000, x225001, x225002, x225003 => if x7 < (x0.length : Int) then (spec_l3Last.l1 k x0 x1 x7 0 x225000 x225001 x225002 x225003) else (some (x225000, x225001, x225002, x225003, decide (x225001 > 0)))
def spec_l3Last.l1 : Nat → List (S65) → Int → Int → Int → Int → Int → Int → Int → Option (Int × Int × Int × Int × Bool)
 | 0, _, _, _, _, _, _, _, _ => none
 | k + 1, x0, x1, x7, x8, x225000, x225001, x225002, x225003 => if 0 ≤ x7 then (if x7 < (x0.length : Int) then (if x8 < (((rd_T65 x0 x7).f0).length : Int) then (if 0 ≤ x8 then (if ((rd_T71 ((rd_T65 x0 x7).f0) x8).f0) = 1 then (if ((rd_T71 ((rd_T65 x0 x7).f0) x8).f1.f2) = x1 then (if ((rd_T71 ((rd_T65 x0 x7).f0) x8).f1.f1) > x225001 then (spec_l3Last.l1 k x0 x1 x7 (wrap64 (x8 + 1)) ((rd_T71 ((rd_T65 x0 x7).f0) x8).f1.f0) ((rd_T71 ((rd_T65 x0 x7).f0) x8).f1.f1) ((rd_T71 ((rd_T65 x0 x7).f0) x8).f1.f2) ((rd_T71 ((rd_T65 x0 x7).f0) x8).f1.f3)) else (spec_l3Last.l1 k x0 x1 x7 (wrap64 (x8 + 1)) x225000 x225001 x225002 x225003)) else (spec_l3Last.l1 k x0 x1 x7 (wrap64 (x8 + 1)) x225000 x225001 x225002 x225003)) else (spec_l3Last.l1 k x0 x1 x7 (wrap64 (x8 + 1)) x225000 x225001 x225002 x225003)) else (none)) else (spec_l3Last.l0 k x0 x1 (wrap64 (x7 + 1)) x225000 x225001 x225002 x225003)) else (none)) else (none)
end
def spec_l3Last.f (k : Nat) (l0 : List (S65)) (a1 : Int) : Option (Int × Int × Int × Int × Bool) := spec_l3Last.l0 k l0 a1 0 0 0 0 0
theorem spec_l3Last.mono_l : ∀ k, (∀ y0 y1 y2 y3 y4 y5 y6, LeO (spec_l3Last.l0 k y0 y1 y2 y3 y4 y5 y6) (spec_l3Last.l0 (k + 1) y0 y1 y2 y3 y4 y5 y6)) ∧ (∀ y0 y1 y2 y3 y4 y5 y6 y7, LeO (spec_l3Last.l1 k y0 y1 y2 y3 y4 y5 y6 y7) (spec_l3Last.l1 (k + 1) y0 y1 y2 y3 y4 y5 y6 y7))
 | 0 => ⟨fun _ _ _ _ _ _ _ r h => by simp [spec_l3Last.l0] at h, fun _ _ _ _ _ _ _ _ r h => by simp [spec_l3Last.l1] at h⟩
 | k + 1 => by
  obtain ⟨ih0, ih1⟩ := spec_l3Last.mono_l k
  refine ⟨?_, ?_⟩
  · intro y0 y1 y2 y3 y4 y5 y6
    unfold spec_l3Last.l0
    repeat' first
    | (with_reducible exact ih0 _ _ _ _ _ _ _)
    | (with_reducible exact ih1 _ _ _ _ _ _ _ _)
    | (with_reducible exact LeO.refl _)
    | (with_reducible exact LeO.none _)
    | (with_reducible refine LeO.ite ?_ ?_)
    | (with_reducible refine LeO.bind ?_ (fun _ => ?_))
    | exact ih0 _ _ _ _ _ _ _
    | exact ih1 _ _ _ _ _ _ _ _
    | exact LeO.none _
    | refine LeO.ite ?_ ?_
    | refine LeO.bind ?_ (fun _ => ?_)
  · intro y0 y1 y2 y3 y4 y5 y6 y7
    unfold spec_l3Last.l1
    repeat' first
    | (with_reducible exact ih0 _ _ _ _ _ _ _)
    | (with_reducible exact ih1 _ _ _ _ _ _ _ _)
    | (with_reducible exact LeO.refl _)
    | (with_reducible exact LeO.none _)
    | (with_reducible refine LeO.ite ?_ ?_)
    | (with_reducible refine LeO.bind ?_ (fun _ => ?_))
    | exact ih0 _ _ _ _ _ _ _
    | exact ih1 _ _ _ _ _ _ _ _
    | exact LeO.none _
    | refine LeO.ite ?_ ?_
    | refine LeO.bind ?_ (fun _ => ?_)
theorem spec_l3Last.mono : ∀ a0 a1 k, LeO (spec_l3Last.f k a0 a1) (spec_l3Last.f (k + 1) a0 a1) := by
 intro a0 a1 k
 obtain ⟨ih0, ih1⟩ := spec_l3Last.mono_l k
 unfold spec_l3Last.f
 repeat' first
  | (with_reducible exact ih0 _ _ _ _ _ _ _)
  | (with_reducible exact ih1 _ _ _ _ _ _ _ _)
  | (with_reducible exact LeO.refl _)
  | (with_reducible exact LeO.none _)
  | (with_reducible refine LeO.ite ?_ ?_)
  | (with_reducible refine LeO.bind ?_ (fun _ => ?_))
  | exact ih0 _ _ _ _ _ _ _
  | exact ih1 _ _ _ _ _ _ _ _
  | exact LeO.none _
  | refine LeO.ite ?_ ?_
  | refine LeO.bind ?_ (fun _ => ?_)
set_option maxHeartbeats 8000000 in
set_option maxRecDepth 100000 in
theorem spec_l3Last.calls (k : Nat) (A0 : Option Addr) (c0 : Nat) (l0 : List (S65)) (a1 : Int) (r1 : Int) (r2 : Int) (r3 : Int) (r4 : Int) (r5 : Bool) (w : World) (hr0 : Kd.C k65 w A0 l0.length l0) (hc0 : l0.length ≤ c0) (h : spec_l3Last.f k l0 a1 = some (r1, r2, r3, r4, r5)) :
 Calls Try.prog 81 #[.slice A0 l0.length c0, .int .i64 a1] w fun e w' => e = .returned (.tuple #[.agg #[.int .i64 r1, .int .i64 r2, .int .i64 r3, .int .i64 r4], .bool r5]) ∧ Below w.heap.size w w' := by
 have hu30 := Try.underlying30
 have hu71 := Try.underlying71
 have HR0 := am hr0
 have HC0 := am hc0
 clear hr0 hc0
 have HB := am (Below.refl w.heap.size w)
 have H : (spec_l3Last.l0 k l0 a1 0 0 0 0 0) = some (r1, r2, r3, r4, r5) := h
 clear h
 have H' := am H
 clear H
 go_enter Try.func81, Try.ntmps81
 go_wp2_with (first | (refine bx 4 #[.int .i64 0, .int .i64 0, .int .i64 0, .int .i64 0] 30 rfl ?_; intro gb223 hg w3 hbox hb; have BK223 := am (hbox); have GW223 := am ((by rw [hg]; exact (below_size (ph HB.out)) : w.heap.size ≤ gb223)); have GE223 := GW223; replace HB := am (below_step (ph HB.out) hb); clear hb hbox hg) | (refine bx 6 #[.int .i64 0, .int .i64 0, .int .i64 0, .int .i64 0] 30 rfl ?_; intro gb224 hg w4 hbox hb; have BK224 := am (hbox); have GW224 := am ((by rw [hg]; exact (below_size (bg1 HB.out GE223.out)) : w.heap.size ≤ gb224)); have GE224 := GW224; replace HB := am (below_step (bg1 HB.out GE223.out) hb); have NB223_224 := am ((by rw [hg]; exact Nat.ne_of_lt (blk_lt (pb BK223.out)) : gb223 ≠ gb224)); have NB224_223 := am (Ne.symm NB223_224.out); replace BK223 := am (blk_below (pb BK223.out) hb); clear hb hbox hg; have hnb5 := NB224_223.out; have hnc5 := NB223_224.out; obtain ⟨hcz6_0, hcz6_1, hcz6_2, hcz6_3⟩ := b4 BK224.out; obtain ⟨hfz6_0, hfz6_1, hfz6_2, hfz6_3⟩ := f4 BK224.out))
 go_loopg [7] k (fun kq v7 w' => ∃ (x7_1 : Int) (x225000_1 : Int) (x225001_1 : Int) (x225002_1 : Int) (x225003_1 : Int), v7 = .int .i64 x7_1 ∧ Aside0 (spec_l3Last.l0 kq l0 a1 x7_1 x225000_1 x225001_1 x225002_1 x225003_1 = some (r1, r2, r3, r4, r5)) ∧ Aside0 (kq ≤ k) ∧ Aside0 (w'.heap[gb223]? = some (.cells #[.int .i64 0, .int .i64 0, .int .i64 0, .int .i64 0] 30 (0, 0))) ∧ Aside0 (w'.heap[gb224]? = some (.cells #[.int .i64 x225000_1, .int .i64 x225001_1, .int .i64 x225002_1, .int .i64 x225003_1] 30 (0, 0))) ∧ Aside0 (Below w.heap.size w w'))
 case atStart => exact ⟨(0), (0), (0), (0), (0), rf, H', ⟨Nat.le_refl _⟩, ⟨by (with_reducible repeat (first | refine blk_drewN ?_ _ | refine blk_drew ?_ | refine blk_alloc ?_ _)); refine blk_far ?_ NB223_224.out _; (with_reducible repeat (first | refine blk_drewN ?_ _ | refine blk_drew ?_ | refine blk_alloc ?_ _)); refine blk_far ?_ NB223_224.out _; (with_reducible repeat (first | refine blk_drewN ?_ _ | refine blk_drew ?_ | refine blk_alloc ?_ _)); refine blk_far ?_ NB223_224.out _; (with_reducible repeat (first | refine blk_drewN ?_ _ | refine blk_drew ?_ | refine blk_alloc ?_ _)); refine blk_far ?_ NB223_224.out _; (with_reducible repeat (first | refine blk_drewN ?_ _ | refine blk_drew ?_ | refine blk_alloc ?_ _)); exact BK223.out⟩, ⟨by (with_reducible repeat (first | refine blk_drewN ?_ _ | refine blk_drew ?_ | refine blk_alloc ?_ _)); refine blk_put (cs := #[.int .i64 0, .int .i64 0, .int .i64 0, .int .i64 0]) ?_ 3 _ rfl; (with_reducible repeat (first | refine blk_drewN ?_ _ | refine blk_drew ?_ | refine blk_alloc ?_ _)); refine blk_put (cs := #[.int .i64 0, .int .i64 0, .int .i64 0, .int .i64 0]) ?_ 2 _ rfl; (with_reducible repeat (first | refine blk_drewN ?_ _ | refine blk_drew ?_ | refine blk_alloc ?_ _)); refine blk_put (cs := #[.int .i64 0, .int .i64 0, .int .i64 0, .int .i64 0]) ?_ 1 _ rfl; (with_reducible repeat (first | refine blk_drewN ?_ _ | refine blk_drew ?_ | refine blk_alloc ?_ _)); refine blk_put (cs := #[.int .i64 0, .int .i64 0, .int .i64 0, .int .i64 0]) ?_ 0 _ rfl; (with_reducible repeat (first | refine blk_drewN ?_ _ | refine blk_drew ?_ | refine blk_alloc ?_ _)); exact BK224.out⟩, ⟨bg2 HB.out GE223.out GE224.out⟩⟩
 case round =>
  clear H'
  obtain ⟨x7_1, x225000_1, x225001_1, x225002_1, x225003_1, rfl, HA, HK1, BK223, BK224, HB⟩ := hrel
  cases gk with
  | zero => exact absurd HA.out (by simp [spec_l3Last.l0])
  | succ k1 =>
   have H := HA.out
   clear HA
   simp only [spec_l3Last.l0] at H
   by_cases c7 : x7_1 < (l0.length : Int)
   rotate_left
   · rw [if_neg c7] at H
     have c7b0 := decide_eq_false c7
     clear c7
     simp only [Option.some.injEq, Prod.mk.injEq] at H
     obtain ⟨rfl, rfl, rfl, rfl, rfl⟩ := H
     try go_wp2
     replace BK223 := am (blk_drew BK223.out)
     replace BK224 := am (blk_drew BK224.out)
     replace HB := am (below_drew1 HB.out)
     refine start_ (n := 6) (S := fun w' => w'.cell? ⟨gb224, 0, none⟩ = some (.int .i64 x225000_1) ∧ w'.cell? ⟨gb224, 1, none⟩ = some (.int .i64 x225001_1) ∧ w'.cell? ⟨gb224, 2, none⟩ = some (.int .i64 x225002_1) ∧ w'.cell? ⟨gb224, 3, none⟩ = some (.int .i64 x225003_1)) (ds := []) #[false, false, false, false, false, false] (by kernel_rfl) rfl rfl ⟨(blk_cell BK224.out 0).trans rfl, (blk_cell BK224.out 1).trans rfl, (blk_cell BK224.out 2).trans rfl, (blk_cell BK224.out 3).trans rfl⟩ (fun hHeld => ?_)
     generalize wr.drew = w35 at BK223 BK224 HB hHeld ⊢
     refine pi_ 1 56 #[false, true, false, false, false, false] rfl rfl (fun _ _ _ h => h) ?_
     refine pm_ 0 55 #[true, true, false, false, false, false] rfl rfl (by kernel_rfl) (fun _ _ _ h => h) hHeld ?_
     refine pm_ 2 57 #[true, true, true, false, false, false] rfl rfl (by kernel_rfl) (fun _ _ _ h => h) hHeld ?_
     refine pi_ 3 58 #[true, true, true, true, false, false] rfl rfl (fun _ _ _ h => h) ?_
     refine one_ (i := 4) (N := none) #[true, true, true, true, true, false] rfl rfl (by kernel_rfl) (by decide) (fun K hK => ?_)
     have hs36 : w35.cell? ⟨gb223, 0, none⟩ = some (.int .i64 0) := (blk_cell BK223.out 0).trans rfl
     have hfs36 := blk_frozen BK223.out 0
     have hns36_1 := NB224_223.out
     have hms36_1 := NB223_224.out
     have hs37 : w35.cell? ⟨gb223, 1, none⟩ = some (.int .i64 0) := (blk_cell BK223.out 1).trans rfl
     have hfs37 := blk_frozen BK223.out 1
     have hns37_1 := NB224_223.out
     have hms37_1 := NB223_224.out
     have hs38 : w35.cell? ⟨gb223, 2, none⟩ = some (.int .i64 0) := (blk_cell BK223.out 2).trans rfl
     have hfs38 := blk_frozen BK223.out 2
     have hns38_1 := NB224_223.out
     have hms38_1 := NB223_224.out
     have hs39 : w35.cell? ⟨gb223, 3, none⟩ = some (.int .i64 0) := (blk_cell BK223.out 3).trans rfl
     have hfs39 := blk_frozen BK223.out 3
     have hns39_1 := NB224_223.out
     have hms39_1 := NB223_224.out
     refine skip_ (w1 := ?_) (by rfl) rfl ?_ ?_
     rotate_left
     · go_simp
       rfl
     refine hK.out _ _ ⟨((cell_far (p := ⟨gb223, _, none⟩) NB224_223.out _).trans (((cell_far (p := ⟨gb223, _, none⟩) NB224_223.out _).trans (((cell_far (p := ⟨gb223, _, none⟩) NB224_223.out _).trans (((cell_far (p := ⟨gb223, _, none⟩) NB224_223.out _).trans (hHeld.1)))))))), ((cell_far (p := ⟨gb223, _, none⟩) NB224_223.out _).trans (((cell_far (p := ⟨gb223, _, none⟩) NB224_223.out _).trans (((cell_far (p := ⟨gb223, _, none⟩) NB224_223.out _).trans (((cell_far (p := ⟨gb223, _, none⟩) NB224_223.out _).trans (hHeld.2.1)))))))), ((cell_far (p := ⟨gb223, _, none⟩) NB224_223.out _).trans (((cell_far (p := ⟨gb223, _, none⟩) NB224_223.out _).trans (((cell_far (p := ⟨gb223, _, none⟩) NB224_223.out _).trans (((cell_far (p := ⟨gb223, _, none⟩) NB224_223.out _).trans (hHeld.2.2.1)))))))), ((cell_far (p := ⟨gb223, _, none⟩) NB224_223.out _).trans (((cell_far (p := ⟨gb223, _, none⟩) NB224_223.out _).trans (((cell_far (p := ⟨gb223, _, none⟩) NB224_223.out _).trans (((cell_far (p := ⟨gb223, _, none⟩) NB224_223.out _).trans (hHeld.2.2.2))))))))⟩ (fun hHeld => ?_)
     clear hK K
     refine pi_ 5 5 #[true, true, true, true, true, true] rfl rfl (fun _ _ _ h => h) ?_
     refine done_ (by kernel_rfl) ?_
     try go_wp2
     refine bodyPost_ret (results_ct rfl _ _ gb223 30 #[.int .i64 x225000_1, .int .i64 x225001_1, .int .i64 x225002_1, .int .i64 x225003_1] (0, 0) _ rfl (by (with_reducible repeat (first | refine blk_drewN ?_ _ | refine blk_drew ?_ | refine blk_alloc ?_ _)); refine blk_put (cs := #[.int .i64 x225000_1, .int .i64 x225001_1, .int .i64 x225002_1, .int .i64 0]) ?_ 3 _ rfl; (with_reducible repeat (first | refine blk_drewN ?_ _ | refine blk_drew ?_ | refine blk_alloc ?_ _)); refine blk_put (cs := #[.int .i64 x225000_1, .int .i64 x225001_1, .int .i64 0, .int .i64 0]) ?_ 2 _ rfl; (with_reducible repeat (first | refine blk_drewN ?_ _ | refine blk_drew ?_ | refine blk_alloc ?_ _)); refine blk_put (cs := #[.int .i64 x225000_1, .int .i64 0, .int .i64 0, .int .i64 0]) ?_ 1 _ rfl; (with_reducible repeat (first | refine blk_drewN ?_ _ | refine blk_drew ?_ | refine blk_alloc ?_ _)); refine blk_put (cs := #[.int .i64 0, .int .i64 0, .int .i64 0, .int .i64 0]) ?_ 0 _ rfl; (with_reducible repeat (first | refine blk_drewN ?_ _ | refine blk_drew ?_ | refine blk_alloc ?_ _)); exact BK223.out) Try.underlying30 rfl (by kernel_rfl)) rfl ?_
     exact (rq (bg2 HB.out GE223.out GE224.out))
   rw [if_pos c7] at H
   have c7b0 := decide_eq_true c7
   clear c7
   have H' := am H
   clear H
   go_wp2
   go_loopg [8] k1 (fun kq v8 w' => ∃ (x8_2 : Int) (x225000_2 : Int) (x225001_2 : Int) (x225002_2 : Int) (x225003_2 : Int), v8 = .int .i64 x8_2 ∧ Aside0 (spec_l3Last.l1 kq l0 a1 x7_1 x8_2 x225000_2 x225001_2 x225002_2 x225003_2 = some (r1, r2, r3, r4, r5)) ∧ Aside0 (kq ≤ k1) ∧ Aside0 (w'.heap[gb223]? = some (.cells #[.int .i64 0, .int .i64 0, .int .i64 0, .int .i64 0] 30 (0, 0))) ∧ Aside0 (w'.heap[gb224]? = some (.cells #[.int .i64 x225000_2, .int .i64 x225001_2, .int .i64 x225002_2, .int .i64 x225003_2] 30 (0, 0))) ∧ Aside0 (Below w.heap.size w w'))
   case atStart => exact ⟨(0), (x225000_1), (x225001_1), (x225002_1), (x225003_1), rf, H', ⟨Nat.le_refl _⟩, ⟨pb BK223.out⟩, ⟨pb BK224.out⟩, ⟨bg2 HB.out GE223.out GE224.out⟩⟩
   case round =>
    clear H'
    obtain ⟨x8_2, x225000_2, x225001_2, x225002_2, x225003_2, rfl, HA, HK2, BK223, BK224, HB⟩ := hrel
    cases gk with
    | zero => exact absurd HA.out (by simp [spec_l3Last.l1])
    | succ k2 =>
     have H := HA.out
     clear HA
     simp only [spec_l3Last.l1] at H
     by_cases c8 : 0 ≤ x7_1
     rotate_left
     · rw [if_neg c8] at H
       exact absurd H (by simp)
     rw [if_pos c8] at H
     have c8b0 := decide_eq_true c8
     clear c8
     by_cases c9 : x7_1 < (l0.length : Int)
     rotate_left
     · rw [if_neg c9] at H
       exact absurd H (by simp)
     rw [if_pos c9] at H
     have c9b0 := decide_eq_true c9
     clear c9
     by_cases c10 : x8_2 < (((rd_T65 l0 x7_1).f0).length : Int)
     rotate_left
     · rw [if_neg c10] at H
       have c10b0 := decide_eq_false c10
       clear c10
       have H' := am H
       clear H
       have p225 : 0 ≤ (x7_1 : Int) := ofb
       have q225 : x7_1 < (l0.length : Int) := ofb
       obtain ⟨ad225, A225_0, c225_0, e225, hx225_0, hx225_1, hl225_0, hi225_0⟩ := at_T65 HR0.out x7_1 p225 q225
       cases e225
       replace hx225_0 := up HB.out hx225_0
       replace hx225_1 := up HB.out hx225_1
       have HR225_0 := am hi225_0
       have HC225_0 := am hl225_0
       clear hi225_0 hl225_0
       replace p225 := eq_true p225
       replace q225 := eq_true q225
       go_wp2
       go_roundg k2
       case measure => have := HK1.out; have := HK2.out; omega
       case rel => exact ⟨(wrap64 (x7_1 + 1)), (x225000_2), (x225001_2), (x225002_2), (x225003_2), rf, H', ⟨by have := HK1.out; have := HK2.out; omega⟩, ⟨pb BK223.out⟩, ⟨pb BK224.out⟩, ⟨bg2 HB.out GE223.out GE224.out⟩⟩
     rw [if_pos c10] at H
     have c10b0 := decide_eq_true c10
     clear c10
     by_cases c11 : 0 ≤ x8_2
     rotate_left
     · rw [if_neg c11] at H
       exact absurd H (by simp)
     rw [if_pos c11] at H
     have c11b0 := decide_eq_true c11
     clear c11
     by_cases c12 : ((rd_T71 ((rd_T65 l0 x7_1).f0) x8_2).f0) = 1
     rotate_left
     · rw [if_neg c12] at H
       have c12b0 : (((rd_T71 ((rd_T65 l0 x7_1).f0) x8_2).f0) == 1) = false := beq_eq_false_iff_ne.mpr c12
       have c12b1 : (((rd_T71 ((rd_T65 l0 x7_1).f0) x8_2).f0) != 1) = true := bne_iff_ne.mpr c12
       have H' := am H
       clear H
       have p225 : 0 ≤ (x7_1 : Int) := ofb
       have q225 : x7_1 < (l0.length : Int) := ofb
       obtain ⟨ad225, A225_0, c225_0, e225, hx225_0, hx225_1, hl225_0, hi225_0⟩ := at_T65 HR0.out x7_1 p225 q225
       cases e225
       replace hx225_0 := up HB.out hx225_0
       replace hx225_1 := up HB.out hx225_1
       have HR225_0 := am hi225_0
       have HC225_0 := am hl225_0
       clear hi225_0 hl225_0
       replace p225 := eq_true p225
       replace q225 := eq_true q225
       have p226 : 0 ≤ (x7_1 : Int) := ofb
       have q226 : x7_1 < (l0.length : Int) := ofb
       obtain ⟨ad226, A226_0, c226_0, e226, hx226_0, hx226_1, hl226_0, hi226_0⟩ := at_T65 HR0.out x7_1 p226 q226
       obtain rfl : ad225 = ad226 := (by injection e226)
       replace hx226_0 := up HB.out hx226_0
       replace hx226_1 := up HB.out hx226_1
       have HR226_0 := am hi226_0
       have HC226_0 := am hl226_0
       clear hi226_0 hl226_0
       replace p226 := eq_true p226
       replace q226 := eq_true q226
       have ea_ := Option.some.inj (hx225_0.symm.trans hx226_0)
       injection ea_ with ea_ en_ ec_
       subst ea_
       subst ec_
       clear en_
       have p227 : 0 ≤ (x8_2 : Int) := ofb
       have q227 : x8_2 < (((rd_T65 l0 x7_1).f0).length : Int) := ofb
       obtain ⟨ad227, e227, hx227_0, hx227_1, hx227_2, hx227_3, hx227_4⟩ := at_T71 HR226_0.out x8_2 p227 q227
       cases e227
       replace hx227_0 := up HB.out hx227_0
       replace hx227_1 := up HB.out hx227_1
       replace hx227_2 := up HB.out hx227_2
       replace hx227_3 := up HB.out hx227_3
       replace hx227_4 := up HB.out hx227_4
       replace p227 := eq_true p227
       replace q227 := eq_true q227
       go_wp2_with (first | (refine bx 9 #[.int .i64 0, .int .i64 0, .int .i64 0, .int .i64 0, .int .i64 0] 71 rfl ?_; intro gb228 hg w31 hbox hb; have BK228 := am (hbox); have GW228 := am ((by rw [hg]; exact (below_size (bg2 HB.out GE223.out GE224.out)) : w.heap.size ≤ gb228)); have GE228 := GW228; replace HB := am (below_step (bg2 HB.out GE223.out GE224.out) hb); have NB223_228 := am ((by rw [hg]; exact Nat.ne_of_lt (blk_lt (pb BK223.out)) : gb223 ≠ gb228)); have NB228_223 := am (Ne.symm NB223_228.out); replace BK223 := am (blk_below (pb BK223.out) hb); have NB224_228 := am ((by rw [hg]; exact Nat.ne_of_lt (blk_lt (pb BK224.out)) : gb224 ≠ gb228)); have NB228_224 := am (Ne.symm NB224_228.out); replace BK224 := am (blk_below (pb BK224.out) hb); clear hb hbox hg; have hnb32 := NB228_223.out; have hnc32 := NB223_228.out; have hnb33 := NB228_224.out; have hnc33 := NB224_228.out; obtain ⟨hcz34_0, hcz34_1, hcz34_2, hcz34_3, hcz34_4⟩ := b5 BK228.out; obtain ⟨hfz34_0, hfz34_1, hfz34_2, hfz34_3, hfz34_4⟩ := f5 BK228.out))
       go_roundg k2
       case measure => have := HK1.out; have := HK2.out; omega
       case rel => exact ⟨(wrap64 (x8_2 + 1)), (x225000_2), (x225001_2), (x225002_2), (x225003_2), rf, H', ⟨by have := HK1.out; have := HK2.out; omega⟩, ⟨by (with_reducible repeat (first | refine blk_drewN ?_ _ | refine blk_drew ?_ | refine blk_alloc ?_ _)); refine blk_far ?_ NB223_228.out _; (with_reducible repeat (first | refine blk_drewN ?_ _ | refine blk_drew ?_ | refine blk_alloc ?_ _)); refine blk_far ?_ NB223_228.out _; (with_reducible repeat (first | refine blk_drewN ?_ _ | refine blk_drew ?_ | refine blk_alloc ?_ _)); refine blk_far ?_ NB223_228.out _; (with_reducible repeat (first | refine blk_drewN ?_ _ | refine blk_drew ?_ | refine blk_alloc ?_ _)); refine blk_far ?_ NB223_228.out _; (with_reducible repeat (first | refine blk_drewN ?_ _ | refine blk_drew ?_ | refine blk_alloc ?_ _)); refine blk_far ?_ NB223_228.out _; (with_reducible repeat (first | refine blk_drewN ?_ _ | refine blk_drew ?_ | refine blk_alloc ?_ _)); exact BK223.out⟩, ⟨by (with_reducible repeat (first | refine blk_drewN ?_ _ | refine blk_drew ?_ | refine blk_alloc ?_ _)); refine blk_far ?_ NB224_228.out _; (with_reducible repeat (first | refine blk_drewN ?_ _ | refine blk_drew ?_ | refine blk_alloc ?_ _)); refine blk_far ?_ NB224_228.out _; (with_reducible repeat (first | refine blk_drewN ?_ _ | refine blk_drew ?_ | refine blk_alloc ?_ _)); refine blk_far ?_ NB224_228.out _; (with_reducible repeat (first | refine blk_drewN ?_ _ | refine blk_drew ?_ | refine blk_alloc ?_ _)); refine blk_far ?_ NB224_228.out _; (with_reducible repeat (first | refine blk_drewN ?_ _ | refine blk_drew ?_ | refine blk_alloc ?_ _)); refine blk_far ?_ NB224_228.out _; (with_reducible repeat (first | refine blk_drewN ?_ _ | refine blk_drew ?_ | refine blk_alloc ?_ _)); exact BK224.out⟩, ⟨bg3 HB.out GE223.out GE224.out GE228.out⟩⟩
     rw [if_pos c12] at H
     have c12b0 : (((rd_T71 ((rd_T65 l0 x7_1).f0) x8_2).f0) == 1) = true := beq_iff_eq.mpr c12
     have c12b1 : (((rd_T71 ((rd_T65 l0 x7_1).f0) x8_2).f0) != 1) = false := bne_eq_false_iff_eq.mpr c12
     clear c12
     by_cases c13 : ((rd_T71 ((rd_T65 l0 x7_1).f0) x8_2).f1.f2) = a1
     rotate_left
     · rw [if_neg c13] at H
       have c13b0 : (((rd_T71 ((rd_T65 l0 x7_1).f0) x8_2).f1.f2) == a1) = false := beq_eq_false_iff_ne.mpr c13
       have c13b1 : (((rd_T71 ((rd_T65 l0 x7_1).f0) x8_2).f1.f2) != a1) = true := bne_iff_ne.mpr c13
       have H' := am H
       clear H
       have p225 : 0 ≤ (x7_1 : Int) := ofb
       have q225 : x7_1 < (l0.length : Int) := ofb
       obtain ⟨ad225, A225_0, c225_0, e225, hx225_0, hx225_1, hl225_0, hi225_0⟩ := at_T65 HR0.out x7_1 p225 q225
       cases e225
       replace hx225_0 := up HB.out hx225_0
       replace hx225_1 := up HB.out hx225_1
       have HR225_0 := am hi225_0
       have HC225_0 := am hl225_0
       clear hi225_0 hl225_0
       replace p225 := eq_true p225
       replace q225 := eq_true q225
       have p226 : 0 ≤ (x7_1 : Int) := ofb
       have q226 : x7_1 < (l0.length : Int) := ofb
       obtain ⟨ad226, A226_0, c226_0, e226, hx226_0, hx226_1, hl226_0, hi226_0⟩ := at_T65 HR0.out x7_1 p226 q226
       obtain rfl : ad225 = ad226 := (by injection e226)
       replace hx226_0 := up HB.out hx226_0
       replace hx226_1 := up HB.out hx226_1
       have HR226_0 := am hi226_0
       have HC226_0 := am hl226_0
       clear hi226_0 hl226_0
       replace p226 := eq_true p226
       replace q226 := eq_true q226
       have ea_ := Option.some.inj (hx225_0.symm.trans hx226_0)
       injection ea_ with ea_ en_ ec_
       subst ea_
       subst ec_
       clear en_
       have p227 : 0 ≤ (x8_2 : Int) := ofb
       have q227 : x8_2 < (((rd_T65 l0 x7_1).f0).length : Int) := ofb
       obtain ⟨ad227, e227, hx227_0, hx227_1, hx227_2, hx227_3, hx227_4⟩ := at_T71 HR226_0.out x8_2 p227 q227
       cases e227
       replace hx227_0 := up HB.out hx227_0
       replace hx227_1 := up HB.out hx227_1
       replace hx227_2 := up HB.out hx227_2
       replace hx227_3 := up HB.out hx227_3
       replace hx227_4 := up HB.out hx227_4
       replace p227 := eq_true p227
       replace q227 := eq_true q227
       go_wp2_with (first | (refine bx 9 #[.int .i64 0, .int .i64 0, .int .i64 0, .int .i64 0, .int .i64 0] 71 rfl ?_; intro gb228 hg w27 hbox hb; have BK228 := am (hbox); have GW228 := am ((by rw [hg]; exact (below_size (bg2 HB.out GE223.out GE224.out)) : w.heap.size ≤ gb228)); have GE228 := GW228; replace HB := am (below_step (bg2 HB.out GE223.out GE224.out) hb); have NB223_228 := am ((by rw [hg]; exact Nat.ne_of_lt (blk_lt (pb BK223.out)) : gb223 ≠ gb228)); have NB228_223 := am (Ne.symm NB223_228.out); replace BK223 := am (blk_below (pb BK223.out) hb); have NB224_228 := am ((by rw [hg]; exact Nat.ne_of_lt (blk_lt (pb BK224.out)) : gb224 ≠ gb228)); have NB228_224 := am (Ne.symm NB224_228.out); replace BK224 := am (blk_below (pb BK224.out) hb); clear hb hbox hg; have hnb28 := NB228_223.out; have hnc28 := NB223_228.out; have hnb29 := NB228_224.out; have hnc29 := NB224_228.out; obtain ⟨hcz30_0, hcz30_1, hcz30_2, hcz30_3, hcz30_4⟩ := b5 BK228.out; obtain ⟨hfz30_0, hfz30_1, hfz30_2, hfz30_3, hfz30_4⟩ := f5 BK228.out))
       go_roundg k2
       case measure => have := HK1.out; have := HK2.out; omega
       case rel => exact ⟨(wrap64 (x8_2 + 1)), (x225000_2), (x225001_2), (x225002_2), (x225003_2), rf, H', ⟨by have := HK1.out; have := HK2.out; omega⟩, ⟨by (with_reducible repeat (first | refine blk_drewN ?_ _ | refine blk_drew ?_ | refine blk_alloc ?_ _)); refine blk_far ?_ NB223_228.out _; (with_reducible repeat (first | refine blk_drewN ?_ _ | refine blk_drew ?_ | refine blk_alloc ?_ _)); refine blk_far ?_ NB223_228.out _; (with_reducible repeat (first | refine blk_drewN ?_ _ | refine blk_drew ?_ | refine blk_alloc ?_ _)); refine blk_far ?_ NB223_228.out _; (with_reducible repeat (first | refine blk_drewN ?_ _ | refine blk_drew ?_ | refine blk_alloc ?_ _)); refine blk_far ?_ NB223_228.out _; (with_reducible repeat (first | refine blk_drewN ?_ _ | refine blk_drew ?_ | refine blk_alloc ?_ _)); refine blk_far ?_ NB223_228.out _; (with_reducible repeat (first | refine blk_drewN ?_ _ | refine blk_drew ?_ | refine blk_alloc ?_ _)); exact BK223.out⟩, ⟨by (with_reducible repeat (first | refine blk_drewN ?_ _ | refine blk_drew ?_ | refine blk_alloc ?_ _)); refine blk_far ?_ NB224_228.out _; (with_reducible repeat (first | refine blk_drewN ?_ _ | refine blk_drew ?_ | refine blk_alloc ?_ _)); refine blk_far ?_ NB224_228.out _; (with_reducible repeat (first | refine blk_drewN ?_ _ | refine blk_drew ?_ | refine blk_alloc ?_ _)); refine blk_far ?_ NB224_228.out _; (with_reducible repeat (first | refine blk_drewN ?_ _ | refine blk_drew ?_ | refine blk_alloc ?_ _)); refine blk_far ?_ NB224_228.out _; (with_reducible repeat (first | refine blk_drewN ?_ _ | refine blk_drew ?_ | refine blk_alloc ?_ _)); refine blk_far ?_ NB224_228.out _; (with_reducible repeat (first | refine blk_drewN ?_ _ | refine blk_drew ?_ | refine blk_alloc ?_ _)); exact BK224.out⟩, ⟨bg3 HB.out GE223.out GE224.out GE228.out⟩⟩
     rw [if_pos c13] at H
     have c13b0 : (((rd_T71 ((rd_T65 l0 x7_1).f0) x8_2).f1.f2) == a1) = true := beq_iff_eq.mpr c13
     have c13b1 : (((rd_T71 ((rd_T65 l0 x7_1).f0) x8_2).f1.f2) != a1) = false := bne_eq_false_iff_eq.mpr c13
     clear c13
     by_cases c14 : ((rd_T71 ((rd_T65 l0 x7_1).f0) x8_2).f1.f1) > x225001_2
     rotate_left
     · rw [if_neg c14] at H
       have c14b0 := decide_eq_false c14
       clear c14
       have H' := am H
       clear H
       have p225 : 0 ≤ (x7_1 : Int) := ofb
       have q225 : x7_1 < (l0.length : Int) := ofb
       obtain ⟨ad225, A225_0, c225_0, e225, hx225_0, hx225_1, hl225_0, hi225_0⟩ := at_T65 HR0.out x7_1 p225 q225
       cases e225
       replace hx225_0 := up HB.out hx225_0
       replace hx225_1 := up HB.out hx225_1
       have HR225_0 := am hi225_0
       have HC225_0 := am hl225_0
       clear hi225_0 hl225_0
       replace p225 := eq_true p225
       replace q225 := eq_true q225
       have p226 : 0 ≤ (x7_1 : Int) := ofb
       have q226 : x7_1 < (l0.length : Int) := ofb
       obtain ⟨ad226, A226_0, c226_0, e226, hx226_0, hx226_1, hl226_0, hi226_0⟩ := at_T65 HR0.out x7_1 p226 q226
       obtain rfl : ad225 = ad226 := (by injection e226)
       replace hx226_0 := up HB.out hx226_0
       replace hx226_1 := up HB.out hx226_1
       have HR226_0 := am hi226_0
       have HC226_0 := am hl226_0
       clear hi226_0 hl226_0
       replace p226 := eq_true p226
       replace q226 := eq_true q226
       have ea_ := Option.some.inj (hx225_0.symm.trans hx226_0)
       injection ea_ with ea_ en_ ec_
       subst ea_
       subst ec_
       clear en_
       have p227 : 0 ≤ (x8_2 : Int) := ofb
       have q227 : x8_2 < (((rd_T65 l0 x7_1).f0).length : Int) := ofb
       obtain ⟨ad227, e227, hx227_0, hx227_1, hx227_2, hx227_3, hx227_4⟩ := at_T71 HR226_0.out x8_2 p227 q227
       cases e227
       replace hx227_0 := up HB.out hx227_0
       replace hx227_1 := up HB.out hx227_1
       replace hx227_2 := up HB.out hx227_2
       replace hx227_3 := up HB.out hx227_3
       replace hx227_4 := up HB.out hx227_4
       replace p227 := eq_true p227
       replace q227 := eq_true q227
       go_wp2_with (first | (refine bx 9 #[.int .i64 0, .int .i64 0, .int .i64 0, .int .i64 0, .int .i64 0] 71 rfl ?_; intro gb228 hg w21 hbox hb; have BK228 := am (hbox); have GW228 := am ((by rw [hg]; exact (below_size (bg2 HB.out GE223.out GE224.out)) : w.heap.size ≤ gb228)); have GE228 := GW228; replace HB := am (below_step (bg2 HB.out GE223.out GE224.out) hb); have NB223_228 := am ((by rw [hg]; exact Nat.ne_of_lt (blk_lt (pb BK223.out)) : gb223 ≠ gb228)); have NB228_223 := am (Ne.symm NB223_228.out); replace BK223 := am (blk_below (pb BK223.out) hb); have NB224_228 := am ((by rw [hg]; exact Nat.ne_of_lt (blk_lt (pb BK224.out)) : gb224 ≠ gb228)); have NB228_224 := am (Ne.symm NB224_228.out); replace BK224 := am (blk_below (pb BK224.out) hb); clear hb hbox hg; have hnb22 := NB228_223.out; have hnc22 := NB223_228.out; have hnb23 := NB228_224.out; have hnc23 := NB224_228.out; obtain ⟨hcz24_0, hcz24_1, hcz24_2, hcz24_3, hcz24_4⟩ := b5 BK228.out; obtain ⟨hfz24_0, hfz24_1, hfz24_2, hfz24_3, hfz24_4⟩ := f5 BK228.out; have hnb25 := NB224_223.out; have hnc25 := NB223_224.out; obtain ⟨hcz26_0, hcz26_1, hcz26_2, hcz26_3⟩ := b4 BK224.out; obtain ⟨hfz26_0, hfz26_1, hfz26_2, hfz26_3⟩ := f4 BK224.out))
       go_roundg k2
       case measure => have := HK1.out; have := HK2.out; omega
       case rel => exact ⟨(wrap64 (x8_2 + 1)), (x225000_2), (x225001_2), (x225002_2), (x225003_2), rf, H', ⟨by have := HK1.out; have := HK2.out; omega⟩, ⟨by (with_reducible repeat (first | refine blk_drewN ?_ _ | refine blk_drew ?_ | refine blk_alloc ?_ _)); refine blk_far ?_ NB223_228.out _; (with_reducible repeat (first | refine blk_drewN ?_ _ | refine blk_drew ?_ | refine blk_alloc ?_ _)); refine blk_far ?_ NB223_228.out _; (with_reducible repeat (first | refine blk_drewN ?_ _ | refine blk_drew ?_ | refine blk_alloc ?_ _)); refine blk_far ?_ NB223_228.out _; (with_reducible repeat (first | refine blk_drewN ?_ _ | refine blk_drew ?_ | refine blk_alloc ?_ _)); refine blk_far ?_ NB223_228.out _; (with_reducible repeat (first | refine blk_drewN ?_ _ | refine blk_drew ?_ | refine blk_alloc ?_ _)); refine blk_far ?_ NB223_228.out _; (with_reducible repeat (first | refine blk_drewN ?_ _ | refine blk_drew ?_ | refine blk_alloc ?_ _)); exact BK223.out⟩, ⟨by (with_reducible repeat (first | refine blk_drewN ?_ _ | refine blk_drew ?_ | refine blk_alloc ?_ _)); refine blk_far ?_ NB224_228.out _; (with_reducible repeat (first | refine blk_drewN ?_ _ | refine blk_drew ?_ | refine blk_alloc ?_ _)); refine blk_far ?_ NB224_228.out _; (with_reducible repeat (first | refine blk_drewN ?_ _ | refine blk_drew ?_ | refine blk_alloc ?_ _)); refine blk_far ?_ NB224_228.out _; (with_reducible repeat (first | refine blk_drewN ?_ _ | refine blk_drew ?_ | refine blk_alloc ?_ _)); refine blk_far ?_ NB224_228.out _; (with_reducible repeat (first | refine blk_drewN ?_ _ | refine blk_drew ?_ | refine blk_alloc ?_ _)); refine blk_far ?_ NB224_228.out _; (with_reducible repeat (first | refine blk_drewN ?_ _ | refine blk_drew ?_ | refine blk_alloc ?_ _)); exact BK224.out⟩, ⟨bg3 HB.out GE223.out GE224.out GE228.out⟩⟩
     rw [if_pos c14] at H
     have c14b0 := decide_eq_true c14
     clear c14
     have H' := am H
     clear H
     have p225 : 0 ≤ (x7_1 : Int) := ofb
     have q225 : x7_1 < (l0.length : Int) := ofb
     obtain ⟨ad225, A225_0, c225_0, e225, hx225_0, hx225_1, hl225_0, hi225_0⟩ := at_T65 HR0.out x7_1 p225 q225
     cases e225
     replace hx225_0 := up HB.out hx225_0
     replace hx225_1 := up HB.out hx225_1
     have HR225_0 := am hi225_0
     have HC225_0 := am hl225_0
     clear hi225_0 hl225_0
     replace p225 := eq_true p225
     replace q225 := eq_true q225
     have p226 : 0 ≤ (x7_1 : Int) := ofb
     have q226 : x7_1 < (l0.length : Int) := ofb
     obtain ⟨ad226, A226_0, c226_0, e226, hx226_0, hx226_1, hl226_0, hi226_0⟩ := at_T65 HR0.out x7_1 p226 q226
     obtain rfl : ad225 = ad226 := (by injection e226)
     replace hx226_0 := up HB.out hx226_0
     replace hx226_1 := up HB.out hx226_1
     have HR226_0 := am hi226_0
     have HC226_0 := am hl226_0
     clear hi226_0 hl226_0
     replace p226 := eq_true p226
     replace q226 := eq_true q226
     have ea_ := Option.some.inj (hx225_0.symm.trans hx226_0)
     injection ea_ with ea_ en_ ec_
     subst ea_
     subst ec_
     clear en_
     have p227 : 0 ≤ (x8_2 : Int) := ofb
     have q227 : x8_2 < (((rd_T65 l0 x7_1).f0).length : Int) := ofb
     obtain ⟨ad227, e227, hx227_0, hx227_1, hx227_2, hx227_3, hx227_4⟩ := at_T71 HR226_0.out x8_2 p227 q227
     cases e227
     replace hx227_0 := up HB.out hx227_0
     replace hx227_1 := up HB.out hx227_1
     replace hx227_2 := up HB.out hx227_2
     replace hx227_3 := up HB.out hx227_3
     replace hx227_4 := up HB.out hx227_4
     replace p227 := eq_true p227
     replace q227 := eq_true q227
     go_wp2_with (first | (refine bx 9 #[.int .i64 0, .int .i64 0, .int .i64 0, .int .i64 0, .int .i64 0] 71 rfl ?_; intro gb228 hg w15 hbox hb; have BK228 := am (hbox); have GW228 := am ((by rw [hg]; exact (below_size (bg2 HB.out GE223.out GE224.out)) : w.heap.size ≤ gb228)); have GE228 := GW228; replace HB := am (below_step (bg2 HB.out GE223.out GE224.out) hb); have NB223_228 := am ((by rw [hg]; exact Nat.ne_of_lt (blk_lt (pb BK223.out)) : gb223 ≠ gb228)); have NB228_223 := am (Ne.symm NB223_228.out); replace BK223 := am (blk_below (pb BK223.out) hb); have NB224_228 := am ((by rw [hg]; exact Nat.ne_of_lt (blk_lt (pb BK224.out)) : gb224 ≠ gb228)); have NB228_224 := am (Ne.symm NB224_228.out); replace BK224 := am (blk_below (pb BK224.out) hb); clear hb hbox hg; have hnb16 := NB228_223.out; have hnc16 := NB223_228.out; have hnb17 := NB228_224.out; have hnc17 := NB224_228.out; obtain ⟨hcz18_0, hcz18_1, hcz18_2, hcz18_3, hcz18_4⟩ := b5 BK228.out; obtain ⟨hfz18_0, hfz18_1, hfz18_2, hfz18_3, hfz18_4⟩ := f5 BK228.out; have hnb19 := NB224_223.out; have hnc19 := NB223_224.out; obtain ⟨hcz20_0, hcz20_1, hcz20_2, hcz20_3⟩ := b4 BK224.out; obtain ⟨hfz20_0, hfz20_1, hfz20_2, hfz20_3⟩ := f4 BK224.out))
     go_roundg k2
     case measure => have := HK1.out; have := HK2.out; omega
     case rel => exact ⟨(wrap64 (x8_2 + 1)), ((rd_T71 ((rd_T65 l0 x7_1).f0) x8_2).f1.f0), ((rd_T71 ((rd_T65 l0 x7_1).f0) x8_2).f1.f1), ((rd_T71 ((rd_T65 l0 x7_1).f0) x8_2).f1.f2), ((rd_T71 ((rd_T65 l0 x7_1).f0) x8_2).f1.f3), rf, H', ⟨by have := HK1.out; have := HK2.out; omega⟩, ⟨by (with_reducible repeat (first | refine blk_drewN ?_ _ | refine blk_drew ?_ | refine blk_alloc ?_ _)); refine blk_far ?_ NB223_224.out _; (with_reducible repeat (first | refine blk_drewN ?_ _ | refine blk_drew ?_ | refine blk_alloc ?_ _)); refine blk_far ?_ NB223_224.out _; (with_reducible repeat (first | refine blk_drewN ?_ _ | refine blk_drew ?_ | refine blk_alloc ?_ _)); refine blk_far ?_ NB223_224.out _; (with_reducible repeat (first | refine blk_drewN ?_ _ | refine blk_drew ?_ | refine blk_alloc ?_ _)); refine blk_far ?_ NB223_224.out _; (with_reducible repeat (first | refine blk_drewN ?_ _ | refine blk_drew ?_ | refine blk_alloc ?_ _)); refine blk_far ?_ NB223_228.out _; (with_reducible repeat (first | refine blk_drewN ?_ _ | refine blk_drew ?_ | refine blk_alloc ?_ _)); refine blk_far ?_ NB223_228.out _; (with_reducible repeat (first | refine blk_drewN ?_ _ | refine blk_drew ?_ | refine blk_alloc ?_ _)); refine blk_far ?_ NB223_228.out _; (with_reducible repeat (first | refine blk_drewN ?_ _ | refine blk_drew ?_ | refine blk_alloc ?_ _)); refine blk_far ?_ NB223_228.out _; (with_reducible repeat (first | refine blk_drewN ?_ _ | refine blk_drew ?_ | refine blk_alloc ?_ _)); refine blk_far ?_ NB223_228.out _; (with_reducible repeat (first | refine blk_drewN ?_ _ | refine blk_drew ?_ | refine blk_alloc ?_ _)); exact BK223.out⟩, ⟨by (with_reducible repeat (first | refine blk_drewN ?_ _ | refine blk_drew ?_ | refine blk_alloc ?_ _)); refine blk_put (cs := #[.int .i64 ((rd_T71 ((rd_T65 l0 x7_1).f0) x8_2).f1.f0), .int .i64 ((rd_T71 ((rd_T65 l0 x7_1).f0) x8_2).f1.f1), .int .i64 ((rd_T71 ((rd_T65 l0 x7_1).f0) x8_2).f1.f2), .int .i64 x225003_2]) ?_ 3 _ rfl; (with_reducible repeat (first | refine blk_drewN ?_ _ | refine blk_drew ?_ | refine blk_alloc ?_ _)); refine blk_put (cs := #[.int .i64 ((rd_T71 ((rd_T65 l0 x7_1).f0) x8_2).f1.f0), .int .i64 ((rd_T71 ((rd_T65 l0 x7_1).f0) x8_2).f1.f1), .int .i64 x225002_2, .int .i64 x225003_2]) ?_ 2 _ rfl; (with_reducible repeat (first | refine blk_drewN ?_ _ | refine blk_drew ?_ | refine blk_alloc ?_ _)); refine blk_put (cs := #[.int .i64 ((rd_T71 ((rd_T65 l0 x7_1).f0) x8_2).f1.f0), .int .i64 x225001_2, .int .i64 x225002_2, .int .i64 x225003_2]) ?_ 1 _ rfl; (with_reducible repeat (first | refine blk_drewN ?_ _ | refine blk_drew ?_ | refine blk_alloc ?_ _)); refine blk_put (cs := #[.int .i64 x225000_2, .int .i64 x225001_2, .int .i64 x225002_2, .int .i64 x225003_2]) ?_ 0 _ rfl; (with_reducible repeat (first | refine blk_drewN ?_ _ | refine blk_drew ?_ | refine blk_alloc ?_ _)); refine blk_far ?_ NB224_228.out _; (with_reducible repeat (first | refine blk_drewN ?_ _ | refine blk_drew ?_ | refine blk_alloc ?_ _)); refine blk_far ?_ NB224_228.out _; (with_reducible repeat (first | refine blk_drewN ?_ _ | refine blk_drew ?_ | refine blk_alloc ?_ _)); refine blk_far ?_ NB224_228.out _; (with_reducible repeat (first | refine blk_drewN ?_ _ | refine blk_drew ?_ | refine blk_alloc ?_ _)); refine blk_far ?_ NB224_228.out _; (with_reducible repeat (first | refine blk_drewN ?_ _ | refine blk_drew ?_ | refine blk_alloc ?_ _)); refine blk_far ?_ NB224_228.out _; (with_reducible repeat (first | refine blk_drewN ?_ _ | refine blk_drew ?_ | refine blk_alloc ?_ _)); exact BK224.out⟩, ⟨bg3 HB.out GE223.out GE224.out GE228.out⟩⟩
attribute [local go_sem] Oper.semAt_some
mutual
def spec_StoreOk.j0 : Nat → Bool → List (S65) → List Int → Option (Bool)
 | 0, _, _, _ => none
 | k + 1, x15, x230000, x230001 => if x15 = true then (some false) else (spec_StoreOk.l0 k 0 x230000 x230001)
def spec_StoreOk.l0 : Nat → Int → List (S65) → List Int → Option (Bool)
 | 0, _, _, _ => none
 | k + 1, x3, x230000, x230001 => if x3 < 6 then ((spec_l3Last.f k x230000 (wrap64 (x3 + 1))).bind fun bt231 => (if 0 ≤ x3 then (if x3 < (x230001.length : Int) then ((spec_l6In.f (rd x230001 x3) 0 9).bind fun t238 => (if t238 = true then (if bt231.2.2.2.2 = true then (if bt231.1 = 2 then (if bt231.2.2.2.1 = (rd x230001 x3) then (spec_StoreOk.l0 k (wrap64 (x3 + 1)) x230000 x230001) else (some false)) else (spec_StoreOk.l0 k (wrap64 (x3 + 1)) x230000 x230001)) else (spec_StoreOk.l0 k (wrap64 (x3 + 1)) x230000 x230001)) else (some false))) else (none)) else (none))) else (some true)
end
def spec_StoreOk.f (k : Nat) (l0_0 : List (S65)) (l0_1 : List Int) : Option (Bool) := (spec_FindOrder.f l0_0).bind fun t230 => (if t230 = true then (spec_StoreOk.j0 k ((l0_1.length : Int) != 6) l0_0 l0_1) else (spec_StoreOk.j0 k true l0_0 l0_1))
theorem spec_StoreOk.mono_l : ∀ k, (∀ y0 y1 y2, LeO (spec_StoreOk.j0 k y0 y1 y2) (spec_StoreOk.j0 (k + 1) y0 y1 y2)) ∧ (∀ y0 y1 y2, LeO (spec_StoreOk.l0 k y0 y1 y2) (spec_StoreOk.l0 (k + 1) y0 y1 y2))
 | 0 => ⟨fun _ _ _ r h => by simp [spec_StoreOk.j0] at h, fun _ _ _ r h => by simp [spec_StoreOk.l0] at h⟩
 | k + 1 => by
  obtain ⟨ih0, ih1⟩ := spec_StoreOk.mono_l k
  refine ⟨?_, ?_⟩
  · intro y0 y1 y2
    unfold spec_StoreOk.j0
    repeat' first
    | (with_reducible exact ih0 _ _ _)
    | (with_reducible exact ih1 _ _ _)
    | (with_reducible exact spec_l3Last.mono _ _ _)
    | (with_reducible exact LeO.refl _)
    | (with_reducible exact LeO.none _)
    | (with_reducible refine LeO.ite ?_ ?_)
    | (with_reducible refine LeO.bind ?_ (fun _ => ?_))
    | exact ih0 _ _ _
    | exact ih1 _ _ _
    | exact spec_l3Last.mono _ _ _
    | exact LeO.none _
    | refine LeO.ite ?_ ?_
    | refine LeO.bind ?_ (fun _ => ?_)
  · intro y0 y1 y2
    unfold spec_StoreOk.l0
    repeat' first
    | (with_reducible exact ih0 _ _ _)
    | (with_reducible exact ih1 _ _ _)
    | (with_reducible exact spec_l3Last.mono _ _ _)
    | (with_reducible exact LeO.refl _)
    | (with_reducible exact LeO.none _)
    | (with_reducible refine LeO.ite ?_ ?_)
    | (with_reducible refine LeO.bind ?_ (fun _ => ?_))
    | exact ih0 _ _ _
    | exact ih1 _ _ _
    | exact spec_l3Last.mono _ _ _
    | exact LeO.none _
    | refine LeO.ite ?_ ?_
    | refine LeO.bind ?_ (fun _ => ?_)
theorem spec_StoreOk.mono : ∀ a0 a1 k, LeO (spec_StoreOk.f k a0 a1) (spec_StoreOk.f (k + 1) a0 a1) := by
 intro a0 a1 k
 obtain ⟨ih0, ih1⟩ := spec_StoreOk.mono_l k
 unfold spec_StoreOk.f
 repeat' first
  | (with_reducible exact ih0 _ _ _)
  | (with_reducible exact ih1 _ _ _)
  | (with_reducible exact spec_l3Last.mono _ _ _)
  | (with_reducible exact LeO.refl _)
  | (with_reducible exact LeO.none _)
  | (with_reducible refine LeO.ite ?_ ?_)
  | (with_reducible refine LeO.bind ?_ (fun _ => ?_))
  | exact ih0 _ _ _
  | exact ih1 _ _ _
  | exact spec_l3Last.mono _ _ _
  | exact LeO.none _
  | refine LeO.ite ?_ ?_
  | refine LeO.bind ?_ (fun _ => ?_)
def StS (w : World) (g : Nat) (A0 : Option Addr) (n0 c0 : Nat) (A1 : Option Addr) (c1 : Nat) (ad : Addr) (d : Int) (b : Nat) (q1 q2 q3 q4 : Int) (W : World) : Prop :=
 W.cell? ⟨b, 1, none⟩ = some (.slice A1 6 c1) ∧ W.cell? ⟨g, 0, none⟩ = some (.int .i64 q1) ∧ W.cell? ⟨g, 3, none⟩ = some (.int .i64 q4) ∧ W.cell? ad = some (.int .i64 d) ∧
 W.heap[b]? = some (.cells #[.slice A0 n0 c0, .slice A1 6 c1] 41 (0, 0)) ∧ W.heap[g]? = some (.cells #[.int .i64 q1, .int .i64 q2, .int .i64 q3, .int .i64 q4] 30 (0, 0)) ∧ Below w.heap.size w W
section
variable {w : World} {g : Nat} {A0 : Option Addr} {n0 c0 : Nat} {A1 : Option Addr} {c1 : Nat} {ad : Addr} {d : Int} {b : Nat} {q1 q2 q3 q4 : Int} {W W' : World}
theorem stStep (h : StS w g A0 n0 c0 A1 c1 ad d b q1 q2 q3 q4 W) (hb : Below W.heap.size W W') : StS w g A0 n0 c0 A1 c1 ad d b q1 q2 q3 q4 W' := by
 obtain ⟨_, _, _, h4, h5, h6, h7⟩ := h
 have h5 := blk_below h5 hb
 have h6 := blk_below h6 hb
 exact ⟨(blk_cell h5 1).trans rfl, (blk_cell h6 0).trans rfl, (blk_cell h6 3).trans rfl, up hb h4, h5, h6, below_then h7 h7.size hb⟩
theorem stC (h : StS w g A0 n0 c0 A1 c1 ad d b q1 q2 q3 q4 W) : W.cell? ⟨b, 1, none⟩ = some (.slice A1 6 c1) ∧ W.cell? ad = some (.int .i64 d) := ⟨h.1, h.2.2.2.1⟩
theorem stG (h : StS w g A0 n0 c0 A1 c1 ad d b q1 q2 q3 q4 W) : W.cell? ⟨g, 0, none⟩ = some (.int .i64 q1) ∧ W.cell? ⟨g, 3, none⟩ = some (.int .i64 q4) := ⟨h.2.1, h.2.2.1⟩
theorem stDrew (h : StS w g A0 n0 c0 A1 c1 ad d b q1 q2 q3 q4 W) : StS w g A0 n0 c0 A1 c1 ad d b q1 q2 q3 q4 W.drew := stStep h (below_drew (Below.refl _ _))
end
set_option maxRecDepth 100000 in
set_option maxHeartbeats 8000000 in
theorem spec_StoreOk.calls (k : Nat) (A0_0 : Option Addr) (c0_0 : Nat) (l0_0 : List (S65)) (A0_1 : Option Addr) (c0_1 : Nat) (l0_1 : List Int) (r : Bool) (w : World) (hr0_0 : Kd.C k65 w A0_0 l0_0.length l0_0) (hc0_0 : l0_0.length ≤ c0_0) (hr0_1 : Kd.C (Kd.int .i64) w A0_1 l0_1.length l0_1) (hc0_1 : l0_1.length ≤ c0_1) (h : spec_StoreOk.f k l0_0 l0_1 = some r) :
 Calls Try.prog 54 #[.agg #[.slice A0_0 l0_0.length c0_0, .slice A0_1 l0_1.length c0_1]] w fun e w' => e = .returned (.bool r) ∧ Below w.heap.size w w' := by
 refine (callsIn_wide (n := 3)).1 ?_
 have hu := Try.underlying41
 have hu2 := Try.underlying30
 have hbox := blk_new w (.cells #[.slice A0_0 l0_0.length c0_0, .slice A0_1 l0_1.length c0_1] 41)
 have hB1 := below_alloc (Below.refl _ w) (.cells #[.slice A0_0 l0_0.length c0_0, .slice A0_1 l0_1.length c0_1] 41)
 unfold spec_StoreOk.f at h
 obtain ⟨t, ht, h⟩ := Option.bind_eq_some_iff.1 h
 have hor := callsIn_wide (n := 2).2 (spec_FindOrder.calls A0_0 c0_0 l0_0 t _ (Kd.C_below hr0_0 hB1) hc0_0 ht)
 cases k with
 | zero => cases t <;> simp [spec_StoreOk.j0] at h
 | succ k =>
 cases t with
 | false =>
  rw [if_neg (by simp), spec_StoreOk.j0, if_pos rfl] at h
  obtain rfl := Option.some.inj h
  clear h ht
  refine callsIn_of_wp Try.func54 rfl trivial ?_ rfl
  simp only [Try.ntmps54, List.size_toArray, List.length_cons, List.length_nil, Nat.reduceAdd, Nat.reduceSub, Array.replicate_succ, Array.replicate_zero, List.push_toArray, List.append_toArray, List.nil_append, List.cons_append]
  gi_wp2_with (first | (refine ⟨trivial, ?_⟩; gi_at_call 80; refine hor.mono ?_; rintro e w1 ⟨rfl, hb⟩; have hB2 := below_then hB1 hB1.size hb))
  go_ret
  exact ⟨rfl, hB2⟩
 | true =>
 rw [if_pos rfl, spec_StoreOk.j0] at h
 by_cases c6 : (l0_1.length : Int) = 6
 rotate_left
 · have c6b : ((l0_1.length : Int) != 6) = true := by simp [c6]
   rw [c6b, if_pos rfl] at h
   obtain rfl := Option.some.inj h
   clear h ht c6
   refine callsIn_of_wp Try.func54 rfl trivial ?_ rfl
   simp only [Try.ntmps54, List.size_toArray, List.length_cons, List.length_nil, Nat.reduceAdd, Nat.reduceSub, Array.replicate_succ, Array.replicate_zero, List.push_toArray, List.append_toArray, List.nil_append, List.cons_append]
   gi_wp2_with (first | (refine ⟨trivial, ?_⟩; gi_at_call 80; refine hor.mono ?_; rintro e w1 ⟨rfl, hb⟩; have hbx := blk_below hbox hb; have hB2 := below_then hB1 hB1.size hb; have hq1 : w1.cell? ⟨w.heap.size, 1, none⟩ = some (.slice A0_1 l0_1.length c0_1) := (blk_cell hbx 1).trans rfl))
   go_ret
   exact ⟨rfl, hB2⟩
 · have c6b : ((l0_1.length : Int) != 6) = false := by simp [c6]
   rw [c6b, if_neg (by simp)] at h
   have H := am h
   have hl : l0_1.length = 6 := by omega
   clear h ht c6 c6b
   rw [hl] at hbox hB1 hor ⊢
   have hl3 : ∀ (W : World) (kk : Nat) (a q1 q2 q3 q4 : Int) (q5 : Bool), Below w.heap.size w W → spec_l3Last.f kk l0_0 a = some (q1, q2, q3, q4, q5) → CallsIn Fence.wide 2 Try.prog 81 #[.slice A0_0 l0_0.length c0_0, .int .i64 a] W fun e w' => e = .returned (.tuple #[.agg #[.int .i64 q1, .int .i64 q2, .int .i64 q3, .int .i64 q4], .bool q5]) ∧ Below W.heap.size W w' := fun W kk a q1 q2 q3 q4 q5 hb hq => callsIn_wide.2 (spec_l3Last.calls kk A0_0 c0_0 l0_0 a q1 q2 q3 q4 q5 W (Kd.C_below hr0_0 hb) hc0_0 hq)
   refine callsIn_of_wp Try.func54 rfl trivial ?_ rfl
   simp only [Try.ntmps54, List.size_toArray, List.length_cons, List.length_nil, Nat.reduceAdd, Nat.reduceSub, Array.replicate_succ, Array.replicate_zero, List.push_toArray, List.append_toArray, List.nil_append, List.cons_append]
   gi_wp2_with (first | (refine ⟨trivial, ?_⟩; gi_at_call 80; refine hor.mono ?_; rintro e w1 ⟨rfl, hb⟩; have hbx := blk_below hbox hb; have hB2 := below_then hB1 hB1.size hb; have hq1 : w1.cell? ⟨w.heap.size, 1, none⟩ = some (.slice A0_1 6 c0_1) := (blk_cell hbx 1).trans rfl))
   clear hor hq1 hbox hB1 hb
   gi_loopw [3] (fun v3 wr => ∃ (i kq : Nat), v3 = .int .i64 (i : Int) ∧ i ≤ 6 ∧ Aside0 (spec_StoreOk.l0 kq (i : Int) l0_0 l0_1 = some r) ∧ Aside0 (wr.heap[w.heap.size]? = some (.cells #[.slice A0_0 l0_0.length c0_0, .slice A0_1 6 c0_1] 41 (0, 0))) ∧ Aside0 (Below w.heap.size w wr)) (fun v3 _ => 6 - (intOf v3).toNat)
   case atStart => exact ⟨0, k, rfl, by omega, H, ⟨hbx⟩, ⟨hB2⟩⟩
   case round =>
    clear H hbx hB2
    obtain ⟨i, kq, rfl, hi, HA, hX, hB⟩ := hrel
    cases kq with
    | zero => exact absurd HA.out (by simp [spec_StoreOk.l0])
    | succ k1 =>
    have h := HA.out
    clear HA
    rw [spec_StoreOk.l0] at h
    by_cases ci : i < 6
    rotate_left
    · obtain rfl : i = 6 := by omega
      rw [if_neg (by omega)] at h
      obtain rfl := Option.some.inj h
      clear h
      gi_wp2
      go_ret
      exact ⟨rfl, hB.out⟩
    · have cib : decide ((i : Int) < 6) = true := decide_eq_true (by omega)
      have p1 : 0 ≤ (i : Int) := by omega
      have q1_ : (i : Int) < 6 := by omega
      rw [if_pos (by omega), IntWalk.wrap64_in _ (by omega)] at h
      obtain ⟨⟨q1, q2, q3, q4, q5⟩, hq, h⟩ := Option.bind_eq_some_iff.1 h
      dsimp only at h
      rw [if_pos (by omega), if_pos (by omega)] at h
      obtain ⟨b6, hb6, h⟩ := Option.bind_eq_some_iff.1 h
      obtain ⟨ad1, e1, hx1⟩ := Kd.at_int hr0_1 (i : Int) p1 (by omega)
      cases e1
      simp only [Int.toNat_natCast] at hx1
      generalize rd l0_1 (i : Int) = d at hx1 h hb6
      have HX1 := am hx1
      have h6 : ∀ W, Calls Try.prog 39 #[.int .i64 d, .int .i64 0, .int .i64 9] W fun e w' => e = .returned (.bool b6) ∧ Below W.heap.size W w' := fun W => (spec_l6In.calls d 0 9 b6 W hb6).mono fun e w' h => ⟨h.1, h.2.below⟩
      have hc3 := fun W hb => hl3 W k1 _ q1 q2 q3 q4 q5 hb hq
      have HC3 := am hc3
      have HN := fun (hn : spec_StoreOk.l0 k1 ((i : Int) + 1) l0_0 l0_1 = some r) => (show spec_StoreOk.l0 k1 ((i + 1 : Nat) : Int) l0_0 l0_1 = some r from by rw [show ((i + 1 : Nat) : Int) = (i : Int) + 1 by omega]; exact hn)
      have H := am h
      have HNN := am HN
      have hcx0 : wr.cell? ⟨w.heap.size, 0, none⟩ = some (.slice A0_0 l0_0.length c0_0) := (blk_cell hX.out 0).trans rfl
      clear h hq hb6 hx1 hc3 HN hl3
      gi_wp2_with (first | (refine ⟨trivial, ?_⟩; gi_at_call 81; refine (HC3.out _ hB.out).mono ?_; rintro e w4 ⟨rfl, hb⟩; have hX4 := am (blk_below hX.out hb); have hB4 := am (below_then hB.out hB.out.size hb); have HX4 := am (up hB4.out HX1.out); clear hb hcx0))
      have hg : (w4.alloc (.cells #[.int .i64 q1, .int .i64 q2, .int .i64 q3, .int .i64 q4] 30)).heap[w4.heap.size]? = some (.cells #[.int .i64 q1, .int .i64 q2, .int .i64 q3, .int .i64 q4] 30 (0, 0)) := blk_new w4 _
      have hX5 := blk_alloc hX4.out (.cells #[.int .i64 q1, .int .i64 q2, .int .i64 q3, .int .i64 q4] 30)
      have hSt : StS w w4.heap.size A0_0 l0_0.length c0_0 (some ad1) c0_1 (ad1.add i) d w.heap.size q1 q2 q3 q4 (w4.alloc (.cells #[.int .i64 q1, .int .i64 q2, .int .i64 q3, .int .i64 q4] 30)) := ⟨(blk_cell hX5 1).trans rfl, (blk_cell hg 0).trans rfl, (blk_cell hg 3).trans rfl, up (below_alloc (Below.refl _ _) _) HX4.out, hX5, hg, below_alloc hB4.out _⟩
      have h := H.out
      clear H hX hB HC3 HX1 hg hX5 hX4 hB4 HX4
      cases b6 with
      | false =>
       rw [if_neg (by simp)] at h
       obtain rfl := Option.some.inj h
       clear h HNN
       refine wpIn_wide.2 ?_
       refine start_ (n := 25) (S := StS w w4.heap.size A0_0 l0_0.length c0_0 (some ad1) c0_1 (ad1.add i) d w.heap.size q1 q2 q3 q4) (ds := []) (bt_ 25 0) (by kernel_rfl) rfl rfl (stDrew hSt) ?_
       intro hSt
       refine pi_ 0 28 (bt_ 25 1) rfl rfl (fun _ _ _ h => h) ?_
       refine pl_ 1 29 (bt_ 25 3) rfl rfl (fun _ _ _ h => h) hSt (fun _ h => stC h) ?_
       refine pi_ 2 30 (bt_ 25 7) rfl rfl (fun _ _ _ h => h) ?_
       refine pi_ 3 31 (bt_ 25 15) rfl rfl (fun _ _ _ h => h) ?_
       refine pl_ 4 32 (bt_ 25 31) rfl rfl (fun _ _ _ h => h) hSt (fun _ h => stC h) ?_
       refine pk_ 5 33 (bt_ 25 63) rfl rfl Try.func39 #[.int .i64 d, .int .i64 0, .int .i64 9] rfl (h6 _) (fun _ h => stStep hSt h) ?_; intro w5 hSt
       refine pi_ 6 34 (bt_ 25 127) rfl rfl (fun _ _ _ h => h) ?_
       refine pi_ 7 35 (bt_ 25 255) rfl rfl (fun _ _ _ h => h) ?_
       refine pu_ 8 36 (bt_ 25 511) rfl rfl (fun _ _ _ h => h) ?_
       refine pu_ 9 37 (bt_ 25 1023) rfl rfl (fun _ _ _ h => h) ?_
       refine pu_ 10 38 (bt_ 25 2047) rfl rfl (fun _ _ _ h => h) ?_
       refine pu_ 11 39 (bt_ 25 4095) rfl rfl (fun _ _ _ h => h) ?_
       refine pu_ 12 40 (bt_ 25 8191) rfl rfl (fun _ _ _ h => h) ?_
       refine pu_ 13 41 (bt_ 25 16383) rfl rfl (fun _ _ _ h => h) ?_
       refine pu_ 14 42 (bt_ 25 32767) rfl rfl (fun _ _ _ h => h) ?_
       refine pu_ 15 43 (bt_ 25 65535) rfl rfl (fun _ _ _ h => h) ?_
       refine pu_ 16 44 (bt_ 25 131071) rfl rfl (fun _ _ _ h => h) ?_
       refine pu_ 17 45 (bt_ 25 262143) rfl rfl (fun _ _ _ h => h) ?_
       refine pu_ 18 46 (bt_ 25 524287) rfl rfl (fun _ _ _ h => h) ?_
       refine pu_ 19 47 (bt_ 25 1048575) rfl rfl (fun _ _ _ h => h) ?_
       refine pu_ 20 48 (bt_ 25 2097151) rfl rfl (fun _ _ _ h => h) ?_
       refine pu_ 21 49 (bt_ 25 4194303) rfl rfl (fun _ _ _ h => h) ?_
       refine pu_ 22 50 (bt_ 25 8388607) rfl rfl (fun _ _ _ h => h) ?_
       refine pu_ 23 51 (bt_ 25 16777215) rfl rfl (fun _ _ _ h => h) ?_
       refine pi_ 24 52 (bt_ 25 33554431) rfl rfl (fun _ _ _ h => h) ?_
       refine done_ (by kernel_rfl) ?_
       obtain ⟨_, _, _, _, _, _, hB⟩ := hSt
       gi_wp2
       go_ret
       exact ⟨rfl, hB⟩
      | true =>
       rw [if_pos rfl] at h
       cases q5 with
       | false =>
        rw [if_neg (by simp)] at h
        have HN := am (HNN.out h)
        clear h HNN
        refine wpIn_wide.2 ?_
        refine start_ (n := 25) (S := StS w w4.heap.size A0_0 l0_0.length c0_0 (some ad1) c0_1 (ad1.add i) d w.heap.size q1 q2 q3 q4) (ds := []) (bt_ 25 0) (by kernel_rfl) rfl rfl (stDrew hSt) ?_
        intro hSt
        refine pi_ 0 28 (bt_ 25 1) rfl rfl (fun _ _ _ h => h) ?_
        refine pl_ 1 29 (bt_ 25 3) rfl rfl (fun _ _ _ h => h) hSt (fun _ h => stC h) ?_
        refine pi_ 2 30 (bt_ 25 7) rfl rfl (fun _ _ _ h => h) ?_
        refine pi_ 3 31 (bt_ 25 15) rfl rfl (fun _ _ _ h => h) ?_
        refine pl_ 4 32 (bt_ 25 31) rfl rfl (fun _ _ _ h => h) hSt (fun _ h => stC h) ?_
        refine pk_ 5 33 (bt_ 25 63) rfl rfl Try.func39 #[.int .i64 d, .int .i64 0, .int .i64 9] rfl (h6 _) (fun _ h => stStep hSt h) ?_; intro w5 hSt
        refine pi_ 6 34 (bt_ 25 127) rfl rfl (fun _ _ _ h => h) ?_
        refine pi_ 7 35 (bt_ 25 255) rfl rfl (fun _ _ _ h => h) ?_
        refine pi_ 8 36 (bt_ 25 511) rfl rfl (fun _ _ _ h => h) ?_
        refine pi_ 9 37 (bt_ 25 1023) rfl rfl (fun _ _ _ h => h) ?_
        refine pu_ 10 38 (bt_ 25 2047) rfl rfl (fun _ _ _ h => h) ?_
        refine pu_ 11 39 (bt_ 25 4095) rfl rfl (fun _ _ _ h => h) ?_
        refine pu_ 12 40 (bt_ 25 8191) rfl rfl (fun _ _ _ h => h) ?_
        refine pi_ 13 41 (bt_ 25 16383) rfl rfl (fun _ _ _ h => h) ?_
        refine pi_ 14 42 (bt_ 25 32767) rfl rfl (fun _ _ _ h => h) ?_
        refine pu_ 15 43 (bt_ 25 65535) rfl rfl (fun _ _ _ h => h) ?_
        refine pu_ 16 44 (bt_ 25 131071) rfl rfl (fun _ _ _ h => h) ?_
        refine pu_ 17 45 (bt_ 25 262143) rfl rfl (fun _ _ _ h => h) ?_
        refine pu_ 18 46 (bt_ 25 524287) rfl rfl (fun _ _ _ h => h) ?_
        refine pu_ 19 47 (bt_ 25 1048575) rfl rfl (fun _ _ _ h => h) ?_
        refine pu_ 20 48 (bt_ 25 2097151) rfl rfl (fun _ _ _ h => h) ?_
        refine pu_ 21 49 (bt_ 25 4194303) rfl rfl (fun _ _ _ h => h) ?_
        refine pu_ 22 50 (bt_ 25 8388607) rfl rfl (fun _ _ _ h => h) ?_
        refine pi_ 23 51 (bt_ 25 16777215) rfl rfl (fun _ _ _ h => h) ?_
        refine pi_ 24 52 (bt_ 25 33554431) rfl rfl (fun _ _ _ h => h) ?_
        refine done_ (by kernel_rfl) ?_
        obtain ⟨_, _, _, _, hX, _, hB⟩ := hSt
        gi_wp2
        exact ⟨⟨i + 1, k1, by simp, by omega, HN, ⟨hX⟩, ⟨hB⟩⟩, by simp [intOf]; omega⟩
       | true =>
        rw [if_pos rfl] at h
        by_cases k2 : q1 = 2
        rotate_left
        · have k2b : (q1 == 2) = false := by simp [k2]
          rw [if_neg k2] at h
          have HN := am (HNN.out h)
          clear h HNN k2
          refine wpIn_wide.2 ?_
          refine start_ (n := 25) (S := StS w w4.heap.size A0_0 l0_0.length c0_0 (some ad1) c0_1 (ad1.add i) d w.heap.size q1 q2 q3 q4) (ds := []) (bt_ 25 0) (by kernel_rfl) rfl rfl (stDrew hSt) ?_
          intro hSt
          refine pi_ 0 28 (bt_ 25 1) rfl rfl (fun _ _ _ h => h) ?_
          refine pl_ 1 29 (bt_ 25 3) rfl rfl (fun _ _ _ h => h) hSt (fun _ h => stC h) ?_
          refine pi_ 2 30 (bt_ 25 7) rfl rfl (fun _ _ _ h => h) ?_
          refine pi_ 3 31 (bt_ 25 15) rfl rfl (fun _ _ _ h => h) ?_
          refine pl_ 4 32 (bt_ 25 31) rfl rfl (fun _ _ _ h => h) hSt (fun _ h => stC h) ?_
          refine pk_ 5 33 (bt_ 25 63) rfl rfl Try.func39 #[.int .i64 d, .int .i64 0, .int .i64 9] rfl (h6 _) (fun _ h => stStep hSt h) ?_; intro w5 hSt
          refine pi_ 6 34 (bt_ 25 127) rfl rfl (fun _ _ _ h => h) ?_
          refine pi_ 7 35 (bt_ 25 255) rfl rfl (fun _ _ _ h => h) ?_
          refine pi_ 8 36 (bt_ 25 511) rfl rfl (fun _ _ _ h => h) ?_
          refine pi_ 9 37 (bt_ 25 1023) rfl rfl (fun _ _ _ h => h) ?_
          refine pi_ 10 38 (bt_ 25 2047) rfl rfl (fun _ _ _ h => h) ?_
          refine pl_ 11 39 (bt_ 25 4095) rfl rfl (fun _ _ _ h => h) hSt (fun _ h => stG h) ?_
          refine pi_ 12 40 (bt_ 25 8191) rfl rfl (fun _ _ _ h => h) ?_
          refine pi_ 13 41 (bt_ 25 16383) rfl rfl (fun _ _ _ h => h) ?_
          refine pi_ 14 42 (bt_ 25 32767) rfl rfl (fun _ _ _ h => h) ?_
          refine pu_ 15 43 (bt_ 25 65535) rfl rfl (fun _ _ _ h => h) ?_
          refine pu_ 16 44 (bt_ 25 131071) rfl rfl (fun _ _ _ h => h) ?_
          refine pu_ 17 45 (bt_ 25 262143) rfl rfl (fun _ _ _ h => h) ?_
          refine pu_ 18 46 (bt_ 25 524287) rfl rfl (fun _ _ _ h => h) ?_
          refine pu_ 19 47 (bt_ 25 1048575) rfl rfl (fun _ _ _ h => h) ?_
          refine pu_ 20 48 (bt_ 25 2097151) rfl rfl (fun _ _ _ h => h) ?_
          refine pu_ 21 49 (bt_ 25 4194303) rfl rfl (fun _ _ _ h => h) ?_
          refine pu_ 22 50 (bt_ 25 8388607) rfl rfl (fun _ _ _ h => h) ?_
          refine pi_ 23 51 (bt_ 25 16777215) rfl rfl (fun _ _ _ h => h) ?_
          refine pi_ 24 52 (bt_ 25 33554431) rfl rfl (fun _ _ _ h => h) ?_
          refine done_ (by kernel_rfl) ?_
          obtain ⟨_, _, _, _, hX, _, hB⟩ := hSt
          gi_wp2
          exact ⟨⟨i + 1, k1, by simp, by omega, HN, ⟨hX⟩, ⟨hB⟩⟩, by simp [intOf]; omega⟩
        · subst k2
          rw [if_pos rfl] at h
          by_cases k3 : q4 = d
          rotate_left
          · have k3b : (q4 != d) = true := by simp [k3]
            rw [if_neg k3] at h
            obtain rfl := Option.some.inj h
            clear h HNN k3
            refine wpIn_wide.2 ?_
            refine start_ (n := 25) (S := StS w w4.heap.size A0_0 l0_0.length c0_0 (some ad1) c0_1 (ad1.add i) d w.heap.size 2 q2 q3 q4) (ds := []) (bt_ 25 0) (by kernel_rfl) rfl rfl (stDrew hSt) ?_
            intro hSt
            refine pi_ 0 28 (bt_ 25 1) rfl rfl (fun _ _ _ h => h) ?_
            refine pl_ 1 29 (bt_ 25 3) rfl rfl (fun _ _ _ h => h) hSt (fun _ h => stC h) ?_
            refine pi_ 2 30 (bt_ 25 7) rfl rfl (fun _ _ _ h => h) ?_
            refine pi_ 3 31 (bt_ 25 15) rfl rfl (fun _ _ _ h => h) ?_
            refine pl_ 4 32 (bt_ 25 31) rfl rfl (fun _ _ _ h => h) hSt (fun _ h => stC h) ?_
            refine pk_ 5 33 (bt_ 25 63) rfl rfl Try.func39 #[.int .i64 d, .int .i64 0, .int .i64 9] rfl (h6 _) (fun _ h => stStep hSt h) ?_; intro w5 hSt
            refine pi_ 6 34 (bt_ 25 127) rfl rfl (fun _ _ _ h => h) ?_
            refine pi_ 7 35 (bt_ 25 255) rfl rfl (fun _ _ _ h => h) ?_
            refine pi_ 8 36 (bt_ 25 511) rfl rfl (fun _ _ _ h => h) ?_
            refine pi_ 9 37 (bt_ 25 1023) rfl rfl (fun _ _ _ h => h) ?_
            refine pi_ 10 38 (bt_ 25 2047) rfl rfl (fun _ _ _ h => h) ?_
            refine pl_ 11 39 (bt_ 25 4095) rfl rfl (fun _ _ _ h => h) hSt (fun _ h => stG h) ?_
            refine pi_ 12 40 (bt_ 25 8191) rfl rfl (fun _ _ _ h => h) ?_
            refine pi_ 13 41 (bt_ 25 16383) rfl rfl (fun _ _ _ h => h) ?_
            refine pi_ 14 42 (bt_ 25 32767) rfl rfl (fun _ _ _ h => h) ?_
            refine pi_ 15 43 (bt_ 25 65535) rfl rfl (fun _ _ _ h => h) ?_
            refine pl_ 16 44 (bt_ 25 131071) rfl rfl (fun _ _ _ h => h) hSt (fun _ h => stG h) ?_
            refine pi_ 17 45 (bt_ 25 262143) rfl rfl (fun _ _ _ h => h) ?_
            refine pl_ 18 46 (bt_ 25 524287) rfl rfl (fun _ _ _ h => h) hSt (fun _ h => stC h) ?_
            refine pi_ 19 47 (bt_ 25 1048575) rfl rfl (fun _ _ _ h => h) ?_
            refine pi_ 20 48 (bt_ 25 2097151) rfl rfl (fun _ _ _ h => h) ?_
            refine pl_ 21 49 (bt_ 25 4194303) rfl rfl (fun _ _ _ h => h) hSt (fun _ h => stC h) ?_
            refine pi_ 22 50 (bt_ 25 8388607) rfl rfl (fun _ _ _ h => h) ?_
            refine pi_ 23 51 (bt_ 25 16777215) rfl rfl (fun _ _ _ h => h) ?_
            refine pi_ 24 52 (bt_ 25 33554431) rfl rfl (fun _ _ _ h => h) ?_
            refine done_ (by kernel_rfl) ?_
            obtain ⟨_, _, _, _, _, _, hB⟩ := hSt
            gi_wp2
            go_ret
            exact ⟨rfl, hB⟩
          have k3b : (q4 != d) = false := by simp [k3]
          rw [if_pos k3] at h
          have HN := am (HNN.out h)
          clear h HNN k3
          refine wpIn_wide.2 ?_
          refine start_ (n := 25) (S := StS w w4.heap.size A0_0 l0_0.length c0_0 (some ad1) c0_1 (ad1.add i) d w.heap.size 2 q2 q3 q4) (ds := []) (bt_ 25 0) (by kernel_rfl) rfl rfl (stDrew hSt) ?_
          intro hSt
          refine pi_ 0 28 (bt_ 25 1) rfl rfl (fun _ _ _ h => h) ?_
          refine pl_ 1 29 (bt_ 25 3) rfl rfl (fun _ _ _ h => h) hSt (fun _ h => stC h) ?_
          refine pi_ 2 30 (bt_ 25 7) rfl rfl (fun _ _ _ h => h) ?_
          refine pi_ 3 31 (bt_ 25 15) rfl rfl (fun _ _ _ h => h) ?_
          refine pl_ 4 32 (bt_ 25 31) rfl rfl (fun _ _ _ h => h) hSt (fun _ h => stC h) ?_
          refine pk_ 5 33 (bt_ 25 63) rfl rfl Try.func39 #[.int .i64 d, .int .i64 0, .int .i64 9] rfl (h6 _) (fun _ h => stStep hSt h) ?_; intro w5 hSt
          refine pi_ 6 34 (bt_ 25 127) rfl rfl (fun _ _ _ h => h) ?_
          refine pi_ 7 35 (bt_ 25 255) rfl rfl (fun _ _ _ h => h) ?_
          refine pi_ 8 36 (bt_ 25 511) rfl rfl (fun _ _ _ h => h) ?_
          refine pi_ 9 37 (bt_ 25 1023) rfl rfl (fun _ _ _ h => h) ?_
          refine pi_ 10 38 (bt_ 25 2047) rfl rfl (fun _ _ _ h => h) ?_
          refine pl_ 11 39 (bt_ 25 4095) rfl rfl (fun _ _ _ h => h) hSt (fun _ h => stG h) ?_
          refine pi_ 12 40 (bt_ 25 8191) rfl rfl (fun _ _ _ h => h) ?_
          refine pi_ 13 41 (bt_ 25 16383) rfl rfl (fun _ _ _ h => h) ?_
          refine pi_ 14 42 (bt_ 25 32767) rfl rfl (fun _ _ _ h => h) ?_
          refine pi_ 15 43 (bt_ 25 65535) rfl rfl (fun _ _ _ h => h) ?_
          refine pl_ 16 44 (bt_ 25 131071) rfl rfl (fun _ _ _ h => h) hSt (fun _ h => stG h) ?_
          refine pi_ 17 45 (bt_ 25 262143) rfl rfl (fun _ _ _ h => h) ?_
          refine pl_ 18 46 (bt_ 25 524287) rfl rfl (fun _ _ _ h => h) hSt (fun _ h => stC h) ?_
          refine pi_ 19 47 (bt_ 25 1048575) rfl rfl (fun _ _ _ h => h) ?_
          refine pi_ 20 48 (bt_ 25 2097151) rfl rfl (fun _ _ _ h => h) ?_
          refine pl_ 21 49 (bt_ 25 4194303) rfl rfl (fun _ _ _ h => h) hSt (fun _ h => stC h) ?_
          refine pi_ 22 50 (bt_ 25 8388607) rfl rfl (fun _ _ _ h => h) ?_
          refine pi_ 23 51 (bt_ 25 16777215) rfl rfl (fun _ _ _ h => h) ?_
          refine pi_ 24 52 (bt_ 25 33554431) rfl rfl (fun _ _ _ h => h) ?_
          refine done_ (by kernel_rfl) ?_
          obtain ⟨_, _, _, _, hX, _, hB⟩ := hSt
          gi_wp2
          exact ⟨⟨i + 1, k1, by simp, by omega, HN, ⟨hX⟩, ⟨hB⟩⟩, by simp [intOf]; omega⟩
def spec_l11Dirty.f (k : Nat) (l0_0 : List (S65)) (l0_1 : List Int) (a1 : Int) : Option (Bool) := (spec_l3Last.f k l0_0 a1).bind fun bt230 => (if bt230.2.2.2.2 = true then (some (bt230.1 == 1)) else (some false))
theorem spec_l11Dirty.mono : ∀ a0 a1 a2 k, LeO (spec_l11Dirty.f k a0 a1 a2) (spec_l11Dirty.f (k + 1) a0 a1 a2) := by
 intro a0 a1 a2 k
 unfold spec_l11Dirty.f
 repeat' first
  | (with_reducible exact spec_l3Last.mono _ _ _)
  | (with_reducible exact LeO.refl _)
  | (with_reducible exact LeO.none _)
  | (with_reducible refine LeO.ite ?_ ?_)
  | (with_reducible refine LeO.bind ?_ (fun _ => ?_))
  | exact spec_l3Last.mono _ _ _
  | exact LeO.none _
  | refine LeO.ite ?_ ?_
  | refine LeO.bind ?_ (fun _ => ?_)
set_option maxHeartbeats 8000000 in
set_option maxRecDepth 100000 in
theorem spec_l11Dirty.calls (k : Nat) (A0_0 : Option Addr) (c0_0 : Nat) (l0_0 : List (S65)) (A0_1 : Option Addr) (c0_1 : Nat) (l0_1 : List Int) (a1 : Int) (r : Bool) (w : World) (hr0_0 : Kd.C k65 w A0_0 l0_0.length l0_0) (hc0_0 : l0_0.length ≤ c0_0) (hr0_1 : Kd.C (Kd.int .i64) w A0_1 l0_1.length l0_1) (hc0_1 : l0_1.length ≤ c0_1) (h : spec_l11Dirty.f k l0_0 l0_1 a1 = some r) :
 Calls Try.prog 55 #[.agg #[.slice A0_0 l0_0.length c0_0, .slice A0_1 l0_1.length c0_1], .int .i64 a1] w fun e w' => e = .returned (.bool r) ∧ Below w.heap.size w w' := by
 have hu41 := Try.underlying41
 have hu30 := Try.underlying30
 have HR0_0 := am hr0_0
 have HC0_0 := am hc0_0
 clear hr0_0 hc0_0
 have HR0_1 := am hr0_1
 have HC0_1 := am hc0_1
 clear hr0_1 hc0_1
 have HB := am (Below.refl w.heap.size w)
 have H : ((spec_l3Last.f k l0_0 a1).bind fun bt230 => (if bt230.2.2.2.2 = true then (some (bt230.1 == 1)) else (some false))) = some r := h
 clear h
 replace H := Option.bind_eq_some_iff.mp H
 obtain ⟨⟨t230, t231, t232, t233, t234⟩, A30, H⟩ := H
 replace H : (if t234 = true then (some (t230 == 1)) else (some false)) = some r := H
 have A3 := am A30
 clear A30
 by_cases c4 : t234 = true
 · subst c4
   have H1 : (some (t230 == 1)) = some r := by rw [if_pos rfl] at H; exact H
   clear H
   have H := H1
   clear H1
   obtain rfl := Option.some.inj H
   go_enter Try.func55, Try.ntmps55
   go_wp2_with (first | (refine bx 2 #[.slice A0_0 l0_0.length c0_0, .slice A0_1 l0_1.length c0_1] 41 rfl ?_; intro gb229 hg w5 hbox hb; have BK229 := am (hbox); have GW229 := am ((by rw [hg]; exact (below_size (ph HB.out)) : w.heap.size ≤ gb229)); have GE229 := GW229; replace HB := am (below_step (ph HB.out) hb); clear hb hbox hg; obtain ⟨hcz6_0, hcz6_1⟩ := b2 BK229.out; obtain ⟨hfz6_0, hfz6_1⟩ := f2 BK229.out) | (refine gl 11 Try.func81 #[.slice A0_0 l0_0.length c0_0, .int .i64 a1] rfl ?_; (with_reducible refine (spec_l3Last.calls k _ _ l0_0 a1 t230 t231 t232 t233 true _ ?side1 ?side2 A3.out).mono ?_); (case side1 => exact pc (Kd.C_below HR0_0.out HB.out)); (case side2 => exact HC0_0.out); rintro e w7 ⟨rfl, hb⟩; refine ⟨_, rfl, ?_⟩; replace BK229 := am (blk_below (pb BK229.out) hb); replace HB := am (below_step (bg1 HB.out GE229.out) hb); (try clear hb); (try clear hb2); (try clear hk); (try clear hi)) | (refine bx 5 #[.int .i64 0, .int .i64 0, .int .i64 0, .int .i64 0] 30 rfl ?_; intro gb235 hg w8 hbox hb; have BK235 := am (hbox); have GW235 := am ((by rw [hg]; exact (below_size (bg1 HB.out GE229.out)) : w.heap.size ≤ gb235)); have GE235 := GW235; replace HB := am (below_step (bg1 HB.out GE229.out) hb); have NB229_235 := am ((by rw [hg]; exact Nat.ne_of_lt (blk_lt (pb BK229.out)) : gb229 ≠ gb235)); have NB235_229 := am (Ne.symm NB229_235.out); replace BK229 := am (blk_below (pb BK229.out) hb); clear hb hbox hg; have hnb9 := NB235_229.out; have hnc9 := NB229_235.out; obtain ⟨hcz10_0, hcz10_1, hcz10_2, hcz10_3⟩ := b4 BK235.out; obtain ⟨hfz10_0, hfz10_1, hfz10_2, hfz10_3⟩ := f4 BK235.out))
   go_ret
   exact (rq (bg2 HB.out GE229.out GE235.out))
 replace c4 := Bool.eq_false_iff.mpr c4
 subst c4
 have H1 : (some false) = some r := by rw [if_neg (show ¬ (false = true) by decide)] at H; exact H
 clear H
 have H := H1
 clear H1
 obtain rfl := Option.some.inj H
 go_enter Try.func55, Try.ntmps55
 go_wp2_with (first | (refine bx 2 #[.slice A0_0 l0_0.length c0_0, .slice A0_1 l0_1.length c0_1] 41 rfl ?_; intro gb229 hg w11 hbox hb; have BK229 := am (hbox); have GW229 := am ((by rw [hg]; exact (below_size (ph HB.out)) : w.heap.size ≤ gb229)); have GE229 := GW229; replace HB := am (below_step (ph HB.out) hb); clear hb hbox hg; obtain ⟨hcz12_0, hcz12_1⟩ := b2 BK229.out; obtain ⟨hfz12_0, hfz12_1⟩ := f2 BK229.out) | (refine gl 11 Try.func81 #[.slice A0_0 l0_0.length c0_0, .int .i64 a1] rfl ?_; (with_reducible refine (spec_l3Last.calls k _ _ l0_0 a1 t230 t231 t232 t233 false _ ?side1 ?side2 A3.out).mono ?_); (case side1 => exact pc (Kd.C_below HR0_0.out HB.out)); (case side2 => exact HC0_0.out); rintro e w13 ⟨rfl, hb⟩; refine ⟨_, rfl, ?_⟩; replace BK229 := am (blk_below (pb BK229.out) hb); replace HB := am (below_step (bg1 HB.out GE229.out) hb); (try clear hb); (try clear hb2); (try clear hk); (try clear hi)) | (refine bx 5 #[.int .i64 0, .int .i64 0, .int .i64 0, .int .i64 0] 30 rfl ?_; intro gb235 hg w14 hbox hb; have BK235 := am (hbox); have GW235 := am ((by rw [hg]; exact (below_size (bg1 HB.out GE229.out)) : w.heap.size ≤ gb235)); have GE235 := GW235; replace HB := am (below_step (bg1 HB.out GE229.out) hb); have NB229_235 := am ((by rw [hg]; exact Nat.ne_of_lt (blk_lt (pb BK229.out)) : gb229 ≠ gb235)); have NB235_229 := am (Ne.symm NB229_235.out); replace BK229 := am (blk_below (pb BK229.out) hb); clear hb hbox hg; have hnb15 := NB235_229.out; have hnc15 := NB229_235.out; obtain ⟨hcz16_0, hcz16_1, hcz16_2, hcz16_3⟩ := b4 BK235.out; obtain ⟨hfz16_0, hfz16_1, hfz16_2, hfz16_3⟩ := f4 BK235.out))
 go_ret
 exact (rq (bg2 HB.out GE229.out GE235.out))
def spec_l11Read.f (k : Nat) (l0_0 : List (S65)) (l0_1 : List Int) (a1 : Int) : Option (Int) := (spec_l3Last.f k l0_0 a1).bind fun bt237 => (if bt237.2.2.2.2 = true then (some bt237.2.2.2.1) else (if 0 ≤ (wrap64 (a1 - 1)) then (if (wrap64 (a1 - 1)) < (l0_1.length : Int) then (some (rd l0_1 (wrap64 (a1 - 1)))) else (none)) else (none)))
theorem spec_l11Read.mono : ∀ a0 a1 a2 k, LeO (spec_l11Read.f k a0 a1 a2) (spec_l11Read.f (k + 1) a0 a1 a2) := by
 intro a0 a1 a2 k
 unfold spec_l11Read.f
 repeat' first
  | (with_reducible exact spec_l3Last.mono _ _ _)
  | (with_reducible exact LeO.refl _)
  | (with_reducible exact LeO.none _)
  | (with_reducible refine LeO.ite ?_ ?_)
  | (with_reducible refine LeO.bind ?_ (fun _ => ?_))
  | exact spec_l3Last.mono _ _ _
  | exact LeO.none _
  | refine LeO.ite ?_ ?_
  | refine LeO.bind ?_ (fun _ => ?_)
set_option maxHeartbeats 8000000 in
set_option maxRecDepth 100000 in
theorem spec_l11Read.calls (k : Nat) (A0_0 : Option Addr) (c0_0 : Nat) (l0_0 : List (S65)) (A0_1 : Option Addr) (c0_1 : Nat) (l0_1 : List Int) (a1 : Int) (r : Int) (w : World) (hr0_0 : Kd.C k65 w A0_0 l0_0.length l0_0) (hc0_0 : l0_0.length ≤ c0_0) (hr0_1 : Kd.C (Kd.int .i64) w A0_1 l0_1.length l0_1) (hc0_1 : l0_1.length ≤ c0_1) (h : spec_l11Read.f k l0_0 l0_1 a1 = some r) :
 Calls Try.prog 60 #[.agg #[.slice A0_0 l0_0.length c0_0, .slice A0_1 l0_1.length c0_1], .int .i64 a1] w fun e w' => e = .returned (.int .i64 r) ∧ Below w.heap.size w w' := by
 have hu41 := Try.underlying41
 have hu30 := Try.underlying30
 have HR0_0 := am hr0_0
 have HC0_0 := am hc0_0
 clear hr0_0 hc0_0
 have HR0_1 := am hr0_1
 have HC0_1 := am hc0_1
 clear hr0_1 hc0_1
 have HB := am (Below.refl w.heap.size w)
 have H : ((spec_l3Last.f k l0_0 a1).bind fun bt237 => (if bt237.2.2.2.2 = true then (some bt237.2.2.2.1) else (if 0 ≤ (wrap64 (a1 - 1)) then (if (wrap64 (a1 - 1)) < (l0_1.length : Int) then (some (rd l0_1 (wrap64 (a1 - 1)))) else (none)) else (none)))) = some r := h
 clear h
 replace H := Option.bind_eq_some_iff.mp H
 obtain ⟨⟨t237, t238, t239, t240, t241⟩, A30, H⟩ := H
 replace H : (if t241 = true then (some t240) else (if 0 ≤ (wrap64 (a1 - 1)) then (if (wrap64 (a1 - 1)) < (l0_1.length : Int) then (some (rd l0_1 (wrap64 (a1 - 1)))) else (none)) else (none))) = some r := H
 have A3 := am A30
 clear A30
 by_cases c4 : t241 = true
 · subst c4
   have H1 : (some t240) = some r := by rw [if_pos rfl] at H; exact H
   clear H
   have H := H1
   clear H1
   obtain rfl := Option.some.inj H
   go_enter Try.func60, Try.ntmps60
   go_wp2_with (first | (refine bx 2 #[.slice A0_0 l0_0.length c0_0, .slice A0_1 l0_1.length c0_1] 41 rfl ?_; intro gb236 hg w5 hbox hb; have BK236 := am (hbox); have GW236 := am ((by rw [hg]; exact (below_size (ph HB.out)) : w.heap.size ≤ gb236)); have GE236 := GW236; replace HB := am (below_step (ph HB.out) hb); clear hb hbox hg; obtain ⟨hcz6_0, hcz6_1⟩ := b2 BK236.out; obtain ⟨hfz6_0, hfz6_1⟩ := f2 BK236.out) | (refine gl 11 Try.func81 #[.slice A0_0 l0_0.length c0_0, .int .i64 a1] rfl ?_; (with_reducible refine (spec_l3Last.calls k _ _ l0_0 a1 t237 t238 t239 t240 true _ ?side1 ?side2 A3.out).mono ?_); (case side1 => exact pc (Kd.C_below HR0_0.out HB.out)); (case side2 => exact HC0_0.out); rintro e w7 ⟨rfl, hb⟩; refine ⟨_, rfl, ?_⟩; replace BK236 := am (blk_below (pb BK236.out) hb); replace HB := am (below_step (bg1 HB.out GE236.out) hb); (try clear hb); (try clear hb2); (try clear hk); (try clear hi)) | (refine bx 5 #[.int .i64 0, .int .i64 0, .int .i64 0, .int .i64 0] 30 rfl ?_; intro gb242 hg w8 hbox hb; have BK242 := am (hbox); have GW242 := am ((by rw [hg]; exact (below_size (bg1 HB.out GE236.out)) : w.heap.size ≤ gb242)); have GE242 := GW242; replace HB := am (below_step (bg1 HB.out GE236.out) hb); have NB236_242 := am ((by rw [hg]; exact Nat.ne_of_lt (blk_lt (pb BK236.out)) : gb236 ≠ gb242)); have NB242_236 := am (Ne.symm NB236_242.out); replace BK236 := am (blk_below (pb BK236.out) hb); clear hb hbox hg; have hnb9 := NB242_236.out; have hnc9 := NB236_242.out; obtain ⟨hcz10_0, hcz10_1, hcz10_2, hcz10_3⟩ := b4 BK242.out; obtain ⟨hfz10_0, hfz10_1, hfz10_2, hfz10_3⟩ := f4 BK242.out))
   go_ret
   exact (rq (bg2 HB.out GE236.out GE242.out))
 replace c4 := Bool.eq_false_iff.mpr c4
 subst c4
 have H1 : (if 0 ≤ (wrap64 (a1 - 1)) then (if (wrap64 (a1 - 1)) < (l0_1.length : Int) then (some (rd l0_1 (wrap64 (a1 - 1)))) else (none)) else (none)) = some r := by rw [if_neg (show ¬ (false = true) by decide)] at H; exact H
 clear H
 have H := H1
 clear H1
 obtain ⟨ji11, hji11⟩ : ∃ j_ : Int, (wrap64 (a1 - 1)) = j_ := ⟨_, rfl⟩
 replace H : (if 0 ≤ (ji11) then (if (ji11) < (l0_1.length : Int) then (some (rd l0_1 (ji11))) else (none)) else (none)) = some r := by first | (rw [hji11] at H; exact H) | (simp only [hji11] at H ⊢; exact H)
 (try rw [hji11] at A3)
 have hji11w : (IntKind.i64.wrap (a1 - 1)) = ji11 := (i64_w _).trans hji11
 by_cases c12 : 0 ≤ (ji11)
 rotate_left
 · rw [if_neg c12] at H
   exact absurd H (by simp)
 rw [if_pos c12] at H
 have c12b0 := decide_eq_true c12
 clear c12
 by_cases c13 : (ji11) < (l0_1.length : Int)
 rotate_left
 · rw [if_neg c13] at H
   exact absurd H (by simp)
 rw [if_pos c13] at H
 have c13b0 := decide_eq_true c13
 clear c13
 obtain rfl := Option.some.inj H
 go_enter Try.func60, Try.ntmps60
 go_wp2_with (first | (refine bx 2 #[.slice A0_0 l0_0.length c0_0, .slice A0_1 l0_1.length c0_1] 41 rfl ?_; intro gb236 hg w14 hbox hb; have BK236 := am (hbox); have GW236 := am ((by rw [hg]; exact (below_size (ph HB.out)) : w.heap.size ≤ gb236)); have GE236 := GW236; replace HB := am (below_step (ph HB.out) hb); clear hb hbox hg; obtain ⟨hcz15_0, hcz15_1⟩ := b2 BK236.out; obtain ⟨hfz15_0, hfz15_1⟩ := f2 BK236.out) | (refine gl 11 Try.func81 #[.slice A0_0 l0_0.length c0_0, .int .i64 a1] rfl ?_; (with_reducible refine (spec_l3Last.calls k _ _ l0_0 a1 t237 t238 t239 t240 false _ ?side1 ?side2 A3.out).mono ?_); (case side1 => exact pc (Kd.C_below HR0_0.out HB.out)); (case side2 => exact HC0_0.out); rintro e w16 ⟨rfl, hb⟩; refine ⟨_, rfl, ?_⟩; replace BK236 := am (blk_below (pb BK236.out) hb); replace HB := am (below_step (bg1 HB.out GE236.out) hb); (try clear hb); (try clear hb2); (try clear hk); (try clear hi)) | (refine bx 5 #[.int .i64 0, .int .i64 0, .int .i64 0, .int .i64 0] 30 rfl ?_; intro gb242 hg w17 hbox hb; have BK242 := am (hbox); have GW242 := am ((by rw [hg]; exact (below_size (bg1 HB.out GE236.out)) : w.heap.size ≤ gb242)); have GE242 := GW242; replace HB := am (below_step (bg1 HB.out GE236.out) hb); have NB236_242 := am ((by rw [hg]; exact Nat.ne_of_lt (blk_lt (pb BK236.out)) : gb236 ≠ gb242)); have NB242_236 := am (Ne.symm NB236_242.out); replace BK236 := am (blk_below (pb BK236.out) hb); clear hb hbox hg; have hnb18 := NB242_236.out; have hnc18 := NB236_242.out; obtain ⟨hcz19_0, hcz19_1, hcz19_2, hcz19_3⟩ := b4 BK242.out; obtain ⟨hfz19_0, hfz19_1, hfz19_2, hfz19_3⟩ := f4 BK242.out; obtain ⟨hcz20_0, hcz20_1⟩ := b2 BK236.out; obtain ⟨hfz20_0, hfz20_1⟩ := f2 BK236.out; have p243 : 0 ≤ ((ji11) : Int) := ofb; have q243 : (ji11) < (l0_1.length : Int) := ofb; obtain ⟨ad243, e243, hx243_0⟩ := Kd.at_int HR0_1.out (ji11) p243 q243; cases e243; have hn243_0 : ad243.block ≠ gb242 := Nat.ne_of_lt (Nat.lt_of_lt_of_le (by have := World.block_lt_of_cell? _ _ hx243_0; first | rwa [add_block] at this | exact this) GW242.out); have hn243_1 : ad243.block ≠ gb242 := Nat.ne_of_lt (Nat.lt_of_lt_of_le (by have := World.block_lt_of_cell? _ _ hx243_0; first | rwa [add_block] at this | exact this) GW242.out); have hn243_2 : ad243.block ≠ gb242 := Nat.ne_of_lt (Nat.lt_of_lt_of_le (by have := World.block_lt_of_cell? _ _ hx243_0; first | rwa [add_block] at this | exact this) GW242.out); have hn243_3 : ad243.block ≠ gb242 := Nat.ne_of_lt (Nat.lt_of_lt_of_le (by have := World.block_lt_of_cell? _ _ hx243_0; first | rwa [add_block] at this | exact this) GW242.out); replace hx243_0 := up HB.out hx243_0; replace hx243_0 := (cell_far (p := ⟨gb242, 0, none⟩) (by first | (rw [add_block]; exact hn243_0) | (show (Addr.add _ _).block ≠ _; rw [add_block]; exact hn243_0) | exact hn243_0) (.int .i64 t237)).trans hx243_0; replace hx243_0 := (cell_far (p := ⟨gb242, 1, none⟩) (by first | (rw [add_block]; exact hn243_1) | (show (Addr.add _ _).block ≠ _; rw [add_block]; exact hn243_1) | exact hn243_1) (.int .i64 t238)).trans hx243_0; replace hx243_0 := (cell_far (p := ⟨gb242, 2, none⟩) (by first | (rw [add_block]; exact hn243_2) | (show (Addr.add _ _).block ≠ _; rw [add_block]; exact hn243_2) | exact hn243_2) (.int .i64 t239)).trans hx243_0; replace hx243_0 := (cell_far (p := ⟨gb242, 3, none⟩) (by first | (rw [add_block]; exact hn243_3) | (show (Addr.add _ _).block ≠ _; rw [add_block]; exact hn243_3) | exact hn243_3) (.int .i64 t240)).trans hx243_0; clear hn243_0; clear hn243_1; clear hn243_2; clear hn243_3; replace p243 := eq_true p243; replace q243 := eq_true q243))
 go_ret
 exact ⟨by first | rfl | (simp [errW_none, errW_some] <;> rfl) | (simp only [← hji11]; first | rfl | (simp [errW_none, errW_some] <;> rfl)) | (simp [*, errW_none, errW_some] <;> rfl), bg2 HB.out GE236.out GE242.out⟩
def spec_l3Next.l0 : Nat → List (S65) → Int → Int → Option (Int)
 | 0, _, _, _ => none
 | k + 1, x0, x3, x4 => if x4 < (x0.length : Int) then (if 0 ≤ x4 then ((spec_l3Most.f k ((rd_T65 x0 x4).f0) ((rd_T65 x0 x4).f1)).bind fun t245 => (spec_l3Next.l0 k x0 (mx x3 t245) (wrap64 (x4 + 1)))) else (none)) else (some (wrap64 (x3 + 1)))
def spec_l3Next.f (k : Nat) (l0 : List (S65)) : Option (Int) := spec_l3Next.l0 k l0 0 0
theorem spec_l3Next.mono_l : ∀ k, (∀ y0 y1 y2, LeO (spec_l3Next.l0 k y0 y1 y2) (spec_l3Next.l0 (k + 1) y0 y1 y2))
 | 0 => fun _ _ _ r h => by simp [spec_l3Next.l0] at h
 | k + 1 => by
  have ih0 := spec_l3Next.mono_l k
  · intro y0 y1 y2
    unfold spec_l3Next.l0
    repeat' first
    | (with_reducible exact ih0 _ _ _)
    | (with_reducible exact spec_l3Most.mono _ _ _)
    | (with_reducible exact LeO.refl _)
    | (with_reducible exact LeO.none _)
    | (with_reducible refine LeO.ite ?_ ?_)
    | (with_reducible refine LeO.bind ?_ (fun _ => ?_))
    | exact ih0 _ _ _
    | exact spec_l3Most.mono _ _ _
    | exact LeO.none _
    | refine LeO.ite ?_ ?_
    | refine LeO.bind ?_ (fun _ => ?_)
theorem spec_l3Next.mono : ∀ a0 k, LeO (spec_l3Next.f k a0) (spec_l3Next.f (k + 1) a0) := by
 intro a0 k
 have ih0 := spec_l3Next.mono_l k
 unfold spec_l3Next.f
 repeat' first
  | (with_reducible exact ih0 _ _ _)
  | (with_reducible exact spec_l3Most.mono _ _ _)
  | (with_reducible exact LeO.refl _)
  | (with_reducible exact LeO.none _)
  | (with_reducible refine LeO.ite ?_ ?_)
  | (with_reducible refine LeO.bind ?_ (fun _ => ?_))
  | exact ih0 _ _ _
  | exact spec_l3Most.mono _ _ _
  | exact LeO.none _
  | refine LeO.ite ?_ ?_
  | refine LeO.bind ?_ (fun _ => ?_)
set_option maxHeartbeats 8000000 in
set_option maxRecDepth 100000 in
theorem spec_l3Next.calls (k : Nat) (A0 : Option Addr) (c0 : Nat) (l0 : List (S65)) (r : Int) (w : World) (hr0 : Kd.C k65 w A0 l0.length l0) (hc0 : l0.length ≤ c0) (h : spec_l3Next.f k l0 = some r) :
 Calls Try.prog 84 #[.slice A0 l0.length c0] w fun e w' => e = .returned (.int .i64 r) ∧ Below w.heap.size w w' := by
 have hu65 := Try.underlying65
 have HR0 := am hr0
 have HC0 := am hc0
 clear hr0 hc0
 have HB := am (Below.refl w.heap.size w)
 have H : (spec_l3Next.l0 k l0 0 0) = some r := h
 clear h
 have H' := am H
 clear H
 go_enter Try.func84, Try.ntmps84
 go_wp2
 go_loopg [3, 4] k (fun kq v3 v4 w' => ∃ (x3_1 : Int) (x4_1 : Int), v3 = .int .i64 x3_1 ∧ v4 = .int .i64 x4_1 ∧ Aside0 (spec_l3Next.l0 kq l0 x3_1 x4_1 = some r) ∧ Aside0 (kq ≤ k) ∧ Aside0 (Below w.heap.size w w'))
 case atStart => exact ⟨(0), (0), rf, rf, H', ⟨Nat.le_refl _⟩, ⟨ph HB.out⟩⟩
 case round =>
  clear H'
  obtain ⟨x3_1, x4_1, rfl, rfl, HA, HK1, HB⟩ := hrel
  cases gk with
  | zero => exact absurd HA.out (by simp [spec_l3Next.l0])
  | succ k1 =>
   have H := HA.out
   clear HA
   simp only [spec_l3Next.l0] at H
   by_cases c2 : x4_1 < (l0.length : Int)
   rotate_left
   · rw [if_neg c2] at H
     have c2b0 := decide_eq_false c2
     clear c2
     obtain rfl := Option.some.inj H
     go_wp2
     go_ret
     exact (rq (ph HB.out))
   rw [if_pos c2] at H
   have c2b0 := decide_eq_true c2
   clear c2
   by_cases c3 : 0 ≤ x4_1
   rotate_left
   · rw [if_neg c3] at H
     exact absurd H (by simp)
   rw [if_pos c3] at H
   have c3b0 := decide_eq_true c3
   clear c3
   replace H := Option.bind_eq_some_iff.mp H
   obtain ⟨t245, A40, H⟩ := H
   replace H : (spec_l3Next.l0 k1 l0 (mx x3_1 t245) (wrap64 (x4_1 + 1))) = some r := H
   have A4 := am A40
   clear A40
   obtain ⟨ji5, hji5⟩ : ∃ j_ : Int, (mx x3_1 t245) = j_ := ⟨_, rfl⟩
   replace H : (spec_l3Next.l0 k1 l0 ji5 (wrap64 (x4_1 + 1))) = some r := by first | (rw [hji5] at H; exact H) | (simp only [hji5] at H ⊢; exact H)
   (try rw [hji5] at A4)
   have hji5_ : (if x3_1 < t245 then t245 else x3_1) = ji5 := hji5
   have H' := am H
   clear H
   have p244 : 0 ≤ (x4_1 : Int) := ofb
   have q244 : x4_1 < (l0.length : Int) := ofb
   obtain ⟨ad244, A244_0, c244_0, e244, hx244_0, hx244_1, hl244_0, hi244_0⟩ := at_T65 HR0.out x4_1 p244 q244
   cases e244
   replace hx244_0 := up HB.out hx244_0
   replace hx244_1 := up HB.out hx244_1
   have HR244_0 := am hi244_0
   have HC244_0 := am hl244_0
   clear hi244_0 hl244_0
   replace p244 := eq_true p244
   replace q244 := eq_true q244
   go_wp2_with (first | (refine gl 16 Try.func93 #[.agg #[.slice A244_0 ((rd_T65 l0 x4_1).f0).length c244_0, .int .i64 ((rd_T65 l0 x4_1).f1)]] rfl ?_; (with_reducible refine (spec_l3Most.calls k1 _ _ ((rd_T65 l0 x4_1).f0) ((rd_T65 l0 x4_1).f1) t245 _ ?side1 ?side2 A4.out).mono ?_); (case side1 => exact pc (Kd.C_below HR244_0.out HB.out)); (case side2 => exact HC244_0.out); rintro e w6 ⟨rfl, hb⟩; refine ⟨_, rfl, ?_⟩; replace HB := am (below_step (ph HB.out) hb); (try clear hb); (try clear hb2); (try clear hk); (try clear hi)))
   go_roundg k1
   case measure => have := HK1.out; omega
   case rel => exact ⟨(ji5), (wrap64 (x4_1 + 1)), (by first | rfl | (simp; done) | (simp only [← hji5] <;> (first | rfl | simp)) | (simp [*]; done)), rf, H', ⟨by have := HK1.out; omega⟩, ⟨ph HB.out⟩⟩
mutual
def spec_l3Open.l0 : Nat → List (S65) → Int → Int → Option (Int × Bool)
 | 0, _, _, _ => none
 | k + 1, x0, x4, x5 => if x5 < (x0.length : Int) then (if 0 ≤ x5 then ((spec_l2Clean.f k ((rd_T65 x0 x5).f0) ((rd_T65 x0 x5).f1)).bind fun t247 => (if t247 > 0 then (spec_l3Open.j1 k x0 x4 x5 t247 (decide (t247 < 4))) else (spec_l3Open.j1 k x0 x4 x5 t247 false))) else (none)) else (some (mx x4 0, decide (x4 ≥ 0)))
def spec_l3Open.j1 : Nat → List (S65) → Int → Int → Int → Bool → Option (Int × Bool)
 | 0, _, _, _, _, _ => none
 | k + 1, x0, x4, x5, x6, x23 => if x23 = true then (some (x5, true)) else (if x6 > 0 then (if x4 < 0 then (spec_l3Open.l0 k x0 x5 (wrap64 (x5 + 1))) else (if 0 ≤ x5 then (if x5 < (x0.length : Int) then (if 0 ≤ x4 then (if x4 < (x0.length : Int) then (if ((rd_T65 x0 x5).f1) < ((rd_T65 x0 x4).f1) then (spec_l3Open.l0 k x0 x5 (wrap64 (x5 + 1))) else (spec_l3Open.l0 k x0 x4 (wrap64 (x5 + 1)))) else (none)) else (none)) else (none)) else (none))) else (spec_l3Open.l0 k x0 x4 (wrap64 (x5 + 1))))
end
def spec_l3Open.f (k : Nat) (l0 : List (S65)) : Option (Int × Bool) := spec_l3Open.l0 k l0 (-1) 0
theorem spec_l3Open.mono_l : ∀ k, (∀ y0 y1 y2, LeO (spec_l3Open.l0 k y0 y1 y2) (spec_l3Open.l0 (k + 1) y0 y1 y2)) ∧ (∀ y0 y1 y2 y3 y4, LeO (spec_l3Open.j1 k y0 y1 y2 y3 y4) (spec_l3Open.j1 (k + 1) y0 y1 y2 y3 y4))
 | 0 => ⟨fun _ _ _ r h => by simp [spec_l3Open.l0] at h, fun _ _ _ _ _ r h => by simp [spec_l3Open.j1] at h⟩
 | k + 1 => by
  obtain ⟨ih0, ih1⟩ := spec_l3Open.mono_l k
  refine ⟨?_, ?_⟩
  · intro y0 y1 y2
    unfold spec_l3Open.l0
    repeat' first
    | (with_reducible exact ih0 _ _ _)
    | (with_reducible exact ih1 _ _ _ _ _)
    | (with_reducible exact spec_l2Clean.mono _ _ _)
    | (with_reducible exact LeO.refl _)
    | (with_reducible exact LeO.none _)
    | (with_reducible refine LeO.ite ?_ ?_)
    | (with_reducible refine LeO.bind ?_ (fun _ => ?_))
    | exact ih0 _ _ _
    | exact ih1 _ _ _ _ _
    | exact spec_l2Clean.mono _ _ _
    | exact LeO.none _
    | refine LeO.ite ?_ ?_
    | refine LeO.bind ?_ (fun _ => ?_)
  · intro y0 y1 y2 y3 y4
    unfold spec_l3Open.j1
    repeat' first
    | (with_reducible exact ih0 _ _ _)
    | (with_reducible exact ih1 _ _ _ _ _)
    | (with_reducible exact spec_l2Clean.mono _ _ _)
    | (with_reducible exact LeO.refl _)
    | (with_reducible exact LeO.none _)
    | (with_reducible refine LeO.ite ?_ ?_)
    | (with_reducible refine LeO.bind ?_ (fun _ => ?_))
    | exact ih0 _ _ _
    | exact ih1 _ _ _ _ _
    | exact spec_l2Clean.mono _ _ _
    | exact LeO.none _
    | refine LeO.ite ?_ ?_
    | refine LeO.bind ?_ (fun _ => ?_)
theorem spec_l3Open.mono : ∀ a0 k, LeO (spec_l3Open.f k a0) (spec_l3Open.f (k + 1) a0) := by
 intro a0 k
 obtain ⟨ih0, ih1⟩ := spec_l3Open.mono_l k
 unfold spec_l3Open.f
 repeat' first
  | (with_reducible exact ih0 _ _ _)
  | (with_reducible exact ih1 _ _ _ _ _)
  | (with_reducible exact spec_l2Clean.mono _ _ _)
  | (with_reducible exact LeO.refl _)
  | (with_reducible exact LeO.none _)
  | (with_reducible refine LeO.ite ?_ ?_)
  | (with_reducible refine LeO.bind ?_ (fun _ => ?_))
  | exact ih0 _ _ _
  | exact ih1 _ _ _ _ _
  | exact spec_l2Clean.mono _ _ _
  | exact LeO.none _
  | refine LeO.ite ?_ ?_
  | refine LeO.bind ?_ (fun _ => ?_)
set_option maxHeartbeats 8000000 in
set_option maxRecDepth 100000 in
theorem spec_l3Open.calls (k : Nat) (A0 : Option Addr) (c0 : Nat) (l0 : List (S65)) (r1 : Int) (r2 : Bool) (w : World) (hr0 : Kd.C k65 w A0 l0.length l0) (hc0 : l0.length ≤ c0) (h : spec_l3Open.f k l0 = some (r1, r2)) :
 Calls Try.prog 98 #[.slice A0 l0.length c0] w fun e w' => e = .returned (.tuple #[.int .i64 r1, .bool r2]) ∧ Below w.heap.size w w' := by
 have hu65 := Try.underlying65
 have HR0 := am hr0
 have HC0 := am hc0
 clear hr0 hc0
 have HB := am (Below.refl w.heap.size w)
 have H : (spec_l3Open.l0 k l0 (-1) 0) = some (r1, r2) := h
 clear h
 have H' := am H
 clear H
 go_enter Try.func98, Try.ntmps98
 go_wp2
 repeat (go_quiet (fail); try go_wp2)
 go_loopg [4, 5] k (fun kq v4 v5 w' => ∃ (x4_1 : Int) (x5_1 : Int), v4 = .int .i64 x4_1 ∧ v5 = .int .i64 x5_1 ∧ Aside0 (spec_l3Open.l0 kq l0 x4_1 x5_1 = some (r1, r2)) ∧ Aside0 (kq ≤ k) ∧ Aside0 (Below w.heap.size w w'))
 case atStart => exact ⟨((-1)), (0), rf, rf, H', ⟨Nat.le_refl _⟩, ⟨ph HB.out⟩⟩
 case round =>
  clear H'
  obtain ⟨x4_1, x5_1, rfl, rfl, HA, HK1, HB⟩ := hrel
  cases gk with
  | zero => exact absurd HA.out (by simp [spec_l3Open.l0])
  | succ k1 =>
   have H := HA.out
   clear HA
   simp only [spec_l3Open.l0] at H
   by_cases c2 : x5_1 < (l0.length : Int)
   rotate_left
   · rw [if_neg c2] at H
     have c2b0 := decide_eq_false c2
     clear c2
     obtain ⟨ji16, hji16⟩ : ∃ j_ : Int, (mx x4_1 0) = j_ := ⟨_, rfl⟩
     replace H : (some (ji16, decide (x4_1 ≥ 0))) = some (r1, r2) := by first | (rw [hji16] at H; exact H) | (simp only [hji16] at H ⊢; exact H)
     have hji16_ : (if x4_1 < 0 then 0 else x4_1) = ji16 := hji16
     simp only [Option.some.injEq, Prod.mk.injEq] at H
     obtain ⟨rfl, rfl⟩ := H
     go_wp2
     repeat (go_quiet (fail); try go_wp2)
     go_ret2
     exact ⟨by first | rfl | (simp [errW_none, errW_some] <;> rfl) | (simp only [← hji16]; first | rfl | (simp [errW_none, errW_some] <;> rfl)) | (simp [*, errW_none, errW_some] <;> rfl), ph HB.out⟩
   rw [if_pos c2] at H
   have c2b0 := decide_eq_true c2
   clear c2
   by_cases c3 : 0 ≤ x5_1
   rotate_left
   · rw [if_neg c3] at H
     exact absurd H (by simp)
   rw [if_pos c3] at H
   have c3b0 := decide_eq_true c3
   clear c3
   replace H := Option.bind_eq_some_iff.mp H
   obtain ⟨t247, A40, H⟩ := H
   replace H : (if t247 > 0 then (spec_l3Open.j1 k1 l0 x4_1 x5_1 t247 (decide (t247 < 4))) else (spec_l3Open.j1 k1 l0 x4_1 x5_1 t247 false)) = some (r1, r2) := H
   have A4 := am A40
   clear A40
   have HC5 := am H
   clear H
   have p246 : 0 ≤ (x5_1 : Int) := ofb
   have q246 : x5_1 < (l0.length : Int) := ofb
   obtain ⟨ad246, A246_0, c246_0, e246, hx246_0, hx246_1, hl246_0, hi246_0⟩ := at_T65 HR0.out x5_1 p246 q246
   cases e246
   replace hx246_0 := up HB.out hx246_0
   replace hx246_1 := up HB.out hx246_1
   have HR246_0 := am hi246_0
   have HC246_0 := am hl246_0
   clear hi246_0 hl246_0
   replace p246 := eq_true p246
   replace q246 := eq_true q246
   go_upto_region 6 with (first | (go_at_call 71; (with_reducible refine (spec_l2Clean.calls k1 _ _ ((rd_T65 l0 x5_1).f0) ((rd_T65 l0 x5_1).f1) t247 _ ?side1 ?side2 A4.out).mono ?_); (case side1 => exact pc (Kd.C_below HR246_0.out HB.out)); (case side2 => exact HC246_0.out); rintro e w6 ⟨rfl, hb⟩; replace HB := am (below_step (ph HB.out) hb); (try clear hb); (try clear hb2); (try clear hk); (try clear hi)))
   repeat (go_quiet (first | (go_at_call 71; (with_reducible refine (spec_l2Clean.calls k1 _ _ ((rd_T65 l0 x5_1).f0) ((rd_T65 l0 x5_1).f1) t247 _ ?side1 ?side2 A4.out).mono ?_); (case side1 => exact pc (Kd.C_below HR246_0.out HB.out)); (case side2 => exact HC246_0.out); rintro e w6 ⟨rfl, hb⟩; replace HB := am (below_step (ph HB.out) hb); (try clear hb); (try clear hb2); (try clear hk); (try clear hi))); go_upto_region 6 with (first | (go_at_call 71; (with_reducible refine (spec_l2Clean.calls k1 _ _ ((rd_T65 l0 x5_1).f0) ((rd_T65 l0 x5_1).f1) t247 _ ?side1 ?side2 A4.out).mono ?_); (case side1 => exact pc (Kd.C_below HR246_0.out HB.out)); (case side2 => exact HC246_0.out); rintro e w6 ⟨rfl, hb⟩; replace HB := am (below_step (ph HB.out) hb); (try clear hb); (try clear hb2); (try clear hk); (try clear hi))))
   (try simp only [Act.put, List.setIfInBounds_toArray, List.set_cons_zero, List.set_cons_succ])
   go_cut [23] (fun v23 wc => ∃ (kq : Nat) (x23_4 : Bool), v23 = .bool x23_4 ∧ Aside0 (spec_l3Open.j1 kq l0 x4_1 x5_1 t247 x23_4 = some (r1, r2)) ∧ Aside0 (kq ≤ k1) ∧ Aside0 (Below w.heap.size w wc))
   case first =>
    have H := HC5.out
    clear HC5
    by_cases c7 : t247 > 0
    rotate_left
    · rw [if_neg c7] at H
      have c7b0 := decide_eq_false c7
      clear c7
      (first | rw [c7b0] | (simp only [i64_w, i32_w]; rw [c7b0]) | skip)
      have H' := am H
      clear H
      go_wp2
      repeat (go_quiet (fail); try go_wp2)
      go_meet
      case rel => exact ⟨_, (false), rf, H', ⟨by have := HK1.out; first | omega | exact Nat.le_refl _⟩, ⟨ph HB.out⟩⟩
    rw [if_pos c7] at H
    have c7b0 := decide_eq_true c7
    clear c7
    (first | rw [c7b0] | (simp only [i64_w, i32_w]; rw [c7b0]) | skip)
    have H' := am H
    clear H
    go_wp2
    repeat (go_quiet (fail); try go_wp2)
    go_meet
    case rel => exact ⟨_, (decide (t247 < 4)), rf, H', ⟨by have := HK1.out; first | omega | exact Nat.le_refl _⟩, ⟨ph HB.out⟩⟩
   case rest =>
    clear HC5
    obtain ⟨kq, x23_4, rfl, HA, HJ4, HB⟩ := hcut
    cases kq with
    | zero => exact absurd HA.out (by simp [spec_l3Open.j1])
    | succ kj4 =>
     have H := HA.out
     clear HA
     simp only [spec_l3Open.j1] at H
     by_cases c8 : x23_4 = true
     · subst c8
       have H1 : (some (x5_1, true)) = some (r1, r2) := by rw [if_pos rfl] at H; exact H
       clear H
       have H := H1
       clear H1
       simp only [Option.some.injEq, Prod.mk.injEq] at H
       obtain ⟨rfl, rfl⟩ := H
       go_wp2
       repeat (go_quiet (fail); try go_wp2)
       go_ret2
       exact (rq (ph HB.out))
     replace c8 := Bool.eq_false_iff.mpr c8
     subst c8
     have H1 : (if t247 > 0 then (if x4_1 < 0 then (spec_l3Open.l0 kj4 l0 x5_1 (wrap64 (x5_1 + 1))) else (if 0 ≤ x5_1 then (if x5_1 < (l0.length : Int) then (if 0 ≤ x4_1 then (if x4_1 < (l0.length : Int) then (if ((rd_T65 l0 x5_1).f1) < ((rd_T65 l0 x4_1).f1) then (spec_l3Open.l0 kj4 l0 x5_1 (wrap64 (x5_1 + 1))) else (spec_l3Open.l0 kj4 l0 x4_1 (wrap64 (x5_1 + 1)))) else (none)) else (none)) else (none)) else (none))) else (spec_l3Open.l0 kj4 l0 x4_1 (wrap64 (x5_1 + 1)))) = some (r1, r2) := by rw [if_neg (show ¬ (false = true) by decide)] at H; exact H
     clear H
     have H := H1
     clear H1
     by_cases c9 : t247 > 0
     rotate_left
     · rw [if_neg c9] at H
       have c9b0 := decide_eq_false c9
       clear c9
       have H' := am H
       clear H
       go_wp2
       repeat (go_quiet (fail); try go_wp2)
       go_roundg kj4
       case measure => have := HK1.out; have := HJ4.out; omega
       case rel => exact ⟨(x4_1), (wrap64 (x5_1 + 1)), rf, rf, H', ⟨by have := HK1.out; have := HJ4.out; omega⟩, ⟨ph HB.out⟩⟩
     rw [if_pos c9] at H
     have c9b0 := decide_eq_true c9
     clear c9
     by_cases c10 : x4_1 < 0
     · rw [if_pos c10] at H
       have c10b0 := decide_eq_true c10
       clear c10
       have H' := am H
       clear H
       go_wp2
       repeat (go_quiet (fail); try go_wp2)
       go_roundg kj4
       case measure => have := HK1.out; have := HJ4.out; omega
       case rel => exact ⟨(x5_1), (wrap64 (x5_1 + 1)), rf, rf, H', ⟨by have := HK1.out; have := HJ4.out; omega⟩, ⟨ph HB.out⟩⟩
     rw [if_neg c10] at H
     have c10b0 := decide_eq_false c10
     clear c10
     by_cases c11 : 0 ≤ x5_1
     rotate_left
     · rw [if_neg c11] at H
       exact absurd H (by simp)
     rw [if_pos c11] at H
     have c11b0 := decide_eq_true c11
     clear c11
     by_cases c12 : x5_1 < (l0.length : Int)
     rotate_left
     · rw [if_neg c12] at H
       exact absurd H (by simp)
     rw [if_pos c12] at H
     have c12b0 := decide_eq_true c12
     clear c12
     by_cases c13 : 0 ≤ x4_1
     rotate_left
     · rw [if_neg c13] at H
       exact absurd H (by simp)
     rw [if_pos c13] at H
     have c13b0 := decide_eq_true c13
     clear c13
     by_cases c14 : x4_1 < (l0.length : Int)
     rotate_left
     · rw [if_neg c14] at H
       exact absurd H (by simp)
     rw [if_pos c14] at H
     have c14b0 := decide_eq_true c14
     clear c14
     by_cases c15 : ((rd_T65 l0 x5_1).f1) < ((rd_T65 l0 x4_1).f1)
     · rw [if_pos c15] at H
       have c15b0 := decide_eq_true c15
       clear c15
       have H' := am H
       clear H
       have p248 : 0 ≤ (x5_1 : Int) := ofb
       have q248 : x5_1 < (l0.length : Int) := ofb
       obtain ⟨ad248, A248_0, c248_0, e248, hx248_0, hx248_1, hl248_0, hi248_0⟩ := at_T65 HR0.out x5_1 p248 q248
       obtain rfl : ad246 = ad248 := (by injection e248)
       replace hx248_0 := up HB.out hx248_0
       replace hx248_1 := up HB.out hx248_1
       have HR248_0 := am hi248_0
       have HC248_0 := am hl248_0
       clear hi248_0 hl248_0
       replace p248 := eq_true p248
       replace q248 := eq_true q248
       have p249 : 0 ≤ (x4_1 : Int) := ofb
       have q249 : x4_1 < (l0.length : Int) := ofb
       obtain ⟨ad249, A249_0, c249_0, e249, hx249_0, hx249_1, hl249_0, hi249_0⟩ := at_T65 HR0.out x4_1 p249 q249
       obtain rfl : ad246 = ad249 := (by injection e249)
       replace hx249_0 := up HB.out hx249_0
       replace hx249_1 := up HB.out hx249_1
       have HR249_0 := am hi249_0
       have HC249_0 := am hl249_0
       clear hi249_0 hl249_0
       replace p249 := eq_true p249
       replace q249 := eq_true q249
       go_wp2
       repeat (go_quiet (fail); try go_wp2)
       go_roundg kj4
       case measure => have := HK1.out; have := HJ4.out; omega
       case rel => exact ⟨(x5_1), (wrap64 (x5_1 + 1)), rf, rf, H', ⟨by have := HK1.out; have := HJ4.out; omega⟩, ⟨ph HB.out⟩⟩
     rw [if_neg c15] at H
     have c15b0 := decide_eq_false c15
     clear c15
     have H' := am H
     clear H
     have p248 : 0 ≤ (x5_1 : Int) := ofb
     have q248 : x5_1 < (l0.length : Int) := ofb
     obtain ⟨ad248, A248_0, c248_0, e248, hx248_0, hx248_1, hl248_0, hi248_0⟩ := at_T65 HR0.out x5_1 p248 q248
     obtain rfl : ad246 = ad248 := (by injection e248)
     replace hx248_0 := up HB.out hx248_0
     replace hx248_1 := up HB.out hx248_1
     have HR248_0 := am hi248_0
     have HC248_0 := am hl248_0
     clear hi248_0 hl248_0
     replace p248 := eq_true p248
     replace q248 := eq_true q248
     have p249 : 0 ≤ (x4_1 : Int) := ofb
     have q249 : x4_1 < (l0.length : Int) := ofb
     obtain ⟨ad249, A249_0, c249_0, e249, hx249_0, hx249_1, hl249_0, hi249_0⟩ := at_T65 HR0.out x4_1 p249 q249
     obtain rfl : ad246 = ad249 := (by injection e249)
     replace hx249_0 := up HB.out hx249_0
     replace hx249_1 := up HB.out hx249_1
     have HR249_0 := am hi249_0
     have HC249_0 := am hl249_0
     clear hi249_0 hl249_0
     replace p249 := eq_true p249
     replace q249 := eq_true q249
     go_wp2
     repeat (go_quiet (fail); try go_wp2)
     go_roundg kj4
     case measure => have := HK1.out; have := HJ4.out; omega
     case rel => exact ⟨(x4_1), (wrap64 (x5_1 + 1)), rf, rf, H', ⟨by have := HK1.out; have := HJ4.out; omega⟩, ⟨ph HB.out⟩⟩
end Go.Proofs.Ytoedphbikgoapaa.Re
