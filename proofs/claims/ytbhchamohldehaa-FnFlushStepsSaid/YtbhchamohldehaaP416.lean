-- printed by wip/pp/pp.py
import Derived.Test.YtbhchamohldehaaP40
import Derived.Test.YtbhchamohldehaaP42
import Derived.Test.YtbhchamohldehaaP44
import Derived.Test.YtbhchamohldehaaP413
import Derived.Test.YtbhchamohldehaaP414
import Derived.Test.YtbhchamohldehaaP415
import Derived.RangeFuncNested
import Derived.RangeFuncBound
import Derived.RangeFuncCalls
import Derived.RangeFuncLeaves
import Derived.Shelf.Abstract
import Derived.WalkKit
import Derived.OwnWalkIn
import Derived.TacticsInMore
import Derived.LoopNIn
import Derived.LoopIn
import Derived.IntWalk
import Derived.Test.YtbhchamohldehaaWMap
import Derived.Maps.OwnOps
import Derived.Maps.Own
import Derived.Maps.OwnIn
import Derived.WalkArith
import Derived.Laws.MakeOwn
import Derived.Maps.AppendAt
import Derived.Test.YtbhchamohldehaaP412
namespace Go.Proofs.Ytbhchamohldehaa.P4
set_option maxHeartbeats 8000000
set_option maxRecDepth 100000
open Go.RowKit Go.Proofs.YtbhchamohldehaaW.PrintWords Go.Proofs.YtbhchamohldehaaW.PrintLast Go.Proofs.YtbhchamohldehaaW.PrintMore
attribute [local go_sem] max2_int min2_int max_two min_two max_three min_three max_four min_four
set_option linter.unusedVariables false
set_option linter.unusedSimpArgs false
def impl_StepsFlush.j0 : Nat → Int → Bool → List (S73) → List Int → Int → Int → Int → Int → Option ((List (S38)))
 | 0, _, _, _, _, _, _, _, _ => none
 | k + 1, x1, x24, x457000, x457001, x464000, x464001, x464002, x464003 => if x24 = true then (some ([] : List (S38))) else ((impl_stepsWrite.f k x457000 2 x1 x464003).bind fun t465 => (if (t465.length : Int) = 0 then (some ([] : List (S38))) else ((impl_diskStep.f x464000 x464001 x464002 x464003).bind fun bt468 => ((some (([(⟨bt468.1, bt468.2.1, bt468.2.2.1, bt468.2.2.2.1, (⟨bt468.2.2.2.2.1, bt468.2.2.2.2.2.1, bt468.2.2.2.2.2.2.1, bt468.2.2.2.2.2.2.2⟩ : S36)⟩ : S38)] : List (S38)) : List (S38))).bind fun y476 => (if y476.length + t465.length < 2199023255552 then (some (y476 ++ t465)) else (none))))))
def impl_StepsFlush.f (k : Nat) (l0_0 : List (S73)) (l0_1 : List Int) (a1 : Int) : Option ((List (S38))) := (impl_StoreOk.f l0_0 l0_1).bind fun t457 => (if t457 = true then ((impl_FindLast.f l0_0 a1).bind fun bt458 => (if bt458.2.2.2.2 = true then ((impl_Rec_isDirty.f bt458.1 bt458.2.1 bt458.2.2.1 bt458.2.2.2.1).bind fun t464 => (impl_StepsFlush.j0 k a1 (!t464) l0_0 l0_1 bt458.1 bt458.2.1 bt458.2.2.1 bt458.2.2.2.1)) else (impl_StepsFlush.j0 k a1 true l0_0 l0_1 bt458.1 bt458.2.1 bt458.2.2.1 bt458.2.2.2.1))) else (some ([] : List (S38))))
theorem impl_StepsFlush.calls (k : Nat) (A0_0 : Option Addr) (c0_0 : Nat) (l0_0 : List (S73)) (A0_1 : Option Addr) (c0_1 : Nat) (l0_1 : List Int) (a1 : Int) (r : List (S38)) (w : World) (hr0_0 : Kd.C k73 w A0_0 l0_0.length l0_0) (hc0_0 : l0_0.length ≤ c0_0) (hr0_1 : Kd.C (Kd.int .i64) w A0_1 l0_1.length l0_1) (hc0_1 : l0_1.length ≤ c0_1) (h : impl_StepsFlush.f k l0_0 l0_1 a1 = some r) :
 Calls Try.prog 5 #[.agg #[.slice A0_0 l0_0.length c0_0, .slice A0_1 l0_1.length c0_1], .int .i64 a1] w fun e w' => ∃ v0_ : Value, e = .returned (v0_) ∧ Kd.R k38 38 w' w.heap.size (fun _ => True) v0_ r ∧ Below w.heap.size w w' := by
 have hu26 := Try.underlying26
 have hu36 := Try.underlying36
 have HR0_0 := am hr0_0
 have HC0_0 := am hc0_0
 clear hr0_0 hc0_0
 have HR0_1 := am hr0_1
 have HC0_1 := am hc0_1
 clear hr0_1 hc0_1
 have HB := am (Below.refl w.heap.size w)
 have H : ((impl_StoreOk.f l0_0 l0_1).bind fun t457 => (if t457 = true then ((impl_FindLast.f l0_0 a1).bind fun bt458 => (if bt458.2.2.2.2 = true then ((impl_Rec_isDirty.f bt458.1 bt458.2.1 bt458.2.2.1 bt458.2.2.2.1).bind fun t464 => (impl_StepsFlush.j0 k a1 (!t464) l0_0 l0_1 bt458.1 bt458.2.1 bt458.2.2.1 bt458.2.2.2.1)) else (impl_StepsFlush.j0 k a1 true l0_0 l0_1 bt458.1 bt458.2.1 bt458.2.2.1 bt458.2.2.2.1))) else (some ([] : List (S38))))) = some r := h
 clear h
 replace H := Option.bind_eq_some_iff.mp H
 obtain ⟨t457, A30, H⟩ := H
 have A3 := am A30
 clear A30
 by_cases c4 : t457 = true
 rotate_left
 · replace c4 := Bool.eq_false_iff.mpr c4
   subst c4
   rw [if_neg (show ¬ (false = true) by decide)] at H
   obtain rfl := Option.some.inj H
   go_enter Try.func5, Try.ntmps5
   go_wp2_with (first | (refine bx 2 #[.slice A0_0 l0_0.length c0_0, .slice A0_1 l0_1.length c0_1] 26 rfl ?_; intro gb456 hg w40 hbox hb; have BK456 := am (hbox); have GW456 := am (ge hg (ph HB.out)); have GE456 := GW456; replace HB := am (below_step (ph HB.out) hb); clear hb hbox hg; obtain ⟨hcz41_0, hcz41_1⟩ := b2 BK456.out; obtain ⟨hfz41_0, hfz41_1⟩ := f2 BK456.out) | (refine gl 9 Try.func15 #[.agg #[.slice A0_0 l0_0.length c0_0, .slice A0_1 l0_1.length c0_1]] rfl ?_; (with_reducible refine (impl_StoreOk.calls _ _ l0_0 _ _ l0_1 false _ ?side1 ?side2 ?side3 ?side4 A3.out).mono ?_); (case side1 => exact pc (Kd.C_below HR0_0.out HB.out)); (case side2 => exact HC0_0.out); (case side3 => exact pc (Kd.C_below HR0_1.out HB.out)); (case side4 => exact HC0_1.out); rintro e w42 ⟨rfl, hb⟩; refine ⟨_, rfl, ?_⟩; replace BK456 := am (blk_below (pb BK456.out) hb); replace HB := am (below_step (bg1 HB.out GE456.out) hb); clear hb))
   go_ret
   exact ⟨_, rq ⟨by first | exact Kd.R_nil _ _ _ _ _ | exact Kd.N_nil _ _ _ _ _ | exact Kd.V_nil _ _ _ _ _ | exact Kd.Q_nil _ _ _ _ _ | exact Kd.S_nil _ _ _ _ _, bg1 HB.out GE456.out⟩⟩
 subst c4
 rw [if_pos rfl] at H
 replace H := Option.bind_eq_some_iff.mp H
 obtain ⟨⟨t458, t459, t460, t461, t462⟩, A50, H⟩ := H
 have A5 := am A50
 clear A50
 have HC6 := am H
 clear H
 go_enter Try.func5, Try.ntmps5
 go_upto_region 4 with (first | (refine bx 2 #[.slice A0_0 l0_0.length c0_0, .slice A0_1 l0_1.length c0_1] 26 rfl ?_; intro gb456 hg w7 hbox hb; have BK456 := am (hbox); have GW456 := am (ge hg (ph HB.out)); have GE456 := GW456; replace HB := am (below_step (ph HB.out) hb); clear hb hbox hg; obtain ⟨hcz8_0, hcz8_1⟩ := b2 BK456.out; obtain ⟨hfz8_0, hfz8_1⟩ := f2 BK456.out) | (refine gl 9 Try.func15 #[.agg #[.slice A0_0 l0_0.length c0_0, .slice A0_1 l0_1.length c0_1]] rfl ?_; (with_reducible refine (impl_StoreOk.calls _ _ l0_0 _ _ l0_1 true _ ?side1 ?side2 ?side3 ?side4 A3.out).mono ?_); (case side1 => exact pc (Kd.C_below HR0_0.out HB.out)); (case side2 => exact HC0_0.out); (case side3 => exact pc (Kd.C_below HR0_1.out HB.out)); (case side4 => exact HC0_1.out); rintro e w9 ⟨rfl, hb⟩; refine ⟨_, rfl, ?_⟩; replace BK456 := am (blk_below (pb BK456.out) hb); replace HB := am (below_step (bg1 HB.out GE456.out) hb); clear hb; obtain ⟨hcz10_0, hcz10_1⟩ := b2 BK456.out; obtain ⟨hfz10_0, hfz10_1⟩ := f2 BK456.out) | (refine gl 15 Try.func16 #[.slice A0_0 l0_0.length c0_0, .int .i64 a1] rfl ?_; (with_reducible refine (impl_FindLast.calls _ _ l0_0 a1 t458 t459 t460 t461 t462 _ ?side1 ?side2 A5.out).mono ?_); (case side1 => exact pc (Kd.C_below HR0_0.out HB.out)); (case side2 => exact HC0_0.out); rintro e w11 ⟨rfl, hb⟩; refine ⟨_, rfl, ?_⟩; replace BK456 := am (blk_below (pb BK456.out) hb); replace HB := am (below_step (bg1 HB.out GE456.out) hb); clear hb) | (refine bx 5 #[.int .i64 0, .int .i64 0, .int .i64 0, .int .i64 0] 36 rfl ?_; intro gb463 hg w12 hbox hb; have BK463 := am (hbox); have GW463 := am (ge hg (bg1 HB.out GE456.out)); have GE463 := GW463; replace HB := am (below_step (bg1 HB.out GE456.out) hb); have NB456_463 := am (nb hg (pb BK456.out)); have NB463_456 := am (Ne.symm NB456_463.out); replace BK456 := am (blk_below (pb BK456.out) hb); clear hb hbox hg; have hnb13 := NB463_456.out; have hnc13 := NB456_463.out; obtain ⟨hcz14_0, hcz14_1, hcz14_2, hcz14_3⟩ := b4 BK463.out; obtain ⟨hfz14_0, hfz14_1, hfz14_2, hfz14_3⟩ := f4 BK463.out))
 (try simp only [Act.put, List.setIfInBounds_toArray, List.set_cons_zero, List.set_cons_succ])
 go_cut [24] (fun v24 wc => ∃ (kq : Nat) (x24_5 : Bool), v24 = .bool x24_5 ∧ Aside0 (impl_StepsFlush.j0 kq a1 x24_5 l0_0 l0_1 t458 t459 t460 t461 = some r) ∧ Aside0 (kq ≤ k) ∧ Aside0 (wc.heap[gb456]? = some (.cells #[(.slice A0_0 l0_0.length c0_0), (.slice A0_1 l0_1.length c0_1)] 26 (0, 0))) ∧ Aside0 (wc.heap[gb463]? = some (.cells #[.int .i64 t458, .int .i64 t459, .int .i64 t460, .int .i64 t461] 36 (0, 0))) ∧ Aside0 (Below w.heap.size w wc))
 case first =>
  have H := HC6.out
  clear HC6
  by_cases c15 : t462 = true
  rotate_left
  · replace c15 := Bool.eq_false_iff.mpr c15
    subst c15
    rw [if_neg (show ¬ (false = true) by decide)] at H
    have H' := am H
    clear H
    go_wp2
    go_meet
    case rel => exact ⟨_, (true), rf, H', ⟨by first | omega | exact Nat.le_refl _⟩, ⟨bf4 (pb BK456.out) NB456_463.out⟩, ⟨bp4 (pb BK463.out)⟩, ⟨bg2 HB.out GE456.out GE463.out⟩⟩
  subst c15
  rw [if_pos rfl] at H
  replace H := Option.bind_eq_some_iff.mp H
  obtain ⟨t464, A160, H⟩ := H
  have A16 := am A160
  clear A160
  have H' := am H
  clear H
  have hnb17 := NB463_456.out
  have hnc17 := NB456_463.out
  obtain ⟨hcz18_0, hcz18_1, hcz18_2, hcz18_3⟩ := b4 BK463.out
  obtain ⟨hfz18_0, hfz18_1, hfz18_2, hfz18_3⟩ := f4 BK463.out
  go_wp2_with (first | (go_at_call 17; (with_reducible refine (impl_Rec_isDirty.calls t458 t459 t460 t461 t464 _ A16.out).mono ?_); rintro e w19 ⟨rfl, hb⟩; replace BK456 := am (blk_below (bf4 (pb BK456.out) NB456_463.out) hb); replace BK463 := am (blk_below (bp4 (pb BK463.out)) hb); replace HB := am (below_step (bg2 HB.out GE456.out GE463.out) hb); clear hb))
  go_meet
  case rel => exact ⟨_, (!t464), rf, H', ⟨by first | omega | exact Nat.le_refl _⟩, ⟨pb BK456.out⟩, ⟨pb BK463.out⟩, ⟨bg2 HB.out GE456.out GE463.out⟩⟩
 case rest =>
  clear HC6
  obtain ⟨kq, x24_5, rfl, HA, HJ5, BK456, BK463, HB⟩ := hcut
  cases kq with
  | zero => exact absurd HA.out (by simp [impl_StepsFlush.j0])
  | succ kj5 =>
   have H := HA.out
   clear HA
   simp only [impl_StepsFlush.j0] at H
   by_cases c20 : x24_5 = true
   · subst c20
     rw [if_pos rfl] at H
     obtain rfl := Option.some.inj H
     go_wp2
     go_ret
     exact ⟨_, rq ⟨by first | exact Kd.R_nil _ _ _ _ _ | exact Kd.N_nil _ _ _ _ _ | exact Kd.V_nil _ _ _ _ _ | exact Kd.Q_nil _ _ _ _ _ | exact Kd.S_nil _ _ _ _ _, bg2 HB.out GE456.out GE463.out⟩⟩
   replace c20 := Bool.eq_false_iff.mpr c20
   subst c20
   rw [if_neg (show ¬ (false = true) by decide)] at H
   replace H := Option.bind_eq_some_iff.mp H
   obtain ⟨t465, A210, H⟩ := H
   have A21 := am A210
   clear A210
   by_cases c22 : (t465.length : Int) = 0
   · rw [if_pos c22] at H
     have c22b0 : ((t465.length : Int) == 0) = true := beq_iff_eq.mpr c22
     have c22b1 : ((t465.length : Int) != 0) = false := bne_eq_false_iff_eq.mpr c22
     clear c22
     obtain rfl := Option.some.inj H
     have hnb23 := NB456_463.out
     have hnc23 := NB463_456.out
     obtain ⟨hcz24_0, hcz24_1⟩ := b2 BK456.out
     obtain ⟨hfz24_0, hfz24_1⟩ := f2 BK456.out
     obtain ⟨hcz25_0, hcz25_1, hcz25_2, hcz25_3⟩ := b4 BK463.out
     obtain ⟨hfz25_0, hfz25_1, hfz25_2, hfz25_3⟩ := f4 BK463.out
     go_wp2_with (first | (refine gl 30 Try.func18 #[.slice A0_0 l0_0.length c0_0, .int .i64 2, .int .i64 a1, .int .i64 t461] rfl ?_; (with_reducible refine (impl_stepsWrite.calls kj5 _ _ l0_0 2 a1 t461 t465 _ ?side1 ?side2 A21.out).mono ?_); (case side1 => exact pc (Kd.C_below HR0_0.out HB.out)); (case side2 => exact HC0_0.out); rintro e w26 ⟨v466, rfl, ho0, hb⟩; refine ⟨_, rfl, ?_⟩; have HO467 := am (Kd.R_lower ho0 (below_size (bg2 HB.out GE456.out GE463.out))); replace BK456 := am (blk_below (pb BK456.out) hb); replace BK463 := am (blk_below (pb BK463.out) hb); replace HB := am (below_step (bg2 HB.out GE456.out GE463.out) hb); clear hb ho0; obtain ⟨Ao27, co27, eo27⟩ := Kd.R_slice HO467.out; subst eo27))
     go_ret
     exact ⟨_, rq ⟨by first | exact Kd.R_nil _ _ _ _ _ | exact Kd.N_nil _ _ _ _ _ | exact Kd.V_nil _ _ _ _ _ | exact Kd.Q_nil _ _ _ _ _ | exact Kd.S_nil _ _ _ _ _, bg2 HB.out GE456.out GE463.out⟩⟩
   rw [if_neg c22] at H
   have c22b0 : ((t465.length : Int) == 0) = false := beq_eq_false_iff_ne.mpr c22
   have c22b1 : ((t465.length : Int) != 0) = true := bne_iff_ne.mpr c22
   have c22b2 : ¬ (t465 = []) := fun h_ => c22 (by rw [h_]; rfl)
   replace H := Option.bind_eq_some_iff.mp H
   obtain ⟨⟨t468, t469, t470, t471, t472, t473, t474, t475⟩, A280, H⟩ := H
   have A28 := am A280
   clear A280
   obtain ⟨y476, hy476⟩ : ∃ y_ : List (S38), y_ = (([(⟨t468, t469, t470, t471, (⟨t472, t473, t474, t475⟩ : S36)⟩ : S38)] : List (S38))) := ⟨_, rfl⟩
   replace H : (if y476.length + t465.length < 2199023255552 then (some (y476 ++ t465)) else (none)) = some r := yy hy476 H
   have Ny476 := am hy476
   clear hy476
   by_cases c29 : y476.length + t465.length < 2199023255552
   rotate_left
   · rw [if_neg c29] at H
     exact absurd H (by simp)
   rw [if_pos c29] at H
   have LMc29 := am c29
   clear c29
   obtain ⟨y479, hy479⟩ : ∃ y_ : List (S38), y_ = (y476 ++ t465) := ⟨_, rfl⟩
   replace H : (some y479) = some r := yy hy479 H
   have Ny479 := am hy479
   clear hy479
   obtain rfl := Option.some.inj H
   have hnb30 := NB456_463.out
   have hnc30 := NB463_456.out
   obtain ⟨hcz31_0, hcz31_1⟩ := b2 BK456.out
   obtain ⟨hfz31_0, hfz31_1⟩ := f2 BK456.out
   obtain ⟨hcz32_0, hcz32_1, hcz32_2, hcz32_3⟩ := b4 BK463.out
   obtain ⟨hfz32_0, hfz32_1, hfz32_2, hfz32_3⟩ := f4 BK463.out
   go_wp2_with (first | (refine gl 30 Try.func18 #[.slice A0_0 l0_0.length c0_0, .int .i64 2, .int .i64 a1, .int .i64 t461] rfl ?_; (with_reducible refine (impl_stepsWrite.calls kj5 _ _ l0_0 2 a1 t461 t465 _ ?side1 ?side2 A21.out).mono ?_); (case side1 => exact pc (Kd.C_below HR0_0.out HB.out)); (case side2 => exact HC0_0.out); rintro e w33 ⟨v466, rfl, ho0, hb⟩; refine ⟨_, rfl, ?_⟩; have HO467 := am (Kd.R_lower ho0 (below_size (bg2 HB.out GE456.out GE463.out))); replace BK456 := am (blk_below (pb BK456.out) hb); replace BK463 := am (blk_below (pb BK463.out) hb); replace HB := am (below_step (bg2 HB.out GE456.out GE463.out) hb); clear hb ho0; obtain ⟨Ao34, co34, eo34⟩ := Kd.R_slice HO467.out; subst eo34; obtain ⟨hcz35_0, hcz35_1, hcz35_2, hcz35_3⟩ := b4 BK463.out; obtain ⟨hfz35_0, hfz35_1, hfz35_2, hfz35_3⟩ := f4 BK463.out) | (refine gl 35 Try.func19 #[.agg #[.int .i64 t458, .int .i64 t459, .int .i64 t460, .int .i64 t461]] rfl ?_; (with_reducible refine (impl_diskStep.calls t458 t459 t460 t461 t468 t469 t470 t471 t472 t473 t474 t475 _ A28.out).mono ?_); rintro e w36 ⟨rfl, hb⟩; refine ⟨_, rfl, ?_⟩; replace HO467 := am (Kd.R_below (pr HO467.out) hb); replace BK456 := am (blk_below (pb BK456.out) hb); replace BK463 := am (blk_below (pb BK463.out) hb); replace HB := am (below_step (bg2 HB.out GE456.out GE463.out) hb); clear hb) | ((with_reducible refine gate_dst (N := 36) rfl ?_); refine Kd.R_lit k38 _ 38 ?hg (N := 36) ?hd (xs := ([(⟨t468, t469, t470, t471, (⟨t472, t473, t474, t475⟩ : S36)⟩ : S38)] : List (S38))) (inner := [.int .i64 t468, .int .i64 t469, .int .i64 t470, .int .i64 t471, .int .i64 t472, .int .i64 t473, .int .i64 t474, .int .i64 t475]) (ok := fun _ => True) (okp := fun _ => True) ?hr ?hp (fun _ hk => hk) trivial (Below.refl _ _) (Nat.le_refl _) (by simp) ?_; (case hd => rfl); (case hg => rfl); (case hr => first | (go_simp; done) | (go_simp; rfl)); (case hp => exact (Reps.c8 (show Kd.M k38 _ _ _ (⟨t468, t469, t470, t471, (⟨t472, t473, t474, t475⟩ : S36)⟩ : S38) [.int .i64 t468, .int .i64 t469, .int .i64 t470, .int .i64 t471, .int .i64 t472, .int .i64 t473, .int .i64 t474, .int .i64 t475] from (k38_mkM _ _ _ (⟨t468, t469, t470, t471, (⟨t472, t473, t474, t475⟩ : S36)⟩ : S38) )) (Reps.none _ _))); intro v477 w37 ho38 hb hg_ hnew_; clear hg_ hnew_; (first | rw [← Ny476.out] at ho38 | (simp only [Int.reduceToNat] at ho38; rw [← Ny476.out] at ho38)); have HO478 := am (Kd.R_lower (Kd.R_new' ho38 (Kd.R_lt (pr HO467.out))) (below_size (bg2 HB.out GE456.out GE463.out))); replace HO467 := am (Kd.R_elder' (pr HO467.out) (Kd.R_base ho38) hb); replace BK456 := am (blk_below (pb BK456.out) hb); replace BK463 := am (blk_below (pb BK463.out) hb); replace HB := am (below_step (bg2 HB.out GE456.out GE463.out) hb); clear hb ho38) | ((with_reducible refine gate_builtin (b := .append) (xs := #[.tmp 36, .tmp 37]) rfl ?_); at_builtin; refine Kd.R_append_rows k38 (w0 := w) w.heap.size rfl (.tmp 36) (.tmp 37) 29 38 (.agg #[(.int .i64 0), (.int .i64 0), (.int .i64 0), (.int .i64 0), (.int .i64 0), (.int .i64 0), (.int .i64 0), (.int .i64 0)]) 64 rfl Try.underlying29 info38 rfl (by decide) (by omega) v477 y476 t465 _ _ _ (fun k_ => some k_ ≠ (.slice Ao34 t465.length co34 : Value).ownBlock) (fun _ => False) rfl rfl ?aO ?aR (fun _ _ h => h) (fun _ h => h.elim) ?aF ?aB ?aS ?aL ?_; (case aR => exact pc ((Kd.R_reads' HO467.out).2.2)); (case aB => exact (bg2 HB.out GE456.out GE463.out)); (case aF => exact (fun k_ hk => Kd.fresh' (Kd.R_lt (pr HO467.out)) k_ hk)); (case aO => exact (pr (Kd.R_mono HO478.out (fun _ hk => hk.2)))); (case aS => exact (below_size (bg2 HB.out GE456.out GE463.out))); (case aL => have := LMc29.out; omega); intro v480 w39 ho hb hg hat; rw [← Ny479.out] at ho; replace BK456 := am (blk_grown (g := gb456) (o := .cells #[.slice A0_0 l0_0.length c0_0, .slice A0_1 l0_1.length c0_1] 26 (0, 0)) (pb BK456.out) hg (Kd.R_ne HO478.out BK456.out (by decide))); replace BK463 := am (blk_grown (g := gb463) (o := .cells #[.int .i64 t458, .int .i64 t459, .int .i64 t460, .int .i64 t461] 36 (0, 0)) (pb BK463.out) hg (Kd.R_ne HO478.out BK463.out (by decide))); replace HO467 := am (Kd.R_after (ok := (fun _ => True)) (pr HO467.out) hg hat); replace HB := am (hb); have HO481 := am (ho); clear HO478; clear ho hb hg hat))
   go_ret
   exact ⟨_, rq ⟨pr (Kd.R_mono HO481.out (fun _ hk => trivial)), bg2 HB.out GE456.out GE463.out⟩⟩
def spec_StepsFlush.f (k : Nat) (l0_0 : List (S73)) (l0_1 : List Int) (a1 : Int) : Option ((List (S38))) := (spec_StoreOk.f k l0_0 l0_1).bind fun t483 => (if t483 = true then ((spec_l12Flush.f k l0_0 l0_1 a1).bind fun t484 => (some t484)) else (some (([] : List (S38)))))
theorem spec_StepsFlush.calls (k : Nat) (A0_0 : Option Addr) (c0_0 : Nat) (l0_0 : List (S73)) (A0_1 : Option Addr) (c0_1 : Nat) (l0_1 : List Int) (a1 : Int) (r : List (S38)) (w : World) (hr0_0 : Kd.C k73 w A0_0 l0_0.length l0_0) (hc0_0 : l0_0.length ≤ c0_0) (hr0_1 : Kd.C (Kd.int .i64) w A0_1 l0_1.length l0_1) (hc0_1 : l0_1.length ≤ c0_1) (h : spec_StepsFlush.f k l0_0 l0_1 a1 = some r) :
 Calls Try.prog 6 #[.agg #[.slice A0_0 l0_0.length c0_0, .slice A0_1 l0_1.length c0_1], .int .i64 a1] w fun e w' => ∃ v0_ : Value, e = .returned (v0_) ∧ Kd.R k38 38 w' w.heap.size (fun _ => True) v0_ r ∧ Below w.heap.size w w' := by
 have hu26 := Try.underlying26
 have HR0_0 := am hr0_0
 have HC0_0 := am hc0_0
 clear hr0_0 hc0_0
 have HR0_1 := am hr0_1
 have HC0_1 := am hc0_1
 clear hr0_1 hc0_1
 have HB := am (Below.refl w.heap.size w)
 have H : ((spec_StoreOk.f k l0_0 l0_1).bind fun t483 => (if t483 = true then ((spec_l12Flush.f k l0_0 l0_1 a1).bind fun t484 => (some t484)) else (some (([] : List (S38)))))) = some r := h
 clear h
 replace H := Option.bind_eq_some_iff.mp H
 obtain ⟨t483, A30, H⟩ := H
 have A3 := am A30
 clear A30
 by_cases c4 : t483 = true
 rotate_left
 · replace c4 := Bool.eq_false_iff.mpr c4
   subst c4
   rw [if_neg (show ¬ (false = true) by decide)] at H
   obtain ⟨y487, hy487⟩ : ∃ y_ : List (S38), y_ = (([] : List (S38))) := ⟨_, rfl⟩
   replace H : (some y487) = some r := yy hy487 H
   have Ny487 := am hy487
   clear hy487
   obtain rfl := Option.some.inj H
   go_enter Try.func6, Try.ntmps6
   go_wp2_with (first | (refine bx 2 #[.slice A0_0 l0_0.length c0_0, .slice A0_1 l0_1.length c0_1] 26 rfl ?_; intro gb482 hg w11 hbox hb; have BK482 := am (hbox); have GW482 := am (ge hg (ph HB.out)); have GE482 := GW482; replace HB := am (below_step (ph HB.out) hb); clear hb hbox hg; obtain ⟨hcz12_0, hcz12_1⟩ := b2 BK482.out; obtain ⟨hfz12_0, hfz12_1⟩ := f2 BK482.out) | (refine gl 6 Try.func7 #[.agg #[.slice A0_0 l0_0.length c0_0, .slice A0_1 l0_1.length c0_1]] rfl ?_; (with_reducible refine (spec_StoreOk.calls k _ _ l0_0 _ _ l0_1 false _ ?side1 ?side2 ?side3 ?side4 A3.out).mono ?_); (case side1 => exact pc (Kd.C_below HR0_0.out HB.out)); (case side2 => exact HC0_0.out); (case side3 => exact pc (Kd.C_below HR0_1.out HB.out)); (case side4 => exact HC0_1.out); rintro e w13 ⟨rfl, hb⟩; refine ⟨_, rfl, ?_⟩; replace BK482 := am (blk_below (pb BK482.out) hb); replace HB := am (below_step (bg1 HB.out GE482.out) hb); clear hb) | ((with_reducible refine gate_dst (N := 8) rfl ?_); refine Kd.R_lit k38 _ 38 ?hg (N := 8) ?hd (xs := ([] : List (S38))) (inner := []) (ok := fun _ => True) (okp := fun _ => True) ?hr ?hp (fun _ hk => hk) trivial (Below.refl _ _) (Nat.le_refl _) (by simp) ?_; (case hd => rfl); (case hg => rfl); (case hr => first | (go_simp; done) | (go_simp; rfl)); (case hp => exact (Reps.none _ _)); intro v488 w14 ho15 hb hg_ hnew_; clear hg_ hnew_; (first | rw [← Ny487.out] at ho15 | (simp only [Int.reduceToNat] at ho15; rw [← Ny487.out] at ho15)); have HO489 := am (Kd.R_lower ho15 (below_size (bg1 HB.out GE482.out))); replace BK482 := am (blk_below (pb BK482.out) hb); replace HB := am (below_step (bg1 HB.out GE482.out) hb); clear hb ho15))
   go_ret
   exact ⟨_, rq ⟨pr HO489.out, bg1 HB.out GE482.out⟩⟩
 subst c4
 rw [if_pos rfl] at H
 replace H := Option.bind_eq_some_iff.mp H
 obtain ⟨t484, A50, H⟩ := H
 have A5 := am A50
 clear A50
 obtain rfl := Option.some.inj H
 go_enter Try.func6, Try.ntmps6
 go_wp2_with (first | (refine bx 2 #[.slice A0_0 l0_0.length c0_0, .slice A0_1 l0_1.length c0_1] 26 rfl ?_; intro gb482 hg w6 hbox hb; have BK482 := am (hbox); have GW482 := am (ge hg (ph HB.out)); have GE482 := GW482; replace HB := am (below_step (ph HB.out) hb); clear hb hbox hg; obtain ⟨hcz7_0, hcz7_1⟩ := b2 BK482.out; obtain ⟨hfz7_0, hfz7_1⟩ := f2 BK482.out) | (refine gl 6 Try.func7 #[.agg #[.slice A0_0 l0_0.length c0_0, .slice A0_1 l0_1.length c0_1]] rfl ?_; (with_reducible refine (spec_StoreOk.calls k _ _ l0_0 _ _ l0_1 true _ ?side1 ?side2 ?side3 ?side4 A3.out).mono ?_); (case side1 => exact pc (Kd.C_below HR0_0.out HB.out)); (case side2 => exact HC0_0.out); (case side3 => exact pc (Kd.C_below HR0_1.out HB.out)); (case side4 => exact HC0_1.out); rintro e w8 ⟨rfl, hb⟩; refine ⟨_, rfl, ?_⟩; replace BK482 := am (blk_below (pb BK482.out) hb); replace HB := am (below_step (bg1 HB.out GE482.out) hb); clear hb; obtain ⟨hcz9_0, hcz9_1⟩ := b2 BK482.out; obtain ⟨hfz9_0, hfz9_1⟩ := f2 BK482.out) | (refine gl 11 Try.func20 #[.agg #[.slice A0_0 l0_0.length c0_0, .slice A0_1 l0_1.length c0_1], .int .i64 a1] rfl ?_; (with_reducible refine (spec_l12Flush.calls k _ _ l0_0 _ _ l0_1 a1 t484 _ ?side1 ?side2 ?side3 ?side4 A5.out).mono ?_); (case side1 => exact pc (Kd.C_below HR0_0.out HB.out)); (case side2 => exact HC0_0.out); (case side3 => exact pc (Kd.C_below HR0_1.out HB.out)); (case side4 => exact HC0_1.out); rintro e w10 ⟨v485, rfl, ho0, hb⟩; refine ⟨_, rfl, ?_⟩; have HO486 := am (Kd.R_lower ho0 (below_size (bg1 HB.out GE482.out))); replace BK482 := am (blk_below (pb BK482.out) hb); replace HB := am (below_step (bg1 HB.out GE482.out) hb); clear hb ho0))
 go_ret
 exact ⟨_, rq ⟨pr HO486.out, bg1 HB.out GE482.out⟩⟩
open Go.Proofs.YtbhchamohldehaaW
attribute [local go_sem] Oper.semAt_some
def dirtyN (M : RecMap) : Nat → List Int
 | 0 => []
 | n + 1 => dirtyN M n ++ (match M ((n : Int) + 1) with
  | some r => if r.1 = 1 then [(n : Int) + 1] else []
  | none => [])
theorem dirtyN_len (M : RecMap) : ∀ n, (dirtyN M n).length ≤ n
 | 0 => Nat.le_refl _
 | n + 1 => by
  have := dirtyN_len M n
  rw [dirtyN, List.length_append]
  split
  · split <;> simp <;> omega
  · simp; omega
def dirtyV (l0 : List S73) (l1 : List Int) : List Int := if storeOkB l0 l1 = true then dirtyN (lastMap l0) 6 else []
def impl_StoreDirty.f (l0_0 : List (S73)) (l0_1 : List Int) : Option (List Int) := some (dirtyV l0_0 l0_1)
theorem impl_StoreDirty.calls (A0_0 : Option Addr) (c0_0 : Nat) (l0_0 : List (S73)) (A0_1 : Option Addr) (c0_1 : Nat) (l0_1 : List Int) (r : List Int) (w : World) (hr0_0 : Kd.C k73 w A0_0 l0_0.length l0_0) (hc0_0 : l0_0.length ≤ c0_0) (hr0_1 : Kd.C (Kd.int .i64) w A0_1 l0_1.length l0_1) (hc0_1 : l0_1.length ≤ c0_1) (h : impl_StoreDirty.f l0_0 l0_1 = some r) :
 Calls Try.prog 8 #[.agg #[.slice A0_0 l0_0.length c0_0, .slice A0_1 l0_1.length c0_1]] w fun e w' => ∃ v0_ : Value, e = .returned v0_ ∧ Kd.R (Kd.int .i64) 3 w' w.heap.size (fun _ => True) v0_ r ∧ Below w.heap.size w w' := by
 obtain rfl := Option.some.inj h
 clear h
 refine (callsIn_wide (n := 3)).1 ?_
 have hu := Try.underlying26
 have hu2 := Try.underlying36
 have hinfo : (Try.prog.info? 3).map (fun i => (i.zero, i.size, i.bytes)) = some (some (.int .i64 0), 1, 8) := by kernel_rfl
 obtain ⟨i0, hi0, hzz⟩ := Option.map_eq_some_iff.1 hinfo
 simp only [Prod.mk.injEq] at hzz
 obtain ⟨hz0, hz1, hz2⟩ := hzz
 have hso : ∀ W, Below w.heap.size w W → CallsIn Fence.wide 2 Try.prog 15 #[.agg #[.slice A0_0 l0_0.length c0_0, .slice A0_1 l0_1.length c0_1]] W fun e w' => e = .returned (.bool (storeOkB l0_0 l0_1)) ∧ Below W.heap.size W w' := fun W hb => callsIn_wide.2 (impl_StoreOk.calls A0_0 c0_0 l0_0 A0_1 c0_1 l0_1 _ W (Kd.C_below hr0_0 hb) hc0_0 (Kd.C_below hr0_1 hb) hc0_1 rfl)
 have hbox := blk_new w (.cells #[.slice A0_0 l0_0.length c0_0, .slice A0_1 l0_1.length c0_1] 26)
 have hB1 := below_alloc (Below.refl _ w) (.cells #[.slice A0_0 l0_0.length c0_0, .slice A0_1 l0_1.length c0_1] 26)
 unfold dirtyV
 cases hs : storeOkB l0_0 l0_1 with
 | false =>
  rw [hs] at hso
  rw [if_neg (by simp)]
  refine callsIn_of_wp Try.func8 rfl trivial ?_ rfl
  simp only [Try.ntmps8, List.size_toArray, List.length_cons, List.length_nil, Nat.reduceAdd, Nat.reduceSub, Array.replicate_succ, Array.replicate_zero, List.push_toArray, List.append_toArray, List.nil_append, List.cons_append]
  gi_wp2_with (first | (refine ⟨trivial, ?_⟩; gi_at_call 15; refine (hso _ hB1).mono ?_; rintro e w1 ⟨rfl, hb⟩; have hbox1 := blk_below hbox hb; have hB2 := below_then hB1 hB1.size hb; have hq0 : w1.cell? ⟨w.heap.size, 0, none⟩ = some (.slice A0_0 l0_0.length c0_0) := (blk_cell hbox1 0).trans rfl))
  go_ret
  exact ⟨_, rfl, Kd.R_nil _ _ _ _ _, hB2⟩
 | true =>
  rw [hs] at hso
  rw [if_pos rfl]
  have hl : l0_1.length = 6 ∧ orderI l0_0 = true := by
   unfold storeOkB at hs
   rw [Bool.and_eq_true, Bool.and_eq_true, decide_eq_true_eq] at hs
   exact ⟨by omega, hs.2.1⟩
  have hf := order_flash hl.2
  have hl := hl.1
  have hlr : ∀ W, Below w.heap.size w W → CallsIn Fence.wide 2 Try.prog 24 #[.slice A0_0 l0_0.length c0_0] W fun e w' => ∃ B n, e = .returned (.map (some B)) ∧ RecsIs Try.prog 3 w' B n (lastMap l0_0) ∧ W.heap.size ≤ B ∧ Below W.heap.size W w' := fun W hb => callsIn_wide.2 (lastRecords_any A0_0 c0_0 l0_0 W (Kd.C_below hr0_0 hb) hf)
  generalize lastMap l0_0 = M at hlr ⊢
  rw [hl] at hbox hB1 hso ⊢
  refine callsIn_of_wp Try.func8 rfl trivial ?_ rfl
  simp only [Try.ntmps8, List.size_toArray, List.length_cons, List.length_nil, Nat.reduceAdd, Nat.reduceSub, Array.replicate_succ, Array.replicate_zero, List.push_toArray, List.append_toArray, List.nil_append, List.cons_append]
  gi_wp2_with (first | (refine ⟨trivial, ?_⟩; gi_at_call 15; refine (hso _ hB1).mono ?_; rintro e w1 ⟨rfl, hb⟩; have hbox1 := blk_below hbox hb; have hB2 := below_then hB1 hB1.size hb; have hq0 : w1.cell? ⟨w.heap.size, 0, none⟩ = some (.slice A0_0 l0_0.length c0_0) := (blk_cell hbox1 0).trans rfl) | (refine ⟨trivial, ?_⟩; gi_at_call 24; refine (hlr _ hB2).mono ?_; rintro e w2 ⟨B, n, rfl, hm, hBq, hb2⟩; have hB3 := below_then hB2 hB2.size hb2; have hbox2 := blk_below hbox1 hb2; have hlt2 := blk_lt hbox2; have hq1 : w2.cell? ⟨w.heap.size, 1, none⟩ = some (.slice A0_1 6 c0_1) := (blk_cell hbox2 1).trans rfl))
  clear hso hlr
  gi_loopw [6, 5] (fun v6 v5 wr => ∃ i : Nat, v6 = .int .i64 ((i : Int) + 1) ∧ i ≤ 6 ∧ Aside0 (wr.ownsRow w.heap.size 3 1 v5 (dirtyN M i).length (encs (Value.int .i64) (dirtyN M i))) ∧ Aside0 (v5.ownBlock ≠ some B) ∧ Aside0 (RecsIs Try.prog 3 wr B n M) ∧ Aside0 (Below w.heap.size w wr)) (fun v6 _ _ => 7 - (intOf v6).toNat)
  case atStart => exact ⟨0, rfl, by omega, ⟨own_nil _ _ _ _⟩, ⟨by simp [Value.ownBlock]⟩, ⟨hm⟩, ⟨hB3⟩⟩
  case round =>
   clear hB3 hB2 hB1 hbox hbox1 hbox2 hq0 hq1 hm
   obtain ⟨i, rfl, hi, hv, hvB, hm, hB⟩ := hrel
   by_cases ci : i < 6
   rotate_left
   · obtain rfl : i = 6 := by omega
     gi_wp2
     go_ret
     exact ⟨_, rfl, Kd.R_of_own (enc := Value.int .i64) (h1 := fun _ => rfl) hv.out (fun _ _ => trivial), hB.out⟩
   have cib : decide ((i : Int) + 1 ≤ 6) = true := decide_eq_true (by omega)
   have hwf : (Lit.int .i64 ((i : Int) + 1)).wf = true := WalkArith.wf_i64 ⟨by omega, by omega⟩
   have hlk := hm.out.look_ok (T := 51) (E := 36) Try.underlying3 Try.underlying51 (by go_simp; rfl) hwf
   have hst : dirtyN M (i + 1) = dirtyN M i ++ (match M ((i : Int) + 1) with
    | some r => if r.1 = 1 then [(i : Int) + 1] else []
    | none => []) := rfl
   have hlen := dirtyN_len M i
   cases hM : M ((i : Int) + 1) with
   | none =>
    rw [hM] at hlk hst
    simp only [Option.getD_none, Option.isSome_none, recVal] at hlk
    have HS : Aside0 (dirtyN M (i + 1) = dirtyN M i) := ⟨by rw [hst]; simp⟩
    clear hst hwf
    gi_wp2
    refine ⟨fun _ h => (by cases h), ?_⟩
    gi_wp2
    exact ⟨⟨i + 1, by simp, by omega, ⟨by rw [HS.out]; exact pw_own_below hv.out (below_alloc (Below.refl _ wr) _)⟩, hvB, ⟨hm.out.alloc _⟩, ⟨below_alloc hB.out _⟩⟩, by simp [intOf]; omega⟩
   | some q =>
    obtain ⟨qa, qb, qc, qd⟩ := q
    rw [hM] at hlk hst
    simp only [Option.getD_some, Option.isSome_some, recVal] at hlk
    dsimp only at hst
    have hdi := isDirty_any qa qb qc qd
    by_cases k1 : qa = 1
    rotate_left
    · have k1b : (qa == 1) = false := by simp [k1]
      have HS : Aside0 (dirtyN M (i + 1) = dirtyN M i) := ⟨by rw [hst, if_neg k1, List.append_nil]⟩
      rw [k1b] at hdi
      clear hst hwf
      gi_wp2_with (first | (refine ⟨trivial, ?_⟩; gi_at_call 17; refine (hdi _).mono ?_; rintro e w3 ⟨rfl, rfl⟩))
      exact ⟨⟨i + 1, by simp, by omega, ⟨by rw [HS.out]; exact pw_own_below hv.out (below_alloc (below_alloc (Below.refl _ wr) _) _)⟩, hvB, ⟨(hm.out.alloc _).alloc _⟩, ⟨below_alloc (below_alloc hB.out _) _⟩⟩, by simp [intOf]; omega⟩
    subst k1
    have HS : Aside0 (dirtyN M (i + 1) = dirtyN M i ++ [(i : Int) + 1]) := ⟨by rw [hst, if_pos rfl]⟩
    rw [show ((1 : Int) == 1) = true from rfl] at hdi
    clear hst hwf
    have hBlt := hm.out.lt
    have hcn := cell_one_new ((wr.alloc (.cells #[.int .i64 1, .int .i64 qb, .int .i64 qc, .int .i64 qd] 36)).alloc (.cells #[.int .i64 1, .int .i64 qb, .int .i64 qc, .int .i64 qd] 36)) (.int .i64 ((i : Int) + 1)) 3
    simp only [World.size_alloc] at hcn
    replace hcn := am hcn
    have hBs := am (show w.heap.size ≤ wr.heap.size + 1 + 1 + 1 by have := hB.out.size; omega)
    gi_wp2_with (first | (refine ⟨trivial, ?_⟩; gi_at_call 17; refine (hdi _).mono ?_; rintro e w3 ⟨rfl, rfl⟩) | (gi_at_builtin; refine wpListIn_append_own_at _ rfl _ _ 24 rfl w.heap.size 3 i0 (.int .i64 0) 1 8 Try.underlying24 hi0 hz0 hz1 hz2 rfl (by decide) _ _ _ rfl (pw_own_below hv.out (below_alloc (below_alloc (below_alloc (Below.refl _ wr) _) _) _)) ⟨wr.heap.size + 1 + 1, 0, none⟩ 1 1 [.int .i64 ((i : Int) + 1)] rfl rfl hcn.out (by simp [Value.oneCell']) (by simp only [maxLen]; omega) (by omega) (by simp only [World.size_alloc]; exact hBs.out) ?_; intro v' w9 hown' hgrow _ hat))
    have hB6 := below_alloc (below_alloc (below_alloc hB.out (.cells #[.int .i64 1, .int .i64 qb, .int .i64 qc, .int .i64 qd] 36)) (.cells #[.int .i64 1, .int .i64 qb, .int .i64 qc, .int .i64 qd] 36)) (.cells #[.int .i64 ((i : Int) + 1)] 3)
    refine ⟨⟨i + 1, by simp, by omega, ⟨by rw [HS.out]; simpa [encs] using hown'⟩, ⟨fun e => hat.elim (fun h => hvB.out (h ▸ e)) (fun h => by rw [h] at e; injection e with e; simp only [World.size_alloc] at e; omega)⟩, ⟨(((hm.out.alloc _).alloc _).alloc _).kept hgrow (fun e => hvB.out e.symm)⟩, ⟨hB6.grown hgrow hB6.size (fun k e => own_base hv.out k e)⟩⟩, by simp [intOf]; omega⟩
def impl_StepsPut.f (k : Nat) (l0_0 : List (S73)) (l0_1 : List Int) (a1 : Int) (a2 : Int) : Option ((List (S38))) := (impl_StoreOk.f l0_0 l0_1).bind fun t491 => (if t491 = true then ((impl_stepsWrite.f k l0_0 1 a1 a2).bind fun t492 => (some t492)) else (some ([] : List (S38))))
theorem impl_StepsPut.calls (k : Nat) (A0_0 : Option Addr) (c0_0 : Nat) (l0_0 : List (S73)) (A0_1 : Option Addr) (c0_1 : Nat) (l0_1 : List Int) (a1 : Int) (a2 : Int) (r : List (S38)) (w : World) (hr0_0 : Kd.C k73 w A0_0 l0_0.length l0_0) (hc0_0 : l0_0.length ≤ c0_0) (hr0_1 : Kd.C (Kd.int .i64) w A0_1 l0_1.length l0_1) (hc0_1 : l0_1.length ≤ c0_1) (h : impl_StepsPut.f k l0_0 l0_1 a1 a2 = some r) :
 Calls Try.prog 9 #[.agg #[.slice A0_0 l0_0.length c0_0, .slice A0_1 l0_1.length c0_1], .int .i64 a1, .int .i64 a2] w fun e w' => ∃ v0_ : Value, e = .returned (v0_) ∧ Kd.R k38 38 w' w.heap.size (fun _ => True) v0_ r ∧ Below w.heap.size w w' := by
 have hu26 := Try.underlying26
 have HR0_0 := am hr0_0
 have HC0_0 := am hc0_0
 clear hr0_0 hc0_0
 have HR0_1 := am hr0_1
 have HC0_1 := am hc0_1
 clear hr0_1 hc0_1
 have HB := am (Below.refl w.heap.size w)
 have H : ((impl_StoreOk.f l0_0 l0_1).bind fun t491 => (if t491 = true then ((impl_stepsWrite.f k l0_0 1 a1 a2).bind fun t492 => (some t492)) else (some ([] : List (S38))))) = some r := h
 clear h
 replace H := Option.bind_eq_some_iff.mp H
 obtain ⟨t491, A40, H⟩ := H
 have A4 := am A40
 clear A40
 by_cases c5 : t491 = true
 rotate_left
 · replace c5 := Bool.eq_false_iff.mpr c5
   subst c5
   rw [if_neg (show ¬ (false = true) by decide)] at H
   obtain rfl := Option.some.inj H
   go_enter Try.func9, Try.ntmps9
   go_wp2_with (first | (refine bx 3 #[.slice A0_0 l0_0.length c0_0, .slice A0_1 l0_1.length c0_1] 26 rfl ?_; intro gb490 hg w12 hbox hb; have BK490 := am (hbox); have GW490 := am (ge hg (ph HB.out)); have GE490 := GW490; replace HB := am (below_step (ph HB.out) hb); clear hb hbox hg; obtain ⟨hcz13_0, hcz13_1⟩ := b2 BK490.out; obtain ⟨hfz13_0, hfz13_1⟩ := f2 BK490.out) | (refine gl 8 Try.func15 #[.agg #[.slice A0_0 l0_0.length c0_0, .slice A0_1 l0_1.length c0_1]] rfl ?_; (with_reducible refine (impl_StoreOk.calls _ _ l0_0 _ _ l0_1 false _ ?side1 ?side2 ?side3 ?side4 A4.out).mono ?_); (case side1 => exact pc (Kd.C_below HR0_0.out HB.out)); (case side2 => exact HC0_0.out); (case side3 => exact pc (Kd.C_below HR0_1.out HB.out)); (case side4 => exact HC0_1.out); rintro e w14 ⟨rfl, hb⟩; refine ⟨_, rfl, ?_⟩; replace BK490 := am (blk_below (pb BK490.out) hb); replace HB := am (below_step (bg1 HB.out GE490.out) hb); clear hb))
   go_ret
   exact ⟨_, rq ⟨by first | exact Kd.R_nil _ _ _ _ _ | exact Kd.N_nil _ _ _ _ _ | exact Kd.V_nil _ _ _ _ _ | exact Kd.Q_nil _ _ _ _ _ | exact Kd.S_nil _ _ _ _ _, bg1 HB.out GE490.out⟩⟩
 subst c5
 rw [if_pos rfl] at H
 replace H := Option.bind_eq_some_iff.mp H
 obtain ⟨t492, A60, H⟩ := H
 have A6 := am A60
 clear A60
 obtain rfl := Option.some.inj H
 go_enter Try.func9, Try.ntmps9
 go_wp2_with (first | (refine bx 3 #[.slice A0_0 l0_0.length c0_0, .slice A0_1 l0_1.length c0_1] 26 rfl ?_; intro gb490 hg w7 hbox hb; have BK490 := am (hbox); have GW490 := am (ge hg (ph HB.out)); have GE490 := GW490; replace HB := am (below_step (ph HB.out) hb); clear hb hbox hg; obtain ⟨hcz8_0, hcz8_1⟩ := b2 BK490.out; obtain ⟨hfz8_0, hfz8_1⟩ := f2 BK490.out) | (refine gl 8 Try.func15 #[.agg #[.slice A0_0 l0_0.length c0_0, .slice A0_1 l0_1.length c0_1]] rfl ?_; (with_reducible refine (impl_StoreOk.calls _ _ l0_0 _ _ l0_1 true _ ?side1 ?side2 ?side3 ?side4 A4.out).mono ?_); (case side1 => exact pc (Kd.C_below HR0_0.out HB.out)); (case side2 => exact HC0_0.out); (case side3 => exact pc (Kd.C_below HR0_1.out HB.out)); (case side4 => exact HC0_1.out); rintro e w9 ⟨rfl, hb⟩; refine ⟨_, rfl, ?_⟩; replace BK490 := am (blk_below (pb BK490.out) hb); replace HB := am (below_step (bg1 HB.out GE490.out) hb); clear hb; obtain ⟨hcz10_0, hcz10_1⟩ := b2 BK490.out; obtain ⟨hfz10_0, hfz10_1⟩ := f2 BK490.out) | (refine gl 14 Try.func18 #[.slice A0_0 l0_0.length c0_0, .int .i64 1, .int .i64 a1, .int .i64 a2] rfl ?_; (with_reducible refine (impl_stepsWrite.calls k _ _ l0_0 1 a1 a2 t492 _ ?side1 ?side2 A6.out).mono ?_); (case side1 => exact pc (Kd.C_below HR0_0.out HB.out)); (case side2 => exact HC0_0.out); rintro e w11 ⟨v493, rfl, ho0, hb⟩; refine ⟨_, rfl, ?_⟩; have HO494 := am (Kd.R_lower ho0 (below_size (bg1 HB.out GE490.out))); replace BK490 := am (blk_below (pb BK490.out) hb); replace HB := am (below_step (bg1 HB.out GE490.out) hb); clear hb ho0))
 go_ret
 exact ⟨_, rq ⟨pr HO494.out, bg1 HB.out GE490.out⟩⟩
open Go.Proofs.YtbhchamohldehaaW
attribute [local go_sem] Oper.semAt_some
def readV (l0 : List S73) (l1 : List Int) (a : Int) : Int := if storeOkB l0 l1 = true ∧ addrB a = true then (match lastMap l0 a with
 | some r => r.2.2.2
 | none => rd l1 (a - 1)) else -1
def impl_StoreRead.f (l0_0 : List (S73)) (l0_1 : List Int) (a1 : Int) : Option (Int) := some (readV l0_0 l0_1 a1)
theorem impl_StoreRead.calls (A0_0 : Option Addr) (c0_0 : Nat) (l0_0 : List (S73)) (A0_1 : Option Addr) (c0_1 : Nat) (l0_1 : List Int) (a1 : Int) (r : Int) (w : World) (hr0_0 : Kd.C k73 w A0_0 l0_0.length l0_0) (hc0_0 : l0_0.length ≤ c0_0) (hr0_1 : Kd.C (Kd.int .i64) w A0_1 l0_1.length l0_1) (hc0_1 : l0_1.length ≤ c0_1) (h : impl_StoreRead.f l0_0 l0_1 a1 = some r) :
 Calls Try.prog 10 #[.agg #[.slice A0_0 l0_0.length c0_0, .slice A0_1 l0_1.length c0_1], .int .i64 a1] w fun e w' => e = .returned (.int .i64 r) ∧ Below w.heap.size w w' := by
 obtain rfl := Option.some.inj h
 clear h
 refine (callsIn_wide (n := 3)).1 ?_
 have hu := Try.underlying26
 have hu2 := Try.underlying36
 have hso : ∀ W, Below w.heap.size w W → CallsIn Fence.wide 2 Try.prog 15 #[.agg #[.slice A0_0 l0_0.length c0_0, .slice A0_1 l0_1.length c0_1]] W fun e w' => e = .returned (.bool (storeOkB l0_0 l0_1)) ∧ Below W.heap.size W w' := fun W hb => callsIn_wide.2 (impl_StoreOk.calls A0_0 c0_0 l0_0 A0_1 c0_1 l0_1 _ W (Kd.C_below hr0_0 hb) hc0_0 (Kd.C_below hr0_1 hb) hc0_1 rfl)
 have hak : ∀ W, CallsIn Fence.wide 2 Try.prog 25 #[.int .i64 a1] W fun e w' => e = .returned (.bool (addrB a1)) ∧ W = w' := fun W => callsIn_wide.2 (addrOk_any a1 W)
 have hbox := blk_new w (.cells #[.slice A0_0 l0_0.length c0_0, .slice A0_1 l0_1.length c0_1] 26)
 have hB1 := below_alloc (Below.refl _ w) (.cells #[.slice A0_0 l0_0.length c0_0, .slice A0_1 l0_1.length c0_1] 26)
 unfold readV
 cases hs : storeOkB l0_0 l0_1 with
 | false =>
  rw [hs] at hso
  rw [if_neg (by simp)]
  refine callsIn_of_wp Try.func10 rfl trivial ?_ rfl
  simp only [Try.ntmps10, List.size_toArray, List.length_cons, List.length_nil, Nat.reduceAdd, Nat.reduceSub, Array.replicate_succ, Array.replicate_zero, List.push_toArray, List.append_toArray, List.nil_append, List.cons_append]
  gi_wp2_with (first | (refine ⟨trivial, ?_⟩; gi_at_call 15; refine (hso _ hB1).mono ?_; rintro e w1 ⟨rfl, hb⟩; have hbox1 := blk_below hbox hb; have hB2 := below_then hB1 hB1.size hb; have hq0 : w1.cell? ⟨w.heap.size, 0, none⟩ = some (.slice A0_0 l0_0.length c0_0) := (blk_cell hbox1 0).trans rfl) | (refine And.intro (show Fence.wide.fn 25 from trivial) ?_))
  go_ret
  exact ⟨rfl, hB2⟩
 | true =>
  rw [hs] at hso
  cases ha : addrB a1 with
  | false =>
   rw [ha] at hak
   rw [if_neg (by simp)]
   refine callsIn_of_wp Try.func10 rfl trivial ?_ rfl
   simp only [Try.ntmps10, List.size_toArray, List.length_cons, List.length_nil, Nat.reduceAdd, Nat.reduceSub, Array.replicate_succ, Array.replicate_zero, List.push_toArray, List.append_toArray, List.nil_append, List.cons_append]
   gi_wp2_with (first | (refine ⟨trivial, ?_⟩; gi_at_call 15; refine (hso _ hB1).mono ?_; rintro e w1 ⟨rfl, hb⟩; have hbox1 := blk_below hbox hb; have hB2 := below_then hB1 hB1.size hb; have hq0 : w1.cell? ⟨w.heap.size, 0, none⟩ = some (.slice A0_0 l0_0.length c0_0) := (blk_cell hbox1 0).trans rfl) | (refine ⟨trivial, ?_⟩; gi_at_call 25; refine (hak _).mono ?_; rintro e w3 ⟨rfl, rfl⟩))
   go_ret
   exact ⟨rfl, hB2⟩
  | true =>
   rw [ha] at hak
   rw [if_pos ⟨rfl, rfl⟩]
   have hl : l0_1.length = 6 ∧ orderI l0_0 = true := by
    unfold storeOkB at hs
    rw [Bool.and_eq_true, Bool.and_eq_true, decide_eq_true_eq] at hs
    exact ⟨by omega, hs.2.1⟩
   have hf := order_flash hl.2
   have hl := hl.1
   have hr16 : 1 ≤ a1 ∧ a1 ≤ 6 := by unfold addrB at ha; simpa using ha
   have hwf : (Lit.int .i64 a1).wf = true := WalkArith.wf_i64 ⟨by omega, by omega⟩
   have hlr : ∀ W, Below w.heap.size w W → CallsIn Fence.wide 2 Try.prog 24 #[.slice A0_0 l0_0.length c0_0] W fun e w' => ∃ B n, e = .returned (.map (some B)) ∧ RecsIs Try.prog 3 w' B n (lastMap l0_0) ∧ W.heap.size ≤ B ∧ Below W.heap.size W w' := fun W hb => callsIn_wide.2 (lastRecords_any A0_0 c0_0 l0_0 W (Kd.C_below hr0_0 hb) hf)
   generalize lastMap l0_0 = M at hlr ⊢
   rw [hl] at hbox hB1 hso ⊢
   cases hM : M a1 with
   | some q =>
    obtain ⟨qa, qb, qc, qd⟩ := q
    refine callsIn_of_wp Try.func10 rfl trivial ?_ rfl
    simp only [Try.ntmps10, List.size_toArray, List.length_cons, List.length_nil, Nat.reduceAdd, Nat.reduceSub, Array.replicate_succ, Array.replicate_zero, List.push_toArray, List.append_toArray, List.nil_append, List.cons_append]
    gi_wp2_with (first | (refine ⟨trivial, ?_⟩; gi_at_call 15; refine (hso _ hB1).mono ?_; rintro e w1 ⟨rfl, hb⟩; have hbox1 := blk_below hbox hb; have hB2 := below_then hB1 hB1.size hb; have hq0 : w1.cell? ⟨w.heap.size, 0, none⟩ = some (.slice A0_0 l0_0.length c0_0) := (blk_cell hbox1 0).trans rfl) | (refine ⟨trivial, ?_⟩; gi_at_call 25; refine (hak _).mono ?_; rintro e w3 ⟨rfl, rfl⟩) | (refine ⟨trivial, ?_⟩; gi_at_call 24; refine (hlr _ hB2).mono ?_; rintro e w2 ⟨B, n, rfl, hm, hBq, hb2⟩; have hB3 := below_then hB2 hB2.size hb2; have hbox2 := blk_below hbox1 hb2; have hq1 : w2.cell? ⟨w.heap.size, 1, none⟩ = some (.slice A0_1 6 c0_1) := (blk_cell hbox2 1).trans rfl; have hlk := hm.look_ok (T := 51) (E := 36) Try.underlying3 Try.underlying51 (by go_simp; rfl) hwf; rw [hM] at hlk; simp only [Option.getD_some, Option.isSome_some, Option.getD_none, Option.isSome_none, recVal] at hlk))
    go_ret
    exact ⟨rfl, below_alloc hB3 _⟩
   | none =>
    have p1 : 0 ≤ a1 - 1 := by omega
    have q1 : a1 - 1 < 6 := by omega
    obtain ⟨ad1, e1, hx1⟩ := Kd.at_int hr0_1 (a1 - 1) p1 (by omega)
    cases e1
    rw [show (a1 - 1).toNat = a1.toNat - 1 by omega] at hx1
    refine callsIn_of_wp Try.func10 rfl trivial ?_ rfl
    simp only [Try.ntmps10, List.size_toArray, List.length_cons, List.length_nil, Nat.reduceAdd, Nat.reduceSub, Array.replicate_succ, Array.replicate_zero, List.push_toArray, List.append_toArray, List.nil_append, List.cons_append]
    gi_wp2_with (first | (refine ⟨trivial, ?_⟩; gi_at_call 15; refine (hso _ hB1).mono ?_; rintro e w1 ⟨rfl, hb⟩; have hbox1 := blk_below hbox hb; have hB2 := below_then hB1 hB1.size hb; have hq0 : w1.cell? ⟨w.heap.size, 0, none⟩ = some (.slice A0_0 l0_0.length c0_0) := (blk_cell hbox1 0).trans rfl) | (refine ⟨trivial, ?_⟩; gi_at_call 25; refine (hak _).mono ?_; rintro e w3 ⟨rfl, rfl⟩) | (refine ⟨trivial, ?_⟩; gi_at_call 24; refine (hlr _ hB2).mono ?_; rintro e w2 ⟨B, n, rfl, hm, hBq, hb2⟩; have hB3 := below_then hB2 hB2.size hb2; have hbox2 := blk_below hbox1 hb2; have hq1 : w2.cell? ⟨w.heap.size, 1, none⟩ = some (.slice (some ad1) 6 c0_1) := (blk_cell hbox2 1).trans rfl; have hlk := hm.look_ok (T := 51) (E := 36) Try.underlying3 Try.underlying51 (by go_simp; rfl) hwf; rw [hM] at hlk; simp only [Option.getD_some, Option.isSome_some, Option.getD_none, Option.isSome_none, recVal] at hlk; have hlt2 := blk_lt hbox2; have hx2 := (hB3.cell (World.block_lt_of_cell? w _ hx1)).trans hx1; have hx3 := ((below_alloc (Below.refl _ w2) (.cells #[.int .i64 0, .int .i64 0, .int .i64 0, .int .i64 0] 36)).cell (World.block_lt_of_cell? w2 _ hx2)).trans hx2))
    go_ret
    exact ⟨rfl, below_alloc hB3 _⟩
end Go.Proofs.Ytbhchamohldehaa.P4
