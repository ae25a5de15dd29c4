-- printed by wip/pp/pp.py
import Derived.Test.YtcanhdofmbekeaaRp0
import Derived.Test.YtcanhdofmbekeaaRp2
import Derived.Test.YtcanhdofmbekeaaRp5
import Derived.Test.YtcanhdofmbekeaaRp7
namespace Go.Proofs.Ytcanhdofmbekeaa.Rp
open Go.RowKit Go.Proofs.YtcanhdofmbekeaaW.PrintWords Go.Proofs.YtcanhdofmbekeaaW.PrintLast Go.Proofs.YtcanhdofmbekeaaW.PrintMore
attribute [local go_sem] max2_int min2_int max_two min_two max_three min_three max_four min_four
set_option linter.unusedVariables false
set_option linter.unusedSimpArgs false
def spec_l21All.l0 : Nat → Int → List (S35) → List Int → Option ((List (S35)) × List Int)
 | 0, _, _, _ => none
 | k + 1, x3, x302000, x302001 => if x3 ≤ 6 then ((spec_l12Flush.f k x302000 x302001 x3).bind fun t303 => ((spec_l12To.f k x302000 x302001 t303 (t303.length : Int) false).bind fun bt306 => (spec_l21All.l0 k (wrap64 (x3 + 1)) bt306.1 bt306.2))) else (some (x302000, x302001))
def spec_l21All.f (k : Nat) (l0_0 : List (S35)) (l0_1 : List Int) : Option ((List (S35)) × List Int) := spec_l21All.l0 k 1 l0_0 l0_1
theorem spec_l21All.mono_l : ∀ k, (∀ y0 y1 y2, LeO (spec_l21All.l0 k y0 y1 y2) (spec_l21All.l0 (k + 1) y0 y1 y2))
 | 0 => fun _ _ _ r h => by simp [spec_l21All.l0] at h
 | k + 1 => by
  have ih0 := spec_l21All.mono_l k
  · intro y0 y1 y2
    unfold spec_l21All.l0
    repeat' first
    | (with_reducible exact ih0 _ _ _)
    | (with_reducible exact spec_l12Flush.mono _ _ _ _)
    | (with_reducible exact spec_l12To.mono _ _ _ _ _ _)
    | (with_reducible exact LeO.refl _)
    | (with_reducible exact LeO.none _)
    | (with_reducible refine LeO.ite ?_ ?_)
    | (with_reducible refine LeO.bind ?_ (fun _ => ?_))
    | exact ih0 _ _ _
    | exact spec_l12Flush.mono _ _ _ _
    | exact spec_l12To.mono _ _ _ _ _ _
    | exact LeO.none _
    | refine LeO.ite ?_ ?_
    | refine LeO.bind ?_ (fun _ => ?_)
theorem spec_l21All.mono : ∀ a0 a1 k, LeO (spec_l21All.f k a0 a1) (spec_l21All.f (k + 1) a0 a1) := by
 intro a0 a1 k
 have ih0 := spec_l21All.mono_l k
 unfold spec_l21All.f
 repeat' first
  | (with_reducible exact ih0 _ _ _)
  | (with_reducible exact spec_l12Flush.mono _ _ _ _)
  | (with_reducible exact spec_l12To.mono _ _ _ _ _ _)
  | (with_reducible exact LeO.refl _)
  | (with_reducible exact LeO.none _)
  | (with_reducible refine LeO.ite ?_ ?_)
  | (with_reducible refine LeO.bind ?_ (fun _ => ?_))
  | exact ih0 _ _ _
  | exact spec_l12Flush.mono _ _ _ _
  | exact spec_l12To.mono _ _ _ _ _ _
  | exact LeO.none _
  | refine LeO.ite ?_ ?_
  | refine LeO.bind ?_ (fun _ => ?_)
set_option maxHeartbeats 8000000 in
set_option maxRecDepth 100000 in
theorem spec_l21All.calls (k : Nat) (P0_0_ : Nat → Prop) (u9000_ : Value) (l0_0 : List (S35)) (P0_1_ : Nat → Prop) (u9001_ : Value) (l0_1 : List Int) (r1 : List (S35)) (r2 : List Int) (w0 w : World) (hB : Below w0.heap.size w0 w) (ho0_0 : Kd.S k35 35 w w0.heap.size P0_0_ u9000_ l0_0) (ho0_1 : Kd.R (Kd.int .i64) 3 w w0.heap.size P0_1_ u9001_ l0_1) (h : spec_l21All.f k l0_0 l0_1 = some (r1, r2)) :
 Calls Try.prog 31 #[.agg #[u9000_, u9001_]] w fun e w' => ∃ v0_ v1_ : Value, e = .returned (.agg #[v0_, v1_]) ∧ Kd.S k35 35 w' w0.heap.size (fun k_ => ((P0_0_ k_ ∨ P0_1_ k_) ∨ w.heap.size ≤ k_)) v0_ r1 ∧ Kd.R (Kd.int .i64) 3 w' w0.heap.size (fun k_ => ((P0_0_ k_ ∨ P0_1_ k_) ∨ w.heap.size ≤ k_)) v1_ r2 ∧ Below w0.heap.size w0 w' ∧ Kept w w' (fun k_ => P0_0_ k_ ∨ P0_1_ k_) := by
 have hu57 := Try.underlying57
 have HO0_0 := am (show Kd.S k35 35 w w0.heap.size (fun k_ => ((P0_0_ k_ ∨ P0_1_ k_) ∨ w.heap.size ≤ k_)) u9000_ l0_0 from Kd.S_mono ho0_0 (fun k_ hk => (.inl (.inl hk))))
 have HO0_1 := am (show Kd.R (Kd.int .i64) 3 w w0.heap.size (fun k_ => ((P0_0_ k_ ∨ P0_1_ k_) ∨ w.heap.size ≤ k_)) u9001_ l0_1 from Kd.R_mono ho0_1 (fun k_ hk => (.inl (.inr hk))))
 have HK := am (Kept.refl w (fun k_ => P0_0_ k_ ∨ P0_1_ k_))
 have HW0 := am hB.size
 have HB := am hB
 clear hB
 have H : (spec_l21All.l0 k 1 l0_0 l0_1) = some (r1, r2) := h
 clear h
 have H' := am H
 clear H
 obtain ⟨Ao2, co2, eo2⟩ := Kd.S_slice HO0_0.out
 subst eo2
 obtain ⟨Ao3, co3, eo3⟩ := Kd.R_slice HO0_1.out
 subst eo3
 go_enter Try.func31, Try.ntmps31
 go_wp2_with (first | (refine bx 1 #[.slice Ao2 l0_0.length co2, .slice Ao3 l0_1.length co3] 57 rfl ?_; intro gb301 hg w4 hbox hb; replace HO0_0 := am (Kd.S_below (ps HO0_0.out) hb); replace HO0_1 := am (Kd.R_below (pr HO0_1.out) hb); have BK301 := am (hbox); have GW301 := am ((by rw [hg]; exact (by first | exact HK.out.1 | exact (show Kept w _ (fun k_ => P0_0_ k_ ∨ P0_1_ k_) from pk HK.out).1) : w.heap.size ≤ gb301)); replace HK := am (Kept.below (S := (fun k_ => P0_0_ k_ ∨ P0_1_ k_)) (pk HK.out) hb); have GE301 := am ((by rw [hg]; exact (below_size (ph HB.out)) : w0.heap.size ≤ gb301)); replace HB := am (below_step (ph HB.out) hb); clear hb hbox hg) | (refine bx 2 #[.slice none 0 0, .slice none 0 0] 57 rfl ?_; intro gb302 hg w5 hbox hb; replace HO0_0 := am (Kd.S_below (ps HO0_0.out) hb); replace HO0_1 := am (Kd.R_below (pr HO0_1.out) hb); have BK302 := am (hbox); have GW302 := am ((by rw [hg]; exact (by first | exact HK.out.1 | exact (show Kept w _ (fun k_ => P0_0_ k_ ∨ P0_1_ k_) from by repeat (first | (with_reducible first | exact HK.out | apply Kept.alloc | apply Kept.drewN | apply Kept.drew | refine Kept.setCell ?_ (.inr GW301.out) _) | exact HK.out)).1) : w.heap.size ≤ gb302)); replace HK := am (Kept.below (S := (fun k_ => P0_0_ k_ ∨ P0_1_ k_)) (by repeat (first | (with_reducible first | exact HK.out | apply Kept.alloc | apply Kept.drewN | apply Kept.drew | refine Kept.setCell ?_ (.inr GW301.out) _) | exact HK.out)) hb); have GE302 := am ((by rw [hg]; exact (below_size (bg1 HB.out GE301.out)) : w0.heap.size ≤ gb302)); replace HB := am (below_step (bg1 HB.out GE301.out) hb); have NB301_302 := am ((by rw [hg]; exact Nat.ne_of_lt (blk_lt (pb BK301.out)) : gb301 ≠ gb302)); have NB302_301 := am (Ne.symm NB301_302.out); replace BK301 := am (blk_below (pb BK301.out) hb); clear hb hbox hg))
 go_loopg [3] k (fun kq v3 w' => ∃ (x3_1 : Int) (x302000_1 : List (S35)) (x302001_1 : List Int) (u302000 : Value) (u302001 : Value), v3 = .int .i64 x3_1 ∧ Aside0 (spec_l21All.l0 kq x3_1 x302000_1 x302001_1 = some (r1, r2)) ∧ Aside0 (kq ≤ k) ∧ Aside0 (Kd.S k35 35 w' w0.heap.size (fun k_ => ((P0_0_ k_ ∨ P0_1_ k_) ∨ w.heap.size ≤ k_)) u302000 x302000_1) ∧ Aside0 (Kd.R (Kd.int .i64) 3 w' w0.heap.size (fun k_ => ((P0_0_ k_ ∨ P0_1_ k_) ∨ w.heap.size ≤ k_)) u302001 x302001_1) ∧ Aside0 (w'.heap[gb301]? = some (.cells #[u302000, u302001] 57 (0, 0))) ∧ Aside0 (w'.heap[gb302]? = some (.cells #[(.slice none 0 0), (.slice none 0 0)] 57 (0, 0))) ∧ Aside0 (Kept w w' (fun k_ => P0_0_ k_ ∨ P0_1_ k_)) ∧ Aside0 (Below w0.heap.size w0 w'))
 case atStart => exact ⟨(1), (l0_0), (l0_1), (.slice Ao2 l0_0.length co2), (.slice Ao3 l0_1.length co3), rf, H', ⟨Nat.le_refl _⟩, ⟨ps HO0_0.out⟩, ⟨pr HO0_1.out⟩, ⟨pb BK301.out⟩, ⟨pb BK302.out⟩, ⟨by repeat (first | (with_reducible first | exact HK.out | apply Kept.alloc | apply Kept.drewN | apply Kept.drew | refine Kept.setCell ?_ (.inr GW301.out) _ | refine Kept.setCell ?_ (.inr GW302.out) _) | exact HK.out)⟩, ⟨bg2 HB.out GE301.out GE302.out⟩⟩
 case round =>
  clear H'
  obtain ⟨x3_1, x302000_1, x302001_1, u302000, u302001, rfl, HA, HK1, HO_302000, HO_302001, BK301, BK302, HK, HB⟩ := hrel
  cases gk with
  | zero => exact absurd HA.out (by simp [spec_l21All.l0])
  | succ k1 =>
   have H := HA.out
   clear HA
   simp only [spec_l21All.l0] at H
   by_cases c6 : x3_1 ≤ 6
   rotate_left
   · rw [if_neg c6] at H
     have c6b0 := decide_eq_false c6
     clear c6
     simp only [Option.some.injEq, Prod.mk.injEq] at H
     obtain ⟨rfl, rfl⟩ := H
     have hnb21 := NB301_302.out
     have hnc21 := NB302_301.out
     obtain ⟨hcz22_0, hcz22_1⟩ := b2 BK301.out
     obtain ⟨hfz22_0, hfz22_1⟩ := f2 BK301.out
     obtain ⟨Ao23, co23, eo23⟩ := Kd.S_slice HO_302000.out
     subst eo23
     obtain ⟨hcz24_0, hcz24_1⟩ := b2 BK302.out
     obtain ⟨hfz24_0, hfz24_1⟩ := f2 BK302.out
     obtain ⟨Ao25, co25, eo25⟩ := Kd.R_slice HO_302001.out
     subst eo25
     go_wp2
     refine bodyPost_ret (results_cell_row rfl _ _ gb302 57 #[.slice Ao23 x302000_1.length co23, .slice Ao25 x302001_1.length co25] (0, 0) _ rfl (by (with_reducible repeat (first | refine blk_drewN ?_ _ | refine blk_drew ?_ | refine blk_alloc ?_ _)); refine blk_put (cs := #[.slice Ao23 x302000_1.length co23, .slice none 0 0]) ?_ 1 _ rfl; (with_reducible repeat (first | refine blk_drewN ?_ _ | refine blk_drew ?_ | refine blk_alloc ?_ _)); refine blk_put (cs := #[.slice none 0 0, .slice none 0 0]) ?_ 0 _ rfl; (with_reducible repeat (first | refine blk_drewN ?_ _ | refine blk_drew ?_ | refine blk_alloc ?_ _)); exact BK302.out) Try.underlying57 rfl (by kernel_rfl)) rfl ?_
     exact ⟨_, _, rq ⟨by (with_reducible repeat (first | apply Kd.S_alloc | apply Kd.S_drewN | apply Kd.S_drew)); exact Kd.S_mono (Kd.S_far (p := ⟨gb302, 1, none⟩) (Kd.S_far (p := ⟨gb302, 0, none⟩) (Kd.S_types HO_302000.out BK302.out (by decide)) (fun _ hk => hk.2) (.slice Ao23 x302000_1.length co23)) (fun _ hk => hk.2) (.slice Ao25 x302001_1.length co25)) (fun _ hk => hk.1), by (with_reducible repeat (first | apply Kd.R_alloc | apply Kd.R_drewN | apply Kd.R_drew)); exact Kd.R_mono (Kd.R_far (p := ⟨gb302, 1, none⟩) (Kd.R_far (p := ⟨gb302, 0, none⟩) (Kd.R_types HO_302001.out BK302.out (by decide)) (fun _ hk => hk.2) (.slice Ao23 x302000_1.length co23)) (fun _ hk => hk.2) (.slice Ao25 x302001_1.length co25)) (fun _ hk => hk.1), bg2 HB.out GE301.out GE302.out, by repeat (first | (with_reducible first | exact HK.out | apply Kept.alloc | apply Kept.drewN | apply Kept.drew | refine Kept.setCell ?_ (.inr GW301.out) _ | refine Kept.setCell ?_ (.inr GW302.out) _) | exact HK.out)⟩⟩
   rw [if_pos c6] at H
   have c6b0 := decide_eq_true c6
   clear c6
   replace H := Option.bind_eq_some_iff.mp H
   obtain ⟨t303, A70, H⟩ := H
   replace H : ((spec_l12To.f k1 x302000_1 x302001_1 t303 (t303.length : Int) false).bind fun bt306 => (spec_l21All.l0 k1 (wrap64 (x3_1 + 1)) bt306.1 bt306.2)) = some (r1, r2) := H
   have A7 := am A70
   clear A70
   replace H := Option.bind_eq_some_iff.mp H
   obtain ⟨⟨t306, t309⟩, A80, H⟩ := H
   replace H : (spec_l21All.l0 k1 (wrap64 (x3_1 + 1)) t306 t309) = some (r1, r2) := H
   have A8 := am A80
   clear A80
   have H' := am H
   clear H
   have hnb9 := NB301_302.out
   have hnc9 := NB302_301.out
   obtain ⟨hcz10_0, hcz10_1⟩ := b2 BK301.out
   obtain ⟨hfz10_0, hfz10_1⟩ := f2 BK301.out
   obtain ⟨Ao11, co11, eo11⟩ := Kd.S_slice HO_302000.out
   subst eo11
   obtain ⟨Ao12, co12, eo12⟩ := Kd.R_slice HO_302001.out
   subst eo12
   go_wp2_with (first | (refine gl 11 Try.func36 #[.agg #[.slice Ao11 x302000_1.length co11, .slice Ao12 x302001_1.length co12], .int .i64 x3_1] rfl ?_; (with_reducible refine (spec_l12Flush.calls k1 _ _ x302000_1 _ _ x302001_1 x3_1 t303 _ ?side1 ?side2 ?side3 ?side4 A7.out).mono ?_); (case side1 => repeat (first | exact (Kd.S_reads' HO_302000.out).2.2 | (with_reducible refine Kd.C_alloc ?_ _) | (with_reducible refine Kd.C_drewN ?_ _) | (with_reducible refine Kd.C_drew ?_))); (case side2 => exact (Kd.S_reads' HO_302000.out).2.1); (case side3 => repeat (first | exact (Kd.R_reads' HO_302001.out).2.2 | (with_reducible refine Kd.C_alloc ?_ _) | (with_reducible refine Kd.C_drewN ?_ _) | (with_reducible refine Kd.C_drew ?_))); (case side4 => exact (Kd.R_reads' HO_302001.out).2.1); rintro e w13 ⟨v304, rfl, ho0, hb⟩; refine ⟨_, rfl, ?_⟩; replace HO_302000 := am (Kd.S_below (ps HO_302000.out) hb); replace HO_302001 := am (Kd.R_below (pr HO_302001.out) hb); have HO305 := am (Kd.R_lower (Kd.R_newM (M := fun k_ => ((P0_0_ k_ ∨ P0_1_ k_) ∨ w.heap.size ≤ k_)) ho0 (by first | exact HK.out.1 | exact (show Kept w _ (fun k_ => P0_0_ k_ ∨ P0_1_ k_) from by repeat (first | (with_reducible first | exact HK.out | apply Kept.alloc | apply Kept.drewN | apply Kept.drew | refine Kept.setCell ?_ (.inr GW301.out) _ | refine Kept.setCell ?_ (.inr GW302.out) _) | exact HK.out)).1) (fun k_ h_ => .inr h_)) (below_size (bg2 HB.out GE301.out GE302.out))); replace BK301 := am (blk_below (pb BK301.out) hb); replace BK302 := am (blk_below (pb BK302.out) hb); replace HK := am (Kept.below (S := (fun k_ => P0_0_ k_ ∨ P0_1_ k_)) (by repeat (first | (with_reducible first | exact HK.out | apply Kept.alloc | apply Kept.drewN | apply Kept.drew | refine Kept.setCell ?_ (.inr GW301.out) _ | refine Kept.setCell ?_ (.inr GW302.out) _) | exact HK.out)) hb); replace HB := am (below_step (bg2 HB.out GE301.out GE302.out) hb); (try clear hb); (try clear hb2); (try clear hk); (try clear hi); (try clear ho0); obtain ⟨hcz14_0, hcz14_1⟩ := b2 BK301.out; obtain ⟨hfz14_0, hfz14_1⟩ := f2 BK301.out; obtain ⟨Ao15, co15, eo15⟩ := Kd.R_slice HO305.out; subst eo15; obtain ⟨PXh16, hxa_, hxb_⟩ := Kd.S_hand HO_302000.out; have HXAh16 := am hxa_; have HXBh16 := am hxb_; clear hxa_ hxb_) | (refine gl 16 Try.func32 #[.agg #[.slice Ao11 x302000_1.length co11, .slice Ao12 x302001_1.length co12], .slice Ao15 t303.length co15, .int .i64 (t303.length : Int), .bool false] rfl ?_; (with_reducible refine (spec_l12To.calls k1 PXh16 (.slice Ao11 x302000_1.length co11) x302000_1 (fun k_ => some k_ = (.slice Ao12 x302001_1.length co12 : Value).ownBlock) (.slice Ao12 x302001_1.length co12) x302001_1 _ _ t303 (t303.length : Int) false t306 t309 w0 _ ?side1 ?side2 ?side3 ?side4 ?side5 A8.out).mono ?_); (case side1 => repeat (first | (with_reducible first | exact HB.out | apply below_alloc | apply pw_below_drewN | apply below_drew1 | refine below_set ?_ GE301.out | refine below_set ?_ GE302.out) | exact HB.out)); (case side2 => exact (ps HXAh16.out)); (case side3 => exact Kd.R_tight rfl HO_302001.out); (case side4 => exact Kd.C_kept_own ((Kd.R_apart' (Kd.R_awayP HO305.out (fun k_ h_ => (HXBh16.out k_ h_).2.2.2) (by decide)) (Kd.R_typed HO_302001.out) (by decide))) (fun k_ hk_ hs_ => Or.elim hs_ (fun e_ => (hk_.1.2) e_) (fun e_ => (hk_.2) e_))); (case side5 => exact (Kd.R_reads' HO305.out).2.1); rintro e w17 ⟨v307, v310, rfl, ho0, ho1, hb, hkp⟩; refine ⟨_, rfl, ?_⟩; replace BK301 := am (blk_kept (pb BK301.out) hkp (fun hs_ => Or.elim hs_ (fun e_ => (fun e_ => Kd.blk_awayP (fun k_ h_ => (HXBh16.out k_ h_).2.2.2) BK301.out (by decide) e_) e_) (fun e_ => (fun e_ => (Kd.R_ne HO_302001.out BK301.out (by decide)) e_) e_))); replace BK302 := am (blk_kept (pb BK302.out) hkp (fun hs_ => Or.elim hs_ (fun e_ => (fun e_ => Kd.blk_awayP (fun k_ h_ => (HXBh16.out k_ h_).2.2.2) BK302.out (by decide) e_) e_) (fun e_ => (fun e_ => (Kd.R_ne HO_302001.out BK302.out (by decide)) e_) e_))); replace HO305 := am (Kd.R_mono (ok' := fun k_ => ((P0_0_ k_ ∨ P0_1_ k_) ∨ w.heap.size ≤ k_)) (Kd.R_keptB ((Kd.R_apart' (Kd.R_awayP HO305.out (fun k_ h_ => (HXBh16.out k_ h_).2.2.2) (by decide)) (Kd.R_typed HO_302001.out) (by decide))) hkp (fun k_ hk_ hs_ => Or.elim hs_ (fun e_ => (hk_.1.2) e_) (fun e_ => (hk_.2) e_))) (fun k_ hk_ => hk_.1.1.1.1)); have HO308 := am (Kd.S_mono (ok' := fun k_ => ((P0_0_ k_ ∨ P0_1_ k_) ∨ w.heap.size ≤ k_)) ho0 (fun k_ hk_ => Or.elim hk_ (fun hs_ => Or.elim hs_ (fun hs_ => (HXBh16.out k_ hs_).1) (fun hs_ => (HO_302001.out.1 k_ (hs_).symm))) (fun hn_ => (.inr (Nat.le_trans (by first | exact HK.out.1 | exact (show Kept w _ (fun k_ => P0_0_ k_ ∨ P0_1_ k_) from by repeat (first | (with_reducible first | exact HK.out | apply Kept.alloc | apply Kept.drewN | apply Kept.drew | refine Kept.setCell ?_ (.inr GW301.out) _ | refine Kept.setCell ?_ (.inr GW302.out) _) | exact HK.out)).1) hn_))))); have HO311 := am (Kd.R_mono (ok' := fun k_ => ((P0_0_ k_ ∨ P0_1_ k_) ∨ w.heap.size ≤ k_)) ho1 (fun k_ hk_ => Or.elim hk_ (fun hs_ => Or.elim hs_ (fun hs_ => (HXBh16.out k_ hs_).1) (fun hs_ => (HO_302001.out.1 k_ (hs_).symm))) (fun hn_ => (.inr (Nat.le_trans (by first | exact HK.out.1 | exact (show Kept w _ (fun k_ => P0_0_ k_ ∨ P0_1_ k_) from by repeat (first | (with_reducible first | exact HK.out | apply Kept.alloc | apply Kept.drewN | apply Kept.drew | refine Kept.setCell ?_ (.inr GW301.out) _ | refine Kept.setCell ?_ (.inr GW302.out) _) | exact HK.out)).1) hn_))))); replace HK := am (Kept.then_ (S := (fun k_ => P0_0_ k_ ∨ P0_1_ k_)) (by repeat (first | (with_reducible first | exact HK.out | apply Kept.alloc | apply Kept.drewN | apply Kept.drew | refine Kept.setCell ?_ (.inr GW301.out) _ | refine Kept.setCell ?_ (.inr GW302.out) _) | exact HK.out)) hkp (fun k_ hs_ => Or.elim hs_ (fun e_ => (fun e_ => (HXBh16.out k_ e_).1) e_) (fun e_ => (fun e_ => (HO_302001.out.1 k_ e_.symm)) e_))); replace HB := am (hb); clear HO_302000; clear HO_302001; (try clear hb); (try clear hkp); (try clear ho0); (try clear ho1); obtain ⟨Ao18, co18, eo18⟩ := Kd.S_slice HO308.out; subst eo18; obtain ⟨hcz19_0, hcz19_1⟩ := b2 BK301.out; obtain ⟨hfz19_0, hfz19_1⟩ := f2 BK301.out; obtain ⟨Ao20, co20, eo20⟩ := Kd.R_slice HO311.out; subst eo20))
   go_roundg k1
   case measure => have := HK1.out; omega
   case rel => exact ⟨(wrap64 (x3_1 + 1)), (t306), (t309), (.slice Ao18 t306.length co18), (.slice Ao20 t309.length co20), rf, H', ⟨by have := HK1.out; omega⟩, ⟨by (with_reducible repeat (first | apply Kd.S_alloc | apply Kd.S_drewN | apply Kd.S_drew)); exact Kd.S_mono (Kd.S_far (p := ⟨gb301, 1, none⟩) (Kd.S_far (p := ⟨gb301, 0, none⟩) (Kd.S_types HO308.out BK301.out (by decide)) (fun _ hk => hk.2) (.slice Ao18 t306.length co18)) (fun _ hk => hk.2) (.slice Ao20 t309.length co20)) (fun _ hk => hk.1)⟩, ⟨by (with_reducible repeat (first | apply Kd.R_alloc | apply Kd.R_drewN | apply Kd.R_drew)); exact Kd.R_mono (Kd.R_far (p := ⟨gb301, 1, none⟩) (Kd.R_far (p := ⟨gb301, 0, none⟩) (Kd.R_types HO311.out BK301.out (by decide)) (fun _ hk => hk.2) (.slice Ao18 t306.length co18)) (fun _ hk => hk.2) (.slice Ao20 t309.length co20)) (fun _ hk => hk.1)⟩, ⟨by (with_reducible repeat (first | refine blk_drewN ?_ _ | refine blk_drew ?_ | refine blk_alloc ?_ _)); refine blk_put (cs := #[.slice Ao18 t306.length co18, .slice Ao12 x302001_1.length co12]) ?_ 1 _ rfl; (with_reducible repeat (first | refine blk_drewN ?_ _ | refine blk_drew ?_ | refine blk_alloc ?_ _)); refine blk_put (cs := #[.slice Ao11 x302000_1.length co11, .slice Ao12 x302001_1.length co12]) ?_ 0 _ rfl; (with_reducible repeat (first | refine blk_drewN ?_ _ | refine blk_drew ?_ | refine blk_alloc ?_ _)); exact BK301.out⟩, ⟨by (with_reducible repeat (first | refine blk_drewN ?_ _ | refine blk_drew ?_ | refine blk_alloc ?_ _)); refine blk_far ?_ NB302_301.out _; (with_reducible repeat (first | refine blk_drewN ?_ _ | refine blk_drew ?_ | refine blk_alloc ?_ _)); refine blk_far ?_ NB302_301.out _; (with_reducible repeat (first | refine blk_drewN ?_ _ | refine blk_drew ?_ | refine blk_alloc ?_ _)); exact BK302.out⟩, ⟨by repeat (first | (with_reducible first | exact HK.out | apply Kept.alloc | apply Kept.drewN | apply Kept.drew | refine Kept.setCell ?_ (.inr GW301.out) _ | refine Kept.setCell ?_ (.inr GW302.out) _) | exact HK.out)⟩, ⟨bg2 HB.out GE301.out GE302.out⟩⟩
def spec_l12Fill.f (k : Nat) (l0_0 : List (S35)) (l0_1 : List Int) (a1 : Int) : Option ((List (S81))) := (spec_l6In.f a1 1 6).bind fun t313 => (if t313 = true then ((spec_l3Last.f k l0_0 a1).bind fun bt317 => (if bt317.2.2.2.2 = true then (some (([] : List (S81)))) else (if 0 ≤ (wrap64 (a1 - 1)) then (if (wrap64 (a1 - 1)) < (l0_1.length : Int) then ((spec_l12Write.f k l0_0 l0_1 2 a1 (rd l0_1 (wrap64 (a1 - 1)))).bind fun t327 => (some t327)) else (none)) else (none)))) else (some (([] : List (S81)))))
theorem spec_l12Fill.mono : ∀ a0 a1 a2 k, LeO (spec_l12Fill.f k a0 a1 a2) (spec_l12Fill.f (k + 1) a0 a1 a2) := by
 intro a0 a1 a2 k
 unfold spec_l12Fill.f
 repeat' first
  | (with_reducible exact spec_l12Write.mono _ _ _ _ _ _)
  | (with_reducible exact spec_l3Last.mono _ _ _)
  | (with_reducible exact LeO.refl _)
  | (with_reducible exact LeO.none _)
  | (with_reducible refine LeO.ite ?_ ?_)
  | (with_reducible refine LeO.bind ?_ (fun _ => ?_))
  | exact spec_l12Write.mono _ _ _ _ _ _
  | exact spec_l3Last.mono _ _ _
  | exact LeO.none _
  | refine LeO.ite ?_ ?_
  | refine LeO.bind ?_ (fun _ => ?_)
def spec_l12Fill.T6 : Bool × List (List Nat × List Nat) := (true, [([], []), ([], []), ([], []), ([2], [2]), ([], []), ([4], [4]), ([3, 5], [3, 5]), ([6], [6]), ([0, 1, 7], [0, 1, 7]), ([8, 8, 0, 1, 2, 3, 4, 5, 6, 7, 8], [8])])
def spec_l12Fill.B6 : List Nat := [0, 0, 0, 4, 0, 16, 60, 124, 255, 511]
theorem spec_l12Fill.tab6 : rtab .any (opsOf Try.f39 6) = spec_l12Fill.T6 := by kernel_rfl
theorem spec_l12Fill.bits6 : waitsOk spec_l12Fill.T6.2 spec_l12Fill.B6 = true := by kernel_rfl
set_option maxHeartbeats 8000000 in
set_option maxRecDepth 100000 in
theorem spec_l12Fill.calls (k : Nat) (A0_0 : Option Addr) (c0_0 : Nat) (l0_0 : List (S35)) (A0_1 : Option Addr) (c0_1 : Nat) (l0_1 : List Int) (a1 : Int) (r : List (S81)) (w : World) (hr0_0 : Kd.C k35 w A0_0 l0_0.length l0_0) (hc0_0 : l0_0.length ≤ c0_0) (hr0_1 : Kd.C (Kd.int .i64) w A0_1 l0_1.length l0_1) (hc0_1 : l0_1.length ≤ c0_1) (h : spec_l12Fill.f k l0_0 l0_1 a1 = some r) :
 Calls Try.prog 39 #[.agg #[.slice A0_0 l0_0.length c0_0, .slice A0_1 l0_1.length c0_1], .int .i64 a1] w fun e w' => ∃ v0_ : Value, e = .returned (v0_) ∧ Kd.R k81 81 w' w.heap.size (fun _ => True) v0_ r ∧ Below w.heap.size w w' := by
 have hu57 := Try.underlying57
 have hu30 := Try.underlying30
 have HR0_0 := am hr0_0
 have HC0_0 := am hc0_0
 clear hr0_0 hc0_0
 have HR0_1 := am hr0_1
 have HC0_1 := am hc0_1
 clear hr0_1 hc0_1
 have HB := am (Below.refl w.heap.size w)
 have H : ((spec_l6In.f a1 1 6).bind fun t313 => (if t313 = true then ((spec_l3Last.f k l0_0 a1).bind fun bt317 => (if bt317.2.2.2.2 = true then (some (([] : List (S81)))) else (if 0 ≤ (wrap64 (a1 - 1)) then (if (wrap64 (a1 - 1)) < (l0_1.length : Int) then ((spec_l12Write.f k l0_0 l0_1 2 a1 (rd l0_1 (wrap64 (a1 - 1)))).bind fun t327 => (some t327)) else (none)) else (none)))) else (some (([] : List (S81)))))) = some r := h
 clear h
 replace H := Option.bind_eq_some_iff.mp H
 obtain ⟨t313, A30, H⟩ := H
 replace H : (if t313 = true then ((spec_l3Last.f k l0_0 a1).bind fun bt317 => (if bt317.2.2.2.2 = true then (some (([] : List (S81)))) else (if 0 ≤ (wrap64 (a1 - 1)) then (if (wrap64 (a1 - 1)) < (l0_1.length : Int) then ((spec_l12Write.f k l0_0 l0_1 2 a1 (rd l0_1 (wrap64 (a1 - 1)))).bind fun t327 => (some t327)) else (none)) else (none)))) else (some (([] : List (S81))))) = some r := H
 have A3 := am A30
 clear A30
 by_cases c4 : t313 = true
 rotate_left
 · replace c4 := Bool.eq_false_iff.mpr c4
   subst c4
   have H1 : (some (([] : List (S81)))) = some r := by rw [if_neg (show ¬ (false = true) by decide)] at H; exact H
   clear H
   have H := H1
   clear H1
   obtain ⟨y314, hy314⟩ : ∃ y_ : List (S81), y_ = (([] : List (S81))) := ⟨_, rfl⟩
   replace H : (some y314) = some r := by first | (rw [hy314]; with_reducible exact H) | (have H2_ := (Option.bind_some _ _).symm.trans H; rw [hy314]; with_reducible exact H2_) | (have H2_ := (Option.bind_some _ _).symm.trans H; with_reducible exact H2_) | with_reducible exact H | (rw [hy314]; exact H) | exact H
   have Ny314 := am hy314
   clear hy314
   obtain rfl := Option.some.inj H
   go_enter Try.func39, Try.ntmps39
   go_wp2_with (first | (refine bx 2 #[.slice A0_0 l0_0.length c0_0, .slice A0_1 l0_1.length c0_1] 57 rfl ?_; intro gb312 hg w28 hbox hb; have BK312 := am (hbox); have GW312 := am ((by rw [hg]; exact (below_size (ph HB.out)) : w.heap.size ≤ gb312)); have GE312 := GW312; replace HB := am (below_step (ph HB.out) hb); clear hb hbox hg) | (refine gl 8 Try.func14 #[.int .i64 a1, .int .i64 1, .int .i64 6] rfl ?_; (with_reducible refine (spec_l6In.calls a1 1 6 false _ A3.out).mono ?_); rintro e w' ⟨rfl, ⟨nd, rfl⟩⟩; refine ⟨_, rfl, ?_⟩) | ((with_reducible refine gate_dst (N := 10) rfl ?_); refine Kd.R_lit k81 _ 81 ?hg (N := 10) ?hd (xs := ([] : List (S81))) (inner := []) (ok := fun _ => True) (okp := fun _ => True) ?hr ?hp (fun _ hk => hk) trivial (Below.refl _ _) (Nat.le_refl _) (by simp) ?_; (case hd => rfl); (case hg => rfl); (case hr => first | (go_simp; done) | (go_simp; rfl)); (case hp => exact (Reps.none _ _)); intro v315 w29 ho30 hb hg_ hnew_; clear hg_ hnew_; (first | rw [← Ny314.out] at ho30 | (simp only [Int.reduceToNat] at ho30; rw [← Ny314.out] at ho30)); have HO316 := am (Kd.R_lower ho30 (below_size (bg1 HB.out GE312.out))); replace BK312 := am (blk_below (pb BK312.out) hb); replace HB := am (below_step (bg1 HB.out GE312.out) hb); clear hb ho30))
   go_ret
   exact ⟨_, rq ⟨pr HO316.out, bg1 HB.out GE312.out⟩⟩
 subst c4
 have H1 : ((spec_l3Last.f k l0_0 a1).bind fun bt317 => (if bt317.2.2.2.2 = true then (some (([] : List (S81)))) else (if 0 ≤ (wrap64 (a1 - 1)) then (if (wrap64 (a1 - 1)) < (l0_1.length : Int) then ((spec_l12Write.f k l0_0 l0_1 2 a1 (rd l0_1 (wrap64 (a1 - 1)))).bind fun t327 => (some t327)) else (none)) else (none)))) = some r := by rw [if_pos rfl] at H; exact H
 clear H
 have H := H1
 clear H1
 replace H := Option.bind_eq_some_iff.mp H
 obtain ⟨⟨t317, t318, t319, t320, t321⟩, A50, H⟩ := H
 replace H : (if t321 = true then (some (([] : List (S81)))) else (if 0 ≤ (wrap64 (a1 - 1)) then (if (wrap64 (a1 - 1)) < (l0_1.length : Int) then ((spec_l12Write.f k l0_0 l0_1 2 a1 (rd l0_1 (wrap64 (a1 - 1)))).bind fun t327 => (some t327)) else (none)) else (none))) = some r := H
 have A5 := am A50
 clear A50
 by_cases c6 : t321 = true
 · subst c6
   have H1 : (some (([] : List (S81)))) = some r := by rw [if_pos rfl] at H; exact H
   clear H
   have H := H1
   clear H1
   obtain ⟨y323, hy323⟩ : ∃ y_ : List (S81), y_ = (([] : List (S81))) := ⟨_, rfl⟩
   replace H : (some y323) = some r := by first | (rw [hy323]; with_reducible exact H) | (have H2_ := (Option.bind_some _ _).symm.trans H; rw [hy323]; with_reducible exact H2_) | (have H2_ := (Option.bind_some _ _).symm.trans H; with_reducible exact H2_) | with_reducible exact H | (rw [hy323]; exact H) | exact H
   have Ny323 := am hy323
   clear hy323
   obtain rfl := Option.some.inj H
   go_enter Try.func39, Try.ntmps39
   go_wp2_with (first | (refine bx 2 #[.slice A0_0 l0_0.length c0_0, .slice A0_1 l0_1.length c0_1] 57 rfl ?_; intro gb312 hg w7 hbox hb; have BK312 := am (hbox); have GW312 := am ((by rw [hg]; exact (below_size (ph HB.out)) : w.heap.size ≤ gb312)); have GE312 := GW312; replace HB := am (below_step (ph HB.out) hb); clear hb hbox hg) | (refine gl 8 Try.func14 #[.int .i64 a1, .int .i64 1, .int .i64 6] rfl ?_; (with_reducible refine (spec_l6In.calls a1 1 6 true _ A3.out).mono ?_); rintro e w' ⟨rfl, ⟨nd, rfl⟩⟩; refine ⟨_, rfl, ?_⟩; (try (rw [drewN_self w7]; generalize hq_ : World.drewN w7 _ = w7; have n0_ : Aside0 (w7.heap[gb312]? = some (.cells #[.slice A0_0 l0_0.length c0_0, .slice A0_1 l0_1.length c0_1] 57 (0, 0))) := ⟨by rw [← hq_]; exact (pb BK312.out)⟩; have n1_ : Aside0 (Below w.heap.size w w7) := ⟨by rw [← hq_]; exact (bg1 HB.out GE312.out)⟩; clear BK312 HB hq_; have BK312 := n0_; have HB := n1_; clear n0_ n1_)); obtain ⟨hcz8_0, hcz8_1⟩ := b2 BK312.out; obtain ⟨hfz8_0, hfz8_1⟩ := f2 BK312.out) | (refine gl 15 Try.func23 #[.slice A0_0 l0_0.length c0_0, .int .i64 a1] rfl ?_; (with_reducible refine (spec_l3Last.calls k _ _ l0_0 a1 t317 t318 t319 t320 true _ ?side1 ?side2 A5.out).mono ?_); (case side1 => exact pc (Kd.C_below HR0_0.out HB.out)); (case side2 => exact HC0_0.out); rintro e w9 ⟨rfl, hb⟩; refine ⟨_, rfl, ?_⟩; replace BK312 := am (blk_below (pb BK312.out) hb); replace HB := am (below_step (bg1 HB.out GE312.out) hb); (try clear hb); (try clear hb2); (try clear hk); (try clear hi)) | (refine bx 5 #[.int .i64 0, .int .i64 0, .int .i64 0, .int .i64 0] 30 rfl ?_; intro gb322 hg w10 hbox hb; have BK322 := am (hbox); have GW322 := am ((by rw [hg]; exact (below_size (bg1 HB.out GE312.out)) : w.heap.size ≤ gb322)); have GE322 := GW322; replace HB := am (below_step (bg1 HB.out GE312.out) hb); have NB312_322 := am ((by rw [hg]; exact Nat.ne_of_lt (blk_lt (pb BK312.out)) : gb312 ≠ gb322)); have NB322_312 := am (Ne.symm NB312_322.out); replace BK312 := am (blk_below (pb BK312.out) hb); clear hb hbox hg; have hnb11 := NB322_312.out; have hnc11 := NB312_322.out; obtain ⟨hcz12_0, hcz12_1, hcz12_2, hcz12_3⟩ := b4 BK322.out; obtain ⟨hfz12_0, hfz12_1, hfz12_2, hfz12_3⟩ := f4 BK322.out) | ((with_reducible refine gate_dst (N := 19) rfl ?_); refine Kd.R_lit k81 _ 81 ?hg (N := 19) ?hd (xs := ([] : List (S81))) (inner := []) (ok := fun _ => True) (okp := fun _ => True) ?hr ?hp (fun _ hk => hk) trivial (Below.refl _ _) (Nat.le_refl _) (by simp) ?_; (case hd => rfl); (case hg => rfl); (case hr => first | (go_simp; done) | (go_simp; rfl)); (case hp => exact (Reps.none _ _)); intro v324 w13 ho14 hb hg_ hnew_; clear hg_ hnew_; (first | rw [← Ny323.out] at ho14 | (simp only [Int.reduceToNat] at ho14; rw [← Ny323.out] at ho14)); have HO325 := am (Kd.R_lower ho14 (below_size (bg2 HB.out GE312.out GE322.out))); replace BK312 := am (blk_below (g := gb312) (o := .cells #[.slice A0_0 l0_0.length c0_0, .slice A0_1 l0_1.length c0_1] 57 (0, 0)) (by (with_reducible repeat (first | refine blk_drewN ?_ _ | refine blk_drew ?_ | refine blk_alloc ?_ _)); refine blk_far ?_ NB312_322.out _; (with_reducible repeat (first | refine blk_drewN ?_ _ | refine blk_drew ?_ | refine blk_alloc ?_ _)); refine blk_far ?_ NB312_322.out _; (with_reducible repeat (first | refine blk_drewN ?_ _ | refine blk_drew ?_ | refine blk_alloc ?_ _)); refine blk_far ?_ NB312_322.out _; (with_reducible repeat (first | refine blk_drewN ?_ _ | refine blk_drew ?_ | refine blk_alloc ?_ _)); refine blk_far ?_ NB312_322.out _; (with_reducible repeat (first | refine blk_drewN ?_ _ | refine blk_drew ?_ | refine blk_alloc ?_ _)); exact BK312.out) hb); replace BK322 := am (blk_below (g := gb322) (o := .cells #[.int .i64 t317, .int .i64 t318, .int .i64 t319, .int .i64 t320] 30 (0, 0)) (by (with_reducible repeat (first | refine blk_drewN ?_ _ | refine blk_drew ?_ | refine blk_alloc ?_ _)); refine blk_put (cs := #[.int .i64 t317, .int .i64 t318, .int .i64 t319, .int .i64 0]) ?_ 3 _ rfl; (with_reducible repeat (first | refine blk_drewN ?_ _ | refine blk_drew ?_ | refine blk_alloc ?_ _)); refine blk_put (cs := #[.int .i64 t317, .int .i64 t318, .int .i64 0, .int .i64 0]) ?_ 2 _ rfl; (with_reducible repeat (first | refine blk_drewN ?_ _ | refine blk_drew ?_ | refine blk_alloc ?_ _)); refine blk_put (cs := #[.int .i64 t317, .int .i64 0, .int .i64 0, .int .i64 0]) ?_ 1 _ rfl; (with_reducible repeat (first | refine blk_drewN ?_ _ | refine blk_drew ?_ | refine blk_alloc ?_ _)); refine blk_put (cs := #[.int .i64 0, .int .i64 0, .int .i64 0, .int .i64 0]) ?_ 0 _ rfl; (with_reducible repeat (first | refine blk_drewN ?_ _ | refine blk_drew ?_ | refine blk_alloc ?_ _)); exact BK322.out) hb); replace HB := am (below_step (bg2 HB.out GE312.out GE322.out) hb); clear hb ho14))
   go_ret
   exact ⟨_, rq ⟨pr HO325.out, bg2 HB.out GE312.out GE322.out⟩⟩
 replace c6 := Bool.eq_false_iff.mpr c6
 subst c6
 have H1 : (if 0 ≤ (wrap64 (a1 - 1)) then (if (wrap64 (a1 - 1)) < (l0_1.length : Int) then ((spec_l12Write.f k l0_0 l0_1 2 a1 (rd l0_1 (wrap64 (a1 - 1)))).bind fun t327 => (some t327)) else (none)) else (none)) = some r := by rw [if_neg (show ¬ (false = true) by decide)] at H; exact H
 clear H
 have H := H1
 clear H1
 obtain ⟨ji15, hji15⟩ : ∃ j_ : Int, (wrap64 (a1 - 1)) = j_ := ⟨_, rfl⟩
 replace H : (if 0 ≤ (ji15) then (if (ji15) < (l0_1.length : Int) then ((spec_l12Write.f k l0_0 l0_1 2 a1 (rd l0_1 (ji15))).bind fun t327 => (some t327)) else (none)) else (none)) = some r := by first | (rw [hji15] at H; exact H) | (simp only [hji15] at H ⊢; exact H)
 (try rw [hji15] at A3)
 (try rw [hji15] at A5)
 have hji15w : (IntKind.i64.wrap (a1 - 1)) = ji15 := (i64_w _).trans hji15
 by_cases c16 : 0 ≤ (ji15)
 rotate_left
 · rw [if_neg c16] at H
   exact absurd H (by simp)
 rw [if_pos c16] at H
 have c16b0 := decide_eq_true c16
 clear c16
 by_cases c17 : (ji15) < (l0_1.length : Int)
 rotate_left
 · rw [if_neg c17] at H
   exact absurd H (by simp)
 rw [if_pos c17] at H
 have c17b0 := decide_eq_true c17
 clear c17
 replace H := Option.bind_eq_some_iff.mp H
 obtain ⟨t327, A180, H⟩ := H
 replace H : (some t327) = some r := H
 have A18 := am A180
 clear A180
 obtain rfl := Option.some.inj H
 go_enter Try.func39, Try.ntmps39
 try go_wp2_with (first | (refine bx 2 #[.slice A0_0 l0_0.length c0_0, .slice A0_1 l0_1.length c0_1] 57 rfl ?_; intro gb312 hg w19 hbox hb; have BK312 := am (hbox); have GW312 := am ((by rw [hg]; exact (below_size (ph HB.out)) : w.heap.size ≤ gb312)); have GE312 := GW312; replace HB := am (below_step (ph HB.out) hb); clear hb hbox hg) | (refine gl 8 Try.func14 #[.int .i64 a1, .int .i64 1, .int .i64 6] rfl ?_; (with_reducible refine (spec_l6In.calls a1 1 6 true _ A3.out).mono ?_); rintro e w' ⟨rfl, ⟨nd, rfl⟩⟩; refine ⟨_, rfl, ?_⟩; (try (rw [drewN_self w19]; generalize hq_ : World.drewN w19 _ = w19; have n0_ : Aside0 (w19.heap[gb312]? = some (.cells #[.slice A0_0 l0_0.length c0_0, .slice A0_1 l0_1.length c0_1] 57 (0, 0))) := ⟨by rw [← hq_]; exact (pb BK312.out)⟩; have n1_ : Aside0 (Below w.heap.size w w19) := ⟨by rw [← hq_]; exact (bg1 HB.out GE312.out)⟩; clear BK312 HB hq_; have BK312 := n0_; have HB := n1_; clear n0_ n1_)); obtain ⟨hcz20_0, hcz20_1⟩ := b2 BK312.out; obtain ⟨hfz20_0, hfz20_1⟩ := f2 BK312.out) | (refine gl 15 Try.func23 #[.slice A0_0 l0_0.length c0_0, .int .i64 a1] rfl ?_; (with_reducible refine (spec_l3Last.calls k _ _ l0_0 a1 t317 t318 t319 t320 false _ ?side1 ?side2 A5.out).mono ?_); (case side1 => exact pc (Kd.C_below HR0_0.out HB.out)); (case side2 => exact HC0_0.out); rintro e w21 ⟨rfl, hb⟩; refine ⟨_, rfl, ?_⟩; replace BK312 := am (blk_below (pb BK312.out) hb); replace HB := am (below_step (bg1 HB.out GE312.out) hb); (try clear hb); (try clear hb2); (try clear hk); (try clear hi)) | (refine bx 5 #[.int .i64 0, .int .i64 0, .int .i64 0, .int .i64 0] 30 rfl ?_; intro gb322 hg w22 hbox hb; have BK322 := am (hbox); have GW322 := am ((by rw [hg]; exact (below_size (bg1 HB.out GE312.out)) : w.heap.size ≤ gb322)); have GE322 := GW322; replace HB := am (below_step (bg1 HB.out GE312.out) hb); have NB312_322 := am ((by rw [hg]; exact Nat.ne_of_lt (blk_lt (pb BK312.out)) : gb312 ≠ gb322)); have NB322_312 := am (Ne.symm NB312_322.out); replace BK312 := am (blk_below (pb BK312.out) hb); clear hb hbox hg; have hnb23 := NB322_312.out; have hnc23 := NB312_322.out; obtain ⟨hcz24_0, hcz24_1, hcz24_2, hcz24_3⟩ := b4 BK322.out; obtain ⟨hfz24_0, hfz24_1, hfz24_2, hfz24_3⟩ := f4 BK322.out))
 have n0_ : Aside0 (((((w22.setCell ⟨gb322, 0, none⟩ (.int .i64 t317)).setCell ⟨gb322, 1, none⟩ (.int .i64 t318)).setCell ⟨gb322, 2, none⟩ (.int .i64 t319)).setCell ⟨gb322, 3, none⟩ (.int .i64 t320)).heap[gb312]? = some (.cells #[.slice A0_0 l0_0.length c0_0, .slice A0_1 l0_1.length c0_1] 57 (0, 0))) := ⟨by (with_reducible repeat (first | refine blk_drewN ?_ _ | refine blk_drew ?_ | refine blk_alloc ?_ _)); refine blk_far ?_ NB312_322.out _; (with_reducible repeat (first | refine blk_drewN ?_ _ | refine blk_drew ?_ | refine blk_alloc ?_ _)); refine blk_far ?_ NB312_322.out _; (with_reducible repeat (first | refine blk_drewN ?_ _ | refine blk_drew ?_ | refine blk_alloc ?_ _)); refine blk_far ?_ NB312_322.out _; (with_reducible repeat (first | refine blk_drewN ?_ _ | refine blk_drew ?_ | refine blk_alloc ?_ _)); refine blk_far ?_ NB312_322.out _; (with_reducible repeat (first | refine blk_drewN ?_ _ | refine blk_drew ?_ | refine blk_alloc ?_ _)); exact BK312.out⟩
 have n1_ : Aside0 (((((w22.setCell ⟨gb322, 0, none⟩ (.int .i64 t317)).setCell ⟨gb322, 1, none⟩ (.int .i64 t318)).setCell ⟨gb322, 2, none⟩ (.int .i64 t319)).setCell ⟨gb322, 3, none⟩ (.int .i64 t320)).heap[gb322]? = some (.cells #[.int .i64 t317, .int .i64 t318, .int .i64 t319, .int .i64 t320] 30 (0, 0))) := ⟨by (with_reducible repeat (first | refine blk_drewN ?_ _ | refine blk_drew ?_ | refine blk_alloc ?_ _)); refine blk_put (cs := #[.int .i64 t317, .int .i64 t318, .int .i64 t319, .int .i64 0]) ?_ 3 _ rfl; (with_reducible repeat (first | refine blk_drewN ?_ _ | refine blk_drew ?_ | refine blk_alloc ?_ _)); refine blk_put (cs := #[.int .i64 t317, .int .i64 t318, .int .i64 0, .int .i64 0]) ?_ 2 _ rfl; (with_reducible repeat (first | refine blk_drewN ?_ _ | refine blk_drew ?_ | refine blk_alloc ?_ _)); refine blk_put (cs := #[.int .i64 t317, .int .i64 0, .int .i64 0, .int .i64 0]) ?_ 1 _ rfl; (with_reducible repeat (first | refine blk_drewN ?_ _ | refine blk_drew ?_ | refine blk_alloc ?_ _)); refine blk_put (cs := #[.int .i64 0, .int .i64 0, .int .i64 0, .int .i64 0]) ?_ 0 _ rfl; (with_reducible repeat (first | refine blk_drewN ?_ _ | refine blk_drew ?_ | refine blk_alloc ?_ _)); exact BK322.out⟩
 have n2_ : Aside0 (Below w.heap.size w ((((w22.setCell ⟨gb322, 0, none⟩ (.int .i64 t317)).setCell ⟨gb322, 1, none⟩ (.int .i64 t318)).setCell ⟨gb322, 2, none⟩ (.int .i64 t319)).setCell ⟨gb322, 3, none⟩ (.int .i64 t320))) := ⟨bg2 HB.out GE312.out GE322.out⟩
 (try clear BK312)
 (try clear BK322)
 (try clear HB)
 generalize ((((w22.setCell ⟨gb322, 0, none⟩ (.int .i64 t317)).setCell ⟨gb322, 1, none⟩ (.int .i64 t318)).setCell ⟨gb322, 2, none⟩ (.int .i64 t319)).setCell ⟨gb322, 3, none⟩ (.int .i64 t320)) = w25 at n0_ n1_ n2_ ⊢
 have BK312 := n0_
 have BK322 := n1_
 have HB := n2_
 clear n0_ n1_ n2_
 replace BK312 := am (blk_drew BK312.out)
 replace BK322 := am (blk_drew BK322.out)
 replace HB := am (below_drew1 HB.out)
 have p326 : 0 ≤ ((ji15) : Int) := ofb
 have q326 : (ji15) < (l0_1.length : Int) := ofb
 obtain ⟨ad326, e326, hx326_0⟩ := Kd.at_int HR0_1.out (ji15) p326 q326
 have hw326_0 := hx326_0
 cases e326
 replace hx326_0 := up HB.out hx326_0
 replace p326 := eq_true p326
 replace q326 := eq_true q326
 refine start_ (n := 10) (S := fun w' => w'.cell? ⟨gb312, 0, none⟩ = some (.slice A0_0 l0_0.length c0_0) ∧ w'.cell? ⟨gb312, 1, none⟩ = some (.slice (some ad326) l0_1.length c0_1) ∧ w'.cell? (ad326.add ((ji15)).toNat) = some (.int .i64 (rd l0_1 (ji15)))) (ds := []) #[false, false, false, false, false, false, false, false, false, false] (by kernel_rfl) rfl rfl ⟨(blk_cell BK312.out 0).trans rfl, (blk_cell BK312.out 1).trans rfl, ((HB.out.cell (World.block_lt_of_cell? w _ hw326_0)).trans hw326_0)⟩ (fun hHeld => ?_); refine with_tabW spec_l12Fill.tab6 spec_l12Fill.bits6 (fun HT_ HW_ => ?_)
 generalize w25.drew = w26 at BK312 BK322 HB hx326_0 hHeld ⊢
 refine pj_ 1 21 #[false, true, false, false, false, false, false, false, false, false] rfl rfl (any_of HT_.out (by kernel_rfl)) (fun _ _ _ h => h) ?_
 refine pj_ 2 22 #[false, true, true, false, false, false, false, false, false, false] rfl rfl (any_of HT_.out (by kernel_rfl)) (fun _ _ _ h => h) ?_
 refine pj_ 4 24 #[false, true, true, false, true, false, false, false, false, false] rfl rfl (any_of HT_.out (by kernel_rfl)) (fun _ _ _ h => h) ?_
 refine pj_ 5 25 #[false, true, true, false, true, true, false, false, false, false] rfl rfl (any_of HT_.out (by kernel_rfl)) (fun _ _ _ h => h) ?_
 refine pm_ 0 20 #[true, true, true, false, true, true, false, false, false, false] rfl rfl (take_ofW HT_.out HW_.out (by kernel_rfl)) (fun _ _ _ h => h) hHeld ?_
 refine pm_ 3 23 #[true, true, true, true, true, true, false, false, false, false] rfl rfl (take_ofW HT_.out HW_.out (by kernel_rfl)) (fun _ _ _ h => h) hHeld ?_
 refine pj_ 6 26 #[true, true, true, true, true, true, true, false, false, false] rfl rfl (any_of HT_.out (by kernel_rfl)) (fun _ _ _ h => h) ?_
 refine pm_ 7 27 #[true, true, true, true, true, true, true, true, false, false] rfl rfl (take_ofW HT_.out HW_.out (by kernel_rfl)) (fun _ _ _ h => h) hHeld ?_
 refine one_ (i := 8) (N := some 28) #[true, true, true, true, true, true, true, true, true, false] rfl rfl (one_of HT_.out (by kernel_rfl)) (by decide) (fun K hK => ?_)
 refine goes_ Try.func38 (by kernel_rfl) rfl #[.agg #[.slice A0_0 l0_0.length c0_0, .slice (some ad326) l0_1.length c0_1], .int .i64 2, .int .i64 a1, .int .i64 (rd l0_1 (ji15))] (by rfl) rfl rfl (by (try simp only [List.map_toArray, List.map_cons, List.map_nil]); first | done | (simp only [hji15]; rfl) | rfl | (simp only [List.length_drop, List.length_take]; rfl)) ?_
 with_reducible refine (spec_l12Write.calls k _ _ l0_0 _ _ l0_1 2 a1 (rd l0_1 (ji15)) t327 _ ?side1 ?side2 ?side3 ?side4 A18.out).mono ?_
 (case side1 => exact pc (Kd.C_below HR0_0.out HB.out))
 (case side2 => exact HC0_0.out)
 (case side3 => exact pc (Kd.C_below HR0_1.out HB.out))
 (case side4 => exact HC0_1.out)
 rintro e w27 ⟨v328, rfl, ho0, hb⟩
 refine ⟨_, rfl, ?_⟩
 have HO329 := am (Kd.R_lower ho0 (below_size (bg2 HB.out GE312.out GE322.out)))
 replace BK312 := am (blk_below (pb BK312.out) hb)
 replace BK322 := am (blk_below (pb BK322.out) hb)
 replace HB := am (below_step (bg2 HB.out GE312.out GE322.out) hb)
 (try clear hb)
 (try clear hb2)
 (try clear hk)
 (try clear hi)
 (try clear ho0)
 refine hK.out _ _ ⟨(blk_cell BK312.out 0).trans rfl, (blk_cell BK312.out 1).trans rfl, ((HB.out.cell (World.block_lt_of_cell? w _ hw326_0)).trans hw326_0)⟩ (fun hHeld => ?_)
 clear hK K
 refine norm_ (a' := ?_) ?_ ?_
 rotate_left
 · show Act.put _ (some 28) _ = _
   simp only [Act.put, List.setIfInBounds_toArray, List.set_cons_zero, List.set_cons_succ, i64_w, i32_w]
   rfl
 refine pj_ 9 4 #[true, true, true, true, true, true, true, true, true, true] rfl rfl (any_of HT_.out (by kernel_rfl)) (fun _ _ _ h => h) ?_
 refine done_ (done_of HT_.out (by kernel_rfl)) ?_
 try go_wp2
 go_ret
 exact ⟨_, by first | rfl | (simp [errW_none, errW_some] <;> rfl) | (simp only [← hji15]; first | rfl | (simp [errW_none, errW_some] <;> rfl)) | (simp [*, errW_none, errW_some] <;> rfl), pr HO329.out, bg2 HB.out GE312.out GE322.out⟩
def spec_l21Steps.f (k : Nat) (l0_0 : List (S35)) (l0_1 : List Int) (a1_0 : Int) (a1_1 : Int) (a1_2 : Int) (a1_3 : Int) (a1_4 : Bool) : Option ((List (S81))) := if a1_0 = 1 then ((spec_l12Write.f k l0_0 l0_1 1 a1_1 a1_2).bind fun t332 => (some t332)) else (if a1_0 = 2 then ((spec_l12Flush.f k l0_0 l0_1 a1_1).bind fun t335 => (some t335)) else (if a1_0 = 3 then ((spec_l12Fill.f k l0_0 l0_1 a1_1).bind fun t338 => (some t338)) else (some (([] : List (S81))))))
theorem spec_l21Steps.mono : ∀ a0 a1 a2 a3 a4 a5 a6 k, LeO (spec_l21Steps.f k a0 a1 a2 a3 a4 a5 a6) (spec_l21Steps.f (k + 1) a0 a1 a2 a3 a4 a5 a6) := by
 intro a0 a1 a2 a3 a4 a5 a6 k
 unfold spec_l21Steps.f
 repeat' first
  | (with_reducible exact spec_l12Fill.mono _ _ _ _)
  | (with_reducible exact spec_l12Flush.mono _ _ _ _)
  | (with_reducible exact spec_l12Write.mono _ _ _ _ _ _)
  | (with_reducible exact LeO.refl _)
  | (with_reducible exact LeO.none _)
  | (with_reducible refine LeO.ite ?_ ?_)
  | (with_reducible refine LeO.bind ?_ (fun _ => ?_))
  | exact spec_l12Fill.mono _ _ _ _
  | exact spec_l12Flush.mono _ _ _ _
  | exact spec_l12Write.mono _ _ _ _ _ _
  | exact LeO.none _
  | refine LeO.ite ?_ ?_
  | refine LeO.bind ?_ (fun _ => ?_)
set_option maxHeartbeats 8000000 in
set_option maxRecDepth 100000 in
theorem spec_l21Steps.calls (k : Nat) (A0_0 : Option Addr) (c0_0 : Nat) (l0_0 : List (S35)) (A0_1 : Option Addr) (c0_1 : Nat) (l0_1 : List Int) (a1_0 : Int) (a1_1 : Int) (a1_2 : Int) (a1_3 : Int) (a1_4 : Bool) (r : List (S81)) (w : World) (hr0_0 : Kd.C k35 w A0_0 l0_0.length l0_0) (hc0_0 : l0_0.length ≤ c0_0) (hr0_1 : Kd.C (Kd.int .i64) w A0_1 l0_1.length l0_1) (hc0_1 : l0_1.length ≤ c0_1) (h : spec_l21Steps.f k l0_0 l0_1 a1_0 a1_1 a1_2 a1_3 a1_4 = some r) :
 Calls Try.prog 33 #[.agg #[.slice A0_0 l0_0.length c0_0, .slice A0_1 l0_1.length c0_1], .agg #[.int .i64 a1_0, .int .i64 a1_1, .int .i64 a1_2, .int .i64 a1_3, .bool a1_4]] w fun e w' => ∃ v0_ : Value, e = .returned (v0_) ∧ Kd.R k81 81 w' w.heap.size (fun _ => True) v0_ r ∧ Below w.heap.size w w' := by
 have hu57 := Try.underlying57
 have hu67 := Try.underlying67
 have HR0_0 := am hr0_0
 have HC0_0 := am hc0_0
 clear hr0_0 hc0_0
 have HR0_1 := am hr0_1
 have HC0_1 := am hc0_1
 clear hr0_1 hc0_1
 have HB := am (Below.refl w.heap.size w)
 have H : (if a1_0 = 1 then ((spec_l12Write.f k l0_0 l0_1 1 a1_1 a1_2).bind fun t332 => (some t332)) else (if a1_0 = 2 then ((spec_l12Flush.f k l0_0 l0_1 a1_1).bind fun t335 => (some t335)) else (if a1_0 = 3 then ((spec_l12Fill.f k l0_0 l0_1 a1_1).bind fun t338 => (some t338)) else (some (([] : List (S81))))))) = some r := h
 clear h
 by_cases c3 : a1_0 = 1
 · rw [if_pos c3] at H
   have c3b0 : (a1_0 == 1) = true := beq_iff_eq.mpr c3
   have c3b1 : (a1_0 != 1) = false := bne_eq_false_iff_eq.mpr c3
   clear c3
   replace H := Option.bind_eq_some_iff.mp H
   obtain ⟨t332, A40, H⟩ := H
   replace H : (some t332) = some r := H
   have A4 := am A40
   clear A40
   obtain rfl := Option.some.inj H
   go_enter Try.func33, Try.ntmps33
   go_wp2_with (first | (refine bx 2 #[.slice A0_0 l0_0.length c0_0, .slice A0_1 l0_1.length c0_1] 57 rfl ?_; intro gb330 hg w5 hbox hb; have BK330 := am (hbox); have GW330 := am ((by rw [hg]; exact (below_size (ph HB.out)) : w.heap.size ≤ gb330)); have GE330 := GW330; replace HB := am (below_step (ph HB.out) hb); clear hb hbox hg) | (refine bx 3 #[.int .i64 a1_0, .int .i64 a1_1, .int .i64 a1_2, .int .i64 a1_3, .bool a1_4] 67 rfl ?_; intro gb331 hg w6 hbox hb; have BK331 := am (hbox); have GW331 := am ((by rw [hg]; exact (below_size (bg1 HB.out GE330.out)) : w.heap.size ≤ gb331)); have GE331 := GW331; replace HB := am (below_step (bg1 HB.out GE330.out) hb); have NB330_331 := am ((by rw [hg]; exact Nat.ne_of_lt (blk_lt (pb BK330.out)) : gb330 ≠ gb331)); have NB331_330 := am (Ne.symm NB330_331.out); replace BK330 := am (blk_below (pb BK330.out) hb); clear hb hbox hg; have hnb7 := NB331_330.out; have hnc7 := NB330_331.out; obtain ⟨hcz8_0, hcz8_1, hcz8_2, hcz8_3, hcz8_4⟩ := b5 BK331.out; obtain ⟨hfz8_0, hfz8_1, hfz8_2, hfz8_3, hfz8_4⟩ := f5 BK331.out; obtain ⟨hcz9_0, hcz9_1⟩ := b2 BK330.out; obtain ⟨hfz9_0, hfz9_1⟩ := f2 BK330.out) | (refine gl 14 Try.func38 #[.agg #[.slice A0_0 l0_0.length c0_0, .slice A0_1 l0_1.length c0_1], .int .i64 1, .int .i64 a1_1, .int .i64 a1_2] rfl ?_; (with_reducible refine (spec_l12Write.calls k _ _ l0_0 _ _ l0_1 1 a1_1 a1_2 t332 _ ?side1 ?side2 ?side3 ?side4 A4.out).mono ?_); (case side1 => exact pc (Kd.C_below HR0_0.out HB.out)); (case side2 => exact HC0_0.out); (case side3 => exact pc (Kd.C_below HR0_1.out HB.out)); (case side4 => exact HC0_1.out); rintro e w10 ⟨v333, rfl, ho0, hb⟩; refine ⟨_, rfl, ?_⟩; have HO334 := am (Kd.R_lower ho0 (below_size (bg2 HB.out GE330.out GE331.out))); replace BK330 := am (blk_below (pb BK330.out) hb); replace BK331 := am (blk_below (pb BK331.out) hb); replace HB := am (below_step (bg2 HB.out GE330.out GE331.out) hb); (try clear hb); (try clear hb2); (try clear hk); (try clear hi); (try clear ho0)))
   go_ret
   exact ⟨_, rq ⟨pr HO334.out, bg2 HB.out GE330.out GE331.out⟩⟩
 rw [if_neg c3] at H
 have c3b0 : (a1_0 == 1) = false := beq_eq_false_iff_ne.mpr c3
 have c3b1 : (a1_0 != 1) = true := bne_iff_ne.mpr c3
 by_cases c11 : a1_0 = 2
 · rw [if_pos c11] at H
   have c11b0 : (a1_0 == 2) = true := beq_iff_eq.mpr c11
   have c11b1 : (a1_0 != 2) = false := bne_eq_false_iff_eq.mpr c11
   clear c11
   replace H := Option.bind_eq_some_iff.mp H
   obtain ⟨t335, A120, H⟩ := H
   replace H : (some t335) = some r := H
   have A12 := am A120
   clear A120
   obtain rfl := Option.some.inj H
   go_enter Try.func33, Try.ntmps33
   go_wp2_with (first | (refine bx 2 #[.slice A0_0 l0_0.length c0_0, .slice A0_1 l0_1.length c0_1] 57 rfl ?_; intro gb330 hg w13 hbox hb; have BK330 := am (hbox); have GW330 := am ((by rw [hg]; exact (below_size (ph HB.out)) : w.heap.size ≤ gb330)); have GE330 := GW330; replace HB := am (below_step (ph HB.out) hb); clear hb hbox hg) | (refine bx 3 #[.int .i64 a1_0, .int .i64 a1_1, .int .i64 a1_2, .int .i64 a1_3, .bool a1_4] 67 rfl ?_; intro gb331 hg w14 hbox hb; have BK331 := am (hbox); have GW331 := am ((by rw [hg]; exact (below_size (bg1 HB.out GE330.out)) : w.heap.size ≤ gb331)); have GE331 := GW331; replace HB := am (below_step (bg1 HB.out GE330.out) hb); have NB330_331 := am ((by rw [hg]; exact Nat.ne_of_lt (blk_lt (pb BK330.out)) : gb330 ≠ gb331)); have NB331_330 := am (Ne.symm NB330_331.out); replace BK330 := am (blk_below (pb BK330.out) hb); clear hb hbox hg; have hnb15 := NB331_330.out; have hnc15 := NB330_331.out; obtain ⟨hcz16_0, hcz16_1, hcz16_2, hcz16_3, hcz16_4⟩ := b5 BK331.out; obtain ⟨hfz16_0, hfz16_1, hfz16_2, hfz16_3, hfz16_4⟩ := f5 BK331.out; obtain ⟨hcz17_0, hcz17_1⟩ := b2 BK330.out; obtain ⟨hfz17_0, hfz17_1⟩ := f2 BK330.out) | (refine gl 20 Try.func36 #[.agg #[.slice A0_0 l0_0.length c0_0, .slice A0_1 l0_1.length c0_1], .int .i64 a1_1] rfl ?_; (with_reducible refine (spec_l12Flush.calls k _ _ l0_0 _ _ l0_1 a1_1 t335 _ ?side1 ?side2 ?side3 ?side4 A12.out).mono ?_); (case side1 => exact pc (Kd.C_below HR0_0.out HB.out)); (case side2 => exact HC0_0.out); (case side3 => exact pc (Kd.C_below HR0_1.out HB.out)); (case side4 => exact HC0_1.out); rintro e w18 ⟨v336, rfl, ho0, hb⟩; refine ⟨_, rfl, ?_⟩; have HO337 := am (Kd.R_lower ho0 (below_size (bg2 HB.out GE330.out GE331.out))); replace BK330 := am (blk_below (pb BK330.out) hb); replace BK331 := am (blk_below (pb BK331.out) hb); replace HB := am (below_step (bg2 HB.out GE330.out GE331.out) hb); (try clear hb); (try clear hb2); (try clear hk); (try clear hi); (try clear ho0)))
   go_ret
   exact ⟨_, rq ⟨pr HO337.out, bg2 HB.out GE330.out GE331.out⟩⟩
 rw [if_neg c11] at H
 have c11b0 : (a1_0 == 2) = false := beq_eq_false_iff_ne.mpr c11
 have c11b1 : (a1_0 != 2) = true := bne_iff_ne.mpr c11
 by_cases c19 : a1_0 = 3
 rotate_left
 · rw [if_neg c19] at H
   have c19b0 : (a1_0 == 3) = false := beq_eq_false_iff_ne.mpr c19
   have c19b1 : (a1_0 != 3) = true := bne_iff_ne.mpr c19
   obtain ⟨y341, hy341⟩ : ∃ y_ : List (S81), y_ = (([] : List (S81))) := ⟨_, rfl⟩
   replace H : (some y341) = some r := by first | (rw [hy341]; with_reducible exact H) | (have H2_ := (Option.bind_some _ _).symm.trans H; rw [hy341]; with_reducible exact H2_) | (have H2_ := (Option.bind_some _ _).symm.trans H; with_reducible exact H2_) | with_reducible exact H | (rw [hy341]; exact H) | exact H
   have Ny341 := am hy341
   clear hy341
   obtain rfl := Option.some.inj H
   go_enter Try.func33, Try.ntmps33
   go_wp2_with (first | (refine bx 2 #[.slice A0_0 l0_0.length c0_0, .slice A0_1 l0_1.length c0_1] 57 rfl ?_; intro gb330 hg w27 hbox hb; have BK330 := am (hbox); have GW330 := am ((by rw [hg]; exact (below_size (ph HB.out)) : w.heap.size ≤ gb330)); have GE330 := GW330; replace HB := am (below_step (ph HB.out) hb); clear hb hbox hg) | (refine bx 3 #[.int .i64 a1_0, .int .i64 a1_1, .int .i64 a1_2, .int .i64 a1_3, .bool a1_4] 67 rfl ?_; intro gb331 hg w28 hbox hb; have BK331 := am (hbox); have GW331 := am ((by rw [hg]; exact (below_size (bg1 HB.out GE330.out)) : w.heap.size ≤ gb331)); have GE331 := GW331; replace HB := am (below_step (bg1 HB.out GE330.out) hb); have NB330_331 := am ((by rw [hg]; exact Nat.ne_of_lt (blk_lt (pb BK330.out)) : gb330 ≠ gb331)); have NB331_330 := am (Ne.symm NB330_331.out); replace BK330 := am (blk_below (pb BK330.out) hb); clear hb hbox hg; have hnb29 := NB331_330.out; have hnc29 := NB330_331.out; obtain ⟨hcz30_0, hcz30_1, hcz30_2, hcz30_3, hcz30_4⟩ := b5 BK331.out; obtain ⟨hfz30_0, hfz30_1, hfz30_2, hfz30_3, hfz30_4⟩ := f5 BK331.out) | ((with_reducible refine gate_dst (N := 27) rfl ?_); refine Kd.R_lit k81 _ 81 ?hg (N := 27) ?hd (xs := ([] : List (S81))) (inner := []) (ok := fun _ => True) (okp := fun _ => True) ?hr ?hp (fun _ hk => hk) trivial (Below.refl _ _) (Nat.le_refl _) (by simp) ?_; (case hd => rfl); (case hg => rfl); (case hr => first | (go_simp; done) | (go_simp; rfl)); (case hp => exact (Reps.none _ _)); intro v342 w31 ho32 hb hg_ hnew_; clear hg_ hnew_; (first | rw [← Ny341.out] at ho32 | (simp only [Int.reduceToNat] at ho32; rw [← Ny341.out] at ho32)); have HO343 := am (Kd.R_lower ho32 (below_size (bg2 HB.out GE330.out GE331.out))); replace BK330 := am (blk_below (pb BK330.out) hb); replace BK331 := am (blk_below (pb BK331.out) hb); replace HB := am (below_step (bg2 HB.out GE330.out GE331.out) hb); clear hb ho32))
   go_ret
   exact ⟨_, rq ⟨pr HO343.out, bg2 HB.out GE330.out GE331.out⟩⟩
 rw [if_pos c19] at H
 have c19b0 : (a1_0 == 3) = true := beq_iff_eq.mpr c19
 have c19b1 : (a1_0 != 3) = false := bne_eq_false_iff_eq.mpr c19
 clear c19
 replace H := Option.bind_eq_some_iff.mp H
 obtain ⟨t338, A200, H⟩ := H
 replace H : (some t338) = some r := H
 have A20 := am A200
 clear A200
 obtain rfl := Option.some.inj H
 go_enter Try.func33, Try.ntmps33
 go_wp2_with (first | (refine bx 2 #[.slice A0_0 l0_0.length c0_0, .slice A0_1 l0_1.length c0_1] 57 rfl ?_; intro gb330 hg w21 hbox hb; have BK330 := am (hbox); have GW330 := am ((by rw [hg]; exact (below_size (ph HB.out)) : w.heap.size ≤ gb330)); have GE330 := GW330; replace HB := am (below_step (ph HB.out) hb); clear hb hbox hg) | (refine bx 3 #[.int .i64 a1_0, .int .i64 a1_1, .int .i64 a1_2, .int .i64 a1_3, .bool a1_4] 67 rfl ?_; intro gb331 hg w22 hbox hb; have BK331 := am (hbox); have GW331 := am ((by rw [hg]; exact (below_size (bg1 HB.out GE330.out)) : w.heap.size ≤ gb331)); have GE331 := GW331; replace HB := am (below_step (bg1 HB.out GE330.out) hb); have NB330_331 := am ((by rw [hg]; exact Nat.ne_of_lt (blk_lt (pb BK330.out)) : gb330 ≠ gb331)); have NB331_330 := am (Ne.symm NB330_331.out); replace BK330 := am (blk_below (pb BK330.out) hb); clear hb hbox hg; have hnb23 := NB331_330.out; have hnc23 := NB330_331.out; obtain ⟨hcz24_0, hcz24_1, hcz24_2, hcz24_3, hcz24_4⟩ := b5 BK331.out; obtain ⟨hfz24_0, hfz24_1, hfz24_2, hfz24_3, hfz24_4⟩ := f5 BK331.out; obtain ⟨hcz25_0, hcz25_1⟩ := b2 BK330.out; obtain ⟨hfz25_0, hfz25_1⟩ := f2 BK330.out) | (refine gl 26 Try.func39 #[.agg #[.slice A0_0 l0_0.length c0_0, .slice A0_1 l0_1.length c0_1], .int .i64 a1_1] rfl ?_; (with_reducible refine (spec_l12Fill.calls k _ _ l0_0 _ _ l0_1 a1_1 t338 _ ?side1 ?side2 ?side3 ?side4 A20.out).mono ?_); (case side1 => exact pc (Kd.C_below HR0_0.out HB.out)); (case side2 => exact HC0_0.out); (case side3 => exact pc (Kd.C_below HR0_1.out HB.out)); (case side4 => exact HC0_1.out); rintro e w26 ⟨v339, rfl, ho0, hb⟩; refine ⟨_, rfl, ?_⟩; have HO340 := am (Kd.R_lower ho0 (below_size (bg2 HB.out GE330.out GE331.out))); replace BK330 := am (blk_below (pb BK330.out) hb); replace BK331 := am (blk_below (pb BK331.out) hb); replace HB := am (below_step (bg2 HB.out GE330.out GE331.out) hb); (try clear hb); (try clear hb2); (try clear hk); (try clear hi); (try clear ho0)))
 go_ret
 exact ⟨_, rq ⟨pr HO340.out, bg2 HB.out GE330.out GE331.out⟩⟩
def spec_l21Do.f (k : Nat) (l0_0 : List (S35)) (l0_1 : List Int) (a1_0 : Int) (a1_1 : Int) (a1_2 : Int) (a1_3 : Int) (a1_4 : Bool) : Option ((List (S35)) × List Int) := if a1_0 = 4 then ((spec_l21All.f k l0_0 l0_1).bind fun bt347 => (some (bt347.1, bt347.2))) else (if a1_3 < 0 then (some (l0_0, l0_1)) else ((spec_l21Steps.f k l0_0 l0_1 a1_0 a1_1 a1_2 a1_3 a1_4).bind fun t353 => ((spec_l12To.f k l0_0 l0_1 t353 a1_3 a1_4).bind fun bt356 => (some (bt356.1, bt356.2)))))
theorem spec_l21Do.mono : ∀ a0 a1 a2 a3 a4 a5 a6 k, LeO (spec_l21Do.f k a0 a1 a2 a3 a4 a5 a6) (spec_l21Do.f (k + 1) a0 a1 a2 a3 a4 a5 a6) := by
 intro a0 a1 a2 a3 a4 a5 a6 k
 unfold spec_l21Do.f
 repeat' first
  | (with_reducible exact spec_l12To.mono _ _ _ _ _ _)
  | (with_reducible exact spec_l21All.mono _ _ _)
  | (with_reducible exact spec_l21Steps.mono _ _ _ _ _ _ _ _)
  | (with_reducible exact LeO.refl _)
  | (with_reducible exact LeO.none _)
  | (with_reducible refine LeO.ite ?_ ?_)
  | (with_reducible refine LeO.bind ?_ (fun _ => ?_))
  | exact spec_l12To.mono _ _ _ _ _ _
  | exact spec_l21All.mono _ _ _
  | exact spec_l21Steps.mono _ _ _ _ _ _ _ _
  | exact LeO.none _
  | refine LeO.ite ?_ ?_
  | refine LeO.bind ?_ (fun _ => ?_)
def spec_l21Do.T5 : Bool × List (List Nat × List Nat) := (true, [([], []), ([], []), ([], []), ([1, 2], [1, 2]), ([], []), ([4], [4]), ([], []), ([6], [6]), ([0, 3, 5, 7, 3], [0, 3, 5, 7]), ([8, 8, 0, 1, 2, 3, 4, 5, 6, 7, 8], [8])])
def spec_l21Do.B5 : List Nat := [0, 0, 0, 6, 0, 16, 0, 64, 255, 511]
theorem spec_l21Do.tab5 : rtab .any (opsOf Try.f28 5) = spec_l21Do.T5 := by kernel_rfl
theorem spec_l21Do.bits5 : waitsOk spec_l21Do.T5.2 spec_l21Do.B5 = true := by kernel_rfl
set_option maxHeartbeats 8000000 in
set_option maxRecDepth 100000 in
theorem spec_l21Do.calls (k : Nat) (P0_0_ : Nat → Prop) (u9000_ : Value) (l0_0 : List (S35)) (P0_1_ : Nat → Prop) (u9001_ : Value) (l0_1 : List Int) (a1_0 : Int) (a1_1 : Int) (a1_2 : Int) (a1_3 : Int) (a1_4 : Bool) (r1 : List (S35)) (r2 : List Int) (w0 w : World) (hB : Below w0.heap.size w0 w) (ho0_0 : Kd.S k35 35 w w0.heap.size P0_0_ u9000_ l0_0) (ho0_1 : Kd.R (Kd.int .i64) 3 w w0.heap.size P0_1_ u9001_ l0_1) (h : spec_l21Do.f k l0_0 l0_1 a1_0 a1_1 a1_2 a1_3 a1_4 = some (r1, r2)) :
 Calls Try.prog 28 #[.agg #[u9000_, u9001_], .agg #[.int .i64 a1_0, .int .i64 a1_1, .int .i64 a1_2, .int .i64 a1_3, .bool a1_4]] w fun e w' => ∃ v0_ v1_ : Value, e = .returned (.agg #[v0_, v1_]) ∧ Kd.S k35 35 w' w0.heap.size (fun k_ => ((P0_0_ k_ ∨ P0_1_ k_) ∨ w.heap.size ≤ k_)) v0_ r1 ∧ Kd.R (Kd.int .i64) 3 w' w0.heap.size (fun k_ => ((P0_0_ k_ ∨ P0_1_ k_) ∨ w.heap.size ≤ k_)) v1_ r2 ∧ Below w0.heap.size w0 w' ∧ Kept w w' (fun k_ => P0_0_ k_ ∨ P0_1_ k_) := by
 have hu57 := Try.underlying57
 have hu67 := Try.underlying67
 have HO0_0 := am (show Kd.S k35 35 w w0.heap.size (fun k_ => ((P0_0_ k_ ∨ P0_1_ k_) ∨ w.heap.size ≤ k_)) u9000_ l0_0 from Kd.S_mono ho0_0 (fun k_ hk => (.inl (.inl hk))))
 have HO0_1 := am (show Kd.R (Kd.int .i64) 3 w w0.heap.size (fun k_ => ((P0_0_ k_ ∨ P0_1_ k_) ∨ w.heap.size ≤ k_)) u9001_ l0_1 from Kd.R_mono ho0_1 (fun k_ hk => (.inl (.inr hk))))
 have HK := am (Kept.refl w (fun k_ => P0_0_ k_ ∨ P0_1_ k_))
 have HW0 := am hB.size
 have HB := am hB
 clear hB
 have H : (if a1_0 = 4 then ((spec_l21All.f k l0_0 l0_1).bind fun bt347 => (some (bt347.1, bt347.2))) else (if a1_3 < 0 then (some (l0_0, l0_1)) else ((spec_l21Steps.f k l0_0 l0_1 a1_0 a1_1 a1_2 a1_3 a1_4).bind fun t353 => ((spec_l12To.f k l0_0 l0_1 t353 a1_3 a1_4).bind fun bt356 => (some (bt356.1, bt356.2)))))) = some (r1, r2) := h
 clear h
 by_cases c3 : a1_0 = 4
 · rw [if_pos c3] at H
   have c3b0 : (a1_0 == 4) = true := beq_iff_eq.mpr c3
   have c3b1 : (a1_0 != 4) = false := bne_eq_false_iff_eq.mpr c3
   clear c3
   replace H := Option.bind_eq_some_iff.mp H
   obtain ⟨⟨t347, t350⟩, A40, H⟩ := H
   replace H : (some (t347, t350)) = some (r1, r2) := H
   have A4 := am A40
   clear A40
   simp only [Option.some.injEq, Prod.mk.injEq] at H
   obtain ⟨rfl, rfl⟩ := H
   obtain ⟨Ao5, co5, eo5⟩ := Kd.S_slice HO0_0.out
   subst eo5
   obtain ⟨Ao6, co6, eo6⟩ := Kd.R_slice HO0_1.out
   subst eo6
   go_enter Try.func28, Try.ntmps28
   go_wp2_with (first | (refine bx 2 #[.slice Ao5 l0_0.length co5, .slice Ao6 l0_1.length co6] 57 rfl ?_; intro gb344 hg w7 hbox hb; replace HO0_0 := am (Kd.S_below (ps HO0_0.out) hb); replace HO0_1 := am (Kd.R_below (pr HO0_1.out) hb); have BK344 := am (hbox); have GW344 := am ((by rw [hg]; exact (by first | exact HK.out.1 | exact (show Kept w _ (fun k_ => P0_0_ k_ ∨ P0_1_ k_) from pk HK.out).1) : w.heap.size ≤ gb344)); replace HK := am (Kept.below (S := (fun k_ => P0_0_ k_ ∨ P0_1_ k_)) (pk HK.out) hb); have GE344 := am ((by rw [hg]; exact (below_size (ph HB.out)) : w0.heap.size ≤ gb344)); replace HB := am (below_step (ph HB.out) hb); clear hb hbox hg) | (refine bx 3 #[.int .i64 a1_0, .int .i64 a1_1, .int .i64 a1_2, .int .i64 a1_3, .bool a1_4] 67 rfl ?_; intro gb345 hg w8 hbox hb; replace HO0_0 := am (Kd.S_below (ps HO0_0.out) hb); replace HO0_1 := am (Kd.R_below (pr HO0_1.out) hb); have BK345 := am (hbox); have GW345 := am ((by rw [hg]; exact (by first | exact HK.out.1 | exact (show Kept w _ (fun k_ => P0_0_ k_ ∨ P0_1_ k_) from by repeat (first | (with_reducible first | exact HK.out | apply Kept.alloc | apply Kept.drewN | apply Kept.drew | refine Kept.setCell ?_ (.inr GW344.out) _) | exact HK.out)).1) : w.heap.size ≤ gb345)); replace HK := am (Kept.below (S := (fun k_ => P0_0_ k_ ∨ P0_1_ k_)) (by repeat (first | (with_reducible first | exact HK.out | apply Kept.alloc | apply Kept.drewN | apply Kept.drew | refine Kept.setCell ?_ (.inr GW344.out) _) | exact HK.out)) hb); have GE345 := am ((by rw [hg]; exact (below_size (bg1 HB.out GE344.out)) : w0.heap.size ≤ gb345)); replace HB := am (below_step (bg1 HB.out GE344.out) hb); have NB344_345 := am ((by rw [hg]; exact Nat.ne_of_lt (blk_lt (pb BK344.out)) : gb344 ≠ gb345)); have NB345_344 := am (Ne.symm NB344_345.out); replace BK344 := am (blk_below (pb BK344.out) hb); clear hb hbox hg) | (refine bx 4 #[.slice none 0 0, .slice none 0 0] 57 rfl ?_; intro gb346 hg w9 hbox hb; replace HO0_0 := am (Kd.S_below (ps HO0_0.out) hb); replace HO0_1 := am (Kd.R_below (pr HO0_1.out) hb); have BK346 := am (hbox); have GW346 := am ((by rw [hg]; exact (by first | exact HK.out.1 | exact (show Kept w _ (fun k_ => P0_0_ k_ ∨ P0_1_ k_) from by repeat (first | (with_reducible first | exact HK.out | apply Kept.alloc | apply Kept.drewN | apply Kept.drew | refine Kept.setCell ?_ (.inr GW344.out) _ | refine Kept.setCell ?_ (.inr GW345.out) _) | exact HK.out)).1) : w.heap.size ≤ gb346)); replace HK := am (Kept.below (S := (fun k_ => P0_0_ k_ ∨ P0_1_ k_)) (by repeat (first | (with_reducible first | exact HK.out | apply Kept.alloc | apply Kept.drewN | apply Kept.drew | refine Kept.setCell ?_ (.inr GW344.out) _ | refine Kept.setCell ?_ (.inr GW345.out) _) | exact HK.out)) hb); have GE346 := am ((by rw [hg]; exact (below_size (bg2 HB.out GE344.out GE345.out)) : w0.heap.size ≤ gb346)); replace HB := am (below_step (bg2 HB.out GE344.out GE345.out) hb); have NB344_346 := am ((by rw [hg]; exact Nat.ne_of_lt (blk_lt (pb BK344.out)) : gb344 ≠ gb346)); have NB346_344 := am (Ne.symm NB344_346.out); replace BK344 := am (blk_below (pb BK344.out) hb); have NB345_346 := am ((by rw [hg]; exact Nat.ne_of_lt (blk_lt (pb BK345.out)) : gb345 ≠ gb346)); have NB346_345 := am (Ne.symm NB345_346.out); replace BK345 := am (blk_below (pb BK345.out) hb); clear hb hbox hg; have hnb10 := NB345_344.out; have hnc10 := NB344_345.out; have hnb11 := NB345_346.out; have hnc11 := NB346_345.out; obtain ⟨hcz12_0, hcz12_1, hcz12_2, hcz12_3, hcz12_4⟩ := b5 BK345.out; obtain ⟨hfz12_0, hfz12_1, hfz12_2, hfz12_3, hfz12_4⟩ := f5 BK345.out; have hnb13 := NB344_346.out; have hnc13 := NB346_344.out; obtain ⟨hcz14_0, hcz14_1⟩ := b2 BK344.out; obtain ⟨hfz14_0, hfz14_1⟩ := f2 BK344.out; obtain ⟨PXh15, hxa_, hxb_⟩ := Kd.S_hand HO0_0.out; have HXAh15 := am hxa_; have HXBh15 := am hxb_; clear hxa_ hxb_) | (refine gl 9 Try.func31 #[.agg #[.slice Ao5 l0_0.length co5, .slice Ao6 l0_1.length co6]] rfl ?_; (with_reducible refine (spec_l21All.calls k PXh15 (.slice Ao5 l0_0.length co5) l0_0 (fun k_ => some k_ = (.slice Ao6 l0_1.length co6 : Value).ownBlock) (.slice Ao6 l0_1.length co6) l0_1 t347 t350 w0 _ ?side1 ?side2 ?side3 A4.out).mono ?_); (case side1 => repeat (first | (with_reducible first | exact HB.out | apply below_alloc | apply pw_below_drewN | apply below_drew1 | refine below_set ?_ GE344.out | refine below_set ?_ GE345.out | refine below_set ?_ GE346.out) | exact HB.out)); (case side2 => exact (ps HXAh15.out)); (case side3 => exact Kd.R_tight rfl HO0_1.out); rintro e w16 ⟨v348, v351, rfl, ho0, ho1, hb, hkp⟩; refine ⟨_, rfl, ?_⟩; replace BK344 := am (blk_kept (pb BK344.out) hkp (fun hs_ => Or.elim hs_ (fun e_ => (fun e_ => Kd.blk_awayP (fun k_ h_ => (HXBh15.out k_ h_).2.2.2) BK344.out (by decide) e_) e_) (fun e_ => (fun e_ => (Kd.R_ne HO0_1.out BK344.out (by decide)) e_) e_))); replace BK345 := am (blk_kept (pb BK345.out) hkp (fun hs_ => Or.elim hs_ (fun e_ => (fun e_ => Kd.blk_awayP (fun k_ h_ => (HXBh15.out k_ h_).2.2.2) BK345.out (by decide) e_) e_) (fun e_ => (fun e_ => (Kd.R_ne HO0_1.out BK345.out (by decide)) e_) e_))); replace BK346 := am (blk_kept (pb BK346.out) hkp (fun hs_ => Or.elim hs_ (fun e_ => (fun e_ => Kd.blk_awayP (fun k_ h_ => (HXBh15.out k_ h_).2.2.2) BK346.out (by decide) e_) e_) (fun e_ => (fun e_ => (Kd.R_ne HO0_1.out BK346.out (by decide)) e_) e_))); have HO349 := am (Kd.S_mono (ok' := fun k_ => ((P0_0_ k_ ∨ P0_1_ k_) ∨ w.heap.size ≤ k_)) ho0 (fun k_ hk_ => Or.elim hk_ (fun hs_ => Or.elim hs_ (fun hs_ => (HXBh15.out k_ hs_).1) (fun hs_ => (HO0_1.out.1 k_ (hs_).symm))) (fun hn_ => (.inr (Nat.le_trans (by first | exact HK.out.1 | exact (show Kept w _ (fun k_ => P0_0_ k_ ∨ P0_1_ k_) from by repeat (first | (with_reducible first | exact HK.out | apply Kept.alloc | apply Kept.drewN | apply Kept.drew | refine Kept.setCell ?_ (.inr GW344.out) _ | refine Kept.setCell ?_ (.inr GW345.out) _ | refine Kept.setCell ?_ (.inr GW346.out) _) | exact HK.out)).1) hn_))))); have HO352 := am (Kd.R_mono (ok' := fun k_ => ((P0_0_ k_ ∨ P0_1_ k_) ∨ w.heap.size ≤ k_)) ho1 (fun k_ hk_ => Or.elim hk_ (fun hs_ => Or.elim hs_ (fun hs_ => (HXBh15.out k_ hs_).1) (fun hs_ => (HO0_1.out.1 k_ (hs_).symm))) (fun hn_ => (.inr (Nat.le_trans (by first | exact HK.out.1 | exact (show Kept w _ (fun k_ => P0_0_ k_ ∨ P0_1_ k_) from by repeat (first | (with_reducible first | exact HK.out | apply Kept.alloc | apply Kept.drewN | apply Kept.drew | refine Kept.setCell ?_ (.inr GW344.out) _ | refine Kept.setCell ?_ (.inr GW345.out) _ | refine Kept.setCell ?_ (.inr GW346.out) _) | exact HK.out)).1) hn_))))); replace HK := am (Kept.then_ (S := (fun k_ => P0_0_ k_ ∨ P0_1_ k_)) (by repeat (first | (with_reducible first | exact HK.out | apply Kept.alloc | apply Kept.drewN | apply Kept.drew | refine Kept.setCell ?_ (.inr GW344.out) _ | refine Kept.setCell ?_ (.inr GW345.out) _ | refine Kept.setCell ?_ (.inr GW346.out) _) | exact HK.out)) hkp (fun k_ hs_ => Or.elim hs_ (fun e_ => (fun e_ => (HXBh15.out k_ e_).1) e_) (fun e_ => (fun e_ => (HO0_1.out.1 k_ e_.symm)) e_))); replace HB := am (hb); clear HO0_0; clear HO0_1; (try clear hb); (try clear hkp); (try clear ho0); (try clear ho1); obtain ⟨Ao17, co17, eo17⟩ := Kd.S_slice HO349.out; subst eo17; obtain ⟨hcz18_0, hcz18_1⟩ := b2 BK346.out; obtain ⟨hfz18_0, hfz18_1⟩ := f2 BK346.out; obtain ⟨Ao19, co19, eo19⟩ := Kd.R_slice HO352.out; subst eo19))
   refine bodyPost_ret (results_cell_row rfl _ _ gb346 57 #[.slice Ao17 t347.length co17, .slice Ao19 t350.length co19] (0, 0) _ rfl (by (with_reducible repeat (first | refine blk_drewN ?_ _ | refine blk_drew ?_ | refine blk_alloc ?_ _)); refine blk_put (cs := #[.slice Ao17 t347.length co17, .slice none 0 0]) ?_ 1 _ rfl; (with_reducible repeat (first | refine blk_drewN ?_ _ | refine blk_drew ?_ | refine blk_alloc ?_ _)); refine blk_put (cs := #[.slice none 0 0, .slice none 0 0]) ?_ 0 _ rfl; (with_reducible repeat (first | refine blk_drewN ?_ _ | refine blk_drew ?_ | refine blk_alloc ?_ _)); exact BK346.out) Try.underlying57 rfl (by kernel_rfl)) rfl ?_
   exact ⟨_, _, rq ⟨by (with_reducible repeat (first | apply Kd.S_alloc | apply Kd.S_drewN | apply Kd.S_drew)); exact Kd.S_mono (Kd.S_far (p := ⟨gb346, 1, none⟩) (Kd.S_far (p := ⟨gb346, 0, none⟩) (Kd.S_types HO349.out BK346.out (by decide)) (fun _ hk => hk.2) (.slice Ao17 t347.length co17)) (fun _ hk => hk.2) (.slice Ao19 t350.length co19)) (fun _ hk => hk.1), by (with_reducible repeat (first | apply Kd.R_alloc | apply Kd.R_drewN | apply Kd.R_drew)); exact Kd.R_mono (Kd.R_far (p := ⟨gb346, 1, none⟩) (Kd.R_far (p := ⟨gb346, 0, none⟩) (Kd.R_types HO352.out BK346.out (by decide)) (fun _ hk => hk.2) (.slice Ao17 t347.length co17)) (fun _ hk => hk.2) (.slice Ao19 t350.length co19)) (fun _ hk => hk.1), bg3 HB.out GE344.out GE345.out GE346.out, by repeat (first | (with_reducible first | exact HK.out | apply Kept.alloc | apply Kept.drewN | apply Kept.drew | refine Kept.setCell ?_ (.inr GW344.out) _ | refine Kept.setCell ?_ (.inr GW345.out) _ | refine Kept.setCell ?_ (.inr GW346.out) _) | exact HK.out)⟩⟩
 rw [if_neg c3] at H
 have c3b0 : (a1_0 == 4) = false := beq_eq_false_iff_ne.mpr c3
 have c3b1 : (a1_0 != 4) = true := bne_iff_ne.mpr c3
 by_cases c20 : a1_3 < 0
 · rw [if_pos c20] at H
   have c20b0 := decide_eq_true c20
   clear c20
   simp only [Option.some.injEq, Prod.mk.injEq] at H
   obtain ⟨rfl, rfl⟩ := H
   obtain ⟨Ao21, co21, eo21⟩ := Kd.S_slice HO0_0.out
   subst eo21
   obtain ⟨Ao22, co22, eo22⟩ := Kd.R_slice HO0_1.out
   subst eo22
   go_enter Try.func28, Try.ntmps28
   go_wp2_with (first | (refine bx 2 #[.slice Ao21 l0_0.length co21, .slice Ao22 l0_1.length co22] 57 rfl ?_; intro gb344 hg w23 hbox hb; replace HO0_0 := am (Kd.S_below (ps HO0_0.out) hb); replace HO0_1 := am (Kd.R_below (pr HO0_1.out) hb); have BK344 := am (hbox); have GW344 := am ((by rw [hg]; exact (by first | exact HK.out.1 | exact (show Kept w _ (fun k_ => P0_0_ k_ ∨ P0_1_ k_) from pk HK.out).1) : w.heap.size ≤ gb344)); replace HK := am (Kept.below (S := (fun k_ => P0_0_ k_ ∨ P0_1_ k_)) (pk HK.out) hb); have GE344 := am ((by rw [hg]; exact (below_size (ph HB.out)) : w0.heap.size ≤ gb344)); replace HB := am (below_step (ph HB.out) hb); clear hb hbox hg) | (refine bx 3 #[.int .i64 a1_0, .int .i64 a1_1, .int .i64 a1_2, .int .i64 a1_3, .bool a1_4] 67 rfl ?_; intro gb345 hg w24 hbox hb; replace HO0_0 := am (Kd.S_below (ps HO0_0.out) hb); replace HO0_1 := am (Kd.R_below (pr HO0_1.out) hb); have BK345 := am (hbox); have GW345 := am ((by rw [hg]; exact (by first | exact HK.out.1 | exact (show Kept w _ (fun k_ => P0_0_ k_ ∨ P0_1_ k_) from by repeat (first | (with_reducible first | exact HK.out | apply Kept.alloc | apply Kept.drewN | apply Kept.drew | refine Kept.setCell ?_ (.inr GW344.out) _) | exact HK.out)).1) : w.heap.size ≤ gb345)); replace HK := am (Kept.below (S := (fun k_ => P0_0_ k_ ∨ P0_1_ k_)) (by repeat (first | (with_reducible first | exact HK.out | apply Kept.alloc | apply Kept.drewN | apply Kept.drew | refine Kept.setCell ?_ (.inr GW344.out) _) | exact HK.out)) hb); have GE345 := am ((by rw [hg]; exact (below_size (bg1 HB.out GE344.out)) : w0.heap.size ≤ gb345)); replace HB := am (below_step (bg1 HB.out GE344.out) hb); have NB344_345 := am ((by rw [hg]; exact Nat.ne_of_lt (blk_lt (pb BK344.out)) : gb344 ≠ gb345)); have NB345_344 := am (Ne.symm NB344_345.out); replace BK344 := am (blk_below (pb BK344.out) hb); clear hb hbox hg) | (refine bx 4 #[.slice none 0 0, .slice none 0 0] 57 rfl ?_; intro gb346 hg w25 hbox hb; replace HO0_0 := am (Kd.S_below (ps HO0_0.out) hb); replace HO0_1 := am (Kd.R_below (pr HO0_1.out) hb); have BK346 := am (hbox); have GW346 := am ((by rw [hg]; exact (by first | exact HK.out.1 | exact (show Kept w _ (fun k_ => P0_0_ k_ ∨ P0_1_ k_) from by repeat (first | (with_reducible first | exact HK.out | apply Kept.alloc | apply Kept.drewN | apply Kept.drew | refine Kept.setCell ?_ (.inr GW344.out) _ | refine Kept.setCell ?_ (.inr GW345.out) _) | exact HK.out)).1) : w.heap.size ≤ gb346)); replace HK := am (Kept.below (S := (fun k_ => P0_0_ k_ ∨ P0_1_ k_)) (by repeat (first | (with_reducible first | exact HK.out | apply Kept.alloc | apply Kept.drewN | apply Kept.drew | refine Kept.setCell ?_ (.inr GW344.out) _ | refine Kept.setCell ?_ (.inr GW345.out) _) | exact HK.out)) hb); have GE346 := am ((by rw [hg]; exact (below_size (bg2 HB.out GE344.out GE345.out)) : w0.heap.size ≤ gb346)); replace HB := am (below_step (bg2 HB.out GE344.out GE345.out) hb); have NB344_346 := am ((by rw [hg]; exact Nat.ne_of_lt (blk_lt (pb BK344.out)) : gb344 ≠ gb346)); have NB346_344 := am (Ne.symm NB344_346.out); replace BK344 := am (blk_below (pb BK344.out) hb); have NB345_346 := am ((by rw [hg]; exact Nat.ne_of_lt (blk_lt (pb BK345.out)) : gb345 ≠ gb346)); have NB346_345 := am (Ne.symm NB345_346.out); replace BK345 := am (blk_below (pb BK345.out) hb); clear hb hbox hg; have hnb26 := NB345_344.out; have hnc26 := NB344_345.out; have hnb27 := NB345_346.out; have hnc27 := NB346_345.out; obtain ⟨hcz28_0, hcz28_1, hcz28_2, hcz28_3, hcz28_4⟩ := b5 BK345.out; obtain ⟨hfz28_0, hfz28_1, hfz28_2, hfz28_3, hfz28_4⟩ := f5 BK345.out; have hnb29 := NB344_346.out; have hnc29 := NB346_344.out; obtain ⟨hcz30_0, hcz30_1⟩ := b2 BK344.out; obtain ⟨hfz30_0, hfz30_1⟩ := f2 BK344.out; obtain ⟨hcz31_0, hcz31_1⟩ := b2 BK346.out; obtain ⟨hfz31_0, hfz31_1⟩ := f2 BK346.out))
   refine bodyPost_ret (results_cell_row rfl _ _ gb346 57 #[.slice Ao21 l0_0.length co21, .slice Ao22 l0_1.length co22] (0, 0) _ rfl (by (with_reducible repeat (first | refine blk_drewN ?_ _ | refine blk_drew ?_ | refine blk_alloc ?_ _)); refine blk_put (cs := #[.slice Ao21 l0_0.length co21, .slice none 0 0]) ?_ 1 _ rfl; (with_reducible repeat (first | refine blk_drewN ?_ _ | refine blk_drew ?_ | refine blk_alloc ?_ _)); refine blk_put (cs := #[.slice none 0 0, .slice none 0 0]) ?_ 0 _ rfl; (with_reducible repeat (first | refine blk_drewN ?_ _ | refine blk_drew ?_ | refine blk_alloc ?_ _)); exact BK346.out) Try.underlying57 rfl (by kernel_rfl)) rfl ?_
   exact ⟨_, _, rq ⟨by (with_reducible repeat (first | apply Kd.S_alloc | apply Kd.S_drewN | apply Kd.S_drew)); exact Kd.S_mono (Kd.S_far (p := ⟨gb346, 1, none⟩) (Kd.S_far (p := ⟨gb346, 0, none⟩) (Kd.S_types HO0_0.out BK346.out (by decide)) (fun _ hk => hk.2) (.slice Ao21 l0_0.length co21)) (fun _ hk => hk.2) (.slice Ao22 l0_1.length co22)) (fun _ hk => hk.1), by (with_reducible repeat (first | apply Kd.R_alloc | apply Kd.R_drewN | apply Kd.R_drew)); exact Kd.R_mono (Kd.R_far (p := ⟨gb346, 1, none⟩) (Kd.R_far (p := ⟨gb346, 0, none⟩) (Kd.R_types HO0_1.out BK346.out (by decide)) (fun _ hk => hk.2) (.slice Ao21 l0_0.length co21)) (fun _ hk => hk.2) (.slice Ao22 l0_1.length co22)) (fun _ hk => hk.1), bg3 HB.out GE344.out GE345.out GE346.out, by repeat (first | (with_reducible first | exact HK.out | apply Kept.alloc | apply Kept.drewN | apply Kept.drew | refine Kept.setCell ?_ (.inr GW344.out) _ | refine Kept.setCell ?_ (.inr GW345.out) _ | refine Kept.setCell ?_ (.inr GW346.out) _) | exact HK.out)⟩⟩
 rw [if_neg c20] at H
 have c20b0 := decide_eq_false c20
 clear c20
 replace H := Option.bind_eq_some_iff.mp H
 obtain ⟨t353, A320, H⟩ := H
 replace H : ((spec_l12To.f k l0_0 l0_1 t353 a1_3 a1_4).bind fun bt356 => (some (bt356.1, bt356.2))) = some (r1, r2) := H
 have A32 := am A320
 clear A320
 replace H := Option.bind_eq_some_iff.mp H
 obtain ⟨⟨t356, t359⟩, A330, H⟩ := H
 replace H : (some (t356, t359)) = some (r1, r2) := H
 have A33 := am A330
 clear A330
 simp only [Option.some.injEq, Prod.mk.injEq] at H
 obtain ⟨rfl, rfl⟩ := H
 obtain ⟨Ao34, co34, eo34⟩ := Kd.S_slice HO0_0.out
 subst eo34
 obtain ⟨Ao35, co35, eo35⟩ := Kd.R_slice HO0_1.out
 subst eo35
 go_enter Try.func28, Try.ntmps28
 try go_wp2_with (first | (refine bx 2 #[.slice Ao34 l0_0.length co34, .slice Ao35 l0_1.length co35] 57 rfl ?_; intro gb344 hg w36 hbox hb; replace HO0_0 := am (Kd.S_below (ps HO0_0.out) hb); replace HO0_1 := am (Kd.R_below (pr HO0_1.out) hb); have BK344 := am (hbox); have GW344 := am ((by rw [hg]; exact (by first | exact HK.out.1 | exact (show Kept w _ (fun k_ => P0_0_ k_ ∨ P0_1_ k_) from pk HK.out).1) : w.heap.size ≤ gb344)); replace HK := am (Kept.below (S := (fun k_ => P0_0_ k_ ∨ P0_1_ k_)) (pk HK.out) hb); have GE344 := am ((by rw [hg]; exact (below_size (ph HB.out)) : w0.heap.size ≤ gb344)); replace HB := am (below_step (ph HB.out) hb); clear hb hbox hg) | (refine bx 3 #[.int .i64 a1_0, .int .i64 a1_1, .int .i64 a1_2, .int .i64 a1_3, .bool a1_4] 67 rfl ?_; intro gb345 hg w37 hbox hb; replace HO0_0 := am (Kd.S_below (ps HO0_0.out) hb); replace HO0_1 := am (Kd.R_below (pr HO0_1.out) hb); have BK345 := am (hbox); have GW345 := am ((by rw [hg]; exact (by first | exact HK.out.1 | exact (show Kept w _ (fun k_ => P0_0_ k_ ∨ P0_1_ k_) from by repeat (first | (with_reducible first | exact HK.out | apply Kept.alloc | apply Kept.drewN | apply Kept.drew | refine Kept.setCell ?_ (.inr GW344.out) _) | exact HK.out)).1) : w.heap.size ≤ gb345)); replace HK := am (Kept.below (S := (fun k_ => P0_0_ k_ ∨ P0_1_ k_)) (by repeat (first | (with_reducible first | exact HK.out | apply Kept.alloc | apply Kept.drewN | apply Kept.drew | refine Kept.setCell ?_ (.inr GW344.out) _) | exact HK.out)) hb); have GE345 := am ((by rw [hg]; exact (below_size (bg1 HB.out GE344.out)) : w0.heap.size ≤ gb345)); replace HB := am (below_step (bg1 HB.out GE344.out) hb); have NB344_345 := am ((by rw [hg]; exact Nat.ne_of_lt (blk_lt (pb BK344.out)) : gb344 ≠ gb345)); have NB345_344 := am (Ne.symm NB344_345.out); replace BK344 := am (blk_below (pb BK344.out) hb); clear hb hbox hg) | (refine bx 4 #[.slice none 0 0, .slice none 0 0] 57 rfl ?_; intro gb346 hg w38 hbox hb; replace HO0_0 := am (Kd.S_below (ps HO0_0.out) hb); replace HO0_1 := am (Kd.R_below (pr HO0_1.out) hb); have BK346 := am (hbox); have GW346 := am ((by rw [hg]; exact (by first | exact HK.out.1 | exact (show Kept w _ (fun k_ => P0_0_ k_ ∨ P0_1_ k_) from by repeat (first | (with_reducible first | exact HK.out | apply Kept.alloc | apply Kept.drewN | apply Kept.drew | refine Kept.setCell ?_ (.inr GW344.out) _ | refine Kept.setCell ?_ (.inr GW345.out) _) | exact HK.out)).1) : w.heap.size ≤ gb346)); replace HK := am (Kept.below (S := (fun k_ => P0_0_ k_ ∨ P0_1_ k_)) (by repeat (first | (with_reducible first | exact HK.out | apply Kept.alloc | apply Kept.drewN | apply Kept.drew | refine Kept.setCell ?_ (.inr GW344.out) _ | refine Kept.setCell ?_ (.inr GW345.out) _) | exact HK.out)) hb); have GE346 := am ((by rw [hg]; exact (below_size (bg2 HB.out GE344.out GE345.out)) : w0.heap.size ≤ gb346)); replace HB := am (below_step (bg2 HB.out GE344.out GE345.out) hb); have NB344_346 := am ((by rw [hg]; exact Nat.ne_of_lt (blk_lt (pb BK344.out)) : gb344 ≠ gb346)); have NB346_344 := am (Ne.symm NB344_346.out); replace BK344 := am (blk_below (pb BK344.out) hb); have NB345_346 := am ((by rw [hg]; exact Nat.ne_of_lt (blk_lt (pb BK345.out)) : gb345 ≠ gb346)); have NB346_345 := am (Ne.symm NB345_346.out); replace BK345 := am (blk_below (pb BK345.out) hb); clear hb hbox hg; have hnb39 := NB345_344.out; have hnc39 := NB344_345.out; have hnb40 := NB345_346.out; have hnc40 := NB346_345.out; obtain ⟨hcz41_0, hcz41_1, hcz41_2, hcz41_3, hcz41_4⟩ := b5 BK345.out; obtain ⟨hfz41_0, hfz41_1, hfz41_2, hfz41_3, hfz41_4⟩ := f5 BK345.out))
 replace HO0_0 := am (Kd.S_drew HO0_0.out)
 replace HO0_1 := am (Kd.R_drew HO0_1.out)
 replace BK344 := am (blk_drew BK344.out)
 replace BK345 := am (blk_drew BK345.out)
 replace BK346 := am (blk_drew BK346.out)
 replace HK := am (Kept.drew HK.out)
 replace HB := am (below_drew1 HB.out)
 refine start_ (n := 10) (S := fun w' => w'.cell? ⟨gb344, 0, none⟩ = some (.slice Ao34 l0_0.length co34) ∧ w'.cell? ⟨gb344, 1, none⟩ = some (.slice Ao35 l0_1.length co35) ∧ w'.cell? ⟨gb345, 0, none⟩ = some (.int .i64 a1_0) ∧ w'.cell? ⟨gb345, 1, none⟩ = some (.int .i64 a1_1) ∧ w'.cell? ⟨gb345, 2, none⟩ = some (.int .i64 a1_2) ∧ w'.cell? ⟨gb345, 3, none⟩ = some (.int .i64 a1_3) ∧ w'.cell? ⟨gb345, 4, none⟩ = some (.bool a1_4)) (ds := []) #[false, false, false, false, false, false, false, false, false, false] (by kernel_rfl) rfl rfl ⟨(blk_cell BK344.out 0).trans rfl, (blk_cell BK344.out 1).trans rfl, (blk_cell BK345.out 0).trans rfl, (blk_cell BK345.out 1).trans rfl, (blk_cell BK345.out 2).trans rfl, (blk_cell BK345.out 3).trans rfl, (blk_cell BK345.out 4).trans rfl⟩ (fun hHeld => ?_); refine with_tabW spec_l21Do.tab5 spec_l21Do.bits5 (fun HT_ HW_ => ?_)
 generalize w38.drew = w42 at HO0_0 HO0_1 BK344 BK345 BK346 HK HB hHeld ⊢
 refine pj_ 4 18 #[false, false, false, false, true, false, false, false, false, false] rfl rfl (any_of HT_.out (by kernel_rfl)) (fun _ _ _ h => h) ?_
 refine pj_ 6 20 #[false, false, false, false, true, false, true, false, false, false] rfl rfl (any_of HT_.out (by kernel_rfl)) (fun _ _ _ h => h) ?_
 refine pm_ 0 14 #[true, false, false, false, true, false, true, false, false, false] rfl rfl (take_ofW HT_.out HW_.out (by kernel_rfl)) (fun _ _ _ h => h) hHeld ?_
 refine pm_ 1 15 #[true, true, false, false, true, false, true, false, false, false] rfl rfl (take_ofW HT_.out HW_.out (by kernel_rfl)) (fun _ _ _ h => h) hHeld ?_
 refine pm_ 2 16 #[true, true, true, false, true, false, true, false, false, false] rfl rfl (take_ofW HT_.out HW_.out (by kernel_rfl)) (fun _ _ _ h => h) hHeld ?_
 refine pm_ 5 19 #[true, true, true, false, true, true, true, false, false, false] rfl rfl (take_ofW HT_.out HW_.out (by kernel_rfl)) (fun _ _ _ h => h) hHeld ?_
 refine pm_ 7 21 #[true, true, true, false, true, true, true, true, false, false] rfl rfl (take_ofW HT_.out HW_.out (by kernel_rfl)) (fun _ _ _ h => h) hHeld ?_
 refine one_ (i := 3) (N := some 17) #[true, true, true, true, true, true, true, true, false, false] rfl rfl (one_of HT_.out (by kernel_rfl)) (by decide) (fun K hK => ?_)
 refine goes_ Try.func33 (by kernel_rfl) rfl #[.agg #[.slice Ao34 l0_0.length co34, .slice Ao35 l0_1.length co35], .agg #[.int .i64 a1_0, .int .i64 a1_1, .int .i64 a1_2, .int .i64 a1_3, .bool a1_4]] (by rfl) rfl rfl (by (try simp only [List.map_toArray, List.map_cons, List.map_nil]); first | done | rfl | (simp only [List.length_drop, List.length_take]; rfl)) ?_
 with_reducible refine (spec_l21Steps.calls k _ _ l0_0 _ _ l0_1 a1_0 a1_1 a1_2 a1_3 a1_4 t353 _ ?side1 ?side2 ?side3 ?side4 A32.out).mono ?_
 (case side1 => repeat (first | exact (Kd.S_reads' HO0_0.out).2.2 | (with_reducible refine Kd.C_alloc ?_ _) | (with_reducible refine Kd.C_drewN ?_ _) | (with_reducible refine Kd.C_drew ?_)))
 (case side2 => exact (Kd.S_reads' HO0_0.out).2.1)
 (case side3 => repeat (first | exact (Kd.R_reads' HO0_1.out).2.2 | (with_reducible refine Kd.C_alloc ?_ _) | (with_reducible refine Kd.C_drewN ?_ _) | (with_reducible refine Kd.C_drew ?_)))
 (case side4 => exact (Kd.R_reads' HO0_1.out).2.1)
 rintro e w43 ⟨v354, rfl, ho0, hb⟩
 refine ⟨_, rfl, ?_⟩
 replace HO0_0 := am (Kd.S_below (ps HO0_0.out) hb)
 replace HO0_1 := am (Kd.R_below (pr HO0_1.out) hb)
 have HO355 := am (Kd.R_lower (Kd.R_newM (M := fun k_ => ((P0_0_ k_ ∨ P0_1_ k_) ∨ w.heap.size ≤ k_)) ho0 (by first | exact HK.out.1 | exact (show Kept w _ (fun k_ => P0_0_ k_ ∨ P0_1_ k_) from by repeat (first | (with_reducible first | exact HK.out | apply Kept.alloc | apply Kept.drewN | apply Kept.drew | refine Kept.setCell ?_ (.inr GW344.out) _ | refine Kept.setCell ?_ (.inr GW345.out) _ | refine Kept.setCell ?_ (.inr GW346.out) _) | exact HK.out)).1) (fun k_ h_ => .inr h_)) (below_size (bg3 HB.out GE344.out GE345.out GE346.out)))
 replace BK344 := am (blk_below (pb BK344.out) hb)
 replace BK345 := am (blk_below (pb BK345.out) hb)
 replace BK346 := am (blk_below (pb BK346.out) hb)
 replace HK := am (Kept.below (S := (fun k_ => P0_0_ k_ ∨ P0_1_ k_)) (by repeat (first | (with_reducible first | exact HK.out | apply Kept.alloc | apply Kept.drewN | apply Kept.drew | refine Kept.setCell ?_ (.inr GW344.out) _ | refine Kept.setCell ?_ (.inr GW345.out) _ | refine Kept.setCell ?_ (.inr GW346.out) _) | exact HK.out)) hb)
 replace HB := am (below_step (bg3 HB.out GE344.out GE345.out GE346.out) hb)
 (try clear hb)
 (try clear hb2)
 (try clear hk)
 (try clear hi)
 (try clear ho0)
 obtain ⟨Ao44, co44, eo44⟩ := Kd.R_slice HO355.out
 (first | subst eo44 | (injection eo44 with f1_ f2_ f3_; have f4_ := f1_.symm; have f5_ := f3_.symm; clear f1_ f2_ f3_; subst f4_; subst f5_))
 obtain ⟨PXh45, hxa_, hxb_⟩ := Kd.S_hand HO0_0.out
 have HXAh45 := am hxa_
 have HXBh45 := am hxb_
 clear hxa_ hxb_
 refine hK.out _ _ ⟨(blk_cell BK344.out 0).trans rfl, (blk_cell BK344.out 1).trans rfl, (blk_cell BK345.out 0).trans rfl, (blk_cell BK345.out 1).trans rfl, (blk_cell BK345.out 2).trans rfl, (blk_cell BK345.out 3).trans rfl, (blk_cell BK345.out 4).trans rfl⟩ (fun hHeld => ?_)
 clear hK K
 refine norm_ (a' := ?_) ?_ ?_
 rotate_left
 · show Act.put _ (some 17) _ = _
   simp only [Act.put, List.setIfInBounds_toArray, List.set_cons_zero, List.set_cons_succ, i64_w, i32_w]
   rfl
 refine one_ (i := 8) (N := some 22) #[true, true, true, true, true, true, true, true, true, false] rfl rfl (one_of HT_.out (by kernel_rfl)) (by decide) (fun K hK => ?_)
 refine goes_ Try.func32 (by kernel_rfl) rfl #[.agg #[.slice Ao34 l0_0.length co34, .slice Ao35 l0_1.length co35], .slice Ao44 t353.length co44, .int .i64 a1_3, .bool a1_4] (by rfl) rfl rfl (by (try simp only [List.map_toArray, List.map_cons, List.map_nil]); first | done | rfl | (simp only [List.length_drop, List.length_take]; rfl)) ?_
 with_reducible refine (spec_l12To.calls k PXh45 (.slice Ao34 l0_0.length co34) l0_0 (fun k_ => some k_ = (.slice Ao35 l0_1.length co35 : Value).ownBlock) (.slice Ao35 l0_1.length co35) l0_1 _ _ t353 a1_3 a1_4 t356 t359 w0 _ ?side1 ?side2 ?side3 ?side4 ?side5 A33.out).mono ?_
 (case side1 => repeat (first | (with_reducible first | exact HB.out | apply below_alloc | apply pw_below_drewN | apply below_drew1 | refine below_set ?_ GE344.out | refine below_set ?_ GE345.out | refine below_set ?_ GE346.out) | exact HB.out))
 (case side2 => exact (ps HXAh45.out))
 (case side3 => exact Kd.R_tight rfl HO0_1.out)
 (case side4 => exact Kd.C_kept_own ((Kd.R_apart' (Kd.R_awayP HO355.out (fun k_ h_ => (HXBh45.out k_ h_).2.2.2) (by decide)) (Kd.R_typed HO0_1.out) (by decide))) (fun k_ hk_ hs_ => Or.elim hs_ (fun e_ => (hk_.1.2) e_) (fun e_ => (hk_.2) e_)))
 (case side5 => exact (Kd.R_reads' HO355.out).2.1)
 rintro e w46 ⟨v357, v360, rfl, ho0, ho1, hb, hkp⟩
 refine ⟨_, rfl, ?_⟩
 replace BK344 := am (blk_kept (pb BK344.out) hkp (fun hs_ => Or.elim hs_ (fun e_ => (fun e_ => Kd.blk_awayP (fun k_ h_ => (HXBh45.out k_ h_).2.2.2) BK344.out (by decide) e_) e_) (fun e_ => (fun e_ => (Kd.R_ne HO0_1.out BK344.out (by decide)) e_) e_)))
 replace BK345 := am (blk_kept (pb BK345.out) hkp (fun hs_ => Or.elim hs_ (fun e_ => (fun e_ => Kd.blk_awayP (fun k_ h_ => (HXBh45.out k_ h_).2.2.2) BK345.out (by decide) e_) e_) (fun e_ => (fun e_ => (Kd.R_ne HO0_1.out BK345.out (by decide)) e_) e_)))
 replace BK346 := am (blk_kept (pb BK346.out) hkp (fun hs_ => Or.elim hs_ (fun e_ => (fun e_ => Kd.blk_awayP (fun k_ h_ => (HXBh45.out k_ h_).2.2.2) BK346.out (by decide) e_) e_) (fun e_ => (fun e_ => (Kd.R_ne HO0_1.out BK346.out (by decide)) e_) e_)))
 replace HO355 := am (Kd.R_mono (ok' := fun k_ => ((P0_0_ k_ ∨ P0_1_ k_) ∨ w.heap.size ≤ k_)) (Kd.R_keptB ((Kd.R_apart' (Kd.R_awayP HO355.out (fun k_ h_ => (HXBh45.out k_ h_).2.2.2) (by decide)) (Kd.R_typed HO0_1.out) (by decide))) hkp (fun k_ hk_ hs_ => Or.elim hs_ (fun e_ => (hk_.1.2) e_) (fun e_ => (hk_.2) e_))) (fun k_ hk_ => hk_.1.1.1.1))
 have HO358 := am (Kd.S_mono (ok' := fun k_ => ((P0_0_ k_ ∨ P0_1_ k_) ∨ w.heap.size ≤ k_)) ho0 (fun k_ hk_ => Or.elim hk_ (fun hs_ => Or.elim hs_ (fun hs_ => (HXBh45.out k_ hs_).1) (fun hs_ => (HO0_1.out.1 k_ (hs_).symm))) (fun hn_ => (.inr (Nat.le_trans (by first | exact HK.out.1 | exact (show Kept w _ (fun k_ => P0_0_ k_ ∨ P0_1_ k_) from by repeat (first | (with_reducible first | exact HK.out | apply Kept.alloc | apply Kept.drewN | apply Kept.drew | refine Kept.setCell ?_ (.inr GW344.out) _ | refine Kept.setCell ?_ (.inr GW345.out) _ | refine Kept.setCell ?_ (.inr GW346.out) _) | exact HK.out)).1) hn_)))))
 have HO361 := am (Kd.R_mono (ok' := fun k_ => ((P0_0_ k_ ∨ P0_1_ k_) ∨ w.heap.size ≤ k_)) ho1 (fun k_ hk_ => Or.elim hk_ (fun hs_ => Or.elim hs_ (fun hs_ => (HXBh45.out k_ hs_).1) (fun hs_ => (HO0_1.out.1 k_ (hs_).symm))) (fun hn_ => (.inr (Nat.le_trans (by first | exact HK.out.1 | exact (show Kept w _ (fun k_ => P0_0_ k_ ∨ P0_1_ k_) from by repeat (first | (with_reducible first | exact HK.out | apply Kept.alloc | apply Kept.drewN | apply Kept.drew | refine Kept.setCell ?_ (.inr GW344.out) _ | refine Kept.setCell ?_ (.inr GW345.out) _ | refine Kept.setCell ?_ (.inr GW346.out) _) | exact HK.out)).1) hn_)))))
 replace HK := am (Kept.then_ (S := (fun k_ => P0_0_ k_ ∨ P0_1_ k_)) (by repeat (first | (with_reducible first | exact HK.out | apply Kept.alloc | apply Kept.drewN | apply Kept.drew | refine Kept.setCell ?_ (.inr GW344.out) _ | refine Kept.setCell ?_ (.inr GW345.out) _ | refine Kept.setCell ?_ (.inr GW346.out) _) | exact HK.out)) hkp (fun k_ hs_ => Or.elim hs_ (fun e_ => (fun e_ => (HXBh45.out k_ e_).1) e_) (fun e_ => (fun e_ => (HO0_1.out.1 k_ e_.symm)) e_)))
 replace HB := am (hb)
 clear HO0_0
 clear HO0_1
 (try clear hb)
 (try clear hkp)
 (try clear ho0)
 (try clear ho1)
 obtain ⟨Ao47, co47, eo47⟩ := Kd.S_slice HO358.out
 (first | subst eo47 | (injection eo47 with f1_ f2_ f3_; have f4_ := f1_.symm; have f5_ := f3_.symm; clear f1_ f2_ f3_; subst f4_; subst f5_))
 obtain ⟨Ao49, co49, eo49⟩ := Kd.R_slice HO361.out
 (first | subst eo49 | (injection eo49 with f1_ f2_ f3_; have f4_ := f1_.symm; have f5_ := f3_.symm; clear f1_ f2_ f3_; subst f4_; subst f5_))
 refine hK.out _ _ ⟨(blk_cell BK344.out 0).trans rfl, (blk_cell BK344.out 1).trans rfl, (blk_cell BK345.out 0).trans rfl, (blk_cell BK345.out 1).trans rfl, (blk_cell BK345.out 2).trans rfl, (blk_cell BK345.out 3).trans rfl, (blk_cell BK345.out 4).trans rfl⟩ (fun hHeld => ?_)
 clear hK K
 refine norm_ (a' := ?_) ?_ ?_
 rotate_left
 · show Act.put _ (some 22) _ = _
   simp only [Act.put, List.setIfInBounds_toArray, List.set_cons_zero, List.set_cons_succ, i64_w, i32_w]
   rfl
 refine one_ (i := 9) (N := none) #[true, true, true, true, true, true, true, true, true, true] rfl rfl (one_of HT_.out (by kernel_rfl)) (by decide) (fun K hK => ?_)
 have hs48 : w46.cell? ⟨gb346, 0, none⟩ = some (.slice none 0 0) := (blk_cell BK346.out 0).trans rfl
 have hfs48 := blk_frozen BK346.out 0
 have hns48_0 := NB344_346.out
 have hns48_1 := NB345_346.out
 have hms48_0 := NB346_344.out
 have hms48_1 := NB346_345.out
 have hs50 : w46.cell? ⟨gb346, 1, none⟩ = some (.slice none 0 0) := (blk_cell BK346.out 1).trans rfl
 have hfs50 := blk_frozen BK346.out 1
 have hns50_0 := NB344_346.out
 have hns50_1 := NB345_346.out
 have hms50_0 := NB346_344.out
 have hms50_1 := NB346_345.out
 refine skip_ (w1 := ?_) (by rfl) rfl ?_ ?_
 rotate_left
 · go_simp
   rfl
 refine hK.out _ _ ⟨((cell_far (p := ⟨gb346, _, none⟩) NB344_346.out _).trans (((cell_far (p := ⟨gb346, _, none⟩) NB344_346.out _).trans (hHeld.1)))), ((cell_far (p := ⟨gb346, _, none⟩) NB344_346.out _).trans (((cell_far (p := ⟨gb346, _, none⟩) NB344_346.out _).trans (hHeld.2.1)))), ((cell_far (p := ⟨gb346, _, none⟩) NB345_346.out _).trans (((cell_far (p := ⟨gb346, _, none⟩) NB345_346.out _).trans (hHeld.2.2.1)))), ((cell_far (p := ⟨gb346, _, none⟩) NB345_346.out _).trans (((cell_far (p := ⟨gb346, _, none⟩) NB345_346.out _).trans (hHeld.2.2.2.1)))), ((cell_far (p := ⟨gb346, _, none⟩) NB345_346.out _).trans (((cell_far (p := ⟨gb346, _, none⟩) NB345_346.out _).trans (hHeld.2.2.2.2.1)))), ((cell_far (p := ⟨gb346, _, none⟩) NB345_346.out _).trans (((cell_far (p := ⟨gb346, _, none⟩) NB345_346.out _).trans (hHeld.2.2.2.2.2.1)))), ((cell_far (p := ⟨gb346, _, none⟩) NB345_346.out _).trans (((cell_far (p := ⟨gb346, _, none⟩) NB345_346.out _).trans (hHeld.2.2.2.2.2.2))))⟩ (fun hHeld => ?_)
 clear hK K
 refine done_ (done_of HT_.out (by kernel_rfl)) ?_
 try go_wp2
 refine bodyPost_ret (results_cell_row rfl _ _ gb346 57 #[.slice Ao47 t356.length co47, .slice Ao49 t359.length co49] (0, 0) _ rfl (by (with_reducible repeat (first | refine blk_drewN ?_ _ | refine blk_drew ?_ | refine blk_alloc ?_ _)); refine blk_put (cs := #[.slice Ao47 t356.length co47, .slice none 0 0]) ?_ 1 _ rfl; (with_reducible repeat (first | refine blk_drewN ?_ _ | refine blk_drew ?_ | refine blk_alloc ?_ _)); refine blk_put (cs := #[.slice none 0 0, .slice none 0 0]) ?_ 0 _ rfl; (with_reducible repeat (first | refine blk_drewN ?_ _ | refine blk_drew ?_ | refine blk_alloc ?_ _)); exact BK346.out) Try.underlying57 rfl (by kernel_rfl)) rfl ?_
 exact ⟨_, _, rq ⟨by (with_reducible repeat (first | apply Kd.S_alloc | apply Kd.S_drewN | apply Kd.S_drew)); exact Kd.S_mono (Kd.S_far (p := ⟨gb346, 1, none⟩) (Kd.S_far (p := ⟨gb346, 0, none⟩) (Kd.S_types HO358.out BK346.out (by decide)) (fun _ hk => hk.2) (.slice Ao47 t356.length co47)) (fun _ hk => hk.2) (.slice Ao49 t359.length co49)) (fun _ hk => hk.1), by (with_reducible repeat (first | apply Kd.R_alloc | apply Kd.R_drewN | apply Kd.R_drew)); exact Kd.R_mono (Kd.R_far (p := ⟨gb346, 1, none⟩) (Kd.R_far (p := ⟨gb346, 0, none⟩) (Kd.R_types HO361.out BK346.out (by decide)) (fun _ hk => hk.2) (.slice Ao47 t356.length co47)) (fun _ hk => hk.2) (.slice Ao49 t359.length co49)) (fun _ hk => hk.1), bg3 HB.out GE344.out GE345.out GE346.out, by repeat (first | (with_reducible first | exact HK.out | apply Kept.alloc | apply Kept.drewN | apply Kept.drew | refine Kept.setCell ?_ (.inr GW344.out) _ | refine Kept.setCell ?_ (.inr GW345.out) _ | refine Kept.setCell ?_ (.inr GW346.out) _) | exact HK.out)⟩⟩
end Go.Proofs.Ytcanhdofmbekeaa.Rp
