-- printed by wip/pp/pp.py
import Derived.Test.YtepaanhmbfchoaaRm0
import Derived.Test.YtepaanhmbfchoaaRm1
import Derived.Test.YtepaanhmbfchoaaRm3
import Derived.Test.YtepaanhmbfchoaaRm4
import Derived.Test.YtepaanhmbfchoaaRm6
namespace Go.Proofs.Ytepaanhmbfchoaa.Rm
open Go.RowKit Go.Proofs.YtepaanhmbfchoaaW.PrintWords Go.Proofs.YtepaanhmbfchoaaW.PrintLast Go.Proofs.YtepaanhmbfchoaaW.PrintMore
attribute [local go_sem] max2_int min2_int max_two min_two max_three min_three max_four min_four
set_option linter.unusedVariables false
set_option linter.unusedSimpArgs false
def spec_l21All.l0 : Nat → Int → List (S35) → List Int → Option ((List (S35)) × List Int)
 | 0, _, _, _ => none
 | k + 1, x3, x294000, x294001 => if x3 ≤ 6 then ((spec_l12Flush.f k x294000 x294001 x3).bind fun t295 => ((spec_l12To.f k x294000 x294001 t295 (t295.length : Int) false).bind fun bt298 => (spec_l21All.l0 k (wrap64 (x3 + 1)) bt298.1 bt298.2))) else (some (x294000, x294001))
def spec_l21All.f (k : Nat) (l0_0 : List (S35)) (l0_1 : List Int) : Option ((List (S35)) × List Int) := spec_l21All.l0 k 1 l0_0 l0_1
theorem spec_l21All.mono_l : ∀ k, (∀ y0 y1 y2, LeO (spec_l21All.l0 k y0 y1 y2) (spec_l21All.l0 (k + 1) y0 y1 y2))
 | 0 => fun _ _ _ r h => by simp [spec_l21All.l0] at h
 | k + 1 => by
  have ih0 := spec_l21All.mono_l k
  · intro y0 y1 y2
    unfold spec_l21All.l0
    repeat' first
    | (with_reducible exact ih0 _ _ _)
    | (with_reducible exact spec_l12Flush.mono _ _ _ _)
    | (with_reducible exact spec_l12To.mono _ _ _ _ _ _)
    | (with_reducible exact LeO.refl _)
    | (with_reducible exact LeO.none _)
    | (with_reducible refine LeO.ite ?_ ?_)
    | (with_reducible refine LeO.bind ?_ (fun _ => ?_))
    | exact ih0 _ _ _
    | exact spec_l12Flush.mono _ _ _ _
    | exact spec_l12To.mono _ _ _ _ _ _
    | exact LeO.none _
    | refine LeO.ite ?_ ?_
    | refine LeO.bind ?_ (fun _ => ?_)
theorem spec_l21All.mono : ∀ a0 a1 k, LeO (spec_l21All.f k a0 a1) (spec_l21All.f (k + 1) a0 a1) := by
 intro a0 a1 k
 have ih0 := spec_l21All.mono_l k
 unfold spec_l21All.f
 repeat' first
  | (with_reducible exact ih0 _ _ _)
  | (with_reducible exact spec_l12Flush.mono _ _ _ _)
  | (with_reducible exact spec_l12To.mono _ _ _ _ _ _)
  | (with_reducible exact LeO.refl _)
  | (with_reducible exact LeO.none _)
  | (with_reducible refine LeO.ite ?_ ?_)
  | (with_reducible refine LeO.bind ?_ (fun _ => ?_))
  | exact ih0 _ _ _
  | exact spec_l12Flush.mono _ _ _ _
  | exact spec_l12To.mono _ _ _ _ _ _
  | exact LeO.none _
  | refine LeO.ite ?_ ?_
  | refine LeO.bind ?_ (fun _ => ?_)
set_option maxHeartbeats 8000000 in
set_option maxRecDepth 100000 in
theorem spec_l21All.calls (k : Nat) (P0_0_ : Nat → Prop) (u9000_ : Value) (l0_0 : List (S35)) (P0_1_ : Nat → Prop) (u9001_ : Value) (l0_1 : List Int) (r1 : List (S35)) (r2 : List Int) (w0 w : World) (hB : Below w0.heap.size w0 w) (ho0_0 : Kd.S k35 35 w w0.heap.size P0_0_ u9000_ l0_0) (ho0_1 : Kd.R (Kd.int .i64) 3 w w0.heap.size P0_1_ u9001_ l0_1) (h : spec_l21All.f k l0_0 l0_1 = some (r1, r2)) :
 Calls Try.prog 29 #[.agg #[u9000_, u9001_]] w fun e w' => ∃ v0_ v1_ : Value, e = .returned (.agg #[v0_, v1_]) ∧ Kd.S k35 35 w' w0.heap.size (fun k_ => ((P0_0_ k_ ∨ P0_1_ k_) ∨ w.heap.size ≤ k_)) v0_ r1 ∧ Kd.R (Kd.int .i64) 3 w' w0.heap.size (fun k_ => ((P0_0_ k_ ∨ P0_1_ k_) ∨ w.heap.size ≤ k_)) v1_ r2 ∧ Below w0.heap.size w0 w' ∧ Kept w w' (fun k_ => P0_0_ k_ ∨ P0_1_ k_) := by
 have hu56 := Try.underlying56
 have HO0_0 := am (show Kd.S k35 35 w w0.heap.size (fun k_ => ((P0_0_ k_ ∨ P0_1_ k_) ∨ w.heap.size ≤ k_)) u9000_ l0_0 from Kd.S_mono ho0_0 (fun k_ hk => (.inl (.inl hk))))
 have HO0_1 := am (show Kd.R (Kd.int .i64) 3 w w0.heap.size (fun k_ => ((P0_0_ k_ ∨ P0_1_ k_) ∨ w.heap.size ≤ k_)) u9001_ l0_1 from Kd.R_mono ho0_1 (fun k_ hk => (.inl (.inr hk))))
 have HK := am (Kept.refl w (fun k_ => P0_0_ k_ ∨ P0_1_ k_))
 have HW0 := am hB.size
 have HB := am hB
 clear hB
 have H : (spec_l21All.l0 k 1 l0_0 l0_1) = some (r1, r2) := h
 clear h
 have H' := am H
 clear H
 obtain ⟨Ao2, co2, eo2⟩ := Kd.S_slice HO0_0.out
 subst eo2
 obtain ⟨Ao3, co3, eo3⟩ := Kd.R_slice HO0_1.out
 subst eo3
 go_enter Try.func29, Try.ntmps29
 go_wp2_with (first | (refine bx 1 #[.slice Ao2 l0_0.length co2, .slice Ao3 l0_1.length co3] 56 rfl ?_; intro gb293 hg w4 hbox hb; replace HO0_0 := am (Kd.S_below (ps HO0_0.out) hb); replace HO0_1 := am (Kd.R_below (pr HO0_1.out) hb); have BK293 := am (hbox); have GW293 := am ((by rw [hg]; exact (by first | exact HK.out.1 | exact (show Kept w _ (fun k_ => P0_0_ k_ ∨ P0_1_ k_) from pk HK.out).1) : w.heap.size ≤ gb293)); replace HK := am (Kept.below (S := (fun k_ => P0_0_ k_ ∨ P0_1_ k_)) (pk HK.out) hb); have GE293 := am ((by rw [hg]; exact (below_size (ph HB.out)) : w0.heap.size ≤ gb293)); replace HB := am (below_step (ph HB.out) hb); clear hb hbox hg) | (refine bx 2 #[.slice none 0 0, .slice none 0 0] 56 rfl ?_; intro gb294 hg w5 hbox hb; replace HO0_0 := am (Kd.S_below (ps HO0_0.out) hb); replace HO0_1 := am (Kd.R_below (pr HO0_1.out) hb); have BK294 := am (hbox); have GW294 := am ((by rw [hg]; exact (by first | exact HK.out.1 | exact (show Kept w _ (fun k_ => P0_0_ k_ ∨ P0_1_ k_) from by repeat (first | (with_reducible first | exact HK.out | apply Kept.alloc | apply Kept.drewN | apply Kept.drew | refine Kept.setCell ?_ (.inr GW293.out) _) | exact HK.out)).1) : w.heap.size ≤ gb294)); replace HK := am (Kept.below (S := (fun k_ => P0_0_ k_ ∨ P0_1_ k_)) (by repeat (first | (with_reducible first | exact HK.out | apply Kept.alloc | apply Kept.drewN | apply Kept.drew | refine Kept.setCell ?_ (.inr GW293.out) _) | exact HK.out)) hb); have GE294 := am ((by rw [hg]; exact (below_size (bg1 HB.out GE293.out)) : w0.heap.size ≤ gb294)); replace HB := am (below_step (bg1 HB.out GE293.out) hb); have NB293_294 := am ((by rw [hg]; exact Nat.ne_of_lt (blk_lt (pb BK293.out)) : gb293 ≠ gb294)); have NB294_293 := am (Ne.symm NB293_294.out); replace BK293 := am (blk_below (pb BK293.out) hb); clear hb hbox hg))
 go_loopg [3] k (fun kq v3 w' => ∃ (x3_1 : Int) (x294000_1 : List (S35)) (x294001_1 : List Int) (u294000 : Value) (u294001 : Value), v3 = .int .i64 x3_1 ∧ Aside0 (spec_l21All.l0 kq x3_1 x294000_1 x294001_1 = some (r1, r2)) ∧ Aside0 (kq ≤ k) ∧ Aside0 (Kd.S k35 35 w' w0.heap.size (fun k_ => ((P0_0_ k_ ∨ P0_1_ k_) ∨ w.heap.size ≤ k_)) u294000 x294000_1) ∧ Aside0 (Kd.R (Kd.int .i64) 3 w' w0.heap.size (fun k_ => ((P0_0_ k_ ∨ P0_1_ k_) ∨ w.heap.size ≤ k_)) u294001 x294001_1) ∧ Aside0 (w'.heap[gb293]? = some (.cells #[u294000, u294001] 56 (0, 0))) ∧ Aside0 (w'.heap[gb294]? = some (.cells #[(.slice none 0 0), (.slice none 0 0)] 56 (0, 0))) ∧ Aside0 (Kept w w' (fun k_ => P0_0_ k_ ∨ P0_1_ k_)) ∧ Aside0 (Below w0.heap.size w0 w'))
 case atStart => exact ⟨(1), (l0_0), (l0_1), (.slice Ao2 l0_0.length co2), (.slice Ao3 l0_1.length co3), rf, H', ⟨Nat.le_refl _⟩, ⟨ps HO0_0.out⟩, ⟨pr HO0_1.out⟩, ⟨pb BK293.out⟩, ⟨pb BK294.out⟩, ⟨by repeat (first | (with_reducible first | exact HK.out | apply Kept.alloc | apply Kept.drewN | apply Kept.drew | refine Kept.setCell ?_ (.inr GW293.out) _ | refine Kept.setCell ?_ (.inr GW294.out) _) | exact HK.out)⟩, ⟨bg2 HB.out GE293.out GE294.out⟩⟩
 case round =>
  clear H'
  obtain ⟨x3_1, x294000_1, x294001_1, u294000, u294001, rfl, HA, HK1, HO_294000, HO_294001, BK293, BK294, HK, HB⟩ := hrel
  cases gk with
  | zero => exact absurd HA.out (by simp [spec_l21All.l0])
  | succ k1 =>
   have H := HA.out
   clear HA
   simp only [spec_l21All.l0] at H
   by_cases c6 : x3_1 ≤ 6
   rotate_left
   · rw [if_neg c6] at H
     have c6b0 := decide_eq_false c6
     clear c6
     simp only [Option.some.injEq, Prod.mk.injEq] at H
     obtain ⟨rfl, rfl⟩ := H
     have hnb21 := NB293_294.out
     have hnc21 := NB294_293.out
     obtain ⟨hcz22_0, hcz22_1⟩ := b2 BK293.out
     obtain ⟨hfz22_0, hfz22_1⟩ := f2 BK293.out
     obtain ⟨Ao23, co23, eo23⟩ := Kd.S_slice HO_294000.out
     subst eo23
     obtain ⟨hcz24_0, hcz24_1⟩ := b2 BK294.out
     obtain ⟨hfz24_0, hfz24_1⟩ := f2 BK294.out
     obtain ⟨Ao25, co25, eo25⟩ := Kd.R_slice HO_294001.out
     subst eo25
     go_wp2
     refine bodyPost_ret (results_cell_row rfl _ _ gb294 56 #[.slice Ao23 x294000_1.length co23, .slice Ao25 x294001_1.length co25] (0, 0) _ rfl (by (with_reducible repeat (first | refine blk_drewN ?_ _ | refine blk_drew ?_ | refine blk_alloc ?_ _)); refine blk_put (cs := #[.slice Ao23 x294000_1.length co23, .slice none 0 0]) ?_ 1 _ rfl; (with_reducible repeat (first | refine blk_drewN ?_ _ | refine blk_drew ?_ | refine blk_alloc ?_ _)); refine blk_put (cs := #[.slice none 0 0, .slice none 0 0]) ?_ 0 _ rfl; (with_reducible repeat (first | refine blk_drewN ?_ _ | refine blk_drew ?_ | refine blk_alloc ?_ _)); exact BK294.out) Try.underlying56 rfl (by kernel_rfl)) rfl ?_
     exact ⟨_, _, rq ⟨by (with_reducible repeat (first | apply Kd.S_alloc | apply Kd.S_drewN | apply Kd.S_drew)); exact Kd.S_mono (Kd.S_far (p := ⟨gb294, 1, none⟩) (Kd.S_far (p := ⟨gb294, 0, none⟩) (Kd.S_types HO_294000.out BK294.out (by decide)) (fun _ hk => hk.2) (.slice Ao23 x294000_1.length co23)) (fun _ hk => hk.2) (.slice Ao25 x294001_1.length co25)) (fun _ hk => hk.1), by (with_reducible repeat (first | apply Kd.R_alloc | apply Kd.R_drewN | apply Kd.R_drew)); exact Kd.R_mono (Kd.R_far (p := ⟨gb294, 1, none⟩) (Kd.R_far (p := ⟨gb294, 0, none⟩) (Kd.R_types HO_294001.out BK294.out (by decide)) (fun _ hk => hk.2) (.slice Ao23 x294000_1.length co23)) (fun _ hk => hk.2) (.slice Ao25 x294001_1.length co25)) (fun _ hk => hk.1), bg2 HB.out GE293.out GE294.out, by repeat (first | (with_reducible first | exact HK.out | apply Kept.alloc | apply Kept.drewN | apply Kept.drew | refine Kept.setCell ?_ (.inr GW293.out) _ | refine Kept.setCell ?_ (.inr GW294.out) _) | exact HK.out)⟩⟩
   rw [if_pos c6] at H
   have c6b0 := decide_eq_true c6
   clear c6
   replace H := Option.bind_eq_some_iff.mp H
   obtain ⟨t295, A70, H⟩ := H
   replace H : ((spec_l12To.f k1 x294000_1 x294001_1 t295 (t295.length : Int) false).bind fun bt298 => (spec_l21All.l0 k1 (wrap64 (x3_1 + 1)) bt298.1 bt298.2)) = some (r1, r2) := H
   have A7 := am A70
   clear A70
   replace H := Option.bind_eq_some_iff.mp H
   obtain ⟨⟨t298, t301⟩, A80, H⟩ := H
   replace H : (spec_l21All.l0 k1 (wrap64 (x3_1 + 1)) t298 t301) = some (r1, r2) := H
   have A8 := am A80
   clear A80
   have H' := am H
   clear H
   have hnb9 := NB293_294.out
   have hnc9 := NB294_293.out
   obtain ⟨hcz10_0, hcz10_1⟩ := b2 BK293.out
   obtain ⟨hfz10_0, hfz10_1⟩ := f2 BK293.out
   obtain ⟨Ao11, co11, eo11⟩ := Kd.S_slice HO_294000.out
   subst eo11
   obtain ⟨Ao12, co12, eo12⟩ := Kd.R_slice HO_294001.out
   subst eo12
   go_wp2_with (first | (refine gl 11 Try.func34 #[.agg #[.slice Ao11 x294000_1.length co11, .slice Ao12 x294001_1.length co12], .int .i64 x3_1] rfl ?_; (with_reducible refine (spec_l12Flush.calls k1 _ _ x294000_1 _ _ x294001_1 x3_1 t295 _ ?side1 ?side2 ?side3 ?side4 A7.out).mono ?_); (case side1 => repeat (first | exact (Kd.S_reads' HO_294000.out).2.2 | (with_reducible refine Kd.C_alloc ?_ _) | (with_reducible refine Kd.C_drewN ?_ _) | (with_reducible refine Kd.C_drew ?_))); (case side2 => exact (Kd.S_reads' HO_294000.out).2.1); (case side3 => repeat (first | exact (Kd.R_reads' HO_294001.out).2.2 | (with_reducible refine Kd.C_alloc ?_ _) | (with_reducible refine Kd.C_drewN ?_ _) | (with_reducible refine Kd.C_drew ?_))); (case side4 => exact (Kd.R_reads' HO_294001.out).2.1); rintro e w13 ⟨v296, rfl, ho0, hb⟩; refine ⟨_, rfl, ?_⟩; replace HO_294000 := am (Kd.S_below (ps HO_294000.out) hb); replace HO_294001 := am (Kd.R_below (pr HO_294001.out) hb); have HO297 := am (Kd.R_lower (Kd.R_newM (M := fun k_ => ((P0_0_ k_ ∨ P0_1_ k_) ∨ w.heap.size ≤ k_)) ho0 (by first | exact HK.out.1 | exact (show Kept w _ (fun k_ => P0_0_ k_ ∨ P0_1_ k_) from by repeat (first | (with_reducible first | exact HK.out | apply Kept.alloc | apply Kept.drewN | apply Kept.drew | refine Kept.setCell ?_ (.inr GW293.out) _ | refine Kept.setCell ?_ (.inr GW294.out) _) | exact HK.out)).1) (fun k_ h_ => .inr h_)) (below_size (bg2 HB.out GE293.out GE294.out))); replace BK293 := am (blk_below (pb BK293.out) hb); replace BK294 := am (blk_below (pb BK294.out) hb); replace HK := am (Kept.below (S := (fun k_ => P0_0_ k_ ∨ P0_1_ k_)) (by repeat (first | (with_reducible first | exact HK.out | apply Kept.alloc | apply Kept.drewN | apply Kept.drew | refine Kept.setCell ?_ (.inr GW293.out) _ | refine Kept.setCell ?_ (.inr GW294.out) _) | exact HK.out)) hb); replace HB := am (below_step (bg2 HB.out GE293.out GE294.out) hb); (try clear hb); (try clear hb2); (try clear hk); (try clear hi); (try clear ho0); obtain ⟨hcz14_0, hcz14_1⟩ := b2 BK293.out; obtain ⟨hfz14_0, hfz14_1⟩ := f2 BK293.out; obtain ⟨Ao15, co15, eo15⟩ := Kd.R_slice HO297.out; subst eo15; obtain ⟨PXh16, hxa_, hxb_⟩ := Kd.S_hand HO_294000.out; have HXAh16 := am hxa_; have HXBh16 := am hxb_; clear hxa_ hxb_) | (refine gl 16 Try.func30 #[.agg #[.slice Ao11 x294000_1.length co11, .slice Ao12 x294001_1.length co12], .slice Ao15 t295.length co15, .int .i64 (t295.length : Int), .bool false] rfl ?_; (with_reducible refine (spec_l12To.calls k1 PXh16 (.slice Ao11 x294000_1.length co11) x294000_1 (fun k_ => some k_ = (.slice Ao12 x294001_1.length co12 : Value).ownBlock) (.slice Ao12 x294001_1.length co12) x294001_1 _ _ t295 (t295.length : Int) false t298 t301 w0 _ ?side1 ?side2 ?side3 ?side4 ?side5 A8.out).mono ?_); (case side1 => repeat (first | (with_reducible first | exact HB.out | apply below_alloc | apply pw_below_drewN | apply below_drew1 | refine below_set ?_ GE293.out | refine below_set ?_ GE294.out) | exact HB.out)); (case side2 => exact (ps HXAh16.out)); (case side3 => exact Kd.R_tight rfl HO_294001.out); (case side4 => exact Kd.C_kept_own ((Kd.R_apart' (Kd.R_awayP HO297.out (fun k_ h_ => (HXBh16.out k_ h_).2.2.2) (by decide)) (Kd.R_typed HO_294001.out) (by decide))) (fun k_ hk_ hs_ => Or.elim hs_ (fun e_ => (hk_.1.2) e_) (fun e_ => (hk_.2) e_))); (case side5 => exact (Kd.R_reads' HO297.out).2.1); rintro e w17 ⟨v299, v302, rfl, ho0, ho1, hb, hkp⟩; refine ⟨_, rfl, ?_⟩; replace BK293 := am (blk_kept (pb BK293.out) hkp (fun hs_ => Or.elim hs_ (fun e_ => (fun e_ => Kd.blk_awayP (fun k_ h_ => (HXBh16.out k_ h_).2.2.2) BK293.out (by decide) e_) e_) (fun e_ => (fun e_ => (Kd.R_ne HO_294001.out BK293.out (by decide)) e_) e_))); replace BK294 := am (blk_kept (pb BK294.out) hkp (fun hs_ => Or.elim hs_ (fun e_ => (fun e_ => Kd.blk_awayP (fun k_ h_ => (HXBh16.out k_ h_).2.2.2) BK294.out (by decide) e_) e_) (fun e_ => (fun e_ => (Kd.R_ne HO_294001.out BK294.out (by decide)) e_) e_))); replace HO297 := am (Kd.R_mono (ok' := fun k_ => ((P0_0_ k_ ∨ P0_1_ k_) ∨ w.heap.size ≤ k_)) (Kd.R_keptB ((Kd.R_apart' (Kd.R_awayP HO297.out (fun k_ h_ => (HXBh16.out k_ h_).2.2.2) (by decide)) (Kd.R_typed HO_294001.out) (by decide))) hkp (fun k_ hk_ hs_ => Or.elim hs_ (fun e_ => (hk_.1.2) e_) (fun e_ => (hk_.2) e_))) (fun k_ hk_ => hk_.1.1.1.1)); have HO300 := am (Kd.S_mono (ok' := fun k_ => ((P0_0_ k_ ∨ P0_1_ k_) ∨ w.heap.size ≤ k_)) ho0 (fun k_ hk_ => Or.elim hk_ (fun hs_ => Or.elim hs_ (fun hs_ => (HXBh16.out k_ hs_).1) (fun hs_ => (HO_294001.out.1 k_ (hs_).symm))) (fun hn_ => (.inr (Nat.le_trans (by first | exact HK.out.1 | exact (show Kept w _ (fun k_ => P0_0_ k_ ∨ P0_1_ k_) from by repeat (first | (with_reducible first | exact HK.out | apply Kept.alloc | apply Kept.drewN | apply Kept.drew | refine Kept.setCell ?_ (.inr GW293.out) _ | refine Kept.setCell ?_ (.inr GW294.out) _) | exact HK.out)).1) hn_))))); have HO303 := am (Kd.R_mono (ok' := fun k_ => ((P0_0_ k_ ∨ P0_1_ k_) ∨ w.heap.size ≤ k_)) ho1 (fun k_ hk_ => Or.elim hk_ (fun hs_ => Or.elim hs_ (fun hs_ => (HXBh16.out k_ hs_).1) (fun hs_ => (HO_294001.out.1 k_ (hs_).symm))) (fun hn_ => (.inr (Nat.le_trans (by first | exact HK.out.1 | exact (show Kept w _ (fun k_ => P0_0_ k_ ∨ P0_1_ k_) from by repeat (first | (with_reducible first | exact HK.out | apply Kept.alloc | apply Kept.drewN | apply Kept.drew | refine Kept.setCell ?_ (.inr GW293.out) _ | refine Kept.setCell ?_ (.inr GW294.out) _) | exact HK.out)).1) hn_))))); replace HK := am (Kept.then_ (S := (fun k_ => P0_0_ k_ ∨ P0_1_ k_)) (by repeat (first | (with_reducible first | exact HK.out | apply Kept.alloc | apply Kept.drewN | apply Kept.drew | refine Kept.setCell ?_ (.inr GW293.out) _ | refine Kept.setCell ?_ (.inr GW294.out) _) | exact HK.out)) hkp (fun k_ hs_ => Or.elim hs_ (fun e_ => (fun e_ => (HXBh16.out k_ e_).1) e_) (fun e_ => (fun e_ => (HO_294001.out.1 k_ e_.symm)) e_))); replace HB := am (hb); clear HO_294000; clear HO_294001; (try clear hb); (try clear hkp); (try clear ho0); (try clear ho1); obtain ⟨Ao18, co18, eo18⟩ := Kd.S_slice HO300.out; subst eo18; obtain ⟨hcz19_0, hcz19_1⟩ := b2 BK293.out; obtain ⟨hfz19_0, hfz19_1⟩ := f2 BK293.out; obtain ⟨Ao20, co20, eo20⟩ := Kd.R_slice HO303.out; subst eo20))
   go_roundg k1
   case measure => have := HK1.out; omega
   case rel => exact ⟨(wrap64 (x3_1 + 1)), (t298), (t301), (.slice Ao18 t298.length co18), (.slice Ao20 t301.length co20), rf, H', ⟨by have := HK1.out; omega⟩, ⟨by (with_reducible repeat (first | apply Kd.S_alloc | apply Kd.S_drewN | apply Kd.S_drew)); exact Kd.S_mono (Kd.S_far (p := ⟨gb293, 1, none⟩) (Kd.S_far (p := ⟨gb293, 0, none⟩) (Kd.S_types HO300.out BK293.out (by decide)) (fun _ hk => hk.2) (.slice Ao18 t298.length co18)) (fun _ hk => hk.2) (.slice Ao20 t301.length co20)) (fun _ hk => hk.1)⟩, ⟨by (with_reducible repeat (first | apply Kd.R_alloc | apply Kd.R_drewN | apply Kd.R_drew)); exact Kd.R_mono (Kd.R_far (p := ⟨gb293, 1, none⟩) (Kd.R_far (p := ⟨gb293, 0, none⟩) (Kd.R_types HO303.out BK293.out (by decide)) (fun _ hk => hk.2) (.slice Ao18 t298.length co18)) (fun _ hk => hk.2) (.slice Ao20 t301.length co20)) (fun _ hk => hk.1)⟩, ⟨by (with_reducible repeat (first | refine blk_drewN ?_ _ | refine blk_drew ?_ | refine blk_alloc ?_ _)); refine blk_put (cs := #[.slice Ao18 t298.length co18, .slice Ao12 x294001_1.length co12]) ?_ 1 _ rfl; (with_reducible repeat (first | refine blk_drewN ?_ _ | refine blk_drew ?_ | refine blk_alloc ?_ _)); refine blk_put (cs := #[.slice Ao11 x294000_1.length co11, .slice Ao12 x294001_1.length co12]) ?_ 0 _ rfl; (with_reducible repeat (first | refine blk_drewN ?_ _ | refine blk_drew ?_ | refine blk_alloc ?_ _)); exact BK293.out⟩, ⟨by (with_reducible repeat (first | refine blk_drewN ?_ _ | refine blk_drew ?_ | refine blk_alloc ?_ _)); refine blk_far ?_ NB294_293.out _; (with_reducible repeat (first | refine blk_drewN ?_ _ | refine blk_drew ?_ | refine blk_alloc ?_ _)); refine blk_far ?_ NB294_293.out _; (with_reducible repeat (first | refine blk_drewN ?_ _ | refine blk_drew ?_ | refine blk_alloc ?_ _)); exact BK294.out⟩, ⟨by repeat (first | (with_reducible first | exact HK.out | apply Kept.alloc | apply Kept.drewN | apply Kept.drew | refine Kept.setCell ?_ (.inr GW293.out) _ | refine Kept.setCell ?_ (.inr GW294.out) _) | exact HK.out)⟩, ⟨bg2 HB.out GE293.out GE294.out⟩⟩
def spec_l12Fill.f (k : Nat) (l0_0 : List (S35)) (l0_1 : List Int) (a1 : Int) : Option ((List (S80))) := (spec_l6In.f a1 1 6).bind fun t305 => (if t305 = true then ((spec_l3Last.f k l0_0 a1).bind fun bt309 => (if bt309.2.2.2.2 = true then (some (([] : List (S80)))) else (if 0 ≤ (wrap64 (a1 - 1)) then (if (wrap64 (a1 - 1)) < (l0_1.length : Int) then ((spec_l12Write.f k l0_0 l0_1 2 a1 (rd l0_1 (wrap64 (a1 - 1)))).bind fun t319 => (some t319)) else (none)) else (none)))) else (some (([] : List (S80)))))
theorem spec_l12Fill.mono : ∀ a0 a1 a2 k, LeO (spec_l12Fill.f k a0 a1 a2) (spec_l12Fill.f (k + 1) a0 a1 a2) := by
 intro a0 a1 a2 k
 unfold spec_l12Fill.f
 repeat' first
  | (with_reducible exact spec_l12Write.mono _ _ _ _ _ _)
  | (with_reducible exact spec_l3Last.mono _ _ _)
  | (with_reducible exact LeO.refl _)
  | (with_reducible exact LeO.none _)
  | (with_reducible refine LeO.ite ?_ ?_)
  | (with_reducible refine LeO.bind ?_ (fun _ => ?_))
  | exact spec_l12Write.mono _ _ _ _ _ _
  | exact spec_l3Last.mono _ _ _
  | exact LeO.none _
  | refine LeO.ite ?_ ?_
  | refine LeO.bind ?_ (fun _ => ?_)
def spec_l12Fill.T6 : Bool × List (List Nat × List Nat) := (true, [([], []), ([], []), ([], []), ([2], [2]), ([], []), ([4], [4]), ([3, 5], [3, 5]), ([6], [6]), ([0, 1, 7], [0, 1, 7]), ([8, 8, 0, 1, 2, 3, 4, 5, 6, 7, 8], [8])])
def spec_l12Fill.B6 : List Nat := [0, 0, 0, 4, 0, 16, 60, 124, 255, 511]
theorem spec_l12Fill.tab6 : rtab .any (opsOf Try.f37 6) = spec_l12Fill.T6 := by kernel_rfl
theorem spec_l12Fill.bits6 : waitsOk spec_l12Fill.T6.2 spec_l12Fill.B6 = true := by kernel_rfl
set_option maxHeartbeats 8000000 in
set_option maxRecDepth 100000 in
theorem spec_l12Fill.calls (k : Nat) (A0_0 : Option Addr) (c0_0 : Nat) (l0_0 : List (S35)) (A0_1 : Option Addr) (c0_1 : Nat) (l0_1 : List Int) (a1 : Int) (r : List (S80)) (w : World) (hr0_0 : Kd.C k35 w A0_0 l0_0.length l0_0) (hc0_0 : l0_0.length ≤ c0_0) (hr0_1 : Kd.C (Kd.int .i64) w A0_1 l0_1.length l0_1) (hc0_1 : l0_1.length ≤ c0_1) (h : spec_l12Fill.f k l0_0 l0_1 a1 = some r) :
 Calls Try.prog 37 #[.agg #[.slice A0_0 l0_0.length c0_0, .slice A0_1 l0_1.length c0_1], .int .i64 a1] w fun e w' => ∃ v0_ : Value, e = .returned (v0_) ∧ Kd.R k80 80 w' w.heap.size (fun _ => True) v0_ r ∧ Below w.heap.size w w' := by
 have hu56 := Try.underlying56
 have hu27 := Try.underlying27
 have HR0_0 := am hr0_0
 have HC0_0 := am hc0_0
 clear hr0_0 hc0_0
 have HR0_1 := am hr0_1
 have HC0_1 := am hc0_1
 clear hr0_1 hc0_1
 have HB := am (Below.refl w.heap.size w)
 have H : ((spec_l6In.f a1 1 6).bind fun t305 => (if t305 = true then ((spec_l3Last.f k l0_0 a1).bind fun bt309 => (if bt309.2.2.2.2 = true then (some (([] : List (S80)))) else (if 0 ≤ (wrap64 (a1 - 1)) then (if (wrap64 (a1 - 1)) < (l0_1.length : Int) then ((spec_l12Write.f k l0_0 l0_1 2 a1 (rd l0_1 (wrap64 (a1 - 1)))).bind fun t319 => (some t319)) else (none)) else (none)))) else (some (([] : List (S80)))))) = some r := h
 clear h
 replace H := Option.bind_eq_some_iff.mp H
 obtain ⟨t305, A30, H⟩ := H
 replace H : (if t305 = true then ((spec_l3Last.f k l0_0 a1).bind fun bt309 => (if bt309.2.2.2.2 = true then (some (([] : List (S80)))) else (if 0 ≤ (wrap64 (a1 - 1)) then (if (wrap64 (a1 - 1)) < (l0_1.length : Int) then ((spec_l12Write.f k l0_0 l0_1 2 a1 (rd l0_1 (wrap64 (a1 - 1)))).bind fun t319 => (some t319)) else (none)) else (none)))) else (some (([] : List (S80))))) = some r := H
 have A3 := am A30
 clear A30
 by_cases c4 : t305 = true
 rotate_left
 · replace c4 := Bool.eq_false_iff.mpr c4
   subst c4
   have H1 : (some (([] : List (S80)))) = some r := by rw [if_neg (show ¬ (false = true) by decide)] at H; exact H
   clear H
   have H := H1
   clear H1
   obtain ⟨y306, hy306⟩ : ∃ y_ : List (S80), y_ = (([] : List (S80))) := ⟨_, rfl⟩
   replace H : (some y306) = some r := by first | (rw [hy306]; with_reducible exact H) | (have H2_ := (Option.bind_some _ _).symm.trans H; rw [hy306]; with_reducible exact H2_) | (have H2_ := (Option.bind_some _ _).symm.trans H; with_reducible exact H2_) | with_reducible exact H | (rw [hy306]; exact H) | exact H
   have Ny306 := am hy306
   clear hy306
   obtain rfl := Option.some.inj H
   go_enter Try.func37, Try.ntmps37
   go_wp2_with (first | (refine bx 2 #[.slice A0_0 l0_0.length c0_0, .slice A0_1 l0_1.length c0_1] 56 rfl ?_; intro gb304 hg w28 hbox hb; have BK304 := am (hbox); have GW304 := am ((by rw [hg]; exact (below_size (ph HB.out)) : w.heap.size ≤ gb304)); have GE304 := GW304; replace HB := am (below_step (ph HB.out) hb); clear hb hbox hg) | (refine gl 8 Try.func12 #[.int .i64 a1, .int .i64 1, .int .i64 6] rfl ?_; (with_reducible refine (spec_l6In.calls a1 1 6 false _ A3.out).mono ?_); rintro e w' ⟨rfl, ⟨nd, rfl⟩⟩; refine ⟨_, rfl, ?_⟩) | ((with_reducible refine gate_dst (N := 10) rfl ?_); refine Kd.R_lit k80 _ 80 ?hg (N := 10) ?hd (xs := ([] : List (S80))) (inner := []) (ok := fun _ => True) (okp := fun _ => True) ?hr ?hp (fun _ hk => hk) trivial (Below.refl _ _) (Nat.le_refl _) (by simp) ?_; (case hd => rfl); (case hg => rfl); (case hr => first | (go_simp; done) | (go_simp; rfl)); (case hp => exact (Reps.none _ _)); intro v307 w29 ho30 hb hg_ hnew_; clear hg_ hnew_; (first | rw [← Ny306.out] at ho30 | (simp only [Int.reduceToNat] at ho30; rw [← Ny306.out] at ho30)); have HO308 := am (Kd.R_lower ho30 (below_size (bg1 HB.out GE304.out))); replace BK304 := am (blk_below (pb BK304.out) hb); replace HB := am (below_step (bg1 HB.out GE304.out) hb); clear hb ho30))
   go_ret
   exact ⟨_, rq ⟨pr HO308.out, bg1 HB.out GE304.out⟩⟩
 subst c4
 have H1 : ((spec_l3Last.f k l0_0 a1).bind fun bt309 => (if bt309.2.2.2.2 = true then (some (([] : List (S80)))) else (if 0 ≤ (wrap64 (a1 - 1)) then (if (wrap64 (a1 - 1)) < (l0_1.length : Int) then ((spec_l12Write.f k l0_0 l0_1 2 a1 (rd l0_1 (wrap64 (a1 - 1)))).bind fun t319 => (some t319)) else (none)) else (none)))) = some r := by rw [if_pos rfl] at H; exact H
 clear H
 have H := H1
 clear H1
 replace H := Option.bind_eq_some_iff.mp H
 obtain ⟨⟨t309, t310, t311, t312, t313⟩, A50, H⟩ := H
 replace H : (if t313 = true then (some (([] : List (S80)))) else (if 0 ≤ (wrap64 (a1 - 1)) then (if (wrap64 (a1 - 1)) < (l0_1.length : Int) then ((spec_l12Write.f k l0_0 l0_1 2 a1 (rd l0_1 (wrap64 (a1 - 1)))).bind fun t319 => (some t319)) else (none)) else (none))) = some r := H
 have A5 := am A50
 clear A50
 by_cases c6 : t313 = true
 · subst c6
   have H1 : (some (([] : List (S80)))) = some r := by rw [if_pos rfl] at H; exact H
   clear H
   have H := H1
   clear H1
   obtain ⟨y315, hy315⟩ : ∃ y_ : List (S80), y_ = (([] : List (S80))) := ⟨_, rfl⟩
   replace H : (some y315) = some r := by first | (rw [hy315]; with_reducible exact H) | (have H2_ := (Option.bind_some _ _).symm.trans H; rw [hy315]; with_reducible exact H2_) | (have H2_ := (Option.bind_some _ _).symm.trans H; with_reducible exact H2_) | with_reducible exact H | (rw [hy315]; exact H) | exact H
   have Ny315 := am hy315
   clear hy315
   obtain rfl := Option.some.inj H
   go_enter Try.func37, Try.ntmps37
   go_wp2_with (first | (refine bx 2 #[.slice A0_0 l0_0.length c0_0, .slice A0_1 l0_1.length c0_1] 56 rfl ?_; intro gb304 hg w7 hbox hb; have BK304 := am (hbox); have GW304 := am ((by rw [hg]; exact (below_size (ph HB.out)) : w.heap.size ≤ gb304)); have GE304 := GW304; replace HB := am (below_step (ph HB.out) hb); clear hb hbox hg) | (refine gl 8 Try.func12 #[.int .i64 a1, .int .i64 1, .int .i64 6] rfl ?_; (with_reducible refine (spec_l6In.calls a1 1 6 true _ A3.out).mono ?_); rintro e w' ⟨rfl, ⟨nd, rfl⟩⟩; refine ⟨_, rfl, ?_⟩; (try (rw [drewN_self w7]; generalize hq_ : World.drewN w7 _ = w7; have n0_ : Aside0 (w7.heap[gb304]? = some (.cells #[.slice A0_0 l0_0.length c0_0, .slice A0_1 l0_1.length c0_1] 56 (0, 0))) := ⟨by rw [← hq_]; exact (pb BK304.out)⟩; have n1_ : Aside0 (Below w.heap.size w w7) := ⟨by rw [← hq_]; exact (bg1 HB.out GE304.out)⟩; clear BK304 HB hq_; have BK304 := n0_; have HB := n1_; clear n0_ n1_)); obtain ⟨hcz8_0, hcz8_1⟩ := b2 BK304.out; obtain ⟨hfz8_0, hfz8_1⟩ := f2 BK304.out) | (refine gl 15 Try.func13 #[.slice A0_0 l0_0.length c0_0, .int .i64 a1] rfl ?_; (with_reducible refine (spec_l3Last.calls k _ _ l0_0 a1 t309 t310 t311 t312 true _ ?side1 ?side2 A5.out).mono ?_); (case side1 => exact pc (Kd.C_below HR0_0.out HB.out)); (case side2 => exact HC0_0.out); rintro e w9 ⟨rfl, hb⟩; refine ⟨_, rfl, ?_⟩; replace BK304 := am (blk_below (pb BK304.out) hb); replace HB := am (below_step (bg1 HB.out GE304.out) hb); (try clear hb); (try clear hb2); (try clear hk); (try clear hi)) | (refine bx 5 #[.int .i64 0, .int .i64 0, .int .i64 0, .int .i64 0] 27 rfl ?_; intro gb314 hg w10 hbox hb; have BK314 := am (hbox); have GW314 := am ((by rw [hg]; exact (below_size (bg1 HB.out GE304.out)) : w.heap.size ≤ gb314)); have GE314 := GW314; replace HB := am (below_step (bg1 HB.out GE304.out) hb); have NB304_314 := am ((by rw [hg]; exact Nat.ne_of_lt (blk_lt (pb BK304.out)) : gb304 ≠ gb314)); have NB314_304 := am (Ne.symm NB304_314.out); replace BK304 := am (blk_below (pb BK304.out) hb); clear hb hbox hg; have hnb11 := NB314_304.out; have hnc11 := NB304_314.out; obtain ⟨hcz12_0, hcz12_1, hcz12_2, hcz12_3⟩ := b4 BK314.out; obtain ⟨hfz12_0, hfz12_1, hfz12_2, hfz12_3⟩ := f4 BK314.out) | ((with_reducible refine gate_dst (N := 19) rfl ?_); refine Kd.R_lit k80 _ 80 ?hg (N := 19) ?hd (xs := ([] : List (S80))) (inner := []) (ok := fun _ => True) (okp := fun _ => True) ?hr ?hp (fun _ hk => hk) trivial (Below.refl _ _) (Nat.le_refl _) (by simp) ?_; (case hd => rfl); (case hg => rfl); (case hr => first | (go_simp; done) | (go_simp; rfl)); (case hp => exact (Reps.none _ _)); intro v316 w13 ho14 hb hg_ hnew_; clear hg_ hnew_; (first | rw [← Ny315.out] at ho14 | (simp only [Int.reduceToNat] at ho14; rw [← Ny315.out] at ho14)); have HO317 := am (Kd.R_lower ho14 (below_size (bg2 HB.out GE304.out GE314.out))); replace BK304 := am (blk_below (g := gb304) (o := .cells #[.slice A0_0 l0_0.length c0_0, .slice A0_1 l0_1.length c0_1] 56 (0, 0)) (by (with_reducible repeat (first | refine blk_drewN ?_ _ | refine blk_drew ?_ | refine blk_alloc ?_ _)); refine blk_far ?_ NB304_314.out _; (with_reducible repeat (first | refine blk_drewN ?_ _ | refine blk_drew ?_ | refine blk_alloc ?_ _)); refine blk_far ?_ NB304_314.out _; (with_reducible repeat (first | refine blk_drewN ?_ _ | refine blk_drew ?_ | refine blk_alloc ?_ _)); refine blk_far ?_ NB304_314.out _; (with_reducible repeat (first | refine blk_drewN ?_ _ | refine blk_drew ?_ | refine blk_alloc ?_ _)); refine blk_far ?_ NB304_314.out _; (with_reducible repeat (first | refine blk_drewN ?_ _ | refine blk_drew ?_ | refine blk_alloc ?_ _)); exact BK304.out) hb); replace BK314 := am (blk_below (g := gb314) (o := .cells #[.int .i64 t309, .int .i64 t310, .int .i64 t311, .int .i64 t312] 27 (0, 0)) (by (with_reducible repeat (first | refine blk_drewN ?_ _ | refine blk_drew ?_ | refine blk_alloc ?_ _)); refine blk_put (cs := #[.int .i64 t309, .int .i64 t310, .int .i64 t311, .int .i64 0]) ?_ 3 _ rfl; (with_reducible repeat (first | refine blk_drewN ?_ _ | refine blk_drew ?_ | refine blk_alloc ?_ _)); refine blk_put (cs := #[.int .i64 t309, .int .i64 t310, .int .i64 0, .int .i64 0]) ?_ 2 _ rfl; (with_reducible repeat (first | refine blk_drewN ?_ _ | refine blk_drew ?_ | refine blk_alloc ?_ _)); refine blk_put (cs := #[.int .i64 t309, .int .i64 0, .int .i64 0, .int .i64 0]) ?_ 1 _ rfl; (with_reducible repeat (first | refine blk_drewN ?_ _ | refine blk_drew ?_ | refine blk_alloc ?_ _)); refine blk_put (cs := #[.int .i64 0, .int .i64 0, .int .i64 0, .int .i64 0]) ?_ 0 _ rfl; (with_reducible repeat (first | refine blk_drewN ?_ _ | refine blk_drew ?_ | refine blk_alloc ?_ _)); exact BK314.out) hb); replace HB := am (below_step (bg2 HB.out GE304.out GE314.out) hb); clear hb ho14))
   go_ret
   exact ⟨_, rq ⟨pr HO317.out, bg2 HB.out GE304.out GE314.out⟩⟩
 replace c6 := Bool.eq_false_iff.mpr c6
 subst c6
 have H1 : (if 0 ≤ (wrap64 (a1 - 1)) then (if (wrap64 (a1 - 1)) < (l0_1.length : Int) then ((spec_l12Write.f k l0_0 l0_1 2 a1 (rd l0_1 (wrap64 (a1 - 1)))).bind fun t319 => (some t319)) else (none)) else (none)) = some r := by rw [if_neg (show ¬ (false = true) by decide)] at H; exact H
 clear H
 have H := H1
 clear H1
 obtain ⟨ji15, hji15⟩ : ∃ j_ : Int, (wrap64 (a1 - 1)) = j_ := ⟨_, rfl⟩
 replace H : (if 0 ≤ (ji15) then (if (ji15) < (l0_1.length : Int) then ((spec_l12Write.f k l0_0 l0_1 2 a1 (rd l0_1 (ji15))).bind fun t319 => (some t319)) else (none)) else (none)) = some r := by first | (rw [hji15] at H; exact H) | (simp only [hji15] at H ⊢; exact H)
 (try rw [hji15] at A3)
 (try rw [hji15] at A5)
 have hji15w : (IntKind.i64.wrap (a1 - 1)) = ji15 := (i64_w _).trans hji15
 by_cases c16 : 0 ≤ (ji15)
 rotate_left
 · rw [if_neg c16] at H
   exact absurd H (by simp)
 rw [if_pos c16] at H
 have c16b0 := decide_eq_true c16
 clear c16
 by_cases c17 : (ji15) < (l0_1.length : Int)
 rotate_left
 · rw [if_neg c17] at H
   exact absurd H (by simp)
 rw [if_pos c17] at H
 have c17b0 := decide_eq_true c17
 clear c17
 replace H := Option.bind_eq_some_iff.mp H
 obtain ⟨t319, A180, H⟩ := H
 replace H : (some t319) = some r := H
 have A18 := am A180
 clear A180
 obtain rfl := Option.some.inj H
 go_enter Try.func37, Try.ntmps37
 try go_wp2_with (first | (refine bx 2 #[.slice A0_0 l0_0.length c0_0, .slice A0_1 l0_1.length c0_1] 56 rfl ?_; intro gb304 hg w19 hbox hb; have BK304 := am (hbox); have GW304 := am ((by rw [hg]; exact (below_size (ph HB.out)) : w.heap.size ≤ gb304)); have GE304 := GW304; replace HB := am (below_step (ph HB.out) hb); clear hb hbox hg) | (refine gl 8 Try.func12 #[.int .i64 a1, .int .i64 1, .int .i64 6] rfl ?_; (with_reducible refine (spec_l6In.calls a1 1 6 true _ A3.out).mono ?_); rintro e w' ⟨rfl, ⟨nd, rfl⟩⟩; refine ⟨_, rfl, ?_⟩; (try (rw [drewN_self w19]; generalize hq_ : World.drewN w19 _ = w19; have n0_ : Aside0 (w19.heap[gb304]? = some (.cells #[.slice A0_0 l0_0.length c0_0, .slice A0_1 l0_1.length c0_1] 56 (0, 0))) := ⟨by rw [← hq_]; exact (pb BK304.out)⟩; have n1_ : Aside0 (Below w.heap.size w w19) := ⟨by rw [← hq_]; exact (bg1 HB.out GE304.out)⟩; clear BK304 HB hq_; have BK304 := n0_; have HB := n1_; clear n0_ n1_)); obtain ⟨hcz20_0, hcz20_1⟩ := b2 BK304.out; obtain ⟨hfz20_0, hfz20_1⟩ := f2 BK304.out) | (refine gl 15 Try.func13 #[.slice A0_0 l0_0.length c0_0, .int .i64 a1] rfl ?_; (with_reducible refine (spec_l3Last.calls k _ _ l0_0 a1 t309 t310 t311 t312 false _ ?side1 ?side2 A5.out).mono ?_); (case side1 => exact pc (Kd.C_below HR0_0.out HB.out)); (case side2 => exact HC0_0.out); rintro e w21 ⟨rfl, hb⟩; refine ⟨_, rfl, ?_⟩; replace BK304 := am (blk_below (pb BK304.out) hb); replace HB := am (below_step (bg1 HB.out GE304.out) hb); (try clear hb); (try clear hb2); (try clear hk); (try clear hi)) | (refine bx 5 #[.int .i64 0, .int .i64 0, .int .i64 0, .int .i64 0] 27 rfl ?_; intro gb314 hg w22 hbox hb; have BK314 := am (hbox); have GW314 := am ((by rw [hg]; exact (below_size (bg1 HB.out GE304.out)) : w.heap.size ≤ gb314)); have GE314 := GW314; replace HB := am (below_step (bg1 HB.out GE304.out) hb); have NB304_314 := am ((by rw [hg]; exact Nat.ne_of_lt (blk_lt (pb BK304.out)) : gb304 ≠ gb314)); have NB314_304 := am (Ne.symm NB304_314.out); replace BK304 := am (blk_below (pb BK304.out) hb); clear hb hbox hg; have hnb23 := NB314_304.out; have hnc23 := NB304_314.out; obtain ⟨hcz24_0, hcz24_1, hcz24_2, hcz24_3⟩ := b4 BK314.out; obtain ⟨hfz24_0, hfz24_1, hfz24_2, hfz24_3⟩ := f4 BK314.out))
 have n0_ : Aside0 (((((w22.setCell ⟨gb314, 0, none⟩ (.int .i64 t309)).setCell ⟨gb314, 1, none⟩ (.int .i64 t310)).setCell ⟨gb314, 2, none⟩ (.int .i64 t311)).setCell ⟨gb314, 3, none⟩ (.int .i64 t312)).heap[gb304]? = some (.cells #[.slice A0_0 l0_0.length c0_0, .slice A0_1 l0_1.length c0_1] 56 (0, 0))) := ⟨by (with_reducible repeat (first | refine blk_drewN ?_ _ | refine blk_drew ?_ | refine blk_alloc ?_ _)); refine blk_far ?_ NB304_314.out _; (with_reducible repeat (first | refine blk_drewN ?_ _ | refine blk_drew ?_ | refine blk_alloc ?_ _)); refine blk_far ?_ NB304_314.out _; (with_reducible repeat (first | refine blk_drewN ?_ _ | refine blk_drew ?_ | refine blk_alloc ?_ _)); refine blk_far ?_ NB304_314.out _; (with_reducible repeat (first | refine blk_drewN ?_ _ | refine blk_drew ?_ | refine blk_alloc ?_ _)); refine blk_far ?_ NB304_314.out _; (with_reducible repeat (first | refine blk_drewN ?_ _ | refine blk_drew ?_ | refine blk_alloc ?_ _)); exact BK304.out⟩
 have n1_ : Aside0 (((((w22.setCell ⟨gb314, 0, none⟩ (.int .i64 t309)).setCell ⟨gb314, 1, none⟩ (.int .i64 t310)).setCell ⟨gb314, 2, none⟩ (.int .i64 t311)).setCell ⟨gb314, 3, none⟩ (.int .i64 t312)).heap[gb314]? = some (.cells #[.int .i64 t309, .int .i64 t310, .int .i64 t311, .int .i64 t312] 27 (0, 0))) := ⟨by (with_reducible repeat (first | refine blk_drewN ?_ _ | refine blk_drew ?_ | refine blk_alloc ?_ _)); refine blk_put (cs := #[.int .i64 t309, .int .i64 t310, .int .i64 t311, .int .i64 0]) ?_ 3 _ rfl; (with_reducible repeat (first | refine blk_drewN ?_ _ | refine blk_drew ?_ | refine blk_alloc ?_ _)); refine blk_put (cs := #[.int .i64 t309, .int .i64 t310, .int .i64 0, .int .i64 0]) ?_ 2 _ rfl; (with_reducible repeat (first | refine blk_drewN ?_ _ | refine blk_drew ?_ | refine blk_alloc ?_ _)); refine blk_put (cs := #[.int .i64 t309, .int .i64 0, .int .i64 0, .int .i64 0]) ?_ 1 _ rfl; (with_reducible repeat (first | refine blk_drewN ?_ _ | refine blk_drew ?_ | refine blk_alloc ?_ _)); refine blk_put (cs := #[.int .i64 0, .int .i64 0, .int .i64 0, .int .i64 0]) ?_ 0 _ rfl; (with_reducible repeat (first | refine blk_drewN ?_ _ | refine blk_drew ?_ | refine blk_alloc ?_ _)); exact BK314.out⟩
 have n2_ : Aside0 (Below w.heap.size w ((((w22.setCell ⟨gb314, 0, none⟩ (.int .i64 t309)).setCell ⟨gb314, 1, none⟩ (.int .i64 t310)).setCell ⟨gb314, 2, none⟩ (.int .i64 t311)).setCell ⟨gb314, 3, none⟩ (.int .i64 t312))) := ⟨bg2 HB.out GE304.out GE314.out⟩
 (try clear BK304)
 (try clear BK314)
 (try clear HB)
 generalize ((((w22.setCell ⟨gb314, 0, none⟩ (.int .i64 t309)).setCell ⟨gb314, 1, none⟩ (.int .i64 t310)).setCell ⟨gb314, 2, none⟩ (.int .i64 t311)).setCell ⟨gb314, 3, none⟩ (.int .i64 t312)) = w25 at n0_ n1_ n2_ ⊢
 have BK304 := n0_
 have BK314 := n1_
 have HB := n2_
 clear n0_ n1_ n2_
 replace BK304 := am (blk_drew BK304.out)
 replace BK314 := am (blk_drew BK314.out)
 replace HB := am (below_drew1 HB.out)
 have p318 : 0 ≤ ((ji15) : Int) := ofb
 have q318 : (ji15) < (l0_1.length : Int) := ofb
 obtain ⟨ad318, e318, hx318_0⟩ := Kd.at_int HR0_1.out (ji15) p318 q318
 have hw318_0 := hx318_0
 cases e318
 replace hx318_0 := up HB.out hx318_0
 replace p318 := eq_true p318
 replace q318 := eq_true q318
 refine start_ (n := 10) (S := fun w' => w'.cell? ⟨gb304, 0, none⟩ = some (.slice A0_0 l0_0.length c0_0) ∧ w'.cell? ⟨gb304, 1, none⟩ = some (.slice (some ad318) l0_1.length c0_1) ∧ w'.cell? (ad318.add ((ji15)).toNat) = some (.int .i64 (rd l0_1 (ji15)))) (ds := []) #[false, false, false, false, false, false, false, false, false, false] (by kernel_rfl) rfl rfl ⟨(blk_cell BK304.out 0).trans rfl, (blk_cell BK304.out 1).trans rfl, ((HB.out.cell (World.block_lt_of_cell? w _ hw318_0)).trans hw318_0)⟩ (fun hHeld => ?_); refine with_tabW spec_l12Fill.tab6 spec_l12Fill.bits6 (fun HT_ HW_ => ?_)
 generalize w25.drew = w26 at BK304 BK314 HB hx318_0 hHeld ⊢
 refine pj_ 1 21 #[false, true, false, false, false, false, false, false, false, false] rfl rfl (any_of HT_.out (by kernel_rfl)) (fun _ _ _ h => h) ?_
 refine pj_ 2 22 #[false, true, true, false, false, false, false, false, false, false] rfl rfl (any_of HT_.out (by kernel_rfl)) (fun _ _ _ h => h) ?_
 refine pj_ 4 24 #[false, true, true, false, true, false, false, false, false, false] rfl rfl (any_of HT_.out (by kernel_rfl)) (fun _ _ _ h => h) ?_
 refine pj_ 5 25 #[false, true, true, false, true, true, false, false, false, false] rfl rfl (any_of HT_.out (by kernel_rfl)) (fun _ _ _ h => h) ?_
 refine pm_ 0 20 #[true, true, true, false, true, true, false, false, false, false] rfl rfl (take_ofW HT_.out HW_.out (by kernel_rfl)) (fun _ _ _ h => h) hHeld ?_
 refine pm_ 3 23 #[true, true, true, true, true, true, false, false, false, false] rfl rfl (take_ofW HT_.out HW_.out (by kernel_rfl)) (fun _ _ _ h => h) hHeld ?_
 refine pj_ 6 26 #[true, true, true, true, true, true, true, false, false, false] rfl rfl (any_of HT_.out (by kernel_rfl)) (fun _ _ _ h => h) ?_
 refine pm_ 7 27 #[true, true, true, true, true, true, true, true, false, false] rfl rfl (take_ofW HT_.out HW_.out (by kernel_rfl)) (fun _ _ _ h => h) hHeld ?_
 refine one_ (i := 8) (N := some 28) #[true, true, true, true, true, true, true, true, true, false] rfl rfl (one_of HT_.out (by kernel_rfl)) (by decide) (fun K hK => ?_)
 refine goes_ Try.func36 (by kernel_rfl) rfl #[.agg #[.slice A0_0 l0_0.length c0_0, .slice (some ad318) l0_1.length c0_1], .int .i64 2, .int .i64 a1, .int .i64 (rd l0_1 (ji15))] (by rfl) rfl rfl (by (try simp only [List.map_toArray, List.map_cons, List.map_nil]); first | done | (simp only [hji15]; rfl) | rfl | (simp only [List.length_drop, List.length_take]; rfl)) ?_
 with_reducible refine (spec_l12Write.calls k _ _ l0_0 _ _ l0_1 2 a1 (rd l0_1 (ji15)) t319 _ ?side1 ?side2 ?side3 ?side4 A18.out).mono ?_
 (case side1 => exact pc (Kd.C_below HR0_0.out HB.out))
 (case side2 => exact HC0_0.out)
 (case side3 => exact pc (Kd.C_below HR0_1.out HB.out))
 (case side4 => exact HC0_1.out)
 rintro e w27 ⟨v320, rfl, ho0, hb⟩
 refine ⟨_, rfl, ?_⟩
 have HO321 := am (Kd.R_lower ho0 (below_size (bg2 HB.out GE304.out GE314.out)))
 replace BK304 := am (blk_below (pb BK304.out) hb)
 replace BK314 := am (blk_below (pb BK314.out) hb)
 replace HB := am (below_step (bg2 HB.out GE304.out GE314.out) hb)
 (try clear hb)
 (try clear hb2)
 (try clear hk)
 (try clear hi)
 (try clear ho0)
 refine hK.out _ _ ⟨(blk_cell BK304.out 0).trans rfl, (blk_cell BK304.out 1).trans rfl, ((HB.out.cell (World.block_lt_of_cell? w _ hw318_0)).trans hw318_0)⟩ (fun hHeld => ?_)
 clear hK K
 refine norm_ (a' := ?_) ?_ ?_
 rotate_left
 · show Act.put _ (some 28) _ = _
   simp only [Act.put, List.setIfInBounds_toArray, List.set_cons_zero, List.set_cons_succ, i64_w, i32_w]
   rfl
 refine pj_ 9 4 #[true, true, true, true, true, true, true, true, true, true] rfl rfl (any_of HT_.out (by kernel_rfl)) (fun _ _ _ h => h) ?_
 refine done_ (done_of HT_.out (by kernel_rfl)) ?_
 try go_wp2
 go_ret
 exact ⟨_, by first | rfl | (simp [errW_none, errW_some] <;> rfl) | (simp only [← hji15]; first | rfl | (simp [errW_none, errW_some] <;> rfl)) | (simp [*, errW_none, errW_some] <;> rfl), pr HO321.out, bg2 HB.out GE304.out GE314.out⟩
def spec_l21Steps.f (k : Nat) (l0_0 : List (S35)) (l0_1 : List Int) (a1_0 : Int) (a1_1 : Int) (a1_2 : Int) (a1_3 : Int) (a1_4 : Bool) : Option ((List (S80))) := if a1_0 = 1 then ((spec_l12Write.f k l0_0 l0_1 1 a1_1 a1_2).bind fun t324 => (some t324)) else (if a1_0 = 2 then ((spec_l12Flush.f k l0_0 l0_1 a1_1).bind fun t327 => (some t327)) else (if a1_0 = 3 then ((spec_l12Fill.f k l0_0 l0_1 a1_1).bind fun t330 => (some t330)) else (some (([] : List (S80))))))
theorem spec_l21Steps.mono : ∀ a0 a1 a2 a3 a4 a5 a6 k, LeO (spec_l21Steps.f k a0 a1 a2 a3 a4 a5 a6) (spec_l21Steps.f (k + 1) a0 a1 a2 a3 a4 a5 a6) := by
 intro a0 a1 a2 a3 a4 a5 a6 k
 unfold spec_l21Steps.f
 repeat' first
  | (with_reducible exact spec_l12Fill.mono _ _ _ _)
  | (with_reducible exact spec_l12Flush.mono _ _ _ _)
  | (with_reducible exact spec_l12Write.mono _ _ _ _ _ _)
  | (with_reducible exact LeO.refl _)
  | (with_reducible exact LeO.none _)
  | (with_reducible refine LeO.ite ?_ ?_)
  | (with_reducible refine LeO.bind ?_ (fun _ => ?_))
  | exact spec_l12Fill.mono _ _ _ _
  | exact spec_l12Flush.mono _ _ _ _
  | exact spec_l12Write.mono _ _ _ _ _ _
  | exact LeO.none _
  | refine LeO.ite ?_ ?_
  | refine LeO.bind ?_ (fun _ => ?_)
set_option maxHeartbeats 8000000 in
set_option maxRecDepth 100000 in
theorem spec_l21Steps.calls (k : Nat) (A0_0 : Option Addr) (c0_0 : Nat) (l0_0 : List (S35)) (A0_1 : Option Addr) (c0_1 : Nat) (l0_1 : List Int) (a1_0 : Int) (a1_1 : Int) (a1_2 : Int) (a1_3 : Int) (a1_4 : Bool) (r : List (S80)) (w : World) (hr0_0 : Kd.C k35 w A0_0 l0_0.length l0_0) (hc0_0 : l0_0.length ≤ c0_0) (hr0_1 : Kd.C (Kd.int .i64) w A0_1 l0_1.length l0_1) (hc0_1 : l0_1.length ≤ c0_1) (h : spec_l21Steps.f k l0_0 l0_1 a1_0 a1_1 a1_2 a1_3 a1_4 = some r) :
 Calls Try.prog 31 #[.agg #[.slice A0_0 l0_0.length c0_0, .slice A0_1 l0_1.length c0_1], .agg #[.int .i64 a1_0, .int .i64 a1_1, .int .i64 a1_2, .int .i64 a1_3, .bool a1_4]] w fun e w' => ∃ v0_ : Value, e = .returned (v0_) ∧ Kd.R k80 80 w' w.heap.size (fun _ => True) v0_ r ∧ Below w.heap.size w w' := by
 have hu56 := Try.underlying56
 have hu66 := Try.underlying66
 have HR0_0 := am hr0_0
 have HC0_0 := am hc0_0
 clear hr0_0 hc0_0
 have HR0_1 := am hr0_1
 have HC0_1 := am hc0_1
 clear hr0_1 hc0_1
 have HB := am (Below.refl w.heap.size w)
 have H : (if a1_0 = 1 then ((spec_l12Write.f k l0_0 l0_1 1 a1_1 a1_2).bind fun t324 => (some t324)) else (if a1_0 = 2 then ((spec_l12Flush.f k l0_0 l0_1 a1_1).bind fun t327 => (some t327)) else (if a1_0 = 3 then ((spec_l12Fill.f k l0_0 l0_1 a1_1).bind fun t330 => (some t330)) else (some (([] : List (S80))))))) = some r := h
 clear h
 by_cases c3 : a1_0 = 1
 · rw [if_pos c3] at H
   have c3b0 : (a1_0 == 1) = true := beq_iff_eq.mpr c3
   have c3b1 : (a1_0 != 1) = false := bne_eq_false_iff_eq.mpr c3
   clear c3
   replace H := Option.bind_eq_some_iff.mp H
   obtain ⟨t324, A40, H⟩ := H
   replace H : (some t324) = some r := H
   have A4 := am A40
   clear A40
   obtain rfl := Option.some.inj H
   go_enter Try.func31, Try.ntmps31
   go_wp2_with (first | (refine bx 2 #[.slice A0_0 l0_0.length c0_0, .slice A0_1 l0_1.length c0_1] 56 rfl ?_; intro gb322 hg w5 hbox hb; have BK322 := am (hbox); have GW322 := am ((by rw [hg]; exact (below_size (ph HB.out)) : w.heap.size ≤ gb322)); have GE322 := GW322; replace HB := am (below_step (ph HB.out) hb); clear hb hbox hg) | (refine bx 3 #[.int .i64 a1_0, .int .i64 a1_1, .int .i64 a1_2, .int .i64 a1_3, .bool a1_4] 66 rfl ?_; intro gb323 hg w6 hbox hb; have BK323 := am (hbox); have GW323 := am ((by rw [hg]; exact (below_size (bg1 HB.out GE322.out)) : w.heap.size ≤ gb323)); have GE323 := GW323; replace HB := am (below_step (bg1 HB.out GE322.out) hb); have NB322_323 := am ((by rw [hg]; exact Nat.ne_of_lt (blk_lt (pb BK322.out)) : gb322 ≠ gb323)); have NB323_322 := am (Ne.symm NB322_323.out); replace BK322 := am (blk_below (pb BK322.out) hb); clear hb hbox hg; have hnb7 := NB323_322.out; have hnc7 := NB322_323.out; obtain ⟨hcz8_0, hcz8_1, hcz8_2, hcz8_3, hcz8_4⟩ := b5 BK323.out; obtain ⟨hfz8_0, hfz8_1, hfz8_2, hfz8_3, hfz8_4⟩ := f5 BK323.out; obtain ⟨hcz9_0, hcz9_1⟩ := b2 BK322.out; obtain ⟨hfz9_0, hfz9_1⟩ := f2 BK322.out) | (refine gl 14 Try.func36 #[.agg #[.slice A0_0 l0_0.length c0_0, .slice A0_1 l0_1.length c0_1], .int .i64 1, .int .i64 a1_1, .int .i64 a1_2] rfl ?_; (with_reducible refine (spec_l12Write.calls k _ _ l0_0 _ _ l0_1 1 a1_1 a1_2 t324 _ ?side1 ?side2 ?side3 ?side4 A4.out).mono ?_); (case side1 => exact pc (Kd.C_below HR0_0.out HB.out)); (case side2 => exact HC0_0.out); (case side3 => exact pc (Kd.C_below HR0_1.out HB.out)); (case side4 => exact HC0_1.out); rintro e w10 ⟨v325, rfl, ho0, hb⟩; refine ⟨_, rfl, ?_⟩; have HO326 := am (Kd.R_lower ho0 (below_size (bg2 HB.out GE322.out GE323.out))); replace BK322 := am (blk_below (pb BK322.out) hb); replace BK323 := am (blk_below (pb BK323.out) hb); replace HB := am (below_step (bg2 HB.out GE322.out GE323.out) hb); (try clear hb); (try clear hb2); (try clear hk); (try clear hi); (try clear ho0)))
   go_ret
   exact ⟨_, rq ⟨pr HO326.out, bg2 HB.out GE322.out GE323.out⟩⟩
 rw [if_neg c3] at H
 have c3b0 : (a1_0 == 1) = false := beq_eq_false_iff_ne.mpr c3
 have c3b1 : (a1_0 != 1) = true := bne_iff_ne.mpr c3
 by_cases c11 : a1_0 = 2
 · rw [if_pos c11] at H
   have c11b0 : (a1_0 == 2) = true := beq_iff_eq.mpr c11
   have c11b1 : (a1_0 != 2) = false := bne_eq_false_iff_eq.mpr c11
   clear c11
   replace H := Option.bind_eq_some_iff.mp H
   obtain ⟨t327, A120, H⟩ := H
   replace H : (some t327) = some r := H
   have A12 := am A120
   clear A120
   obtain rfl := Option.some.inj H
   go_enter Try.func31, Try.ntmps31
   go_wp2_with (first | (refine bx 2 #[.slice A0_0 l0_0.length c0_0, .slice A0_1 l0_1.length c0_1] 56 rfl ?_; intro gb322 hg w13 hbox hb; have BK322 := am (hbox); have GW322 := am ((by rw [hg]; exact (below_size (ph HB.out)) : w.heap.size ≤ gb322)); have GE322 := GW322; replace HB := am (below_step (ph HB.out) hb); clear hb hbox hg) | (refine bx 3 #[.int .i64 a1_0, .int .i64 a1_1, .int .i64 a1_2, .int .i64 a1_3, .bool a1_4] 66 rfl ?_; intro gb323 hg w14 hbox hb; have BK323 := am (hbox); have GW323 := am ((by rw [hg]; exact (below_size (bg1 HB.out GE322.out)) : w.heap.size ≤ gb323)); have GE323 := GW323; replace HB := am (below_step (bg1 HB.out GE322.out) hb); have NB322_323 := am ((by rw [hg]; exact Nat.ne_of_lt (blk_lt (pb BK322.out)) : gb322 ≠ gb323)); have NB323_322 := am (Ne.symm NB322_323.out); replace BK322 := am (blk_below (pb BK322.out) hb); clear hb hbox hg; have hnb15 := NB323_322.out; have hnc15 := NB322_323.out; obtain ⟨hcz16_0, hcz16_1, hcz16_2, hcz16_3, hcz16_4⟩ := b5 BK323.out; obtain ⟨hfz16_0, hfz16_1, hfz16_2, hfz16_3, hfz16_4⟩ := f5 BK323.out; obtain ⟨hcz17_0, hcz17_1⟩ := b2 BK322.out; obtain ⟨hfz17_0, hfz17_1⟩ := f2 BK322.out) | (refine gl 20 Try.func34 #[.agg #[.slice A0_0 l0_0.length c0_0, .slice A0_1 l0_1.length c0_1], .int .i64 a1_1] rfl ?_; (with_reducible refine (spec_l12Flush.calls k _ _ l0_0 _ _ l0_1 a1_1 t327 _ ?side1 ?side2 ?side3 ?side4 A12.out).mono ?_); (case side1 => exact pc (Kd.C_below HR0_0.out HB.out)); (case side2 => exact HC0_0.out); (case side3 => exact pc (Kd.C_below HR0_1.out HB.out)); (case side4 => exact HC0_1.out); rintro e w18 ⟨v328, rfl, ho0, hb⟩; refine ⟨_, rfl, ?_⟩; have HO329 := am (Kd.R_lower ho0 (below_size (bg2 HB.out GE322.out GE323.out))); replace BK322 := am (blk_below (pb BK322.out) hb); replace BK323 := am (blk_below (pb BK323.out) hb); replace HB := am (below_step (bg2 HB.out GE322.out GE323.out) hb); (try clear hb); (try clear hb2); (try clear hk); (try clear hi); (try clear ho0)))
   go_ret
   exact ⟨_, rq ⟨pr HO329.out, bg2 HB.out GE322.out GE323.out⟩⟩
 rw [if_neg c11] at H
 have c11b0 : (a1_0 == 2) = false := beq_eq_false_iff_ne.mpr c11
 have c11b1 : (a1_0 != 2) = true := bne_iff_ne.mpr c11
 by_cases c19 : a1_0 = 3
 rotate_left
 · rw [if_neg c19] at H
   have c19b0 : (a1_0 == 3) = false := beq_eq_false_iff_ne.mpr c19
   have c19b1 : (a1_0 != 3) = true := bne_iff_ne.mpr c19
   obtain ⟨y333, hy333⟩ : ∃ y_ : List (S80), y_ = (([] : List (S80))) := ⟨_, rfl⟩
   replace H : (some y333) = some r := by first | (rw [hy333]; with_reducible exact H) | (have H2_ := (Option.bind_some _ _).symm.trans H; rw [hy333]; with_reducible exact H2_) | (have H2_ := (Option.bind_some _ _).symm.trans H; with_reducible exact H2_) | with_reducible exact H | (rw [hy333]; exact H) | exact H
   have Ny333 := am hy333
   clear hy333
   obtain rfl := Option.some.inj H
   go_enter Try.func31, Try.ntmps31
   go_wp2_with (first | (refine bx 2 #[.slice A0_0 l0_0.length c0_0, .slice A0_1 l0_1.length c0_1] 56 rfl ?_; intro gb322 hg w27 hbox hb; have BK322 := am (hbox); have GW322 := am ((by rw [hg]; exact (below_size (ph HB.out)) : w.heap.size ≤ gb322)); have GE322 := GW322; replace HB := am (below_step (ph HB.out) hb); clear hb hbox hg) | (refine bx 3 #[.int .i64 a1_0, .int .i64 a1_1, .int .i64 a1_2, .int .i64 a1_3, .bool a1_4] 66 rfl ?_; intro gb323 hg w28 hbox hb; have BK323 := am (hbox); have GW323 := am ((by rw [hg]; exact (below_size (bg1 HB.out GE322.out)) : w.heap.size ≤ gb323)); have GE323 := GW323; replace HB := am (below_step (bg1 HB.out GE322.out) hb); have NB322_323 := am ((by rw [hg]; exact Nat.ne_of_lt (blk_lt (pb BK322.out)) : gb322 ≠ gb323)); have NB323_322 := am (Ne.symm NB322_323.out); replace BK322 := am (blk_below (pb BK322.out) hb); clear hb hbox hg; have hnb29 := NB323_322.out; have hnc29 := NB322_323.out; obtain ⟨hcz30_0, hcz30_1, hcz30_2, hcz30_3, hcz30_4⟩ := b5 BK323.out; obtain ⟨hfz30_0, hfz30_1, hfz30_2, hfz30_3, hfz30_4⟩ := f5 BK323.out) | ((with_reducible refine gate_dst (N := 27) rfl ?_); refine Kd.R_lit k80 _ 80 ?hg (N := 27) ?hd (xs := ([] : List (S80))) (inner := []) (ok := fun _ => True) (okp := fun _ => True) ?hr ?hp (fun _ hk => hk) trivial (Below.refl _ _) (Nat.le_refl _) (by simp) ?_; (case hd => rfl); (case hg => rfl); (case hr => first | (go_simp; done) | (go_simp; rfl)); (case hp => exact (Reps.none _ _)); intro v334 w31 ho32 hb hg_ hnew_; clear hg_ hnew_; (first | rw [← Ny333.out] at ho32 | (simp only [Int.reduceToNat] at ho32; rw [← Ny333.out] at ho32)); have HO335 := am (Kd.R_lower ho32 (below_size (bg2 HB.out GE322.out GE323.out))); replace BK322 := am (blk_below (pb BK322.out) hb); replace BK323 := am (blk_below (pb BK323.out) hb); replace HB := am (below_step (bg2 HB.out GE322.out GE323.out) hb); clear hb ho32))
   go_ret
   exact ⟨_, rq ⟨pr HO335.out, bg2 HB.out GE322.out GE323.out⟩⟩
 rw [if_pos c19] at H
 have c19b0 : (a1_0 == 3) = true := beq_iff_eq.mpr c19
 have c19b1 : (a1_0 != 3) = false := bne_eq_false_iff_eq.mpr c19
 clear c19
 replace H := Option.bind_eq_some_iff.mp H
 obtain ⟨t330, A200, H⟩ := H
 replace H : (some t330) = some r := H
 have A20 := am A200
 clear A200
 obtain rfl := Option.some.inj H
 go_enter Try.func31, Try.ntmps31
 go_wp2_with (first | (refine bx 2 #[.slice A0_0 l0_0.length c0_0, .slice A0_1 l0_1.length c0_1] 56 rfl ?_; intro gb322 hg w21 hbox hb; have BK322 := am (hbox); have GW322 := am ((by rw [hg]; exact (below_size (ph HB.out)) : w.heap.size ≤ gb322)); have GE322 := GW322; replace HB := am (below_step (ph HB.out) hb); clear hb hbox hg) | (refine bx 3 #[.int .i64 a1_0, .int .i64 a1_1, .int .i64 a1_2, .int .i64 a1_3, .bool a1_4] 66 rfl ?_; intro gb323 hg w22 hbox hb; have BK323 := am (hbox); have GW323 := am ((by rw [hg]; exact (below_size (bg1 HB.out GE322.out)) : w.heap.size ≤ gb323)); have GE323 := GW323; replace HB := am (below_step (bg1 HB.out GE322.out) hb); have NB322_323 := am ((by rw [hg]; exact Nat.ne_of_lt (blk_lt (pb BK322.out)) : gb322 ≠ gb323)); have NB323_322 := am (Ne.symm NB322_323.out); replace BK322 := am (blk_below (pb BK322.out) hb); clear hb hbox hg; have hnb23 := NB323_322.out; have hnc23 := NB322_323.out; obtain ⟨hcz24_0, hcz24_1, hcz24_2, hcz24_3, hcz24_4⟩ := b5 BK323.out; obtain ⟨hfz24_0, hfz24_1, hfz24_2, hfz24_3, hfz24_4⟩ := f5 BK323.out; obtain ⟨hcz25_0, hcz25_1⟩ := b2 BK322.out; obtain ⟨hfz25_0, hfz25_1⟩ := f2 BK322.out) | (refine gl 26 Try.func37 #[.agg #[.slice A0_0 l0_0.length c0_0, .slice A0_1 l0_1.length c0_1], .int .i64 a1_1] rfl ?_; (with_reducible refine (spec_l12Fill.calls k _ _ l0_0 _ _ l0_1 a1_1 t330 _ ?side1 ?side2 ?side3 ?side4 A20.out).mono ?_); (case side1 => exact pc (Kd.C_below HR0_0.out HB.out)); (case side2 => exact HC0_0.out); (case side3 => exact pc (Kd.C_below HR0_1.out HB.out)); (case side4 => exact HC0_1.out); rintro e w26 ⟨v331, rfl, ho0, hb⟩; refine ⟨_, rfl, ?_⟩; have HO332 := am (Kd.R_lower ho0 (below_size (bg2 HB.out GE322.out GE323.out))); replace BK322 := am (blk_below (pb BK322.out) hb); replace BK323 := am (blk_below (pb BK323.out) hb); replace HB := am (below_step (bg2 HB.out GE322.out GE323.out) hb); (try clear hb); (try clear hb2); (try clear hk); (try clear hi); (try clear ho0)))
 go_ret
 exact ⟨_, rq ⟨pr HO332.out, bg2 HB.out GE322.out GE323.out⟩⟩
def spec_l21Do.f (k : Nat) (l0_0 : List (S35)) (l0_1 : List Int) (a1_0 : Int) (a1_1 : Int) (a1_2 : Int) (a1_3 : Int) (a1_4 : Bool) : Option ((List (S35)) × List Int) := if a1_0 = 4 then ((spec_l21All.f k l0_0 l0_1).bind fun bt339 => (some (bt339.1, bt339.2))) else (if a1_3 < 0 then (some (l0_0, l0_1)) else ((spec_l21Steps.f k l0_0 l0_1 a1_0 a1_1 a1_2 a1_3 a1_4).bind fun t345 => ((spec_l12To.f k l0_0 l0_1 t345 a1_3 a1_4).bind fun bt348 => (some (bt348.1, bt348.2)))))
theorem spec_l21Do.mono : ∀ a0 a1 a2 a3 a4 a5 a6 k, LeO (spec_l21Do.f k a0 a1 a2 a3 a4 a5 a6) (spec_l21Do.f (k + 1) a0 a1 a2 a3 a4 a5 a6) := by
 intro a0 a1 a2 a3 a4 a5 a6 k
 unfold spec_l21Do.f
 repeat' first
  | (with_reducible exact spec_l12To.mono _ _ _ _ _ _)
  | (with_reducible exact spec_l21All.mono _ _ _)
  | (with_reducible exact spec_l21Steps.mono _ _ _ _ _ _ _ _)
  | (with_reducible exact LeO.refl _)
  | (with_reducible exact LeO.none _)
  | (with_reducible refine LeO.ite ?_ ?_)
  | (with_reducible refine LeO.bind ?_ (fun _ => ?_))
  | exact spec_l12To.mono _ _ _ _ _ _
  | exact spec_l21All.mono _ _ _
  | exact spec_l21Steps.mono _ _ _ _ _ _ _ _
  | exact LeO.none _
  | refine LeO.ite ?_ ?_
  | refine LeO.bind ?_ (fun _ => ?_)
def spec_l21Do.T5 : Bool × List (List Nat × List Nat) := (true, [([], []), ([], []), ([], []), ([1, 2], [1, 2]), ([], []), ([4], [4]), ([], []), ([6], [6]), ([0, 3, 5, 7, 3], [0, 3, 5, 7]), ([8, 8, 0, 1, 2, 3, 4, 5, 6, 7, 8], [8])])
def spec_l21Do.B5 : List Nat := [0, 0, 0, 6, 0, 16, 0, 64, 255, 511]
theorem spec_l21Do.tab5 : rtab .any (opsOf Try.f26 5) = spec_l21Do.T5 := by kernel_rfl
theorem spec_l21Do.bits5 : waitsOk spec_l21Do.T5.2 spec_l21Do.B5 = true := by kernel_rfl
set_option maxHeartbeats 8000000 in
set_option maxRecDepth 100000 in
theorem spec_l21Do.calls (k : Nat) (P0_0_ : Nat → Prop) (u9000_ : Value) (l0_0 : List (S35)) (P0_1_ : Nat → Prop) (u9001_ : Value) (l0_1 : List Int) (a1_0 : Int) (a1_1 : Int) (a1_2 : Int) (a1_3 : Int) (a1_4 : Bool) (r1 : List (S35)) (r2 : List Int) (w0 w : World) (hB : Below w0.heap.size w0 w) (ho0_0 : Kd.S k35 35 w w0.heap.size P0_0_ u9000_ l0_0) (ho0_1 : Kd.R (Kd.int .i64) 3 w w0.heap.size P0_1_ u9001_ l0_1) (h : spec_l21Do.f k l0_0 l0_1 a1_0 a1_1 a1_2 a1_3 a1_4 = some (r1, r2)) :
 Calls Try.prog 26 #[.agg #[u9000_, u9001_], .agg #[.int .i64 a1_0, .int .i64 a1_1, .int .i64 a1_2, .int .i64 a1_3, .bool a1_4]] w fun e w' => ∃ v0_ v1_ : Value, e = .returned (.agg #[v0_, v1_]) ∧ Kd.S k35 35 w' w0.heap.size (fun k_ => ((P0_0_ k_ ∨ P0_1_ k_) ∨ w.heap.size ≤ k_)) v0_ r1 ∧ Kd.R (Kd.int .i64) 3 w' w0.heap.size (fun k_ => ((P0_0_ k_ ∨ P0_1_ k_) ∨ w.heap.size ≤ k_)) v1_ r2 ∧ Below w0.heap.size w0 w' ∧ Kept w w' (fun k_ => P0_0_ k_ ∨ P0_1_ k_) := by
 have hu56 := Try.underlying56
 have hu66 := Try.underlying66
 have HO0_0 := am (show Kd.S k35 35 w w0.heap.size (fun k_ => ((P0_0_ k_ ∨ P0_1_ k_) ∨ w.heap.size ≤ k_)) u9000_ l0_0 from Kd.S_mono ho0_0 (fun k_ hk => (.inl (.inl hk))))
 have HO0_1 := am (show Kd.R (Kd.int .i64) 3 w w0.heap.size (fun k_ => ((P0_0_ k_ ∨ P0_1_ k_) ∨ w.heap.size ≤ k_)) u9001_ l0_1 from Kd.R_mono ho0_1 (fun k_ hk => (.inl (.inr hk))))
 have HK := am (Kept.refl w (fun k_ => P0_0_ k_ ∨ P0_1_ k_))
 have HW0 := am hB.size
 have HB := am hB
 clear hB
 have H : (if a1_0 = 4 then ((spec_l21All.f k l0_0 l0_1).bind fun bt339 => (some (bt339.1, bt339.2))) else (if a1_3 < 0 then (some (l0_0, l0_1)) else ((spec_l21Steps.f k l0_0 l0_1 a1_0 a1_1 a1_2 a1_3 a1_4).bind fun t345 => ((spec_l12To.f k l0_0 l0_1 t345 a1_3 a1_4).bind fun bt348 => (some (bt348.1, bt348.2)))))) = some (r1, r2) := h
 clear h
 by_cases c3 : a1_0 = 4
 · rw [if_pos c3] at H
   have c3b0 : (a1_0 == 4) = true := beq_iff_eq.mpr c3
   have c3b1 : (a1_0 != 4) = false := bne_eq_false_iff_eq.mpr c3
   clear c3
   replace H := Option.bind_eq_some_iff.mp H
   obtain ⟨⟨t339, t342⟩, A40, H⟩ := H
   replace H : (some (t339, t342)) = some (r1, r2) := H
   have A4 := am A40
   clear A40
   simp only [Option.some.injEq, Prod.mk.injEq] at H
   obtain ⟨rfl, rfl⟩ := H
   obtain ⟨Ao5, co5, eo5⟩ := Kd.S_slice HO0_0.out
   subst eo5
   obtain ⟨Ao6, co6, eo6⟩ := Kd.R_slice HO0_1.out
   subst eo6
   go_enter Try.func26, Try.ntmps26
   go_wp2_with (first | (refine bx 2 #[.slice Ao5 l0_0.length co5, .slice Ao6 l0_1.length co6] 56 rfl ?_; intro gb336 hg w7 hbox hb; replace HO0_0 := am (Kd.S_below (ps HO0_0.out) hb); replace HO0_1 := am (Kd.R_below (pr HO0_1.out) hb); have BK336 := am (hbox); have GW336 := am ((by rw [hg]; exact (by first | exact HK.out.1 | exact (show Kept w _ (fun k_ => P0_0_ k_ ∨ P0_1_ k_) from pk HK.out).1) : w.heap.size ≤ gb336)); replace HK := am (Kept.below (S := (fun k_ => P0_0_ k_ ∨ P0_1_ k_)) (pk HK.out) hb); have GE336 := am ((by rw [hg]; exact (below_size (ph HB.out)) : w0.heap.size ≤ gb336)); replace HB := am (below_step (ph HB.out) hb); clear hb hbox hg) | (refine bx 3 #[.int .i64 a1_0, .int .i64 a1_1, .int .i64 a1_2, .int .i64 a1_3, .bool a1_4] 66 rfl ?_; intro gb337 hg w8 hbox hb; replace HO0_0 := am (Kd.S_below (ps HO0_0.out) hb); replace HO0_1 := am (Kd.R_below (pr HO0_1.out) hb); have BK337 := am (hbox); have GW337 := am ((by rw [hg]; exact (by first | exact HK.out.1 | exact (show Kept w _ (fun k_ => P0_0_ k_ ∨ P0_1_ k_) from by repeat (first | (with_reducible first | exact HK.out | apply Kept.alloc | apply Kept.drewN | apply Kept.drew | refine Kept.setCell ?_ (.inr GW336.out) _) | exact HK.out)).1) : w.heap.size ≤ gb337)); replace HK := am (Kept.below (S := (fun k_ => P0_0_ k_ ∨ P0_1_ k_)) (by repeat (first | (with_reducible first | exact HK.out | apply Kept.alloc | apply Kept.drewN | apply Kept.drew | refine Kept.setCell ?_ (.inr GW336.out) _) | exact HK.out)) hb); have GE337 := am ((by rw [hg]; exact (below_size (bg1 HB.out GE336.out)) : w0.heap.size ≤ gb337)); replace HB := am (below_step (bg1 HB.out GE336.out) hb); have NB336_337 := am ((by rw [hg]; exact Nat.ne_of_lt (blk_lt (pb BK336.out)) : gb336 ≠ gb337)); have NB337_336 := am (Ne.symm NB336_337.out); replace BK336 := am (blk_below (pb BK336.out) hb); clear hb hbox hg) | (refine bx 4 #[.slice none 0 0, .slice none 0 0] 56 rfl ?_; intro gb338 hg w9 hbox hb; replace HO0_0 := am (Kd.S_below (ps HO0_0.out) hb); replace HO0_1 := am (Kd.R_below (pr HO0_1.out) hb); have BK338 := am (hbox); have GW338 := am ((by rw [hg]; exact (by first | exact HK.out.1 | exact (show Kept w _ (fun k_ => P0_0_ k_ ∨ P0_1_ k_) from by repeat (first | (with_reducible first | exact HK.out | apply Kept.alloc | apply Kept.drewN | apply Kept.drew | refine Kept.setCell ?_ (.inr GW336.out) _ | refine Kept.setCell ?_ (.inr GW337.out) _) | exact HK.out)).1) : w.heap.size ≤ gb338)); replace HK := am (Kept.below (S := (fun k_ => P0_0_ k_ ∨ P0_1_ k_)) (by repeat (first | (with_reducible first | exact HK.out | apply Kept.alloc | apply Kept.drewN | apply Kept.drew | refine Kept.setCell ?_ (.inr GW336.out) _ | refine Kept.setCell ?_ (.inr GW337.out) _) | exact HK.out)) hb); have GE338 := am ((by rw [hg]; exact (below_size (bg2 HB.out GE336.out GE337.out)) : w0.heap.size ≤ gb338)); replace HB := am (below_step (bg2 HB.out GE336.out GE337.out) hb); have NB336_338 := am ((by rw [hg]; exact Nat.ne_of_lt (blk_lt (pb BK336.out)) : gb336 ≠ gb338)); have NB338_336 := am (Ne.symm NB336_338.out); replace BK336 := am (blk_below (pb BK336.out) hb); have NB337_338 := am ((by rw [hg]; exact Nat.ne_of_lt (blk_lt (pb BK337.out)) : gb337 ≠ gb338)); have NB338_337 := am (Ne.symm NB337_338.out); replace BK337 := am (blk_below (pb BK337.out) hb); clear hb hbox hg; have hnb10 := NB337_336.out; have hnc10 := NB336_337.out; have hnb11 := NB337_338.out; have hnc11 := NB338_337.out; obtain ⟨hcz12_0, hcz12_1, hcz12_2, hcz12_3, hcz12_4⟩ := b5 BK337.out; obtain ⟨hfz12_0, hfz12_1, hfz12_2, hfz12_3, hfz12_4⟩ := f5 BK337.out; have hnb13 := NB336_338.out; have hnc13 := NB338_336.out; obtain ⟨hcz14_0, hcz14_1⟩ := b2 BK336.out; obtain ⟨hfz14_0, hfz14_1⟩ := f2 BK336.out; obtain ⟨PXh15, hxa_, hxb_⟩ := Kd.S_hand HO0_0.out; have HXAh15 := am hxa_; have HXBh15 := am hxb_; clear hxa_ hxb_) | (refine gl 9 Try.func29 #[.agg #[.slice Ao5 l0_0.length co5, .slice Ao6 l0_1.length co6]] rfl ?_; (with_reducible refine (spec_l21All.calls k PXh15 (.slice Ao5 l0_0.length co5) l0_0 (fun k_ => some k_ = (.slice Ao6 l0_1.length co6 : Value).ownBlock) (.slice Ao6 l0_1.length co6) l0_1 t339 t342 w0 _ ?side1 ?side2 ?side3 A4.out).mono ?_); (case side1 => repeat (first | (with_reducible first | exact HB.out | apply below_alloc | apply pw_below_drewN | apply below_drew1 | refine below_set ?_ GE336.out | refine below_set ?_ GE337.out | refine below_set ?_ GE338.out) | exact HB.out)); (case side2 => exact (ps HXAh15.out)); (case side3 => exact Kd.R_tight rfl HO0_1.out); rintro e w16 ⟨v340, v343, rfl, ho0, ho1, hb, hkp⟩; refine ⟨_, rfl, ?_⟩; replace BK336 := am (blk_kept (pb BK336.out) hkp (fun hs_ => Or.elim hs_ (fun e_ => (fun e_ => Kd.blk_awayP (fun k_ h_ => (HXBh15.out k_ h_).2.2.2) BK336.out (by decide) e_) e_) (fun e_ => (fun e_ => (Kd.R_ne HO0_1.out BK336.out (by decide)) e_) e_))); replace BK337 := am (blk_kept (pb BK337.out) hkp (fun hs_ => Or.elim hs_ (fun e_ => (fun e_ => Kd.blk_awayP (fun k_ h_ => (HXBh15.out k_ h_).2.2.2) BK337.out (by decide) e_) e_) (fun e_ => (fun e_ => (Kd.R_ne HO0_1.out BK337.out (by decide)) e_) e_))); replace BK338 := am (blk_kept (pb BK338.out) hkp (fun hs_ => Or.elim hs_ (fun e_ => (fun e_ => Kd.blk_awayP (fun k_ h_ => (HXBh15.out k_ h_).2.2.2) BK338.out (by decide) e_) e_) (fun e_ => (fun e_ => (Kd.R_ne HO0_1.out BK338.out (by decide)) e_) e_))); have HO341 := am (Kd.S_mono (ok' := fun k_ => ((P0_0_ k_ ∨ P0_1_ k_) ∨ w.heap.size ≤ k_)) ho0 (fun k_ hk_ => Or.elim hk_ (fun hs_ => Or.elim hs_ (fun hs_ => (HXBh15.out k_ hs_).1) (fun hs_ => (HO0_1.out.1 k_ (hs_).symm))) (fun hn_ => (.inr (Nat.le_trans (by first | exact HK.out.1 | exact (show Kept w _ (fun k_ => P0_0_ k_ ∨ P0_1_ k_) from by repeat (first | (with_reducible first | exact HK.out | apply Kept.alloc | apply Kept.drewN | apply Kept.drew | refine Kept.setCell ?_ (.inr GW336.out) _ | refine Kept.setCell ?_ (.inr GW337.out) _ | refine Kept.setCell ?_ (.inr GW338.out) _) | exact HK.out)).1) hn_))))); have HO344 := am (Kd.R_mono (ok' := fun k_ => ((P0_0_ k_ ∨ P0_1_ k_) ∨ w.heap.size ≤ k_)) ho1 (fun k_ hk_ => Or.elim hk_ (fun hs_ => Or.elim hs_ (fun hs_ => (HXBh15.out k_ hs_).1) (fun hs_ => (HO0_1.out.1 k_ (hs_).symm))) (fun hn_ => (.inr (Nat.le_trans (by first | exact HK.out.1 | exact (show Kept w _ (fun k_ => P0_0_ k_ ∨ P0_1_ k_) from by repeat (first | (with_reducible first | exact HK.out | apply Kept.alloc | apply Kept.drewN | apply Kept.drew | refine Kept.setCell ?_ (.inr GW336.out) _ | refine Kept.setCell ?_ (.inr GW337.out) _ | refine Kept.setCell ?_ (.inr GW338.out) _) | exact HK.out)).1) hn_))))); replace HK := am (Kept.then_ (S := (fun k_ => P0_0_ k_ ∨ P0_1_ k_)) (by repeat (first | (with_reducible first | exact HK.out | apply Kept.alloc | apply Kept.drewN | apply Kept.drew | refine Kept.setCell ?_ (.inr GW336.out) _ | refine Kept.setCell ?_ (.inr GW337.out) _ | refine Kept.setCell ?_ (.inr GW338.out) _) | exact HK.out)) hkp (fun k_ hs_ => Or.elim hs_ (fun e_ => (fun e_ => (HXBh15.out k_ e_).1) e_) (fun e_ => (fun e_ => (HO0_1.out.1 k_ e_.symm)) e_))); replace HB := am (hb); clear HO0_0; clear HO0_1; (try clear hb); (try clear hkp); (try clear ho0); (try clear ho1); obtain ⟨Ao17, co17, eo17⟩ := Kd.S_slice HO341.out; subst eo17; obtain ⟨hcz18_0, hcz18_1⟩ := b2 BK338.out; obtain ⟨hfz18_0, hfz18_1⟩ := f2 BK338.out; obtain ⟨Ao19, co19, eo19⟩ := Kd.R_slice HO344.out; subst eo19))
   refine bodyPost_ret (results_cell_row rfl _ _ gb338 56 #[.slice Ao17 t339.length co17, .slice Ao19 t342.length co19] (0, 0) _ rfl (by (with_reducible repeat (first | refine blk_drewN ?_ _ | refine blk_drew ?_ | refine blk_alloc ?_ _)); refine blk_put (cs := #[.slice Ao17 t339.length co17, .slice none 0 0]) ?_ 1 _ rfl; (with_reducible repeat (first | refine blk_drewN ?_ _ | refine blk_drew ?_ | refine blk_alloc ?_ _)); refine blk_put (cs := #[.slice none 0 0, .slice none 0 0]) ?_ 0 _ rfl; (with_reducible repeat (first | refine blk_drewN ?_ _ | refine blk_drew ?_ | refine blk_alloc ?_ _)); exact BK338.out) Try.underlying56 rfl (by kernel_rfl)) rfl ?_
   exact ⟨_, _, rq ⟨by (with_reducible repeat (first | apply Kd.S_alloc | apply Kd.S_drewN | apply Kd.S_drew)); exact Kd.S_mono (Kd.S_far (p := ⟨gb338, 1, none⟩) (Kd.S_far (p := ⟨gb338, 0, none⟩) (Kd.S_types HO341.out BK338.out (by decide)) (fun _ hk => hk.2) (.slice Ao17 t339.length co17)) (fun _ hk => hk.2) (.slice Ao19 t342.length co19)) (fun _ hk => hk.1), by (with_reducible repeat (first | apply Kd.R_alloc | apply Kd.R_drewN | apply Kd.R_drew)); exact Kd.R_mono (Kd.R_far (p := ⟨gb338, 1, none⟩) (Kd.R_far (p := ⟨gb338, 0, none⟩) (Kd.R_types HO344.out BK338.out (by decide)) (fun _ hk => hk.2) (.slice Ao17 t339.length co17)) (fun _ hk => hk.2) (.slice Ao19 t342.length co19)) (fun _ hk => hk.1), bg3 HB.out GE336.out GE337.out GE338.out, by repeat (first | (with_reducible first | exact HK.out | apply Kept.alloc | apply Kept.drewN | apply Kept.drew | refine Kept.setCell ?_ (.inr GW336.out) _ | refine Kept.setCell ?_ (.inr GW337.out) _ | refine Kept.setCell ?_ (.inr GW338.out) _) | exact HK.out)⟩⟩
 rw [if_neg c3] at H
 have c3b0 : (a1_0 == 4) = false := beq_eq_false_iff_ne.mpr c3
 have c3b1 : (a1_0 != 4) = true := bne_iff_ne.mpr c3
 by_cases c20 : a1_3 < 0
 · rw [if_pos c20] at H
   have c20b0 := decide_eq_true c20
   clear c20
   simp only [Option.some.injEq, Prod.mk.injEq] at H
   obtain ⟨rfl, rfl⟩ := H
   obtain ⟨Ao21, co21, eo21⟩ := Kd.S_slice HO0_0.out
   subst eo21
   obtain ⟨Ao22, co22, eo22⟩ := Kd.R_slice HO0_1.out
   subst eo22
   go_enter Try.func26, Try.ntmps26
   go_wp2_with (first | (refine bx 2 #[.slice Ao21 l0_0.length co21, .slice Ao22 l0_1.length co22] 56 rfl ?_; intro gb336 hg w23 hbox hb; replace HO0_0 := am (Kd.S_below (ps HO0_0.out) hb); replace HO0_1 := am (Kd.R_below (pr HO0_1.out) hb); have BK336 := am (hbox); have GW336 := am ((by rw [hg]; exact (by first | exact HK.out.1 | exact (show Kept w _ (fun k_ => P0_0_ k_ ∨ P0_1_ k_) from pk HK.out).1) : w.heap.size ≤ gb336)); replace HK := am (Kept.below (S := (fun k_ => P0_0_ k_ ∨ P0_1_ k_)) (pk HK.out) hb); have GE336 := am ((by rw [hg]; exact (below_size (ph HB.out)) : w0.heap.size ≤ gb336)); replace HB := am (below_step (ph HB.out) hb); clear hb hbox hg) | (refine bx 3 #[.int .i64 a1_0, .int .i64 a1_1, .int .i64 a1_2, .int .i64 a1_3, .bool a1_4] 66 rfl ?_; intro gb337 hg w24 hbox hb; replace HO0_0 := am (Kd.S_below (ps HO0_0.out) hb); replace HO0_1 := am (Kd.R_below (pr HO0_1.out) hb); have BK337 := am (hbox); have GW337 := am ((by rw [hg]; exact (by first | exact HK.out.1 | exact (show Kept w _ (fun k_ => P0_0_ k_ ∨ P0_1_ k_) from by repeat (first | (with_reducible first | exact HK.out | apply Kept.alloc | apply Kept.drewN | apply Kept.drew | refine Kept.setCell ?_ (.inr GW336.out) _) | exact HK.out)).1) : w.heap.size ≤ gb337)); replace HK := am (Kept.below (S := (fun k_ => P0_0_ k_ ∨ P0_1_ k_)) (by repeat (first | (with_reducible first | exact HK.out | apply Kept.alloc | apply Kept.drewN | apply Kept.drew | refine Kept.setCell ?_ (.inr GW336.out) _) | exact HK.out)) hb); have GE337 := am ((by rw [hg]; exact (below_size (bg1 HB.out GE336.out)) : w0.heap.size ≤ gb337)); replace HB := am (below_step (bg1 HB.out GE336.out) hb); have NB336_337 := am ((by rw [hg]; exact Nat.ne_of_lt (blk_lt (pb BK336.out)) : gb336 ≠ gb337)); have NB337_336 := am (Ne.symm NB336_337.out); replace BK336 := am (blk_below (pb BK336.out) hb); clear hb hbox hg) | (refine bx 4 #[.slice none 0 0, .slice none 0 0] 56 rfl ?_; intro gb338 hg w25 hbox hb; replace HO0_0 := am (Kd.S_below (ps HO0_0.out) hb); replace HO0_1 := am (Kd.R_below (pr HO0_1.out) hb); have BK338 := am (hbox); have GW338 := am ((by rw [hg]; exact (by first | exact HK.out.1 | exact (show Kept w _ (fun k_ => P0_0_ k_ ∨ P0_1_ k_) from by repeat (first | (with_reducible first | exact HK.out | apply Kept.alloc | apply Kept.drewN | apply Kept.drew | refine Kept.setCell ?_ (.inr GW336.out) _ | refine Kept.setCell ?_ (.inr GW337.out) _) | exact HK.out)).1) : w.heap.size ≤ gb338)); replace HK := am (Kept.below (S := (fun k_ => P0_0_ k_ ∨ P0_1_ k_)) (by repeat (first | (with_reducible first | exact HK.out | apply Kept.alloc | apply Kept.drewN | apply Kept.drew | refine Kept.setCell ?_ (.inr GW336.out) _ | refine Kept.setCell ?_ (.inr GW337.out) _) | exact HK.out)) hb); have GE338 := am ((by rw [hg]; exact (below_size (bg2 HB.out GE336.out GE337.out)) : w0.heap.size ≤ gb338)); replace HB := am (below_step (bg2 HB.out GE336.out GE337.out) hb); have NB336_338 := am ((by rw [hg]; exact Nat.ne_of_lt (blk_lt (pb BK336.out)) : gb336 ≠ gb338)); have NB338_336 := am (Ne.symm NB336_338.out); replace BK336 := am (blk_below (pb BK336.out) hb); have NB337_338 := am ((by rw [hg]; exact Nat.ne_of_lt (blk_lt (pb BK337.out)) : gb337 ≠ gb338)); have NB338_337 := am (Ne.symm NB337_338.out); replace BK337 := am (blk_below (pb BK337.out) hb); clear hb hbox hg; have hnb26 := NB337_336.out; have hnc26 := NB336_337.out; have hnb27 := NB337_338.out; have hnc27 := NB338_337.out; obtain ⟨hcz28_0, hcz28_1, hcz28_2, hcz28_3, hcz28_4⟩ := b5 BK337.out; obtain ⟨hfz28_0, hfz28_1, hfz28_2, hfz28_3, hfz28_4⟩ := f5 BK337.out; have hnb29 := NB336_338.out; have hnc29 := NB338_336.out; obtain ⟨hcz30_0, hcz30_1⟩ := b2 BK336.out; obtain ⟨hfz30_0, hfz30_1⟩ := f2 BK336.out; obtain ⟨hcz31_0, hcz31_1⟩ := b2 BK338.out; obtain ⟨hfz31_0, hfz31_1⟩ := f2 BK338.out))
   refine bodyPost_ret (results_cell_row rfl _ _ gb338 56 #[.slice Ao21 l0_0.length co21, .slice Ao22 l0_1.length co22] (0, 0) _ rfl (by (with_reducible repeat (first | refine blk_drewN ?_ _ | refine blk_drew ?_ | refine blk_alloc ?_ _)); refine blk_put (cs := #[.slice Ao21 l0_0.length co21, .slice none 0 0]) ?_ 1 _ rfl; (with_reducible repeat (first | refine blk_drewN ?_ _ | refine blk_drew ?_ | refine blk_alloc ?_ _)); refine blk_put (cs := #[.slice none 0 0, .slice none 0 0]) ?_ 0 _ rfl; (with_reducible repeat (first | refine blk_drewN ?_ _ | refine blk_drew ?_ | refine blk_alloc ?_ _)); exact BK338.out) Try.underlying56 rfl (by kernel_rfl)) rfl ?_
   exact ⟨_, _, rq ⟨by (with_reducible repeat (first | apply Kd.S_alloc | apply Kd.S_drewN | apply Kd.S_drew)); exact Kd.S_mono (Kd.S_far (p := ⟨gb338, 1, none⟩) (Kd.S_far (p := ⟨gb338, 0, none⟩) (Kd.S_types HO0_0.out BK338.out (by decide)) (fun _ hk => hk.2) (.slice Ao21 l0_0.length co21)) (fun _ hk => hk.2) (.slice Ao22 l0_1.length co22)) (fun _ hk => hk.1), by (with_reducible repeat (first | apply Kd.R_alloc | apply Kd.R_drewN | apply Kd.R_drew)); exact Kd.R_mono (Kd.R_far (p := ⟨gb338, 1, none⟩) (Kd.R_far (p := ⟨gb338, 0, none⟩) (Kd.R_types HO0_1.out BK338.out (by decide)) (fun _ hk => hk.2) (.slice Ao21 l0_0.length co21)) (fun _ hk => hk.2) (.slice Ao22 l0_1.length co22)) (fun _ hk => hk.1), bg3 HB.out GE336.out GE337.out GE338.out, by repeat (first | (with_reducible first | exact HK.out | apply Kept.alloc | apply Kept.drewN | apply Kept.drew | refine Kept.setCell ?_ (.inr GW336.out) _ | refine Kept.setCell ?_ (.inr GW337.out) _ | refine Kept.setCell ?_ (.inr GW338.out) _) | exact HK.out)⟩⟩
 rw [if_neg c20] at H
 have c20b0 := decide_eq_false c20
 clear c20
 replace H := Option.bind_eq_some_iff.mp H
 obtain ⟨t345, A320, H⟩ := H
 replace H : ((spec_l12To.f k l0_0 l0_1 t345 a1_3 a1_4).bind fun bt348 => (some (bt348.1, bt348.2))) = some (r1, r2) := H
 have A32 := am A320
 clear A320
 replace H := Option.bind_eq_some_iff.mp H
 obtain ⟨⟨t348, t351⟩, A330, H⟩ := H
 replace H : (some (t348, t351)) = some (r1, r2) := H
 have A33 := am A330
 clear A330
 simp only [Option.some.injEq, Prod.mk.injEq] at H
 obtain ⟨rfl, rfl⟩ := H
 obtain ⟨Ao34, co34, eo34⟩ := Kd.S_slice HO0_0.out
 subst eo34
 obtain ⟨Ao35, co35, eo35⟩ := Kd.R_slice HO0_1.out
 subst eo35
 go_enter Try.func26, Try.ntmps26
 try go_wp2_with (first | (refine bx 2 #[.slice Ao34 l0_0.length co34, .slice Ao35 l0_1.length co35] 56 rfl ?_; intro gb336 hg w36 hbox hb; replace HO0_0 := am (Kd.S_below (ps HO0_0.out) hb); replace HO0_1 := am (Kd.R_below (pr HO0_1.out) hb); have BK336 := am (hbox); have GW336 := am ((by rw [hg]; exact (by first | exact HK.out.1 | exact (show Kept w _ (fun k_ => P0_0_ k_ ∨ P0_1_ k_) from pk HK.out).1) : w.heap.size ≤ gb336)); replace HK := am (Kept.below (S := (fun k_ => P0_0_ k_ ∨ P0_1_ k_)) (pk HK.out) hb); have GE336 := am ((by rw [hg]; exact (below_size (ph HB.out)) : w0.heap.size ≤ gb336)); replace HB := am (below_step (ph HB.out) hb); clear hb hbox hg) | (refine bx 3 #[.int .i64 a1_0, .int .i64 a1_1, .int .i64 a1_2, .int .i64 a1_3, .bool a1_4] 66 rfl ?_; intro gb337 hg w37 hbox hb; replace HO0_0 := am (Kd.S_below (ps HO0_0.out) hb); replace HO0_1 := am (Kd.R_below (pr HO0_1.out) hb); have BK337 := am (hbox); have GW337 := am ((by rw [hg]; exact (by first | exact HK.out.1 | exact (show Kept w _ (fun k_ => P0_0_ k_ ∨ P0_1_ k_) from by repeat (first | (with_reducible first | exact HK.out | apply Kept.alloc | apply Kept.drewN | apply Kept.drew | refine Kept.setCell ?_ (.inr GW336.out) _) | exact HK.out)).1) : w.heap.size ≤ gb337)); replace HK := am (Kept.below (S := (fun k_ => P0_0_ k_ ∨ P0_1_ k_)) (by repeat (first | (with_reducible first | exact HK.out | apply Kept.alloc | apply Kept.drewN | apply Kept.drew | refine Kept.setCell ?_ (.inr GW336.out) _) | exact HK.out)) hb); have GE337 := am ((by rw [hg]; exact (below_size (bg1 HB.out GE336.out)) : w0.heap.size ≤ gb337)); replace HB := am (below_step (bg1 HB.out GE336.out) hb); have NB336_337 := am ((by rw [hg]; exact Nat.ne_of_lt (blk_lt (pb BK336.out)) : gb336 ≠ gb337)); have NB337_336 := am (Ne.symm NB336_337.out); replace BK336 := am (blk_below (pb BK336.out) hb); clear hb hbox hg) | (refine bx 4 #[.slice none 0 0, .slice none 0 0] 56 rfl ?_; intro gb338 hg w38 hbox hb; replace HO0_0 := am (Kd.S_below (ps HO0_0.out) hb); replace HO0_1 := am (Kd.R_below (pr HO0_1.out) hb); have BK338 := am (hbox); have GW338 := am ((by rw [hg]; exact (by first | exact HK.out.1 | exact (show Kept w _ (fun k_ => P0_0_ k_ ∨ P0_1_ k_) from by repeat (first | (with_reducible first | exact HK.out | apply Kept.alloc | apply Kept.drewN | apply Kept.drew | refine Kept.setCell ?_ (.inr GW336.out) _ | refine Kept.setCell ?_ (.inr GW337.out) _) | exact HK.out)).1) : w.heap.size ≤ gb338)); replace HK := am (Kept.below (S := (fun k_ => P0_0_ k_ ∨ P0_1_ k_)) (by repeat (first | (with_reducible first | exact HK.out | apply Kept.alloc | apply Kept.drewN | apply Kept.drew | refine Kept.setCell ?_ (.inr GW336.out) _ | refine Kept.setCell ?_ (.inr GW337.out) _) | exact HK.out)) hb); have GE338 := am ((by rw [hg]; exact (below_size (bg2 HB.out GE336.out GE337.out)) : w0.heap.size ≤ gb338)); replace HB := am (below_step (bg2 HB.out GE336.out GE337.out) hb); have NB336_338 := am ((by rw [hg]; exact Nat.ne_of_lt (blk_lt (pb BK336.out)) : gb336 ≠ gb338)); have NB338_336 := am (Ne.symm NB336_338.out); replace BK336 := am (blk_below (pb BK336.out) hb); have NB337_338 := am ((by rw [hg]; exact Nat.ne_of_lt (blk_lt (pb BK337.out)) : gb337 ≠ gb338)); have NB338_337 := am (Ne.symm NB337_338.out); replace BK337 := am (blk_below (pb BK337.out) hb); clear hb hbox hg; have hnb39 := NB337_336.out; have hnc39 := NB336_337.out; have hnb40 := NB337_338.out; have hnc40 := NB338_337.out; obtain ⟨hcz41_0, hcz41_1, hcz41_2, hcz41_3, hcz41_4⟩ := b5 BK337.out; obtain ⟨hfz41_0, hfz41_1, hfz41_2, hfz41_3, hfz41_4⟩ := f5 BK337.out))
 replace HO0_0 := am (Kd.S_drew HO0_0.out)
 replace HO0_1 := am (Kd.R_drew HO0_1.out)
 replace BK336 := am (blk_drew BK336.out)
 replace BK337 := am (blk_drew BK337.out)
 replace BK338 := am (blk_drew BK338.out)
 replace HK := am (Kept.drew HK.out)
 replace HB := am (below_drew1 HB.out)
 refine start_ (n := 10) (S := fun w' => w'.cell? ⟨gb336, 0, none⟩ = some (.slice Ao34 l0_0.length co34) ∧ w'.cell? ⟨gb336, 1, none⟩ = some (.slice Ao35 l0_1.length co35) ∧ w'.cell? ⟨gb337, 0, none⟩ = some (.int .i64 a1_0) ∧ w'.cell? ⟨gb337, 1, none⟩ = some (.int .i64 a1_1) ∧ w'.cell? ⟨gb337, 2, none⟩ = some (.int .i64 a1_2) ∧ w'.cell? ⟨gb337, 3, none⟩ = some (.int .i64 a1_3) ∧ w'.cell? ⟨gb337, 4, none⟩ = some (.bool a1_4)) (ds := []) #[false, false, false, false, false, false, false, false, false, false] (by kernel_rfl) rfl rfl ⟨(blk_cell BK336.out 0).trans rfl, (blk_cell BK336.out 1).trans rfl, (blk_cell BK337.out 0).trans rfl, (blk_cell BK337.out 1).trans rfl, (blk_cell BK337.out 2).trans rfl, (blk_cell BK337.out 3).trans rfl, (blk_cell BK337.out 4).trans rfl⟩ (fun hHeld => ?_); refine with_tabW spec_l21Do.tab5 spec_l21Do.bits5 (fun HT_ HW_ => ?_)
 generalize w38.drew = w42 at HO0_0 HO0_1 BK336 BK337 BK338 HK HB hHeld ⊢
 refine pj_ 4 18 #[false, false, false, false, true, false, false, false, false, false] rfl rfl (any_of HT_.out (by kernel_rfl)) (fun _ _ _ h => h) ?_
 refine pj_ 6 20 #[false, false, false, false, true, false, true, false, false, false] rfl rfl (any_of HT_.out (by kernel_rfl)) (fun _ _ _ h => h) ?_
 refine pm_ 0 14 #[true, false, false, false, true, false, true, false, false, false] rfl rfl (take_ofW HT_.out HW_.out (by kernel_rfl)) (fun _ _ _ h => h) hHeld ?_
 refine pm_ 1 15 #[true, true, false, false, true, false, true, false, false, false] rfl rfl (take_ofW HT_.out HW_.out (by kernel_rfl)) (fun _ _ _ h => h) hHeld ?_
 refine pm_ 2 16 #[true, true, true, false, true, false, true, false, false, false] rfl rfl (take_ofW HT_.out HW_.out (by kernel_rfl)) (fun _ _ _ h => h) hHeld ?_
 refine pm_ 5 19 #[true, true, true, false, true, true, true, false, false, false] rfl rfl (take_ofW HT_.out HW_.out (by kernel_rfl)) (fun _ _ _ h => h) hHeld ?_
 refine pm_ 7 21 #[true, true, true, false, true, true, true, true, false, false] rfl rfl (take_ofW HT_.out HW_.out (by kernel_rfl)) (fun _ _ _ h => h) hHeld ?_
 refine one_ (i := 3) (N := some 17) #[true, true, true, true, true, true, true, true, false, false] rfl rfl (one_of HT_.out (by kernel_rfl)) (by decide) (fun K hK => ?_)
 refine goes_ Try.func31 (by kernel_rfl) rfl #[.agg #[.slice Ao34 l0_0.length co34, .slice Ao35 l0_1.length co35], .agg #[.int .i64 a1_0, .int .i64 a1_1, .int .i64 a1_2, .int .i64 a1_3, .bool a1_4]] (by rfl) rfl rfl (by (try simp only [List.map_toArray, List.map_cons, List.map_nil]); first | done | rfl | (simp only [List.length_drop, List.length_take]; rfl)) ?_
 with_reducible refine (spec_l21Steps.calls k _ _ l0_0 _ _ l0_1 a1_0 a1_1 a1_2 a1_3 a1_4 t345 _ ?side1 ?side2 ?side3 ?side4 A32.out).mono ?_
 (case side1 => repeat (first | exact (Kd.S_reads' HO0_0.out).2.2 | (with_reducible refine Kd.C_alloc ?_ _) | (with_reducible refine Kd.C_drewN ?_ _) | (with_reducible refine Kd.C_drew ?_)))
 (case side2 => exact (Kd.S_reads' HO0_0.out).2.1)
 (case side3 => repeat (first | exact (Kd.R_reads' HO0_1.out).2.2 | (with_reducible refine Kd.C_alloc ?_ _) | (with_reducible refine Kd.C_drewN ?_ _) | (with_reducible refine Kd.C_drew ?_)))
 (case side4 => exact (Kd.R_reads' HO0_1.out).2.1)
 rintro e w43 ⟨v346, rfl, ho0, hb⟩
 refine ⟨_, rfl, ?_⟩
 replace HO0_0 := am (Kd.S_below (ps HO0_0.out) hb)
 replace HO0_1 := am (Kd.R_below (pr HO0_1.out) hb)
 have HO347 := am (Kd.R_lower (Kd.R_newM (M := fun k_ => ((P0_0_ k_ ∨ P0_1_ k_) ∨ w.heap.size ≤ k_)) ho0 (by first | exact HK.out.1 | exact (show Kept w _ (fun k_ => P0_0_ k_ ∨ P0_1_ k_) from by repeat (first | (with_reducible first | exact HK.out | apply Kept.alloc | apply Kept.drewN | apply Kept.drew | refine Kept.setCell ?_ (.inr GW336.out) _ | refine Kept.setCell ?_ (.inr GW337.out) _ | refine Kept.setCell ?_ (.inr GW338.out) _) | exact HK.out)).1) (fun k_ h_ => .inr h_)) (below_size (bg3 HB.out GE336.out GE337.out GE338.out)))
 replace BK336 := am (blk_below (pb BK336.out) hb)
 replace BK337 := am (blk_below (pb BK337.out) hb)
 replace BK338 := am (blk_below (pb BK338.out) hb)
 replace HK := am (Kept.below (S := (fun k_ => P0_0_ k_ ∨ P0_1_ k_)) (by repeat (first | (with_reducible first | exact HK.out | apply Kept.alloc | apply Kept.drewN | apply Kept.drew | refine Kept.setCell ?_ (.inr GW336.out) _ | refine Kept.setCell ?_ (.inr GW337.out) _ | refine Kept.setCell ?_ (.inr GW338.out) _) | exact HK.out)) hb)
 replace HB := am (below_step (bg3 HB.out GE336.out GE337.out GE338.out) hb)
 (try clear hb)
 (try clear hb2)
 (try clear hk)
 (try clear hi)
 (try clear ho0)
 obtain ⟨Ao44, co44, eo44⟩ := Kd.R_slice HO347.out
 (first | subst eo44 | (injection eo44 with f1_ f2_ f3_; have f4_ := f1_.symm; have f5_ := f3_.symm; clear f1_ f2_ f3_; subst f4_; subst f5_))
 obtain ⟨PXh45, hxa_, hxb_⟩ := Kd.S_hand HO0_0.out
 have HXAh45 := am hxa_
 have HXBh45 := am hxb_
 clear hxa_ hxb_
 refine hK.out _ _ ⟨(blk_cell BK336.out 0).trans rfl, (blk_cell BK336.out 1).trans rfl, (blk_cell BK337.out 0).trans rfl, (blk_cell BK337.out 1).trans rfl, (blk_cell BK337.out 2).trans rfl, (blk_cell BK337.out 3).trans rfl, (blk_cell BK337.out 4).trans rfl⟩ (fun hHeld => ?_)
 clear hK K
 refine norm_ (a' := ?_) ?_ ?_
 rotate_left
 · show Act.put _ (some 17) _ = _
   simp only [Act.put, List.setIfInBounds_toArray, List.set_cons_zero, List.set_cons_succ, i64_w, i32_w]
   rfl
 refine one_ (i := 8) (N := some 22) #[true, true, true, true, true, true, true, true, true, false] rfl rfl (one_of HT_.out (by kernel_rfl)) (by decide) (fun K hK => ?_)
 refine goes_ Try.func30 (by kernel_rfl) rfl #[.agg #[.slice Ao34 l0_0.length co34, .slice Ao35 l0_1.length co35], .slice Ao44 t345.length co44, .int .i64 a1_3, .bool a1_4] (by rfl) rfl rfl (by (try simp only [List.map_toArray, List.map_cons, List.map_nil]); first | done | rfl | (simp only [List.length_drop, List.length_take]; rfl)) ?_
 with_reducible refine (spec_l12To.calls k PXh45 (.slice Ao34 l0_0.length co34) l0_0 (fun k_ => some k_ = (.slice Ao35 l0_1.length co35 : Value).ownBlock) (.slice Ao35 l0_1.length co35) l0_1 _ _ t345 a1_3 a1_4 t348 t351 w0 _ ?side1 ?side2 ?side3 ?side4 ?side5 A33.out).mono ?_
 (case side1 => repeat (first | (with_reducible first | exact HB.out | apply below_alloc | apply pw_below_drewN | apply below_drew1 | refine below_set ?_ GE336.out | refine below_set ?_ GE337.out | refine below_set ?_ GE338.out) | exact HB.out))
 (case side2 => exact (ps HXAh45.out))
 (case side3 => exact Kd.R_tight rfl HO0_1.out)
 (case side4 => exact Kd.C_kept_own ((Kd.R_apart' (Kd.R_awayP HO347.out (fun k_ h_ => (HXBh45.out k_ h_).2.2.2) (by decide)) (Kd.R_typed HO0_1.out) (by decide))) (fun k_ hk_ hs_ => Or.elim hs_ (fun e_ => (hk_.1.2) e_) (fun e_ => (hk_.2) e_)))
 (case side5 => exact (Kd.R_reads' HO347.out).2.1)
 rintro e w46 ⟨v349, v352, rfl, ho0, ho1, hb, hkp⟩
 refine ⟨_, rfl, ?_⟩
 replace BK336 := am (blk_kept (pb BK336.out) hkp (fun hs_ => Or.elim hs_ (fun e_ => (fun e_ => Kd.blk_awayP (fun k_ h_ => (HXBh45.out k_ h_).2.2.2) BK336.out (by decide) e_) e_) (fun e_ => (fun e_ => (Kd.R_ne HO0_1.out BK336.out (by decide)) e_) e_)))
 replace BK337 := am (blk_kept (pb BK337.out) hkp (fun hs_ => Or.elim hs_ (fun e_ => (fun e_ => Kd.blk_awayP (fun k_ h_ => (HXBh45.out k_ h_).2.2.2) BK337.out (by decide) e_) e_) (fun e_ => (fun e_ => (Kd.R_ne HO0_1.out BK337.out (by decide)) e_) e_)))
 replace BK338 := am (blk_kept (pb BK338.out) hkp (fun hs_ => Or.elim hs_ (fun e_ => (fun e_ => Kd.blk_awayP (fun k_ h_ => (HXBh45.out k_ h_).2.2.2) BK338.out (by decide) e_) e_) (fun e_ => (fun e_ => (Kd.R_ne HO0_1.out BK338.out (by decide)) e_) e_)))
 replace HO347 := am (Kd.R_mono (ok' := fun k_ => ((P0_0_ k_ ∨ P0_1_ k_) ∨ w.heap.size ≤ k_)) (Kd.R_keptB ((Kd.R_apart' (Kd.R_awayP HO347.out (fun k_ h_ => (HXBh45.out k_ h_).2.2.2) (by decide)) (Kd.R_typed HO0_1.out) (by decide))) hkp (fun k_ hk_ hs_ => Or.elim hs_ (fun e_ => (hk_.1.2) e_) (fun e_ => (hk_.2) e_))) (fun k_ hk_ => hk_.1.1.1.1))
 have HO350 := am (Kd.S_mono (ok' := fun k_ => ((P0_0_ k_ ∨ P0_1_ k_) ∨ w.heap.size ≤ k_)) ho0 (fun k_ hk_ => Or.elim hk_ (fun hs_ => Or.elim hs_ (fun hs_ => (HXBh45.out k_ hs_).1) (fun hs_ => (HO0_1.out.1 k_ (hs_).symm))) (fun hn_ => (.inr (Nat.le_trans (by first | exact HK.out.1 | exact (show Kept w _ (fun k_ => P0_0_ k_ ∨ P0_1_ k_) from by repeat (first | (with_reducible first | exact HK.out | apply Kept.alloc | apply Kept.drewN | apply Kept.drew | refine Kept.setCell ?_ (.inr GW336.out) _ | refine Kept.setCell ?_ (.inr GW337.out) _ | refine Kept.setCell ?_ (.inr GW338.out) _) | exact HK.out)).1) hn_)))))
 have HO353 := am (Kd.R_mono (ok' := fun k_ => ((P0_0_ k_ ∨ P0_1_ k_) ∨ w.heap.size ≤ k_)) ho1 (fun k_ hk_ => Or.elim hk_ (fun hs_ => Or.elim hs_ (fun hs_ => (HXBh45.out k_ hs_).1) (fun hs_ => (HO0_1.out.1 k_ (hs_).symm))) (fun hn_ => (.inr (Nat.le_trans (by first | exact HK.out.1 | exact (show Kept w _ (fun k_ => P0_0_ k_ ∨ P0_1_ k_) from by repeat (first | (with_reducible first | exact HK.out | apply Kept.alloc | apply Kept.drewN | apply Kept.drew | refine Kept.setCell ?_ (.inr GW336.out) _ | refine Kept.setCell ?_ (.inr GW337.out) _ | refine Kept.setCell ?_ (.inr GW338.out) _) | exact HK.out)).1) hn_)))))
 replace HK := am (Kept.then_ (S := (fun k_ => P0_0_ k_ ∨ P0_1_ k_)) (by repeat (first | (with_reducible first | exact HK.out | apply Kept.alloc | apply Kept.drewN | apply Kept.drew | refine Kept.setCell ?_ (.inr GW336.out) _ | refine Kept.setCell ?_ (.inr GW337.out) _ | refine Kept.setCell ?_ (.inr GW338.out) _) | exact HK.out)) hkp (fun k_ hs_ => Or.elim hs_ (fun e_ => (fun e_ => (HXBh45.out k_ e_).1) e_) (fun e_ => (fun e_ => (HO0_1.out.1 k_ e_.symm)) e_)))
 replace HB := am (hb)
 clear HO0_0
 clear HO0_1
 (try clear hb)
 (try clear hkp)
 (try clear ho0)
 (try clear ho1)
 obtain ⟨Ao47, co47, eo47⟩ := Kd.S_slice HO350.out
 (first | subst eo47 | (injection eo47 with f1_ f2_ f3_; have f4_ := f1_.symm; have f5_ := f3_.symm; clear f1_ f2_ f3_; subst f4_; subst f5_))
 obtain ⟨Ao49, co49, eo49⟩ := Kd.R_slice HO353.out
 (first | subst eo49 | (injection eo49 with f1_ f2_ f3_; have f4_ := f1_.symm; have f5_ := f3_.symm; clear f1_ f2_ f3_; subst f4_; subst f5_))
 refine hK.out _ _ ⟨(blk_cell BK336.out 0).trans rfl, (blk_cell BK336.out 1).trans rfl, (blk_cell BK337.out 0).trans rfl, (blk_cell BK337.out 1).trans rfl, (blk_cell BK337.out 2).trans rfl, (blk_cell BK337.out 3).trans rfl, (blk_cell BK337.out 4).trans rfl⟩ (fun hHeld => ?_)
 clear hK K
 refine norm_ (a' := ?_) ?_ ?_
 rotate_left
 · show Act.put _ (some 22) _ = _
   simp only [Act.put, List.setIfInBounds_toArray, List.set_cons_zero, List.set_cons_succ, i64_w, i32_w]
   rfl
 refine one_ (i := 9) (N := none) #[true, true, true, true, true, true, true, true, true, true] rfl rfl (one_of HT_.out (by kernel_rfl)) (by decide) (fun K hK => ?_)
 have hs48 : w46.cell? ⟨gb338, 0, none⟩ = some (.slice none 0 0) := (blk_cell BK338.out 0).trans rfl
 have hfs48 := blk_frozen BK338.out 0
 have hns48_0 := NB336_338.out
 have hns48_1 := NB337_338.out
 have hms48_0 := NB338_336.out
 have hms48_1 := NB338_337.out
 have hs50 : w46.cell? ⟨gb338, 1, none⟩ = some (.slice none 0 0) := (blk_cell BK338.out 1).trans rfl
 have hfs50 := blk_frozen BK338.out 1
 have hns50_0 := NB336_338.out
 have hns50_1 := NB337_338.out
 have hms50_0 := NB338_336.out
 have hms50_1 := NB338_337.out
 refine skip_ (w1 := ?_) (by rfl) rfl ?_ ?_
 rotate_left
 · go_simp
   rfl
 refine hK.out _ _ ⟨((cell_far (p := ⟨gb338, _, none⟩) NB336_338.out _).trans (((cell_far (p := ⟨gb338, _, none⟩) NB336_338.out _).trans (hHeld.1)))), ((cell_far (p := ⟨gb338, _, none⟩) NB336_338.out _).trans (((cell_far (p := ⟨gb338, _, none⟩) NB336_338.out _).trans (hHeld.2.1)))), ((cell_far (p := ⟨gb338, _, none⟩) NB337_338.out _).trans (((cell_far (p := ⟨gb338, _, none⟩) NB337_338.out _).trans (hHeld.2.2.1)))), ((cell_far (p := ⟨gb338, _, none⟩) NB337_338.out _).trans (((cell_far (p := ⟨gb338, _, none⟩) NB337_338.out _).trans (hHeld.2.2.2.1)))), ((cell_far (p := ⟨gb338, _, none⟩) NB337_338.out _).trans (((cell_far (p := ⟨gb338, _, none⟩) NB337_338.out _).trans (hHeld.2.2.2.2.1)))), ((cell_far (p := ⟨gb338, _, none⟩) NB337_338.out _).trans (((cell_far (p := ⟨gb338, _, none⟩) NB337_338.out _).trans (hHeld.2.2.2.2.2.1)))), ((cell_far (p := ⟨gb338, _, none⟩) NB337_338.out _).trans (((cell_far (p := ⟨gb338, _, none⟩) NB337_338.out _).trans (hHeld.2.2.2.2.2.2))))⟩ (fun hHeld => ?_)
 clear hK K
 refine done_ (done_of HT_.out (by kernel_rfl)) ?_
 try go_wp2
 refine bodyPost_ret (results_cell_row rfl _ _ gb338 56 #[.slice Ao47 t348.length co47, .slice Ao49 t351.length co49] (0, 0) _ rfl (by (with_reducible repeat (first | refine blk_drewN ?_ _ | refine blk_drew ?_ | refine blk_alloc ?_ _)); refine blk_put (cs := #[.slice Ao47 t348.length co47, .slice none 0 0]) ?_ 1 _ rfl; (with_reducible repeat (first | refine blk_drewN ?_ _ | refine blk_drew ?_ | refine blk_alloc ?_ _)); refine blk_put (cs := #[.slice none 0 0, .slice none 0 0]) ?_ 0 _ rfl; (with_reducible repeat (first | refine blk_drewN ?_ _ | refine blk_drew ?_ | refine blk_alloc ?_ _)); exact BK338.out) Try.underlying56 rfl (by kernel_rfl)) rfl ?_
 exact ⟨_, _, rq ⟨by (with_reducible repeat (first | apply Kd.S_alloc | apply Kd.S_drewN | apply Kd.S_drew)); exact Kd.S_mono (Kd.S_far (p := ⟨gb338, 1, none⟩) (Kd.S_far (p := ⟨gb338, 0, none⟩) (Kd.S_types HO350.out BK338.out (by decide)) (fun _ hk => hk.2) (.slice Ao47 t348.length co47)) (fun _ hk => hk.2) (.slice Ao49 t351.length co49)) (fun _ hk => hk.1), by (with_reducible repeat (first | apply Kd.R_alloc | apply Kd.R_drewN | apply Kd.R_drew)); exact Kd.R_mono (Kd.R_far (p := ⟨gb338, 1, none⟩) (Kd.R_far (p := ⟨gb338, 0, none⟩) (Kd.R_types HO353.out BK338.out (by decide)) (fun _ hk => hk.2) (.slice Ao47 t348.length co47)) (fun _ hk => hk.2) (.slice Ao49 t351.length co49)) (fun _ hk => hk.1), bg3 HB.out GE336.out GE337.out GE338.out, by repeat (first | (with_reducible first | exact HK.out | apply Kept.alloc | apply Kept.drewN | apply Kept.drew | refine Kept.setCell ?_ (.inr GW336.out) _ | refine Kept.setCell ?_ (.inr GW337.out) _ | refine Kept.setCell ?_ (.inr GW338.out) _) | exact HK.out)⟩⟩
end Go.Proofs.Ytepaanhmbfchoaa.Rm
