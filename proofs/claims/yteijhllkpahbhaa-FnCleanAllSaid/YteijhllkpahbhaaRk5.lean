-- printed by wip/pp/pp.py
import Derived.Test.YteijhllkpahbhaaRk0
import Derived.Test.YteijhllkpahbhaaRk3
import Derived.Test.YteijhllkpahbhaaRk4
namespace Go.Proofs.Yteijhllkpahbhaa.Rk
open Go.RowKit Go.Proofs.YteijhllkpahbhaaW.PrintWords Go.Proofs.YteijhllkpahbhaaW.PrintLast Go.Proofs.YteijhllkpahbhaaW.PrintMore
attribute [local go_sem] max2_int min2_int max_two min_two max_three min_three max_four min_four
set_option linter.unusedVariables false
set_option linter.unusedSimpArgs false
def spec_l12Do.f (k : Nat) (l0_0 : List (S28)) (l0_1 : List Int) (a1_0 : Int) (a1_1 : Int) (a1_2 : Int) (a1_3 : Int) (a1_4 : Int) (a1_5 : Int) (a1_6 : Int) (a1_7 : Int) (a2 : Bool) : Option ((List (S28)) × List Int) := if a1_0 = 1 then (if a2 = true then (some (l0_0, l0_1)) else (if 0 ≤ (wrap64 (a1_1 - 1)) then (if (wrap64 (a1_1 - 1)) < (l0_1.length : Int) then (some (l0_0, (l0_1.set ((wrap64 (a1_1 - 1)) : Int).toNat a1_2))) else (none)) else (none))) else (if a1_0 = 2 then ((spec_l2Wipe.f k l0_0 a1_3 a2).bind fun bt190 => (some (bt190.1, l0_1))) else (if a1_0 = 3 then ((spec_l2Write.f k l0_0 a1_3 a1_4 a1_5 a1_6 a1_7 a2).bind fun bt194 => (some (bt194.1, l0_1))) else (some (l0_0, l0_1))))
theorem spec_l12Do.mono : ∀ a0 a1 a2 a3 a4 a5 a6 a7 a8 a9 a10 k, LeO (spec_l12Do.f k a0 a1 a2 a3 a4 a5 a6 a7 a8 a9 a10) (spec_l12Do.f (k + 1) a0 a1 a2 a3 a4 a5 a6 a7 a8 a9 a10) := by
 intro a0 a1 a2 a3 a4 a5 a6 a7 a8 a9 a10 k
 unfold spec_l12Do.f
 repeat' first
  | (with_reducible exact spec_l2Wipe.mono _ _ _ _)
  | (with_reducible exact spec_l2Write.mono _ _ _ _ _ _ _ _)
  | (with_reducible exact LeO.refl _)
  | (with_reducible exact LeO.none _)
  | (with_reducible refine LeO.ite ?_ ?_)
  | (with_reducible refine LeO.bind ?_ (fun _ => ?_))
  | exact spec_l2Wipe.mono _ _ _ _
  | exact spec_l2Write.mono _ _ _ _ _ _ _ _
  | exact LeO.none _
  | refine LeO.ite ?_ ?_
  | refine LeO.bind ?_ (fun _ => ?_)
set_option maxHeartbeats 8000000 in
set_option maxRecDepth 100000 in
theorem spec_l12Do.calls (k : Nat) (P0_0_ : Nat → Prop) (u9000_ : Value) (l0_0 : List (S28)) (P0_1_ : Nat → Prop) (u9001_ : Value) (l0_1 : List Int) (a1_0 : Int) (a1_1 : Int) (a1_2 : Int) (a1_3 : Int) (a1_4 : Int) (a1_5 : Int) (a1_6 : Int) (a1_7 : Int) (a2 : Bool) (r1 : List (S28)) (r2 : List Int) (w0 w : World) (hB : Below w0.heap.size w0 w) (ho0_0 : Kd.S k28 28 w w0.heap.size P0_0_ u9000_ l0_0) (ho0_1 : Kd.R (Kd.int .i64) 3 w w0.heap.size P0_1_ u9001_ l0_1) (h : spec_l12Do.f k l0_0 l0_1 a1_0 a1_1 a1_2 a1_3 a1_4 a1_5 a1_6 a1_7 a2 = some (r1, r2)) :
 Calls Try.prog 57 #[.agg #[u9000_, u9001_], .agg #[.int .i64 a1_0, .int .i64 a1_1, .int .i64 a1_2, .int .i64 a1_3, .int .i64 a1_4, .int .i64 a1_5, .int .i64 a1_6, .int .i64 a1_7], .bool a2] w fun e w' => ∃ v0_ v1_ : Value, e = .returned (.agg #[v0_, v1_]) ∧ Kd.S k28 28 w' w0.heap.size (fun k_ => ((P0_0_ k_ ∨ P0_1_ k_) ∨ w.heap.size ≤ k_)) v0_ r1 ∧ Kd.R (Kd.int .i64) 3 w' w0.heap.size (fun k_ => ((P0_0_ k_ ∨ P0_1_ k_) ∨ w.heap.size ≤ k_)) v1_ r2 ∧ Below w0.heap.size w0 w' ∧ Kept w w' (fun k_ => P0_0_ k_ ∨ P0_1_ k_) := by
 have hu70 := Try.underlying70
 have hu98 := Try.underlying98
 have hu30 := Try.underlying30
 have HO0_0 := am (show Kd.S k28 28 w w0.heap.size (fun k_ => ((P0_0_ k_ ∨ P0_1_ k_) ∨ w.heap.size ≤ k_)) u9000_ l0_0 from Kd.S_mono ho0_0 (fun k_ hk => (.inl (.inl hk))))
 have HO0_1 := am (show Kd.R (Kd.int .i64) 3 w w0.heap.size (fun k_ => ((P0_0_ k_ ∨ P0_1_ k_) ∨ w.heap.size ≤ k_)) u9001_ l0_1 from Kd.R_mono ho0_1 (fun k_ hk => (.inl (.inr hk))))
 have HK := am (Kept.refl w (fun k_ => P0_0_ k_ ∨ P0_1_ k_))
 have HW0 := am hB.size
 have HB := am hB
 clear hB
 have H : (if a1_0 = 1 then (if a2 = true then (some (l0_0, l0_1)) else (if 0 ≤ (wrap64 (a1_1 - 1)) then (if (wrap64 (a1_1 - 1)) < (l0_1.length : Int) then (some (l0_0, (l0_1.set ((wrap64 (a1_1 - 1)) : Int).toNat a1_2))) else (none)) else (none))) else (if a1_0 = 2 then ((spec_l2Wipe.f k l0_0 a1_3 a2).bind fun bt190 => (some (bt190.1, l0_1))) else (if a1_0 = 3 then ((spec_l2Write.f k l0_0 a1_3 a1_4 a1_5 a1_6 a1_7 a2).bind fun bt194 => (some (bt194.1, l0_1))) else (some (l0_0, l0_1))))) = some (r1, r2) := h
 clear h
 by_cases c4 : a1_0 = 1
 · rw [if_pos c4] at H
   have c4b0 : (a1_0 == 1) = true := beq_iff_eq.mpr c4
   have c4b1 : (a1_0 != 1) = false := bne_eq_false_iff_eq.mpr c4
   clear c4
   by_cases c5 : a2 = true
   · subst c5
     have H1 : (some (l0_0, l0_1)) = some (r1, r2) := by rw [if_pos rfl] at H; exact H
     clear H
     have H := H1
     clear H1
     simp only [Option.some.injEq, Prod.mk.injEq] at H
     obtain ⟨rfl, rfl⟩ := H
     obtain ⟨Ao6, co6, eo6⟩ := Kd.S_slice HO0_0.out
     subst eo6
     obtain ⟨Ao7, co7, eo7⟩ := Kd.R_slice HO0_1.out
     subst eo7
     go_enter Try.func57, Try.ntmps57
     go_wp2_with (first | (refine bx 3 #[.slice Ao6 l0_0.length co6, .slice Ao7 l0_1.length co7] 70 rfl ?_; intro gb186 hg w8 hbox hb; replace HO0_0 := am (Kd.S_below (ps HO0_0.out) hb); replace HO0_1 := am (Kd.R_below (pr HO0_1.out) hb); have BK186 := am (hbox); have GW186 := am ((by rw [hg]; exact (by first | exact HK.out.1 | exact (show Kept w _ (fun k_ => P0_0_ k_ ∨ P0_1_ k_) from pk HK.out).1) : w.heap.size ≤ gb186)); replace HK := am (Kept.below (S := (fun k_ => P0_0_ k_ ∨ P0_1_ k_)) (pk HK.out) hb); have GE186 := am ((by rw [hg]; exact (below_size (ph HB.out)) : w0.heap.size ≤ gb186)); replace HB := am (below_step (ph HB.out) hb); clear hb hbox hg) | (refine bx 4 #[.int .i64 a1_0, .int .i64 a1_1, .int .i64 a1_2, .int .i64 a1_3, .int .i64 a1_4, .int .i64 a1_5, .int .i64 a1_6, .int .i64 a1_7] 98 rfl ?_; intro gb187 hg w9 hbox hb; replace HO0_0 := am (Kd.S_below (ps HO0_0.out) hb); replace HO0_1 := am (Kd.R_below (pr HO0_1.out) hb); have BK187 := am (hbox); have GW187 := am ((by rw [hg]; exact (by first | exact HK.out.1 | exact (show Kept w _ (fun k_ => P0_0_ k_ ∨ P0_1_ k_) from by repeat (first | (with_reducible first | exact HK.out | apply Kept.alloc | apply Kept.drewN | apply Kept.drew | refine Kept.setCell ?_ (.inr GW186.out) _) | exact HK.out)).1) : w.heap.size ≤ gb187)); replace HK := am (Kept.below (S := (fun k_ => P0_0_ k_ ∨ P0_1_ k_)) (by repeat (first | (with_reducible first | exact HK.out | apply Kept.alloc | apply Kept.drewN | apply Kept.drew | refine Kept.setCell ?_ (.inr GW186.out) _) | exact HK.out)) hb); have GE187 := am ((by rw [hg]; exact (below_size (bg1 HB.out GE186.out)) : w0.heap.size ≤ gb187)); replace HB := am (below_step (bg1 HB.out GE186.out) hb); have NB186_187 := am ((by rw [hg]; exact Nat.ne_of_lt (blk_lt (pb BK186.out)) : gb186 ≠ gb187)); have NB187_186 := am (Ne.symm NB186_187.out); replace BK186 := am (blk_below (pb BK186.out) hb); clear hb hbox hg) | (refine bx 6 #[.slice none 0 0, .slice none 0 0] 70 rfl ?_; intro gb188 hg w10 hbox hb; replace HO0_0 := am (Kd.S_below (ps HO0_0.out) hb); replace HO0_1 := am (Kd.R_below (pr HO0_1.out) hb); have BK188 := am (hbox); have GW188 := am ((by rw [hg]; exact (by first | exact HK.out.1 | exact (show Kept w _ (fun k_ => P0_0_ k_ ∨ P0_1_ k_) from by repeat (first | (with_reducible first | exact HK.out | apply Kept.alloc | apply Kept.drewN | apply Kept.drew | refine Kept.setCell ?_ (.inr GW186.out) _ | refine Kept.setCell ?_ (.inr GW187.out) _) | exact HK.out)).1) : w.heap.size ≤ gb188)); replace HK := am (Kept.below (S := (fun k_ => P0_0_ k_ ∨ P0_1_ k_)) (by repeat (first | (with_reducible first | exact HK.out | apply Kept.alloc | apply Kept.drewN | apply Kept.drew | refine Kept.setCell ?_ (.inr GW186.out) _ | refine Kept.setCell ?_ (.inr GW187.out) _) | exact HK.out)) hb); have GE188 := am ((by rw [hg]; exact (below_size (bg2 HB.out GE186.out GE187.out)) : w0.heap.size ≤ gb188)); replace HB := am (below_step (bg2 HB.out GE186.out GE187.out) hb); have NB186_188 := am ((by rw [hg]; exact Nat.ne_of_lt (blk_lt (pb BK186.out)) : gb186 ≠ gb188)); have NB188_186 := am (Ne.symm NB186_188.out); replace BK186 := am (blk_below (pb BK186.out) hb); have NB187_188 := am ((by rw [hg]; exact Nat.ne_of_lt (blk_lt (pb BK187.out)) : gb187 ≠ gb188)); have NB188_187 := am (Ne.symm NB187_188.out); replace BK187 := am (blk_below (pb BK187.out) hb); clear hb hbox hg; have hnb11 := NB187_186.out; have hnc11 := NB186_187.out; have hnb12 := NB187_188.out; have hnc12 := NB188_187.out; obtain ⟨hcz13_0, hcz13_1, hcz13_2, hcz13_3, hcz13_4, hcz13_5, hcz13_6, hcz13_7⟩ := b8 BK187.out; obtain ⟨hfz13_0, hfz13_1, hfz13_2, hfz13_3, hfz13_4, hfz13_5, hfz13_6, hfz13_7⟩ := f8 BK187.out; have hnb14 := NB186_188.out; have hnc14 := NB188_186.out; obtain ⟨hcz15_0, hcz15_1⟩ := b2 BK186.out; obtain ⟨hfz15_0, hfz15_1⟩ := f2 BK186.out; obtain ⟨hcz16_0, hcz16_1⟩ := b2 BK188.out; obtain ⟨hfz16_0, hfz16_1⟩ := f2 BK188.out))
     refine bodyPost_ret (results_cell_row rfl _ _ gb188 70 #[.slice Ao6 l0_0.length co6, .slice Ao7 l0_1.length co7] (0, 0) _ rfl (by (with_reducible repeat (first | refine blk_drewN ?_ _ | refine blk_drew ?_ | refine blk_alloc ?_ _)); refine blk_put (cs := #[.slice Ao6 l0_0.length co6, .slice none 0 0]) ?_ 1 _ rfl; (with_reducible repeat (first | refine blk_drewN ?_ _ | refine blk_drew ?_ | refine blk_alloc ?_ _)); refine blk_put (cs := #[.slice none 0 0, .slice none 0 0]) ?_ 0 _ rfl; (with_reducible repeat (first | refine blk_drewN ?_ _ | refine blk_drew ?_ | refine blk_alloc ?_ _)); exact BK188.out) Try.underlying70 rfl (by kernel_rfl)) rfl ?_
     exact ⟨_, _, rq ⟨by (with_reducible repeat (first | apply Kd.S_alloc | apply Kd.S_drewN | apply Kd.S_drew)); exact Kd.S_mono (Kd.S_far (p := ⟨gb188, 1, none⟩) (Kd.S_far (p := ⟨gb188, 0, none⟩) (Kd.S_types HO0_0.out BK188.out (by decide)) (fun _ hk => hk.2) (.slice Ao6 l0_0.length co6)) (fun _ hk => hk.2) (.slice Ao7 l0_1.length co7)) (fun _ hk => hk.1), by (with_reducible repeat (first | apply Kd.R_alloc | apply Kd.R_drewN | apply Kd.R_drew)); exact Kd.R_mono (Kd.R_far (p := ⟨gb188, 1, none⟩) (Kd.R_far (p := ⟨gb188, 0, none⟩) (Kd.R_types HO0_1.out BK188.out (by decide)) (fun _ hk => hk.2) (.slice Ao6 l0_0.length co6)) (fun _ hk => hk.2) (.slice Ao7 l0_1.length co7)) (fun _ hk => hk.1), bg3 HB.out GE186.out GE187.out GE188.out, by repeat (first | (with_reducible first | exact HK.out | apply Kept.alloc | apply Kept.drewN | apply Kept.drew | refine Kept.setCell ?_ (.inr GW186.out) _ | refine Kept.setCell ?_ (.inr GW187.out) _ | refine Kept.setCell ?_ (.inr GW188.out) _) | exact HK.out)⟩⟩
   replace c5 := Bool.eq_false_iff.mpr c5
   subst c5
   have H1 : (if 0 ≤ (wrap64 (a1_1 - 1)) then (if (wrap64 (a1_1 - 1)) < (l0_1.length : Int) then (some (l0_0, (l0_1.set ((wrap64 (a1_1 - 1)) : Int).toNat a1_2))) else (none)) else (none)) = some (r1, r2) := by rw [if_neg (show ¬ (false = true) by decide)] at H; exact H
   clear H
   have H := H1
   clear H1
   obtain ⟨ji17, hji17⟩ : ∃ j_ : Int, (wrap64 (a1_1 - 1)) = j_ := ⟨_, rfl⟩
   replace H : (if 0 ≤ (ji17) then (if (ji17) < (l0_1.length : Int) then (some (l0_0, (l0_1.set ((ji17) : Int).toNat a1_2))) else (none)) else (none)) = some (r1, r2) := by first | (rw [hji17] at H; exact H) | (simp only [hji17] at H ⊢; exact H)
   have hji17w : (IntKind.i64.wrap (a1_1 - 1)) = ji17 := (i64_w _).trans hji17
   by_cases c18 : 0 ≤ (ji17)
   rotate_left
   · rw [if_neg c18] at H
     exact absurd H (by simp)
   rw [if_pos c18] at H
   have c18b0 := decide_eq_true c18
   clear c18
   by_cases c19 : (ji17) < (l0_1.length : Int)
   rotate_left
   · rw [if_neg c19] at H
     exact absurd H (by simp)
   rw [if_pos c19] at H
   have c19b0 := decide_eq_true c19
   clear c19
   obtain ⟨y189, hy189⟩ : ∃ y_ : List Int, y_ = (l0_1.set ((ji17) : Int).toNat a1_2) := ⟨_, rfl⟩
   replace H : (some (l0_0, y189)) = some (r1, r2) := by first | (rw [hy189]; with_reducible exact H) | (have H2_ := (Option.bind_some _ _).symm.trans H; rw [hy189]; with_reducible exact H2_) | (have H2_ := (Option.bind_some _ _).symm.trans H; with_reducible exact H2_) | with_reducible exact H | (rw [hy189]; exact H) | exact H
   have Ny189 := am hy189
   clear hy189
   simp only [Option.some.injEq, Prod.mk.injEq] at H
   obtain ⟨rfl, rfl⟩ := H
   obtain ⟨Ao21, co21, eo21⟩ := Kd.S_slice HO0_0.out
   subst eo21
   obtain ⟨Ao22, co22, eo22⟩ := Kd.R_slice HO0_1.out
   subst eo22
   go_enter Try.func57, Try.ntmps57
   go_wp2_with (first | (refine bx 3 #[.slice Ao21 l0_0.length co21, .slice Ao22 l0_1.length co22] 70 rfl ?_; intro gb186 hg w23 hbox hb; replace HO0_0 := am (Kd.S_below (ps HO0_0.out) hb); replace HO0_1 := am (Kd.R_below (pr HO0_1.out) hb); have BK186 := am (hbox); have GW186 := am ((by rw [hg]; exact (by first | exact HK.out.1 | exact (show Kept w _ (fun k_ => P0_0_ k_ ∨ P0_1_ k_) from pk HK.out).1) : w.heap.size ≤ gb186)); replace HK := am (Kept.below (S := (fun k_ => P0_0_ k_ ∨ P0_1_ k_)) (pk HK.out) hb); have GE186 := am ((by rw [hg]; exact (below_size (ph HB.out)) : w0.heap.size ≤ gb186)); replace HB := am (below_step (ph HB.out) hb); clear hb hbox hg) | (refine bx 4 #[.int .i64 a1_0, .int .i64 a1_1, .int .i64 a1_2, .int .i64 a1_3, .int .i64 a1_4, .int .i64 a1_5, .int .i64 a1_6, .int .i64 a1_7] 98 rfl ?_; intro gb187 hg w24 hbox hb; replace HO0_0 := am (Kd.S_below (ps HO0_0.out) hb); replace HO0_1 := am (Kd.R_below (pr HO0_1.out) hb); have BK187 := am (hbox); have GW187 := am ((by rw [hg]; exact (by first | exact HK.out.1 | exact (show Kept w _ (fun k_ => P0_0_ k_ ∨ P0_1_ k_) from by repeat (first | (with_reducible first | exact HK.out | apply Kept.alloc | apply Kept.drewN | apply Kept.drew | refine Kept.setCell ?_ (.inr GW186.out) _) | exact HK.out)).1) : w.heap.size ≤ gb187)); replace HK := am (Kept.below (S := (fun k_ => P0_0_ k_ ∨ P0_1_ k_)) (by repeat (first | (with_reducible first | exact HK.out | apply Kept.alloc | apply Kept.drewN | apply Kept.drew | refine Kept.setCell ?_ (.inr GW186.out) _) | exact HK.out)) hb); have GE187 := am ((by rw [hg]; exact (below_size (bg1 HB.out GE186.out)) : w0.heap.size ≤ gb187)); replace HB := am (below_step (bg1 HB.out GE186.out) hb); have NB186_187 := am ((by rw [hg]; exact Nat.ne_of_lt (blk_lt (pb BK186.out)) : gb186 ≠ gb187)); have NB187_186 := am (Ne.symm NB186_187.out); replace BK186 := am (blk_below (pb BK186.out) hb); clear hb hbox hg) | (refine bx 6 #[.slice none 0 0, .slice none 0 0] 70 rfl ?_; intro gb188 hg w25 hbox hb; replace HO0_0 := am (Kd.S_below (ps HO0_0.out) hb); replace HO0_1 := am (Kd.R_below (pr HO0_1.out) hb); have BK188 := am (hbox); have GW188 := am ((by rw [hg]; exact (by first | exact HK.out.1 | exact (show Kept w _ (fun k_ => P0_0_ k_ ∨ P0_1_ k_) from by repeat (first | (with_reducible first | exact HK.out | apply Kept.alloc | apply Kept.drewN | apply Kept.drew | refine Kept.setCell ?_ (.inr GW186.out) _ | refine Kept.setCell ?_ (.inr GW187.out) _) | exact HK.out)).1) : w.heap.size ≤ gb188)); replace HK := am (Kept.below (S := (fun k_ => P0_0_ k_ ∨ P0_1_ k_)) (by repeat (first | (with_reducible first | exact HK.out | apply Kept.alloc | apply Kept.drewN | apply Kept.drew | refine Kept.setCell ?_ (.inr GW186.out) _ | refine Kept.setCell ?_ (.inr GW187.out) _) | exact HK.out)) hb); have GE188 := am ((by rw [hg]; exact (below_size (bg2 HB.out GE186.out GE187.out)) : w0.heap.size ≤ gb188)); replace HB := am (below_step (bg2 HB.out GE186.out GE187.out) hb); have NB186_188 := am ((by rw [hg]; exact Nat.ne_of_lt (blk_lt (pb BK186.out)) : gb186 ≠ gb188)); have NB188_186 := am (Ne.symm NB186_188.out); replace BK186 := am (blk_below (pb BK186.out) hb); have NB187_188 := am ((by rw [hg]; exact Nat.ne_of_lt (blk_lt (pb BK187.out)) : gb187 ≠ gb188)); have NB188_187 := am (Ne.symm NB187_188.out); replace BK187 := am (blk_below (pb BK187.out) hb); clear hb hbox hg; have hnb26 := NB187_186.out; have hnc26 := NB186_187.out; have hnb27 := NB187_188.out; have hnc27 := NB188_187.out; obtain ⟨hcz28_0, hcz28_1, hcz28_2, hcz28_3, hcz28_4, hcz28_5, hcz28_6, hcz28_7⟩ := b8 BK187.out; obtain ⟨hfz28_0, hfz28_1, hfz28_2, hfz28_3, hfz28_4, hfz28_5, hfz28_6, hfz28_7⟩ := f8 BK187.out; have hnb29 := NB186_188.out; have hnc29 := NB188_186.out; obtain ⟨hcz30_0, hcz30_1⟩ := b2 BK186.out; obtain ⟨hfz30_0, hfz30_1⟩ := f2 BK186.out; have p20 : 0 ≤ ((ji17) : Int) := ofb; have q20 : ((ji17) : Int) < ((l0_1.length : Int) : Int) := ofb; obtain ⟨go20, co20, eo20, gb20, gl20, cl20, HG20⟩ := Kd.R_form HO0_1.out (by omega); (first | cases eo20 | (injection eo20 with ea_ en_ ec_; (first | subst ea_ | (injection ea_ with ea_; subst ea_)); subst ec_; clear en_)); have GB20 := am gb20; have GG20 := am HG20; clear gb20 gl20 HG20; have HMgo20 := am (show ((P0_0_ go20 ∨ P0_1_ go20) ∨ w.heap.size ≤ go20) from (HO0_1.out.1 _ rfl)); obtain ⟨hx20_0, hf20_0⟩ := Kd.R_celln 0 HO0_1.out ((ji17) : Int) p20 q20; replace p20 := eq_true p20; replace q20 := eq_true q20; obtain ⟨hy31_, hz31_⟩ := Kd.R_celln 0 HO0_1.out ((ji17) : Int) (ofb) (ofb); have HP31 := Kd.R_putg HO0_1.out ((ji17) : Int) a1_2) | ((with_reducible refine gate_store (t := 3) (p := 20) rfl ?_); refine store_event (t := 3) (p := 20) (v := ?vo_w32) (w1 := (w25.setCell ⟨go20, ((ji17) : Int).toNat, none⟩ (.int .i64 a1_2))) ?hg ?ho ?hn ?hr ?_; (case ho => rfl); (case hg => rfl); (case hn => rfl); (case hr => first | (go_simp; done) | (go_simp; rfl)); intro w32 hw; have hg : w25.grownBy w32 (some go20) := (by rw [hw]; exact HP31.2); have hp_ : Kd.R (Kd.int .i64) 3 w32 w0.heap.size (fun k_ => ((P0_0_ k_ ∨ P0_1_ k_) ∨ w.heap.size ≤ k_)) (.slice (some ⟨go20, 0, none⟩) l0_1.length co22) y189 := (by rw [hw, Ny189.out]; exact HP31.1); clear HP31; replace HO0_0 := am (Kd.S_over' (v := (.slice (some ⟨go20, 0, none⟩) l0_1.length co22)) (ps HO0_0.out) (Kd.R_typed HO0_1.out) (by decide) hg); replace BK186 := am (blk_grown (g := gb186) (o := .cells #[.slice Ao21 l0_0.length co21, .slice (some ⟨go20, 0, none⟩) l0_1.length co22] 70 (0, 0)) (pb BK186.out) hg (Kd.R_ne HO0_1.out BK186.out (by decide))); replace BK187 := am (blk_grown (g := gb187) (o := .cells #[.int .i64 a1_0, .int .i64 a1_1, .int .i64 a1_2, .int .i64 a1_3, .int .i64 a1_4, .int .i64 a1_5, .int .i64 a1_6, .int .i64 a1_7] 98 (0, 0)) (pb BK187.out) hg (Kd.R_ne HO0_1.out BK187.out (by decide))); replace BK188 := am (blk_grown (g := gb188) (o := .cells #[.slice none 0 0, .slice none 0 0] 70 (0, 0)) (pb BK188.out) hg (Kd.R_ne HO0_1.out BK188.out (by decide))); replace HB := am ((by rw [hw]; exact below_set (HB.out) GB20.out : Below w0.heap.size w0 w32)); replace HK := am (Kept.of_grown (S := (fun k_ => P0_0_ k_ ∨ P0_1_ k_)) hg (by repeat (first | (with_reducible first | exact HK.out | apply Kept.alloc | apply Kept.drewN | apply Kept.drew | refine Kept.setCell ?_ (.inr GW186.out) _ | refine Kept.setCell ?_ (.inr GW187.out) _ | refine Kept.setCell ?_ (.inr GW188.out) _) | exact HK.out)) (fun k_ e_ => (HO0_1.out.1 k_ e_))); replace HO0_1 := am (hp_); clear hg hw hp_; obtain ⟨hcz33_0, hcz33_1⟩ := b2 BK186.out; obtain ⟨hfz33_0, hfz33_1⟩ := f2 BK186.out; obtain ⟨hcz34_0, hcz34_1⟩ := b2 BK188.out; obtain ⟨hfz34_0, hfz34_1⟩ := f2 BK188.out))
   refine bodyPost_ret (results_cell_row rfl _ _ gb188 70 #[.slice Ao21 l0_0.length co21, .slice (some ⟨go20, 0, none⟩) l0_1.length co22] (0, 0) _ rfl (by (with_reducible repeat (first | refine blk_drewN ?_ _ | refine blk_drew ?_ | refine blk_alloc ?_ _)); refine blk_put (cs := #[.slice Ao21 l0_0.length co21, .slice none 0 0]) ?_ 1 _ rfl; (with_reducible repeat (first | refine blk_drewN ?_ _ | refine blk_drew ?_ | refine blk_alloc ?_ _)); refine blk_put (cs := #[.slice none 0 0, .slice none 0 0]) ?_ 0 _ rfl; (with_reducible repeat (first | refine blk_drewN ?_ _ | refine blk_drew ?_ | refine blk_alloc ?_ _)); exact BK188.out) Try.underlying70 rfl (by kernel_rfl)) rfl ?_
   exact ⟨_, _, by first | rfl | (simp [errW_none, errW_some] <;> rfl) | (simp only [← hji17]; first | rfl | (simp [errW_none, errW_some] <;> rfl)) | (simp [*, errW_none, errW_some] <;> rfl), by (with_reducible repeat (first | apply Kd.S_alloc | apply Kd.S_drewN | apply Kd.S_drew)); exact Kd.S_mono (Kd.S_far (p := ⟨gb188, 1, none⟩) (Kd.S_far (p := ⟨gb188, 0, none⟩) (Kd.S_types HO0_0.out BK188.out (by decide)) (fun _ hk => hk.2) (.slice Ao21 l0_0.length co21)) (fun _ hk => hk.2) (.slice (some ⟨go20, 0, none⟩) l0_1.length co22)) (fun _ hk => hk.1), by (with_reducible repeat (first | apply Kd.R_alloc | apply Kd.R_drewN | apply Kd.R_drew)); exact Kd.R_mono (Kd.R_far (p := ⟨gb188, 1, none⟩) (Kd.R_far (p := ⟨gb188, 0, none⟩) (Kd.R_types HO0_1.out BK188.out (by decide)) (fun _ hk => hk.2) (.slice Ao21 l0_0.length co21)) (fun _ hk => hk.2) (.slice (some ⟨go20, 0, none⟩) l0_1.length co22)) (fun _ hk => hk.1), bg3 HB.out GE186.out GE187.out GE188.out, by repeat (first | (with_reducible first | exact HK.out | apply Kept.alloc | apply Kept.drewN | apply Kept.drew | refine Kept.setCell ?_ (.inr GW186.out) _ | refine Kept.setCell ?_ (.inr GW187.out) _ | refine Kept.setCell ?_ (.inr GW188.out) _) | exact HK.out)⟩
 rw [if_neg c4] at H
 have c4b0 : (a1_0 == 1) = false := beq_eq_false_iff_ne.mpr c4
 have c4b1 : (a1_0 != 1) = true := bne_iff_ne.mpr c4
 by_cases c35 : a1_0 = 2
 · rw [if_pos c35] at H
   have c35b0 : (a1_0 == 2) = true := beq_iff_eq.mpr c35
   have c35b1 : (a1_0 != 2) = false := bne_eq_false_iff_eq.mpr c35
   clear c35
   replace H := Option.bind_eq_some_iff.mp H
   obtain ⟨⟨t190, t193⟩, A360, H⟩ := H
   replace H : (some (t190, l0_1)) = some (r1, r2) := H
   have A36 := am A360
   clear A360
   simp only [Option.some.injEq, Prod.mk.injEq] at H
   obtain ⟨rfl, rfl⟩ := H
   obtain ⟨Ao37, co37, eo37⟩ := Kd.S_slice HO0_0.out
   subst eo37
   obtain ⟨Ao38, co38, eo38⟩ := Kd.R_slice HO0_1.out
   subst eo38
   go_enter Try.func57, Try.ntmps57
   go_wp2_with (first | (refine bx 3 #[.slice Ao37 l0_0.length co37, .slice Ao38 l0_1.length co38] 70 rfl ?_; intro gb186 hg w39 hbox hb; replace HO0_0 := am (Kd.S_below (ps HO0_0.out) hb); replace HO0_1 := am (Kd.R_below (pr HO0_1.out) hb); have BK186 := am (hbox); have GW186 := am ((by rw [hg]; exact (by first | exact HK.out.1 | exact (show Kept w _ (fun k_ => P0_0_ k_ ∨ P0_1_ k_) from pk HK.out).1) : w.heap.size ≤ gb186)); replace HK := am (Kept.below (S := (fun k_ => P0_0_ k_ ∨ P0_1_ k_)) (pk HK.out) hb); have GE186 := am ((by rw [hg]; exact (below_size (ph HB.out)) : w0.heap.size ≤ gb186)); replace HB := am (below_step (ph HB.out) hb); clear hb hbox hg) | (refine bx 4 #[.int .i64 a1_0, .int .i64 a1_1, .int .i64 a1_2, .int .i64 a1_3, .int .i64 a1_4, .int .i64 a1_5, .int .i64 a1_6, .int .i64 a1_7] 98 rfl ?_; intro gb187 hg w40 hbox hb; replace HO0_0 := am (Kd.S_below (ps HO0_0.out) hb); replace HO0_1 := am (Kd.R_below (pr HO0_1.out) hb); have BK187 := am (hbox); have GW187 := am ((by rw [hg]; exact (by first | exact HK.out.1 | exact (show Kept w _ (fun k_ => P0_0_ k_ ∨ P0_1_ k_) from by repeat (first | (with_reducible first | exact HK.out | apply Kept.alloc | apply Kept.drewN | apply Kept.drew | refine Kept.setCell ?_ (.inr GW186.out) _) | exact HK.out)).1) : w.heap.size ≤ gb187)); replace HK := am (Kept.below (S := (fun k_ => P0_0_ k_ ∨ P0_1_ k_)) (by repeat (first | (with_reducible first | exact HK.out | apply Kept.alloc | apply Kept.drewN | apply Kept.drew | refine Kept.setCell ?_ (.inr GW186.out) _) | exact HK.out)) hb); have GE187 := am ((by rw [hg]; exact (below_size (bg1 HB.out GE186.out)) : w0.heap.size ≤ gb187)); replace HB := am (below_step (bg1 HB.out GE186.out) hb); have NB186_187 := am ((by rw [hg]; exact Nat.ne_of_lt (blk_lt (pb BK186.out)) : gb186 ≠ gb187)); have NB187_186 := am (Ne.symm NB186_187.out); replace BK186 := am (blk_below (pb BK186.out) hb); clear hb hbox hg) | (refine bx 6 #[.slice none 0 0, .slice none 0 0] 70 rfl ?_; intro gb188 hg w41 hbox hb; replace HO0_0 := am (Kd.S_below (ps HO0_0.out) hb); replace HO0_1 := am (Kd.R_below (pr HO0_1.out) hb); have BK188 := am (hbox); have GW188 := am ((by rw [hg]; exact (by first | exact HK.out.1 | exact (show Kept w _ (fun k_ => P0_0_ k_ ∨ P0_1_ k_) from by repeat (first | (with_reducible first | exact HK.out | apply Kept.alloc | apply Kept.drewN | apply Kept.drew | refine Kept.setCell ?_ (.inr GW186.out) _ | refine Kept.setCell ?_ (.inr GW187.out) _) | exact HK.out)).1) : w.heap.size ≤ gb188)); replace HK := am (Kept.below (S := (fun k_ => P0_0_ k_ ∨ P0_1_ k_)) (by repeat (first | (with_reducible first | exact HK.out | apply Kept.alloc | apply Kept.drewN | apply Kept.drew | refine Kept.setCell ?_ (.inr GW186.out) _ | refine Kept.setCell ?_ (.inr GW187.out) _) | exact HK.out)) hb); have GE188 := am ((by rw [hg]; exact (below_size (bg2 HB.out GE186.out GE187.out)) : w0.heap.size ≤ gb188)); replace HB := am (below_step (bg2 HB.out GE186.out GE187.out) hb); have NB186_188 := am ((by rw [hg]; exact Nat.ne_of_lt (blk_lt (pb BK186.out)) : gb186 ≠ gb188)); have NB188_186 := am (Ne.symm NB186_188.out); replace BK186 := am (blk_below (pb BK186.out) hb); have NB187_188 := am ((by rw [hg]; exact Nat.ne_of_lt (blk_lt (pb BK187.out)) : gb187 ≠ gb188)); have NB188_187 := am (Ne.symm NB187_188.out); replace BK187 := am (blk_below (pb BK187.out) hb); clear hb hbox hg; have hnb42 := NB187_186.out; have hnc42 := NB186_187.out; have hnb43 := NB187_188.out; have hnc43 := NB188_187.out; obtain ⟨hcz44_0, hcz44_1, hcz44_2, hcz44_3, hcz44_4, hcz44_5, hcz44_6, hcz44_7⟩ := b8 BK187.out; obtain ⟨hfz44_0, hfz44_1, hfz44_2, hfz44_3, hfz44_4, hfz44_5, hfz44_6, hfz44_7⟩ := f8 BK187.out; have hnb45 := NB186_188.out; have hnc45 := NB188_186.out; obtain ⟨hcz46_0, hcz46_1⟩ := b2 BK186.out; obtain ⟨hfz46_0, hfz46_1⟩ := f2 BK186.out; obtain ⟨PXh47, hxa_, hxb_⟩ := Kd.S_hand HO0_0.out; have HXAh47 := am hxa_; have HXBh47 := am hxb_; clear hxa_ hxb_) | (refine gl 29 Try.func62 #[.slice Ao37 l0_0.length co37, .int .i64 a1_3, .bool a2] rfl ?_; (with_reducible refine (spec_l2Wipe.calls k PXh47 (.slice Ao37 l0_0.length co37) l0_0 a1_3 a2 t190 t193 w0 _ ?side1 ?side2 A36.out).mono ?_); (case side1 => repeat (first | (with_reducible first | exact HB.out | apply below_alloc | apply pw_below_drewN | apply below_drew1 | refine below_set ?_ GE186.out | refine below_set ?_ GE187.out | refine below_set ?_ GE188.out) | exact HB.out)); (case side2 => exact (ps HXAh47.out)); rintro e w48 ⟨v191, rfl, ho0, hb, hkp⟩; refine ⟨_, rfl, ?_⟩; replace HO0_1 := am (Kd.R_mono (ok' := fun k_ => ((P0_0_ k_ ∨ P0_1_ k_) ∨ w.heap.size ≤ k_)) (Kd.R_keptB ((Kd.R_awayP HO0_1.out (fun k_ h_ => (HXBh47.out k_ h_).2.2.2) (by decide))) hkp (fun k_ hk_ hs_ => (hk_.2) hs_)) (fun k_ hk_ => hk_.1.1)); replace BK186 := am (blk_kept (pb BK186.out) hkp (fun hs_ => (fun e_ => Kd.blk_awayP (fun k_ h_ => (HXBh47.out k_ h_).2.2.2) BK186.out (by decide) e_) hs_)); replace BK187 := am (blk_kept (pb BK187.out) hkp (fun hs_ => (fun e_ => Kd.blk_awayP (fun k_ h_ => (HXBh47.out k_ h_).2.2.2) BK187.out (by decide) e_) hs_)); replace BK188 := am (blk_kept (pb BK188.out) hkp (fun hs_ => (fun e_ => Kd.blk_awayP (fun k_ h_ => (HXBh47.out k_ h_).2.2.2) BK188.out (by decide) e_) hs_)); have HO192 := am (Kd.S_mono (ok' := fun k_ => ((P0_0_ k_ ∨ P0_1_ k_) ∨ w.heap.size ≤ k_)) ho0 (fun k_ hk_ => Or.elim hk_ (fun hs_ => (HXBh47.out k_ hs_).1) (fun hn_ => (.inr (Nat.le_trans (by first | exact HK.out.1 | exact (show Kept w _ (fun k_ => P0_0_ k_ ∨ P0_1_ k_) from by repeat (first | (with_reducible first | exact HK.out | apply Kept.alloc | apply Kept.drewN | apply Kept.drew | refine Kept.setCell ?_ (.inr GW186.out) _ | refine Kept.setCell ?_ (.inr GW187.out) _ | refine Kept.setCell ?_ (.inr GW188.out) _) | exact HK.out)).1) hn_))))); replace HK := am (Kept.then_ (S := (fun k_ => P0_0_ k_ ∨ P0_1_ k_)) (by repeat (first | (with_reducible first | exact HK.out | apply Kept.alloc | apply Kept.drewN | apply Kept.drew | refine Kept.setCell ?_ (.inr GW186.out) _ | refine Kept.setCell ?_ (.inr GW187.out) _ | refine Kept.setCell ?_ (.inr GW188.out) _) | exact HK.out)) hkp (fun k_ hs_ => (fun e_ => (HXBh47.out k_ e_).1) hs_)); replace HB := am (hb); clear HO0_0; (try clear hb); (try clear hkp); (try clear ho0); obtain ⟨Ao49, co49, eo49⟩ := Kd.S_slice HO192.out; subst eo49; obtain ⟨hcz50_0, hcz50_1⟩ := b2 BK186.out; obtain ⟨hfz50_0, hfz50_1⟩ := f2 BK186.out; obtain ⟨hcz51_0, hcz51_1⟩ := b2 BK188.out; obtain ⟨hfz51_0, hfz51_1⟩ := f2 BK188.out))
   refine bodyPost_ret (results_cell_row rfl _ _ gb188 70 #[.slice Ao49 t190.length co49, .slice Ao38 l0_1.length co38] (0, 0) _ rfl (by (with_reducible repeat (first | refine blk_drewN ?_ _ | refine blk_drew ?_ | refine blk_alloc ?_ _)); refine blk_put (cs := #[.slice Ao49 t190.length co49, .slice none 0 0]) ?_ 1 _ rfl; (with_reducible repeat (first | refine blk_drewN ?_ _ | refine blk_drew ?_ | refine blk_alloc ?_ _)); refine blk_put (cs := #[.slice none 0 0, .slice none 0 0]) ?_ 0 _ rfl; (with_reducible repeat (first | refine blk_drewN ?_ _ | refine blk_drew ?_ | refine blk_alloc ?_ _)); refine blk_far ?_ NB188_186.out _; (with_reducible repeat (first | refine blk_drewN ?_ _ | refine blk_drew ?_ | refine blk_alloc ?_ _)); exact BK188.out) Try.underlying70 rfl (by kernel_rfl)) rfl ?_
   exact ⟨_, _, rq ⟨by (with_reducible repeat (first | apply Kd.S_alloc | apply Kd.S_drewN | apply Kd.S_drew)); exact Kd.S_mono (Kd.S_far (p := ⟨gb188, 1, none⟩) (Kd.S_far (p := ⟨gb188, 0, none⟩) (Kd.S_far (p := ⟨gb186, 0, none⟩) (Kd.S_types (Kd.S_types HO192.out BK186.out (by decide)) BK188.out (by decide)) (fun _ hk => hk.1.2) (.slice Ao49 t190.length co49)) (fun _ hk => hk.2) (.slice Ao49 t190.length co49)) (fun _ hk => hk.2) (.slice Ao38 l0_1.length co38)) (fun _ hk => hk.1.1), by (with_reducible repeat (first | apply Kd.R_alloc | apply Kd.R_drewN | apply Kd.R_drew)); exact Kd.R_mono (Kd.R_far (p := ⟨gb188, 1, none⟩) (Kd.R_far (p := ⟨gb188, 0, none⟩) (Kd.R_far (p := ⟨gb186, 0, none⟩) (Kd.R_types (Kd.R_types HO0_1.out BK186.out (by decide)) BK188.out (by decide)) (fun _ hk => hk.1.2) (.slice Ao49 t190.length co49)) (fun _ hk => hk.2) (.slice Ao49 t190.length co49)) (fun _ hk => hk.2) (.slice Ao38 l0_1.length co38)) (fun _ hk => hk.1.1), bg3 HB.out GE186.out GE187.out GE188.out, by repeat (first | (with_reducible first | exact HK.out | apply Kept.alloc | apply Kept.drewN | apply Kept.drew | refine Kept.setCell ?_ (.inr GW186.out) _ | refine Kept.setCell ?_ (.inr GW187.out) _ | refine Kept.setCell ?_ (.inr GW188.out) _) | exact HK.out)⟩⟩
 rw [if_neg c35] at H
 have c35b0 : (a1_0 == 2) = false := beq_eq_false_iff_ne.mpr c35
 have c35b1 : (a1_0 != 2) = true := bne_iff_ne.mpr c35
 by_cases c52 : a1_0 = 3
 rotate_left
 · rw [if_neg c52] at H
   have c52b0 : (a1_0 == 3) = false := beq_eq_false_iff_ne.mpr c52
   have c52b1 : (a1_0 != 3) = true := bne_iff_ne.mpr c52
   simp only [Option.some.injEq, Prod.mk.injEq] at H
   obtain ⟨rfl, rfl⟩ := H
   obtain ⟨Ao69, co69, eo69⟩ := Kd.S_slice HO0_0.out
   subst eo69
   obtain ⟨Ao70, co70, eo70⟩ := Kd.R_slice HO0_1.out
   subst eo70
   go_enter Try.func57, Try.ntmps57
   go_wp2_with (first | (refine bx 3 #[.slice Ao69 l0_0.length co69, .slice Ao70 l0_1.length co70] 70 rfl ?_; intro gb186 hg w71 hbox hb; replace HO0_0 := am (Kd.S_below (ps HO0_0.out) hb); replace HO0_1 := am (Kd.R_below (pr HO0_1.out) hb); have BK186 := am (hbox); have GW186 := am ((by rw [hg]; exact (by first | exact HK.out.1 | exact (show Kept w _ (fun k_ => P0_0_ k_ ∨ P0_1_ k_) from pk HK.out).1) : w.heap.size ≤ gb186)); replace HK := am (Kept.below (S := (fun k_ => P0_0_ k_ ∨ P0_1_ k_)) (pk HK.out) hb); have GE186 := am ((by rw [hg]; exact (below_size (ph HB.out)) : w0.heap.size ≤ gb186)); replace HB := am (below_step (ph HB.out) hb); clear hb hbox hg) | (refine bx 4 #[.int .i64 a1_0, .int .i64 a1_1, .int .i64 a1_2, .int .i64 a1_3, .int .i64 a1_4, .int .i64 a1_5, .int .i64 a1_6, .int .i64 a1_7] 98 rfl ?_; intro gb187 hg w72 hbox hb; replace HO0_0 := am (Kd.S_below (ps HO0_0.out) hb); replace HO0_1 := am (Kd.R_below (pr HO0_1.out) hb); have BK187 := am (hbox); have GW187 := am ((by rw [hg]; exact (by first | exact HK.out.1 | exact (show Kept w _ (fun k_ => P0_0_ k_ ∨ P0_1_ k_) from by repeat (first | (with_reducible first | exact HK.out | apply Kept.alloc | apply Kept.drewN | apply Kept.drew | refine Kept.setCell ?_ (.inr GW186.out) _) | exact HK.out)).1) : w.heap.size ≤ gb187)); replace HK := am (Kept.below (S := (fun k_ => P0_0_ k_ ∨ P0_1_ k_)) (by repeat (first | (with_reducible first | exact HK.out | apply Kept.alloc | apply Kept.drewN | apply Kept.drew | refine Kept.setCell ?_ (.inr GW186.out) _) | exact HK.out)) hb); have GE187 := am ((by rw [hg]; exact (below_size (bg1 HB.out GE186.out)) : w0.heap.size ≤ gb187)); replace HB := am (below_step (bg1 HB.out GE186.out) hb); have NB186_187 := am ((by rw [hg]; exact Nat.ne_of_lt (blk_lt (pb BK186.out)) : gb186 ≠ gb187)); have NB187_186 := am (Ne.symm NB186_187.out); replace BK186 := am (blk_below (pb BK186.out) hb); clear hb hbox hg) | (refine bx 6 #[.slice none 0 0, .slice none 0 0] 70 rfl ?_; intro gb188 hg w73 hbox hb; replace HO0_0 := am (Kd.S_below (ps HO0_0.out) hb); replace HO0_1 := am (Kd.R_below (pr HO0_1.out) hb); have BK188 := am (hbox); have GW188 := am ((by rw [hg]; exact (by first | exact HK.out.1 | exact (show Kept w _ (fun k_ => P0_0_ k_ ∨ P0_1_ k_) from by repeat (first | (with_reducible first | exact HK.out | apply Kept.alloc | apply Kept.drewN | apply Kept.drew | refine Kept.setCell ?_ (.inr GW186.out) _ | refine Kept.setCell ?_ (.inr GW187.out) _) | exact HK.out)).1) : w.heap.size ≤ gb188)); replace HK := am (Kept.below (S := (fun k_ => P0_0_ k_ ∨ P0_1_ k_)) (by repeat (first | (with_reducible first | exact HK.out | apply Kept.alloc | apply Kept.drewN | apply Kept.drew | refine Kept.setCell ?_ (.inr GW186.out) _ | refine Kept.setCell ?_ (.inr GW187.out) _) | exact HK.out)) hb); have GE188 := am ((by rw [hg]; exact (below_size (bg2 HB.out GE186.out GE187.out)) : w0.heap.size ≤ gb188)); replace HB := am (below_step (bg2 HB.out GE186.out GE187.out) hb); have NB186_188 := am ((by rw [hg]; exact Nat.ne_of_lt (blk_lt (pb BK186.out)) : gb186 ≠ gb188)); have NB188_186 := am (Ne.symm NB186_188.out); replace BK186 := am (blk_below (pb BK186.out) hb); have NB187_188 := am ((by rw [hg]; exact Nat.ne_of_lt (blk_lt (pb BK187.out)) : gb187 ≠ gb188)); have NB188_187 := am (Ne.symm NB187_188.out); replace BK187 := am (blk_below (pb BK187.out) hb); clear hb hbox hg; have hnb74 := NB187_186.out; have hnc74 := NB186_187.out; have hnb75 := NB187_188.out; have hnc75 := NB188_187.out; obtain ⟨hcz76_0, hcz76_1, hcz76_2, hcz76_3, hcz76_4, hcz76_5, hcz76_6, hcz76_7⟩ := b8 BK187.out; obtain ⟨hfz76_0, hfz76_1, hfz76_2, hfz76_3, hfz76_4, hfz76_5, hfz76_6, hfz76_7⟩ := f8 BK187.out; have hnb77 := NB186_188.out; have hnc77 := NB188_186.out; obtain ⟨hcz78_0, hcz78_1⟩ := b2 BK186.out; obtain ⟨hfz78_0, hfz78_1⟩ := f2 BK186.out; obtain ⟨hcz79_0, hcz79_1⟩ := b2 BK188.out; obtain ⟨hfz79_0, hfz79_1⟩ := f2 BK188.out))
   refine bodyPost_ret (results_cell_row rfl _ _ gb188 70 #[.slice Ao69 l0_0.length co69, .slice Ao70 l0_1.length co70] (0, 0) _ rfl (by (with_reducible repeat (first | refine blk_drewN ?_ _ | refine blk_drew ?_ | refine blk_alloc ?_ _)); refine blk_put (cs := #[.slice Ao69 l0_0.length co69, .slice none 0 0]) ?_ 1 _ rfl; (with_reducible repeat (first | refine blk_drewN ?_ _ | refine blk_drew ?_ | refine blk_alloc ?_ _)); refine blk_put (cs := #[.slice none 0 0, .slice none 0 0]) ?_ 0 _ rfl; (with_reducible repeat (first | refine blk_drewN ?_ _ | refine blk_drew ?_ | refine blk_alloc ?_ _)); exact BK188.out) Try.underlying70 rfl (by kernel_rfl)) rfl ?_
   exact ⟨_, _, rq ⟨by (with_reducible repeat (first | apply Kd.S_alloc | apply Kd.S_drewN | apply Kd.S_drew)); exact Kd.S_mono (Kd.S_far (p := ⟨gb188, 1, none⟩) (Kd.S_far (p := ⟨gb188, 0, none⟩) (Kd.S_types HO0_0.out BK188.out (by decide)) (fun _ hk => hk.2) (.slice Ao69 l0_0.length co69)) (fun _ hk => hk.2) (.slice Ao70 l0_1.length co70)) (fun _ hk => hk.1), by (with_reducible repeat (first | apply Kd.R_alloc | apply Kd.R_drewN | apply Kd.R_drew)); exact Kd.R_mono (Kd.R_far (p := ⟨gb188, 1, none⟩) (Kd.R_far (p := ⟨gb188, 0, none⟩) (Kd.R_types HO0_1.out BK188.out (by decide)) (fun _ hk => hk.2) (.slice Ao69 l0_0.length co69)) (fun _ hk => hk.2) (.slice Ao70 l0_1.length co70)) (fun _ hk => hk.1), bg3 HB.out GE186.out GE187.out GE188.out, by repeat (first | (with_reducible first | exact HK.out | apply Kept.alloc | apply Kept.drewN | apply Kept.drew | refine Kept.setCell ?_ (.inr GW186.out) _ | refine Kept.setCell ?_ (.inr GW187.out) _ | refine Kept.setCell ?_ (.inr GW188.out) _) | exact HK.out)⟩⟩
 rw [if_pos c52] at H
 have c52b0 : (a1_0 == 3) = true := beq_iff_eq.mpr c52
 have c52b1 : (a1_0 != 3) = false := bne_eq_false_iff_eq.mpr c52
 clear c52
 replace H := Option.bind_eq_some_iff.mp H
 obtain ⟨⟨t194, t197⟩, A530, H⟩ := H
 replace H : (some (t194, l0_1)) = some (r1, r2) := H
 have A53 := am A530
 clear A530
 simp only [Option.some.injEq, Prod.mk.injEq] at H
 obtain ⟨rfl, rfl⟩ := H
 obtain ⟨Ao54, co54, eo54⟩ := Kd.S_slice HO0_0.out
 subst eo54
 obtain ⟨Ao55, co55, eo55⟩ := Kd.R_slice HO0_1.out
 subst eo55
 go_enter Try.func57, Try.ntmps57
 go_wp2_with (first | (refine bx 3 #[.slice Ao54 l0_0.length co54, .slice Ao55 l0_1.length co55] 70 rfl ?_; intro gb186 hg w56 hbox hb; replace HO0_0 := am (Kd.S_below (ps HO0_0.out) hb); replace HO0_1 := am (Kd.R_below (pr HO0_1.out) hb); have BK186 := am (hbox); have GW186 := am ((by rw [hg]; exact (by first | exact HK.out.1 | exact (show Kept w _ (fun k_ => P0_0_ k_ ∨ P0_1_ k_) from pk HK.out).1) : w.heap.size ≤ gb186)); replace HK := am (Kept.below (S := (fun k_ => P0_0_ k_ ∨ P0_1_ k_)) (pk HK.out) hb); have GE186 := am ((by rw [hg]; exact (below_size (ph HB.out)) : w0.heap.size ≤ gb186)); replace HB := am (below_step (ph HB.out) hb); clear hb hbox hg) | (refine bx 4 #[.int .i64 a1_0, .int .i64 a1_1, .int .i64 a1_2, .int .i64 a1_3, .int .i64 a1_4, .int .i64 a1_5, .int .i64 a1_6, .int .i64 a1_7] 98 rfl ?_; intro gb187 hg w57 hbox hb; replace HO0_0 := am (Kd.S_below (ps HO0_0.out) hb); replace HO0_1 := am (Kd.R_below (pr HO0_1.out) hb); have BK187 := am (hbox); have GW187 := am ((by rw [hg]; exact (by first | exact HK.out.1 | exact (show Kept w _ (fun k_ => P0_0_ k_ ∨ P0_1_ k_) from by repeat (first | (with_reducible first | exact HK.out | apply Kept.alloc | apply Kept.drewN | apply Kept.drew | refine Kept.setCell ?_ (.inr GW186.out) _) | exact HK.out)).1) : w.heap.size ≤ gb187)); replace HK := am (Kept.below (S := (fun k_ => P0_0_ k_ ∨ P0_1_ k_)) (by repeat (first | (with_reducible first | exact HK.out | apply Kept.alloc | apply Kept.drewN | apply Kept.drew | refine Kept.setCell ?_ (.inr GW186.out) _) | exact HK.out)) hb); have GE187 := am ((by rw [hg]; exact (below_size (bg1 HB.out GE186.out)) : w0.heap.size ≤ gb187)); replace HB := am (below_step (bg1 HB.out GE186.out) hb); have NB186_187 := am ((by rw [hg]; exact Nat.ne_of_lt (blk_lt (pb BK186.out)) : gb186 ≠ gb187)); have NB187_186 := am (Ne.symm NB186_187.out); replace BK186 := am (blk_below (pb BK186.out) hb); clear hb hbox hg) | (refine bx 6 #[.slice none 0 0, .slice none 0 0] 70 rfl ?_; intro gb188 hg w58 hbox hb; replace HO0_0 := am (Kd.S_below (ps HO0_0.out) hb); replace HO0_1 := am (Kd.R_below (pr HO0_1.out) hb); have BK188 := am (hbox); have GW188 := am ((by rw [hg]; exact (by first | exact HK.out.1 | exact (show Kept w _ (fun k_ => P0_0_ k_ ∨ P0_1_ k_) from by repeat (first | (with_reducible first | exact HK.out | apply Kept.alloc | apply Kept.drewN | apply Kept.drew | refine Kept.setCell ?_ (.inr GW186.out) _ | refine Kept.setCell ?_ (.inr GW187.out) _) | exact HK.out)).1) : w.heap.size ≤ gb188)); replace HK := am (Kept.below (S := (fun k_ => P0_0_ k_ ∨ P0_1_ k_)) (by repeat (first | (with_reducible first | exact HK.out | apply Kept.alloc | apply Kept.drewN | apply Kept.drew | refine Kept.setCell ?_ (.inr GW186.out) _ | refine Kept.setCell ?_ (.inr GW187.out) _) | exact HK.out)) hb); have GE188 := am ((by rw [hg]; exact (below_size (bg2 HB.out GE186.out GE187.out)) : w0.heap.size ≤ gb188)); replace HB := am (below_step (bg2 HB.out GE186.out GE187.out) hb); have NB186_188 := am ((by rw [hg]; exact Nat.ne_of_lt (blk_lt (pb BK186.out)) : gb186 ≠ gb188)); have NB188_186 := am (Ne.symm NB186_188.out); replace BK186 := am (blk_below (pb BK186.out) hb); have NB187_188 := am ((by rw [hg]; exact Nat.ne_of_lt (blk_lt (pb BK187.out)) : gb187 ≠ gb188)); have NB188_187 := am (Ne.symm NB187_188.out); replace BK187 := am (blk_below (pb BK187.out) hb); clear hb hbox hg; have hnb59 := NB187_186.out; have hnc59 := NB186_187.out; have hnb60 := NB187_188.out; have hnc60 := NB188_187.out; obtain ⟨hcz61_0, hcz61_1, hcz61_2, hcz61_3, hcz61_4, hcz61_5, hcz61_6, hcz61_7⟩ := b8 BK187.out; obtain ⟨hfz61_0, hfz61_1, hfz61_2, hfz61_3, hfz61_4, hfz61_5, hfz61_6, hfz61_7⟩ := f8 BK187.out; have hnb62 := NB186_188.out; have hnc62 := NB188_186.out; obtain ⟨hcz63_0, hcz63_1⟩ := b2 BK186.out; obtain ⟨hfz63_0, hfz63_1⟩ := f2 BK186.out; obtain ⟨PXh64, hxa_, hxb_⟩ := Kd.S_hand HO0_0.out; have HXAh64 := am hxa_; have HXBh64 := am hxb_; clear hxa_ hxb_) | (refine gl 43 Try.func63 #[.slice Ao54 l0_0.length co54, .int .i64 a1_3, .agg #[.int .i64 a1_4, .int .i64 a1_5, .int .i64 a1_6, .int .i64 a1_7], .bool a2] rfl ?_; (with_reducible refine (spec_l2Write.calls k PXh64 (.slice Ao54 l0_0.length co54) l0_0 a1_3 a1_4 a1_5 a1_6 a1_7 a2 t194 t197 w0 _ ?side1 ?side2 A53.out).mono ?_); (case side1 => repeat (first | (with_reducible first | exact HB.out | apply below_alloc | apply pw_below_drewN | apply below_drew1 | refine below_set ?_ GE186.out | refine below_set ?_ GE187.out | refine below_set ?_ GE188.out) | exact HB.out)); (case side2 => exact (ps HXAh64.out)); rintro e w65 ⟨v195, rfl, ho0, hb, hkp⟩; refine ⟨_, rfl, ?_⟩; replace HO0_1 := am (Kd.R_mono (ok' := fun k_ => ((P0_0_ k_ ∨ P0_1_ k_) ∨ w.heap.size ≤ k_)) (Kd.R_keptB ((Kd.R_awayP HO0_1.out (fun k_ h_ => (HXBh64.out k_ h_).2.2.2) (by decide))) hkp (fun k_ hk_ hs_ => (hk_.2) hs_)) (fun k_ hk_ => hk_.1.1)); replace BK186 := am (blk_kept (pb BK186.out) hkp (fun hs_ => (fun e_ => Kd.blk_awayP (fun k_ h_ => (HXBh64.out k_ h_).2.2.2) BK186.out (by decide) e_) hs_)); replace BK187 := am (blk_kept (pb BK187.out) hkp (fun hs_ => (fun e_ => Kd.blk_awayP (fun k_ h_ => (HXBh64.out k_ h_).2.2.2) BK187.out (by decide) e_) hs_)); replace BK188 := am (blk_kept (pb BK188.out) hkp (fun hs_ => (fun e_ => Kd.blk_awayP (fun k_ h_ => (HXBh64.out k_ h_).2.2.2) BK188.out (by decide) e_) hs_)); have HO196 := am (Kd.S_mono (ok' := fun k_ => ((P0_0_ k_ ∨ P0_1_ k_) ∨ w.heap.size ≤ k_)) ho0 (fun k_ hk_ => Or.elim hk_ (fun hs_ => (HXBh64.out k_ hs_).1) (fun hn_ => (.inr (Nat.le_trans (by first | exact HK.out.1 | exact (show Kept w _ (fun k_ => P0_0_ k_ ∨ P0_1_ k_) from by repeat (first | (with_reducible first | exact HK.out | apply Kept.alloc | apply Kept.drewN | apply Kept.drew | refine Kept.setCell ?_ (.inr GW186.out) _ | refine Kept.setCell ?_ (.inr GW187.out) _ | refine Kept.setCell ?_ (.inr GW188.out) _) | exact HK.out)).1) hn_))))); replace HK := am (Kept.then_ (S := (fun k_ => P0_0_ k_ ∨ P0_1_ k_)) (by repeat (first | (with_reducible first | exact HK.out | apply Kept.alloc | apply Kept.drewN | apply Kept.drew | refine Kept.setCell ?_ (.inr GW186.out) _ | refine Kept.setCell ?_ (.inr GW187.out) _ | refine Kept.setCell ?_ (.inr GW188.out) _) | exact HK.out)) hkp (fun k_ hs_ => (fun e_ => (HXBh64.out k_ e_).1) hs_)); replace HB := am (hb); clear HO0_0; (try clear hb); (try clear hkp); (try clear ho0); obtain ⟨Ao66, co66, eo66⟩ := Kd.S_slice HO196.out; subst eo66; obtain ⟨hcz67_0, hcz67_1⟩ := b2 BK186.out; obtain ⟨hfz67_0, hfz67_1⟩ := f2 BK186.out; obtain ⟨hcz68_0, hcz68_1⟩ := b2 BK188.out; obtain ⟨hfz68_0, hfz68_1⟩ := f2 BK188.out))
 refine bodyPost_ret (results_cell_row rfl _ _ gb188 70 #[.slice Ao66 t194.length co66, .slice Ao55 l0_1.length co55] (0, 0) _ rfl (by (with_reducible repeat (first | refine blk_drewN ?_ _ | refine blk_drew ?_ | refine blk_alloc ?_ _)); refine blk_put (cs := #[.slice Ao66 t194.length co66, .slice none 0 0]) ?_ 1 _ rfl; (with_reducible repeat (first | refine blk_drewN ?_ _ | refine blk_drew ?_ | refine blk_alloc ?_ _)); refine blk_put (cs := #[.slice none 0 0, .slice none 0 0]) ?_ 0 _ rfl; (with_reducible repeat (first | refine blk_drewN ?_ _ | refine blk_drew ?_ | refine blk_alloc ?_ _)); refine blk_far ?_ NB188_186.out _; (with_reducible repeat (first | refine blk_drewN ?_ _ | refine blk_drew ?_ | refine blk_alloc ?_ _)); exact BK188.out) Try.underlying70 rfl (by kernel_rfl)) rfl ?_
 exact ⟨_, _, rq ⟨by (with_reducible repeat (first | apply Kd.S_alloc | apply Kd.S_drewN | apply Kd.S_drew)); exact Kd.S_mono (Kd.S_far (p := ⟨gb188, 1, none⟩) (Kd.S_far (p := ⟨gb188, 0, none⟩) (Kd.S_far (p := ⟨gb186, 0, none⟩) (Kd.S_types (Kd.S_types HO196.out BK186.out (by decide)) BK188.out (by decide)) (fun _ hk => hk.1.2) (.slice Ao66 t194.length co66)) (fun _ hk => hk.2) (.slice Ao66 t194.length co66)) (fun _ hk => hk.2) (.slice Ao55 l0_1.length co55)) (fun _ hk => hk.1.1), by (with_reducible repeat (first | apply Kd.R_alloc | apply Kd.R_drewN | apply Kd.R_drew)); exact Kd.R_mono (Kd.R_far (p := ⟨gb188, 1, none⟩) (Kd.R_far (p := ⟨gb188, 0, none⟩) (Kd.R_far (p := ⟨gb186, 0, none⟩) (Kd.R_types (Kd.R_types HO0_1.out BK186.out (by decide)) BK188.out (by decide)) (fun _ hk => hk.1.2) (.slice Ao66 t194.length co66)) (fun _ hk => hk.2) (.slice Ao66 t194.length co66)) (fun _ hk => hk.2) (.slice Ao55 l0_1.length co55)) (fun _ hk => hk.1.1), bg3 HB.out GE186.out GE187.out GE188.out, by repeat (first | (with_reducible first | exact HK.out | apply Kept.alloc | apply Kept.drewN | apply Kept.drew | refine Kept.setCell ?_ (.inr GW186.out) _ | refine Kept.setCell ?_ (.inr GW187.out) _ | refine Kept.setCell ?_ (.inr GW188.out) _) | exact HK.out)⟩⟩
mutual
def spec_l12To.j1 : Nat → List (S98) → Int → Bool → List (S28) → List Int → Option ((List (S28)) × List Int)
 | 0, _, _, _, _, _ => none
 | k + 1, x1, x2, x3, x199000, x199001 => if x3 = true then ((spec_l6In.f x2 0 (wrap64 ((x1.length : Int) - 1))).bind fun t207 => (if t207 = true then (if 0 ≤ x2 then (if x2 < (x1.length : Int) then ((spec_l12Do.f k x199000 x199001 ((rd_T98 x1 x2).f0) ((rd_T98 x1 x2).f1) ((rd_T98 x1 x2).f2) ((rd_T98 x1 x2).f3) ((rd_T98 x1 x2).f4.f0) ((rd_T98 x1 x2).f4.f1) ((rd_T98 x1 x2).f4.f2) ((rd_T98 x1 x2).f4.f3) true).bind fun bt209 => (some (bt209.1, bt209.2))) else (none)) else (none)) else (some (x199000, x199001)))) else (some (x199000, x199001))
def spec_l12To.l0 : Nat → List (S98) → Int → Bool → Int → List (S28) → List Int → Option ((List (S28)) × List Int)
 | 0, _, _, _, _, _, _ => none
 | k + 1, x1, x2, x3, x9, x199000, x199001 => if x9 < (x1.length : Int) then (if x9 < x2 then (if 0 ≤ x9 then ((spec_l12Do.f k x199000 x199001 ((rd_T98 x1 x9).f0) ((rd_T98 x1 x9).f1) ((rd_T98 x1 x9).f2) ((rd_T98 x1 x9).f3) ((rd_T98 x1 x9).f4.f0) ((rd_T98 x1 x9).f4.f1) ((rd_T98 x1 x9).f4.f2) ((rd_T98 x1 x9).f4.f3) false).bind fun bt201 => (spec_l12To.l0 k x1 x2 x3 (wrap64 (x9 + 1)) bt201.1 bt201.2)) else (none)) else (spec_l12To.j1 k x1 x2 x3 x199000 x199001)) else (spec_l12To.j1 k x1 x2 x3 x199000 x199001)
end
def spec_l12To.f (k : Nat) (l0_0 : List (S28)) (l0_1 : List Int) (l1 : List (S98)) (a2 : Int) (a3 : Bool) : Option ((List (S28)) × List Int) := spec_l12To.l0 k l1 a2 a3 0 l0_0 l0_1
theorem spec_l12To.mono_l : ∀ k, (∀ y0 y1 y2 y3 y4, LeO (spec_l12To.j1 k y0 y1 y2 y3 y4) (spec_l12To.j1 (k + 1) y0 y1 y2 y3 y4)) ∧ (∀ y0 y1 y2 y3 y4 y5, LeO (spec_l12To.l0 k y0 y1 y2 y3 y4 y5) (spec_l12To.l0 (k + 1) y0 y1 y2 y3 y4 y5))
 | 0 => ⟨fun _ _ _ _ _ r h => by simp [spec_l12To.j1] at h, fun _ _ _ _ _ _ r h => by simp [spec_l12To.l0] at h⟩
 | k + 1 => by
  obtain ⟨ih0, ih1⟩ := spec_l12To.mono_l k
  refine ⟨?_, ?_⟩
  · intro y0 y1 y2 y3 y4
    unfold spec_l12To.j1
    repeat' first
    | (with_reducible exact ih0 _ _ _ _ _)
    | (with_reducible exact ih1 _ _ _ _ _ _)
    | (with_reducible exact spec_l12Do.mono _ _ _ _ _ _ _ _ _ _ _ _)
    | (with_reducible exact LeO.refl _)
    | (with_reducible exact LeO.none _)
    | (with_reducible refine LeO.ite ?_ ?_)
    | (with_reducible refine LeO.bind ?_ (fun _ => ?_))
    | exact ih0 _ _ _ _ _
    | exact ih1 _ _ _ _ _ _
    | exact spec_l12Do.mono _ _ _ _ _ _ _ _ _ _ _ _
    | exact LeO.none _
    | refine LeO.ite ?_ ?_
    | refine LeO.bind ?_ (fun _ => ?_)
  · intro y0 y1 y2 y3 y4 y5
    unfold spec_l12To.l0
    repeat' first
    | (with_reducible exact ih0 _ _ _ _ _)
    | (with_reducible exact ih1 _ _ _ _ _ _)
    | (with_reducible exact spec_l12Do.mono _ _ _ _ _ _ _ _ _ _ _ _)
    | (with_reducible exact LeO.refl _)
    | (with_reducible exact LeO.none _)
    | (with_reducible refine LeO.ite ?_ ?_)
    | (with_reducible refine LeO.bind ?_ (fun _ => ?_))
    | exact ih0 _ _ _ _ _
    | exact ih1 _ _ _ _ _ _
    | exact spec_l12Do.mono _ _ _ _ _ _ _ _ _ _ _ _
    | exact LeO.none _
    | refine LeO.ite ?_ ?_
    | refine LeO.bind ?_ (fun _ => ?_)
theorem spec_l12To.mono : ∀ a0 a1 a2 a3 a4 k, LeO (spec_l12To.f k a0 a1 a2 a3 a4) (spec_l12To.f (k + 1) a0 a1 a2 a3 a4) := by
 intro a0 a1 a2 a3 a4 k
 obtain ⟨ih0, ih1⟩ := spec_l12To.mono_l k
 unfold spec_l12To.f
 repeat' first
  | (with_reducible exact ih0 _ _ _ _ _)
  | (with_reducible exact ih1 _ _ _ _ _ _)
  | (with_reducible exact spec_l12Do.mono _ _ _ _ _ _ _ _ _ _ _ _)
  | (with_reducible exact LeO.refl _)
  | (with_reducible exact LeO.none _)
  | (with_reducible refine LeO.ite ?_ ?_)
  | (with_reducible refine LeO.bind ?_ (fun _ => ?_))
  | exact ih0 _ _ _ _ _
  | exact ih1 _ _ _ _ _ _
  | exact spec_l12Do.mono _ _ _ _ _ _ _ _ _ _ _ _
  | exact LeO.none _
  | refine LeO.ite ?_ ?_
  | refine LeO.bind ?_ (fun _ => ?_)
set_option maxHeartbeats 8000000 in
set_option maxRecDepth 100000 in
theorem spec_l12To.calls (k : Nat) (P0_0_ : Nat → Prop) (u9000_ : Value) (l0_0 : List (S28)) (P0_1_ : Nat → Prop) (u9001_ : Value) (l0_1 : List Int) (A1 : Option Addr) (c1 : Nat) (l1 : List (S98)) (a2 : Int) (a3 : Bool) (r1 : List (S28)) (r2 : List Int) (w0 w : World) (hB : Below w0.heap.size w0 w) (ho0_0 : Kd.S k28 28 w w0.heap.size P0_0_ u9000_ l0_0) (ho0_1 : Kd.R (Kd.int .i64) 3 w w0.heap.size P0_1_ u9001_ l0_1) (hr1 : ∀ W_, Kept w W_ (fun k_ => P0_0_ k_ ∨ P0_1_ k_) → Kd.C k98 W_ A1 l1.length l1) (hc1 : l1.length ≤ c1) (h : spec_l12To.f k l0_0 l0_1 l1 a2 a3 = some (r1, r2)) :
 Calls Try.prog 54 #[.agg #[u9000_, u9001_], .slice A1 l1.length c1, .int .i64 a2, .bool a3] w fun e w' => ∃ v0_ v1_ : Value, e = .returned (.agg #[v0_, v1_]) ∧ Kd.S k28 28 w' w0.heap.size (fun k_ => ((P0_0_ k_ ∨ P0_1_ k_) ∨ w.heap.size ≤ k_)) v0_ r1 ∧ Kd.R (Kd.int .i64) 3 w' w0.heap.size (fun k_ => ((P0_0_ k_ ∨ P0_1_ k_) ∨ w.heap.size ≤ k_)) v1_ r2 ∧ Below w0.heap.size w0 w' ∧ Kept w w' (fun k_ => P0_0_ k_ ∨ P0_1_ k_) := by
 have hu70 := Try.underlying70
 have hu98 := Try.underlying98
 have HO0_0 := am (show Kd.S k28 28 w w0.heap.size (fun k_ => ((P0_0_ k_ ∨ P0_1_ k_) ∨ w.heap.size ≤ k_)) u9000_ l0_0 from Kd.S_mono ho0_0 (fun k_ hk => (.inl (.inl hk))))
 have HO0_1 := am (show Kd.R (Kd.int .i64) 3 w w0.heap.size (fun k_ => ((P0_0_ k_ ∨ P0_1_ k_) ∨ w.heap.size ≤ k_)) u9001_ l0_1 from Kd.R_mono ho0_1 (fun k_ hk => (.inl (.inr hk))))
 have HR1 := am hr1
 have HC1 := am hc1
 clear hr1 hc1
 have HK := am (Kept.refl w (fun k_ => P0_0_ k_ ∨ P0_1_ k_))
 have HW0 := am hB.size
 have HB := am hB
 clear hB
 have H : (spec_l12To.l0 k l1 a2 a3 0 l0_0 l0_1) = some (r1, r2) := h
 clear h
 have HC5 := am H
 clear H
 obtain ⟨Ao6, co6, eo6⟩ := Kd.S_slice HO0_0.out
 subst eo6
 obtain ⟨Ao7, co7, eo7⟩ := Kd.R_slice HO0_1.out
 subst eo7
 go_enter Try.func54, Try.ntmps54
 go_upto_block 0 with (first | ((with_reducible refine gate_dst (N := 4) rfl ?_); (try (refine gate_guard (by rfl) ?_; dsimp only)); refine box_event ?hg (N := 4) ?hd (cs := #[.slice Ao6 l0_0.length co6, .slice Ao7 l0_1.length co7]) (t := 70) ?hr ?_; (case hd => rfl); (case hg => rfl); (case hr => first | (go_simp; done) | (go_simp; rfl)); intro gb198 hg w8 hbox hb; replace HO0_0 := am (Kd.S_below (ps HO0_0.out) hb); replace HO0_1 := am (Kd.R_below (pr HO0_1.out) hb); have BK198 := am (hbox); have GW198 := am ((by rw [hg]; exact (by first | exact HK.out.1 | exact (show Kept w _ (fun k_ => P0_0_ k_ ∨ P0_1_ k_) from pk HK.out).1) : w.heap.size ≤ gb198)); replace HK := am (Kept.below (S := (fun k_ => P0_0_ k_ ∨ P0_1_ k_)) (pk HK.out) hb); have GE198 := am ((by rw [hg]; exact (below_size (ph HB.out)) : w0.heap.size ≤ gb198)); replace HB := am (below_step (ph HB.out) hb); clear hb hbox hg) | ((with_reducible refine gate_dst (N := 8) rfl ?_); (try (refine gate_guard (by rfl) ?_; dsimp only)); refine box_event ?hg (N := 8) ?hd (cs := #[.slice none 0 0, .slice none 0 0]) (t := 70) ?hr ?_; (case hd => rfl); (case hg => rfl); (case hr => first | (go_simp; done) | (go_simp; rfl)); intro gb199 hg w9 hbox hb; replace HO0_0 := am (Kd.S_below (ps HO0_0.out) hb); replace HO0_1 := am (Kd.R_below (pr HO0_1.out) hb); have BK199 := am (hbox); have GW199 := am ((by rw [hg]; exact (by first | exact HK.out.1 | exact (show Kept w _ (fun k_ => P0_0_ k_ ∨ P0_1_ k_) from by repeat (first | (with_reducible first | exact HK.out | apply Kept.alloc | apply Kept.drewN | apply Kept.drew | refine Kept.setCell ?_ (.inr GW198.out) _) | exact HK.out)).1) : w.heap.size ≤ gb199)); replace HK := am (Kept.below (S := (fun k_ => P0_0_ k_ ∨ P0_1_ k_)) (by repeat (first | (with_reducible first | exact HK.out | apply Kept.alloc | apply Kept.drewN | apply Kept.drew | refine Kept.setCell ?_ (.inr GW198.out) _) | exact HK.out)) hb); have GE199 := am ((by rw [hg]; exact (below_size (bg1 HB.out GE198.out)) : w0.heap.size ≤ gb199)); replace HB := am (below_step (bg1 HB.out GE198.out) hb); have NB198_199 := am ((by rw [hg]; exact Nat.ne_of_lt (blk_lt (pb BK198.out)) : gb198 ≠ gb199)); have NB199_198 := am (Ne.symm NB198_199.out); replace BK198 := am (blk_below (pb BK198.out) hb); clear hb hbox hg))
 (try simp only [Act.put, List.setIfInBounds_toArray, List.set_cons_zero, List.set_cons_succ])
 go_cut [] (fun wc => ∃ (kq : Nat) (x199000_4 : List (S28)) (x199001_4 : List Int) (u199000 : Value) (u199001 : Value), Aside0 (spec_l12To.j1 kq l1 a2 a3 x199000_4 x199001_4 = some (r1, r2)) ∧ Aside0 (kq ≤ k) ∧ Aside0 (Kd.S k28 28 wc w0.heap.size (fun k_ => ((P0_0_ k_ ∨ P0_1_ k_) ∨ w.heap.size ≤ k_)) u199000 x199000_4) ∧ Aside0 (Kd.R (Kd.int .i64) 3 wc w0.heap.size (fun k_ => ((P0_0_ k_ ∨ P0_1_ k_) ∨ w.heap.size ≤ k_)) u199001 x199001_4) ∧ Aside0 (wc.heap[gb198]? = some (.cells #[u199000, u199001] 70 (0, 0))) ∧ Aside0 (wc.heap[gb199]? = some (.cells #[(.slice none 0 0), (.slice none 0 0)] 70 (0, 0))) ∧ Aside0 (Kept w wc (fun k_ => P0_0_ k_ ∨ P0_1_ k_)) ∧ Aside0 (Below w0.heap.size w0 wc))
 case first =>
  have H := HC5.out
  clear HC5
  have H' := am H
  clear H
  go_wp2
  go_loopg [9] k (fun kq v9 w' => ∃ (x9_1 : Int) (x199000_1 : List (S28)) (x199001_1 : List Int) (u199000 : Value) (u199001 : Value), v9 = .int .i64 x9_1 ∧ Aside0 (spec_l12To.l0 kq l1 a2 a3 x9_1 x199000_1 x199001_1 = some (r1, r2)) ∧ Aside0 (kq ≤ k) ∧ Aside0 (Kd.S k28 28 w' w0.heap.size (fun k_ => ((P0_0_ k_ ∨ P0_1_ k_) ∨ w.heap.size ≤ k_)) u199000 x199000_1) ∧ Aside0 (Kd.R (Kd.int .i64) 3 w' w0.heap.size (fun k_ => ((P0_0_ k_ ∨ P0_1_ k_) ∨ w.heap.size ≤ k_)) u199001 x199001_1) ∧ Aside0 (w'.heap[gb198]? = some (.cells #[u199000, u199001] 70 (0, 0))) ∧ Aside0 (w'.heap[gb199]? = some (.cells #[(.slice none 0 0), (.slice none 0 0)] 70 (0, 0))) ∧ Aside0 (Kept w w' (fun k_ => P0_0_ k_ ∨ P0_1_ k_)) ∧ Aside0 (Below w0.heap.size w0 w'))
  case atStart => exact ⟨(0), (l0_0), (l0_1), (.slice Ao6 l0_0.length co6), (.slice Ao7 l0_1.length co7), rf, H', ⟨Nat.le_refl _⟩, ⟨ps HO0_0.out⟩, ⟨pr HO0_1.out⟩, ⟨pb BK198.out⟩, ⟨pb BK199.out⟩, ⟨by repeat (first | (with_reducible first | exact HK.out | apply Kept.alloc | apply Kept.drewN | apply Kept.drew | refine Kept.setCell ?_ (.inr GW198.out) _ | refine Kept.setCell ?_ (.inr GW199.out) _) | exact HK.out)⟩, ⟨bg2 HB.out GE198.out GE199.out⟩⟩
  case round =>
   clear H'
   obtain ⟨x9_1, x199000_1, x199001_1, u199000, u199001, rfl, HA, HK1, HO_199000, HO_199001, BK198, BK199, HK, HB⟩ := hrel
   cases gk with
   | zero => exact absurd HA.out (by simp [spec_l12To.l0])
   | succ k1 =>
    have H := HA.out
    clear HA
    simp only [spec_l12To.l0] at H
    by_cases c10 : x9_1 < (l1.length : Int)
    rotate_left
    · rw [if_neg c10] at H
      have c10b0 := decide_eq_false c10
      clear c10
      (first | rw [c10b0] | (simp only [i64_w, i32_w]; rw [c10b0]) | skip)
      have H' := am H
      clear H
      go_wp2
      go_meet
      case rel => exact ⟨_, (x199000_1), (x199001_1), (u199000), (u199001), H', ⟨by have := HK1.out; first | omega | exact Nat.le_refl _⟩, ⟨ps HO_199000.out⟩, ⟨pr HO_199001.out⟩, ⟨pb BK198.out⟩, ⟨pb BK199.out⟩, ⟨by repeat (first | (with_reducible first | exact HK.out | apply Kept.alloc | apply Kept.drewN | apply Kept.drew | refine Kept.setCell ?_ (.inr GW198.out) _ | refine Kept.setCell ?_ (.inr GW199.out) _) | exact HK.out)⟩, ⟨bg2 HB.out GE198.out GE199.out⟩⟩
    rw [if_pos c10] at H
    have c10b0 := decide_eq_true c10
    clear c10
    (first | rw [c10b0] | (simp only [i64_w, i32_w]; rw [c10b0]) | skip)
    by_cases c11 : x9_1 < a2
    rotate_left
    · rw [if_neg c11] at H
      have c11b0 := decide_eq_false c11
      clear c11
      have H' := am H
      clear H
      go_wp2
      go_meet
      case rel => exact ⟨_, (x199000_1), (x199001_1), (u199000), (u199001), H', ⟨by have := HK1.out; first | omega | exact Nat.le_refl _⟩, ⟨ps HO_199000.out⟩, ⟨pr HO_199001.out⟩, ⟨pb BK198.out⟩, ⟨pb BK199.out⟩, ⟨by repeat (first | (with_reducible first | exact HK.out | apply Kept.alloc | apply Kept.drewN | apply Kept.drew | refine Kept.setCell ?_ (.inr GW198.out) _ | refine Kept.setCell ?_ (.inr GW199.out) _) | exact HK.out)⟩, ⟨bg2 HB.out GE198.out GE199.out⟩⟩
    rw [if_pos c11] at H
    have c11b0 := decide_eq_true c11
    clear c11
    by_cases c12 : 0 ≤ x9_1
    rotate_left
    · rw [if_neg c12] at H
      exact absurd H (by simp)
    rw [if_pos c12] at H
    have c12b0 := decide_eq_true c12
    clear c12
    replace H := Option.bind_eq_some_iff.mp H
    obtain ⟨⟨t201, t204⟩, A130, H⟩ := H
    replace H : (spec_l12To.l0 k1 l1 a2 a3 (wrap64 (x9_1 + 1)) t201 t204) = some (r1, r2) := H
    have A13 := am A130
    clear A130
    have H' := am H
    clear H
    try go_wp2
    replace HO_199000 := am (Kd.S_drew HO_199000.out)
    replace HO_199001 := am (Kd.R_drew HO_199001.out)
    replace BK198 := am (blk_drew BK198.out)
    replace BK199 := am (blk_drew BK199.out)
    replace HK := am (Kept.drew HK.out)
    replace HB := am (below_drew1 HB.out)
    have p200 : 0 ≤ (x9_1 : Int) := ofb
    have q200 : x9_1 < (l1.length : Int) := ofb
    obtain ⟨ad200, e200, hx200_0, hx200_1, hx200_2, hx200_3, hx200_4, hx200_5, hx200_6, hx200_7⟩ := at_T98 (Kd.C_kept_now HR1.out HK.out) x9_1 p200 q200
    have hw200_7 := hx200_7
    have hw200_6 := hx200_6
    have hw200_5 := hx200_5
    have hw200_4 := hx200_4
    have hw200_3 := hx200_3
    have hw200_2 := hx200_2
    have hw200_1 := hx200_1
    have hw200_0 := hx200_0
    cases e200
    replace p200 := eq_true p200
    replace q200 := eq_true q200
    obtain ⟨Ao15, co15, eo15⟩ := Kd.S_slice HO_199000.out
    (first | subst eo15 | (injection eo15 with f1_ f2_ f3_; have f4_ := f1_.symm; have f5_ := f3_.symm; clear f1_ f2_ f3_; subst f4_; subst f5_))
    obtain ⟨Ao16, co16, eo16⟩ := Kd.R_slice HO_199001.out
    (first | subst eo16 | (injection eo16 with f1_ f2_ f3_; have f4_ := f1_.symm; have f5_ := f3_.symm; clear f1_ f2_ f3_; subst f4_; subst f5_))
    obtain ⟨PXh17, hxa_, hxb_⟩ := Kd.S_hand HO_199000.out
    have HXAh17 := am hxa_
    have HXBh17 := am hxb_
    clear hxa_ hxb_
    refine start_ (n := 7) (S := fun w' => w'.cell? ⟨gb198, 0, none⟩ = some (.slice Ao15 x199000_1.length co15) ∧ w'.cell? ⟨gb198, 1, none⟩ = some (.slice Ao16 x199001_1.length co16) ∧ w'.cell? (ad200.add ((x9_1).toNat * 8)) = some (.int .i64 ((rd_T98 l1 x9_1).f0)) ∧ w'.cell? ⟨(ad200.add ((x9_1).toNat * 8)).block, (ad200.add ((x9_1).toNat * 8)).off + 1, none⟩ = some (.int .i64 ((rd_T98 l1 x9_1).f1)) ∧ w'.cell? ⟨(ad200.add ((x9_1).toNat * 8)).block, (ad200.add ((x9_1).toNat * 8)).off + 2, none⟩ = some (.int .i64 ((rd_T98 l1 x9_1).f2)) ∧ w'.cell? ⟨(ad200.add ((x9_1).toNat * 8)).block, (ad200.add ((x9_1).toNat * 8)).off + 3, none⟩ = some (.int .i64 ((rd_T98 l1 x9_1).f3)) ∧ w'.cell? ⟨(ad200.add ((x9_1).toNat * 8)).block, (ad200.add ((x9_1).toNat * 8)).off + 4, none⟩ = some (.int .i64 ((rd_T98 l1 x9_1).f4.f0)) ∧ w'.cell? ⟨(ad200.add ((x9_1).toNat * 8)).block, (ad200.add ((x9_1).toNat * 8)).off + 5, none⟩ = some (.int .i64 ((rd_T98 l1 x9_1).f4.f1)) ∧ w'.cell? ⟨(ad200.add ((x9_1).toNat * 8)).block, (ad200.add ((x9_1).toNat * 8)).off + 6, none⟩ = some (.int .i64 ((rd_T98 l1 x9_1).f4.f2)) ∧ w'.cell? ⟨(ad200.add ((x9_1).toNat * 8)).block, (ad200.add ((x9_1).toNat * 8)).off + 7, none⟩ = some (.int .i64 ((rd_T98 l1 x9_1).f4.f3))) (ds := [5, 6]) #[false, false, false, false, false, false, false] (by kernel_rfl) rfl rfl ⟨(blk_cell BK198.out 0).trans rfl, (blk_cell BK198.out 1).trans rfl, hx200_0, hx200_1, hx200_2, hx200_3, hx200_4, hx200_5, hx200_6, hx200_7⟩ (fun hHeld => ?_)
    generalize wr.drew = w14 at HO_199000 HO_199001 BK198 BK199 HK HB HXAh17 HXBh17 hx200_0 hx200_1 hx200_2 hx200_3 hx200_4 hx200_5 hx200_6 hx200_7 hHeld ⊢
    refine pi_ 1 22 #[false, true, false, false, false, false, false] rfl rfl (fun _ _ _ h => h) ?_
    refine pi_ 2 23 #[false, true, true, false, false, false, false] rfl rfl (fun _ _ _ h => h) ?_
    refine pi_ 3 24 #[false, true, true, true, false, false, false] rfl rfl (fun _ _ _ h => h) ?_
    refine pm_ 0 21 #[true, true, true, true, false, false, false] rfl rfl (by kernel_rfl) (fun _ _ _ h => h) hHeld ?_
    refine pm_ 4 25 #[true, true, true, true, true, false, false] rfl rfl (by kernel_rfl) (fun _ _ _ h => h) hHeld ?_
    refine last_ (i := 5) (N := some 26) #[true, true, true, true, true, true, false] rfl rfl (by kernel_rfl) (by decide) (fun K hK => ?_)
    refine goes_ Try.func57 (by kernel_rfl) rfl #[.agg #[.slice Ao15 x199000_1.length co15, .slice Ao16 x199001_1.length co16], .agg #[.int .i64 ((rd_T98 l1 x9_1).f0), .int .i64 ((rd_T98 l1 x9_1).f1), .int .i64 ((rd_T98 l1 x9_1).f2), .int .i64 ((rd_T98 l1 x9_1).f3), .int .i64 ((rd_T98 l1 x9_1).f4.f0), .int .i64 ((rd_T98 l1 x9_1).f4.f1), .int .i64 ((rd_T98 l1 x9_1).f4.f2), .int .i64 ((rd_T98 l1 x9_1).f4.f3)], .bool false] (by rfl) rfl rfl (by (try simp only [List.map_toArray, List.map_cons, List.map_nil]); first | done | rfl | (simp only [List.length_drop, List.length_take]; rfl)) ?_
    with_reducible refine (spec_l12Do.calls k1 PXh17 (.slice Ao15 x199000_1.length co15) x199000_1 (fun k_ => some k_ = (.slice Ao16 x199001_1.length co16 : Value).ownBlock) (.slice Ao16 x199001_1.length co16) x199001_1 ((rd_T98 l1 x9_1).f0) ((rd_T98 l1 x9_1).f1) ((rd_T98 l1 x9_1).f2) ((rd_T98 l1 x9_1).f3) ((rd_T98 l1 x9_1).f4.f0) ((rd_T98 l1 x9_1).f4.f1) ((rd_T98 l1 x9_1).f4.f2) ((rd_T98 l1 x9_1).f4.f3) false t201 t204 w0 _ ?side1 ?side2 ?side3 A13.out).mono ?_
    (case side1 => repeat (first | (with_reducible first | exact HB.out | apply below_alloc | apply pw_below_drewN | apply below_drew1 | refine below_set ?_ GE198.out | refine below_set ?_ GE199.out) | exact HB.out))
    (case side2 => exact (ps HXAh17.out))
    (case side3 => exact Kd.R_tight rfl HO_199001.out)
    rintro e w18 ⟨v202, v205, rfl, ho0, ho1, hb, hkp⟩
    refine ⟨_, rfl, ?_⟩
    replace BK198 := am (blk_kept (pb BK198.out) hkp (fun hs_ => Or.elim hs_ (fun e_ => (fun e_ => Kd.blk_awayP (fun k_ h_ => (HXBh17.out k_ h_).2.2.2) BK198.out (by decide) e_) e_) (fun e_ => (fun e_ => (Kd.R_ne HO_199001.out BK198.out (by decide)) e_) e_)))
    replace BK199 := am (blk_kept (pb BK199.out) hkp (fun hs_ => Or.elim hs_ (fun e_ => (fun e_ => Kd.blk_awayP (fun k_ h_ => (HXBh17.out k_ h_).2.2.2) BK199.out (by decide) e_) e_) (fun e_ => (fun e_ => (Kd.R_ne HO_199001.out BK199.out (by decide)) e_) e_)))
    have HO203 := am (Kd.S_mono (ok' := fun k_ => ((P0_0_ k_ ∨ P0_1_ k_) ∨ w.heap.size ≤ k_)) ho0 (fun k_ hk_ => Or.elim hk_ (fun hs_ => Or.elim hs_ (fun hs_ => (HXBh17.out k_ hs_).1) (fun hs_ => (HO_199001.out.1 k_ (hs_).symm))) (fun hn_ => (.inr (Nat.le_trans (by first | exact HK.out.1 | exact (show Kept w _ (fun k_ => P0_0_ k_ ∨ P0_1_ k_) from by repeat (first | (with_reducible first | exact HK.out | apply Kept.alloc | apply Kept.drewN | apply Kept.drew | refine Kept.setCell ?_ (.inr GW198.out) _ | refine Kept.setCell ?_ (.inr GW199.out) _) | exact HK.out)).1) hn_)))))
    have HO206 := am (Kd.R_mono (ok' := fun k_ => ((P0_0_ k_ ∨ P0_1_ k_) ∨ w.heap.size ≤ k_)) ho1 (fun k_ hk_ => Or.elim hk_ (fun hs_ => Or.elim hs_ (fun hs_ => (HXBh17.out k_ hs_).1) (fun hs_ => (HO_199001.out.1 k_ (hs_).symm))) (fun hn_ => (.inr (Nat.le_trans (by first | exact HK.out.1 | exact (show Kept w _ (fun k_ => P0_0_ k_ ∨ P0_1_ k_) from by repeat (first | (with_reducible first | exact HK.out | apply Kept.alloc | apply Kept.drewN | apply Kept.drew | refine Kept.setCell ?_ (.inr GW198.out) _ | refine Kept.setCell ?_ (.inr GW199.out) _) | exact HK.out)).1) hn_)))))
    replace HK := am (Kept.then_ (S := (fun k_ => P0_0_ k_ ∨ P0_1_ k_)) (by repeat (first | (with_reducible first | exact HK.out | apply Kept.alloc | apply Kept.drewN | apply Kept.drew | refine Kept.setCell ?_ (.inr GW198.out) _ | refine Kept.setCell ?_ (.inr GW199.out) _) | exact HK.out)) hkp (fun k_ hs_ => Or.elim hs_ (fun e_ => (fun e_ => (HXBh17.out k_ e_).1) e_) (fun e_ => (fun e_ => (HO_199001.out.1 k_ e_.symm)) e_)))
    replace HB := am (hb)
    clear HO_199000
    clear HO_199001
    (try clear hb)
    (try clear hkp)
    (try clear ho0)
    (try clear ho1)
    obtain ⟨Ao19, co19, eo19⟩ := Kd.S_slice HO203.out
    (first | subst eo19 | (injection eo19 with f1_ f2_ f3_; have f4_ := f1_.symm; have f5_ := f3_.symm; clear f1_ f2_ f3_; subst f4_; subst f5_))
    obtain ⟨Ao21, co21, eo21⟩ := Kd.R_slice HO206.out
    (first | subst eo21 | (injection eo21 with f1_ f2_ f3_; have f4_ := f1_.symm; have f5_ := f3_.symm; clear f1_ f2_ f3_; subst f4_; subst f5_))
    refine hK.out _ _ ?_
    clear hK K
    refine norm_ (a' := ?_) ?_ ?_
    rotate_left
    · show Act.put _ (some 26) _ = _
      simp only [Act.put, List.setIfInBounds_toArray, List.set_cons_zero, List.set_cons_succ, i64_w, i32_w]
      rfl
    refine last_ (i := 6) (N := none) #[true, true, true, true, true, true, true] rfl rfl (by kernel_rfl) (by decide) (fun K hK => ?_)
    have hs20 : w18.cell? ⟨gb198, 0, none⟩ = some (.slice Ao15 x199000_1.length co15) := (blk_cell BK198.out 0).trans rfl
    have hfs20 := blk_frozen BK198.out 0
    have hns20_1 := NB199_198.out
    have hms20_1 := NB198_199.out
    have hs22 : w18.cell? ⟨gb198, 1, none⟩ = some (.slice Ao16 x199001_1.length co16) := (blk_cell BK198.out 1).trans rfl
    have hfs22 := blk_frozen BK198.out 1
    have hns22_1 := NB199_198.out
    have hms22_1 := NB198_199.out
    refine skip_ (w1 := ?_) (by rfl) rfl ?_ ?_
    rotate_left
    · go_simp
      rfl
    refine hK.out _ _ ?_
    clear hK K
    refine done_ (by kernel_rfl) ?_
    try go_wp2
    go_roundg k1
    case measure => have := HK1.out; omega
    case rel => exact ⟨(wrap64 (x9_1 + 1)), (t201), (t204), (.slice Ao19 t201.length co19), (.slice Ao21 t204.length co21), rf, H', ⟨by have := HK1.out; omega⟩, ⟨by (with_reducible repeat (first | apply Kd.S_alloc | apply Kd.S_drewN | apply Kd.S_drew)); exact Kd.S_mono (Kd.S_far (p := ⟨gb198, 1, none⟩) (Kd.S_far (p := ⟨gb198, 0, none⟩) (Kd.S_types HO203.out BK198.out (by decide)) (fun _ hk => hk.2) (.slice Ao19 t201.length co19)) (fun _ hk => hk.2) (.slice Ao21 t204.length co21)) (fun _ hk => hk.1)⟩, ⟨by (with_reducible repeat (first | apply Kd.R_alloc | apply Kd.R_drewN | apply Kd.R_drew)); exact Kd.R_mono (Kd.R_far (p := ⟨gb198, 1, none⟩) (Kd.R_far (p := ⟨gb198, 0, none⟩) (Kd.R_types HO206.out BK198.out (by decide)) (fun _ hk => hk.2) (.slice Ao19 t201.length co19)) (fun _ hk => hk.2) (.slice Ao21 t204.length co21)) (fun _ hk => hk.1)⟩, ⟨by (with_reducible repeat (first | refine blk_drewN ?_ _ | refine blk_drew ?_ | refine blk_alloc ?_ _)); refine blk_put (cs := #[.slice Ao19 t201.length co19, .slice Ao16 x199001_1.length co16]) ?_ 1 _ rfl; (with_reducible repeat (first | refine blk_drewN ?_ _ | refine blk_drew ?_ | refine blk_alloc ?_ _)); refine blk_put (cs := #[.slice Ao15 x199000_1.length co15, .slice Ao16 x199001_1.length co16]) ?_ 0 _ rfl; (with_reducible repeat (first | refine blk_drewN ?_ _ | refine blk_drew ?_ | refine blk_alloc ?_ _)); exact BK198.out⟩, ⟨by (with_reducible repeat (first | refine blk_drewN ?_ _ | refine blk_drew ?_ | refine blk_alloc ?_ _)); refine blk_far ?_ NB199_198.out _; (with_reducible repeat (first | refine blk_drewN ?_ _ | refine blk_drew ?_ | refine blk_alloc ?_ _)); refine blk_far ?_ NB199_198.out _; (with_reducible repeat (first | refine blk_drewN ?_ _ | refine blk_drew ?_ | refine blk_alloc ?_ _)); exact BK199.out⟩, ⟨by repeat (first | (with_reducible first | exact HK.out | apply Kept.alloc | apply Kept.drewN | apply Kept.drew | refine Kept.setCell ?_ (.inr GW198.out) _ | refine Kept.setCell ?_ (.inr GW199.out) _) | exact HK.out)⟩, ⟨bg2 HB.out GE198.out GE199.out⟩⟩
 case rest =>
  clear HC5
  obtain ⟨kq, x199000_4, x199001_4, u199000, u199001, HA, HJ4, HO_199000, HO_199001, BK198, BK199, HK, HB⟩ := hcut
  cases kq with
  | zero => exact absurd HA.out (by simp [spec_l12To.j1])
  | succ kj4 =>
   have H := HA.out
   clear HA
   simp only [spec_l12To.j1] at H
   by_cases c23 : a3 = true
   rotate_left
   · replace c23 := Bool.eq_false_iff.mpr c23
     subst c23
     have H1 : (some (x199000_4, x199001_4)) = some (r1, r2) := by rw [if_neg (show ¬ (false = true) by decide)] at H; exact H
     clear H
     have H := H1
     clear H1
     simp only [Option.some.injEq, Prod.mk.injEq] at H
     obtain ⟨rfl, rfl⟩ := H
     have hnb46 := NB198_199.out
     have hnc46 := NB199_198.out
     obtain ⟨hcz47_0, hcz47_1⟩ := b2 BK198.out
     obtain ⟨hfz47_0, hfz47_1⟩ := f2 BK198.out
     obtain ⟨Ao48, co48, eo48⟩ := Kd.S_slice HO_199000.out
     subst eo48
     obtain ⟨hcz49_0, hcz49_1⟩ := b2 BK199.out
     obtain ⟨hfz49_0, hfz49_1⟩ := f2 BK199.out
     obtain ⟨Ao50, co50, eo50⟩ := Kd.R_slice HO_199001.out
     subst eo50
     go_wp2
     refine bodyPost_ret (results_cell_row rfl _ _ gb199 70 #[.slice Ao48 x199000_4.length co48, .slice Ao50 x199001_4.length co50] (0, 0) _ rfl (by (with_reducible repeat (first | refine blk_drewN ?_ _ | refine blk_drew ?_ | refine blk_alloc ?_ _)); refine blk_put (cs := #[.slice Ao48 x199000_4.length co48, .slice none 0 0]) ?_ 1 _ rfl; (with_reducible repeat (first | refine blk_drewN ?_ _ | refine blk_drew ?_ | refine blk_alloc ?_ _)); refine blk_put (cs := #[.slice none 0 0, .slice none 0 0]) ?_ 0 _ rfl; (with_reducible repeat (first | refine blk_drewN ?_ _ | refine blk_drew ?_ | refine blk_alloc ?_ _)); exact BK199.out) Try.underlying70 rfl (by kernel_rfl)) rfl ?_
     exact ⟨_, _, rq ⟨by (with_reducible repeat (first | apply Kd.S_alloc | apply Kd.S_drewN | apply Kd.S_drew)); exact Kd.S_mono (Kd.S_far (p := ⟨gb199, 1, none⟩) (Kd.S_far (p := ⟨gb199, 0, none⟩) (Kd.S_types HO_199000.out BK199.out (by decide)) (fun _ hk => hk.2) (.slice Ao48 x199000_4.length co48)) (fun _ hk => hk.2) (.slice Ao50 x199001_4.length co50)) (fun _ hk => hk.1), by (with_reducible repeat (first | apply Kd.R_alloc | apply Kd.R_drewN | apply Kd.R_drew)); exact Kd.R_mono (Kd.R_far (p := ⟨gb199, 1, none⟩) (Kd.R_far (p := ⟨gb199, 0, none⟩) (Kd.R_types HO_199001.out BK199.out (by decide)) (fun _ hk => hk.2) (.slice Ao48 x199000_4.length co48)) (fun _ hk => hk.2) (.slice Ao50 x199001_4.length co50)) (fun _ hk => hk.1), bg2 HB.out GE198.out GE199.out, by repeat (first | (with_reducible first | exact HK.out | apply Kept.alloc | apply Kept.drewN | apply Kept.drew | refine Kept.setCell ?_ (.inr GW198.out) _ | refine Kept.setCell ?_ (.inr GW199.out) _) | exact HK.out)⟩⟩
   subst c23
   have H1 : ((spec_l6In.f a2 0 (wrap64 ((l1.length : Int) - 1))).bind fun t207 => (if t207 = true then (if 0 ≤ a2 then (if a2 < (l1.length : Int) then ((spec_l12Do.f kj4 x199000_4 x199001_4 ((rd_T98 l1 a2).f0) ((rd_T98 l1 a2).f1) ((rd_T98 l1 a2).f2) ((rd_T98 l1 a2).f3) ((rd_T98 l1 a2).f4.f0) ((rd_T98 l1 a2).f4.f1) ((rd_T98 l1 a2).f4.f2) ((rd_T98 l1 a2).f4.f3) true).bind fun bt209 => (some (bt209.1, bt209.2))) else (none)) else (none)) else (some (x199000_4, x199001_4)))) = some (r1, r2) := by rw [if_pos rfl] at H; exact H
   clear H
   have H := H1
   clear H1
   replace H := Option.bind_eq_some_iff.mp H
   obtain ⟨t207, A240, H⟩ := H
   replace H : (if t207 = true then (if 0 ≤ a2 then (if a2 < (l1.length : Int) then ((spec_l12Do.f kj4 x199000_4 x199001_4 ((rd_T98 l1 a2).f0) ((rd_T98 l1 a2).f1) ((rd_T98 l1 a2).f2) ((rd_T98 l1 a2).f3) ((rd_T98 l1 a2).f4.f0) ((rd_T98 l1 a2).f4.f1) ((rd_T98 l1 a2).f4.f2) ((rd_T98 l1 a2).f4.f3) true).bind fun bt209 => (some (bt209.1, bt209.2))) else (none)) else (none)) else (some (x199000_4, x199001_4))) = some (r1, r2) := H
   have A24 := am A240
   clear A240
   by_cases c25 : t207 = true
   rotate_left
   · replace c25 := Bool.eq_false_iff.mpr c25
     subst c25
     have H1 : (some (x199000_4, x199001_4)) = some (r1, r2) := by rw [if_neg (show ¬ (false = true) by decide)] at H; exact H
     clear H
     have H := H1
     clear H1
     simp only [Option.some.injEq, Prod.mk.injEq] at H
     obtain ⟨rfl, rfl⟩ := H
     go_wp2_with (first | (go_at_call 28; (with_reducible refine (spec_l6In.calls a2 0 (wrap64 ((l1.length : Int) - 1)) false _ A24.out).mono ?_); rintro e w' ⟨rfl, ⟨nd, rfl⟩⟩; (try (rw [drewN_self wc]; generalize hq_ : World.drewN wc _ = wc; have n0_ : Aside0 (Kd.S k28 28 wc w0.heap.size (fun k_ => (((P0_0_ k_ ∨ P0_1_ k_) ∨ w.heap.size ≤ k_))) u199000 x199000_4) := ⟨by rw [← hq_]; exact (ps HO_199000.out)⟩; have n1_ : Aside0 (Kd.R (Kd.int .i64) 3 wc w0.heap.size (fun k_ => (((P0_0_ k_ ∨ P0_1_ k_) ∨ w.heap.size ≤ k_))) u199001 x199001_4) := ⟨by rw [← hq_]; exact (pr HO_199001.out)⟩; have n2_ : Aside0 (wc.heap[gb198]? = some (.cells #[u199000, u199001] 70 (0, 0))) := ⟨by rw [← hq_]; exact (pb BK198.out)⟩; have n3_ : Aside0 (wc.heap[gb199]? = some (.cells #[.slice none 0 0, .slice none 0 0] 70 (0, 0))) := ⟨by rw [← hq_]; exact (pb BK199.out)⟩; have n4_ : Aside0 (Kept w wc (fun k_ => P0_0_ k_ ∨ P0_1_ k_)) := ⟨by rw [← hq_]; exact (by repeat (first | (with_reducible first | exact HK.out | apply Kept.alloc | apply Kept.drewN | apply Kept.drew | refine Kept.setCell ?_ (.inr GW198.out) _ | refine Kept.setCell ?_ (.inr GW199.out) _) | exact HK.out))⟩; have n5_ : Aside0 (Below w0.heap.size w0 wc) := ⟨by rw [← hq_]; exact (bg2 HB.out GE198.out GE199.out)⟩; clear HO_199000 HO_199001 BK198 BK199 HK HB hq_; have HO_199000 := n0_; have HO_199001 := n1_; have BK198 := n2_; have BK199 := n3_; have HK := n4_; have HB := n5_; clear n0_ n1_ n2_ n3_ n4_ n5_)); have hnb41 := NB198_199.out; have hnc41 := NB199_198.out; obtain ⟨hcz42_0, hcz42_1⟩ := b2 BK198.out; obtain ⟨hfz42_0, hfz42_1⟩ := f2 BK198.out; obtain ⟨Ao43, co43, eo43⟩ := Kd.S_slice HO_199000.out; subst eo43; obtain ⟨hcz44_0, hcz44_1⟩ := b2 BK199.out; obtain ⟨hfz44_0, hfz44_1⟩ := f2 BK199.out; obtain ⟨Ao45, co45, eo45⟩ := Kd.R_slice HO_199001.out; subst eo45))
     refine bodyPost_ret (results_cell_row rfl _ _ gb199 70 #[.slice Ao43 x199000_4.length co43, .slice Ao45 x199001_4.length co45] (0, 0) _ rfl (by (with_reducible repeat (first | refine blk_drewN ?_ _ | refine blk_drew ?_ | refine blk_alloc ?_ _)); refine blk_put (cs := #[.slice Ao43 x199000_4.length co43, .slice none 0 0]) ?_ 1 _ rfl; (with_reducible repeat (first | refine blk_drewN ?_ _ | refine blk_drew ?_ | refine blk_alloc ?_ _)); refine blk_put (cs := #[.slice none 0 0, .slice none 0 0]) ?_ 0 _ rfl; (with_reducible repeat (first | refine blk_drewN ?_ _ | refine blk_drew ?_ | refine blk_alloc ?_ _)); exact BK199.out) Try.underlying70 rfl (by kernel_rfl)) rfl ?_
     exact ⟨_, _, rq ⟨by (with_reducible repeat (first | apply Kd.S_alloc | apply Kd.S_drewN | apply Kd.S_drew)); exact Kd.S_mono (Kd.S_far (p := ⟨gb199, 1, none⟩) (Kd.S_far (p := ⟨gb199, 0, none⟩) (Kd.S_types HO_199000.out BK199.out (by decide)) (fun _ hk => hk.2) (.slice Ao43 x199000_4.length co43)) (fun _ hk => hk.2) (.slice Ao45 x199001_4.length co45)) (fun _ hk => hk.1), by (with_reducible repeat (first | apply Kd.R_alloc | apply Kd.R_drewN | apply Kd.R_drew)); exact Kd.R_mono (Kd.R_far (p := ⟨gb199, 1, none⟩) (Kd.R_far (p := ⟨gb199, 0, none⟩) (Kd.R_types HO_199001.out BK199.out (by decide)) (fun _ hk => hk.2) (.slice Ao43 x199000_4.length co43)) (fun _ hk => hk.2) (.slice Ao45 x199001_4.length co45)) (fun _ hk => hk.1), bg2 HB.out GE198.out GE199.out, by repeat (first | (with_reducible first | exact HK.out | apply Kept.alloc | apply Kept.drewN | apply Kept.drew | refine Kept.setCell ?_ (.inr GW198.out) _ | refine Kept.setCell ?_ (.inr GW199.out) _) | exact HK.out)⟩⟩
   subst c25
   have H1 : (if 0 ≤ a2 then (if a2 < (l1.length : Int) then ((spec_l12Do.f kj4 x199000_4 x199001_4 ((rd_T98 l1 a2).f0) ((rd_T98 l1 a2).f1) ((rd_T98 l1 a2).f2) ((rd_T98 l1 a2).f3) ((rd_T98 l1 a2).f4.f0) ((rd_T98 l1 a2).f4.f1) ((rd_T98 l1 a2).f4.f2) ((rd_T98 l1 a2).f4.f3) true).bind fun bt209 => (some (bt209.1, bt209.2))) else (none)) else (none)) = some (r1, r2) := by rw [if_pos rfl] at H; exact H
   clear H
   have H := H1
   clear H1
   by_cases c26 : 0 ≤ a2
   rotate_left
   · rw [if_neg c26] at H
     exact absurd H (by simp)
   rw [if_pos c26] at H
   have c26b0 := decide_eq_true c26
   clear c26
   by_cases c27 : a2 < (l1.length : Int)
   rotate_left
   · rw [if_neg c27] at H
     exact absurd H (by simp)
   rw [if_pos c27] at H
   have c27b0 := decide_eq_true c27
   clear c27
   replace H := Option.bind_eq_some_iff.mp H
   obtain ⟨⟨t209, t212⟩, A280, H⟩ := H
   replace H : (some (t209, t212)) = some (r1, r2) := H
   have A28 := am A280
   clear A280
   simp only [Option.some.injEq, Prod.mk.injEq] at H
   obtain ⟨rfl, rfl⟩ := H
   try go_wp2_with (first | (go_at_call 28; (with_reducible refine (spec_l6In.calls a2 0 (wrap64 ((l1.length : Int) - 1)) true _ A24.out).mono ?_); rintro e w' ⟨rfl, ⟨nd, rfl⟩⟩; (try (rw [drewN_self wc]; generalize hq_ : World.drewN wc _ = wc; have n0_ : Aside0 (Kd.S k28 28 wc w0.heap.size (fun k_ => (((P0_0_ k_ ∨ P0_1_ k_) ∨ w.heap.size ≤ k_))) u199000 x199000_4) := ⟨by rw [← hq_]; exact (ps HO_199000.out)⟩; have n1_ : Aside0 (Kd.R (Kd.int .i64) 3 wc w0.heap.size (fun k_ => (((P0_0_ k_ ∨ P0_1_ k_) ∨ w.heap.size ≤ k_))) u199001 x199001_4) := ⟨by rw [← hq_]; exact (pr HO_199001.out)⟩; have n2_ : Aside0 (wc.heap[gb198]? = some (.cells #[u199000, u199001] 70 (0, 0))) := ⟨by rw [← hq_]; exact (pb BK198.out)⟩; have n3_ : Aside0 (wc.heap[gb199]? = some (.cells #[.slice none 0 0, .slice none 0 0] 70 (0, 0))) := ⟨by rw [← hq_]; exact (pb BK199.out)⟩; have n4_ : Aside0 (Kept w wc (fun k_ => P0_0_ k_ ∨ P0_1_ k_)) := ⟨by rw [← hq_]; exact (by repeat (first | (with_reducible first | exact HK.out | apply Kept.alloc | apply Kept.drewN | apply Kept.drew | refine Kept.setCell ?_ (.inr GW198.out) _ | refine Kept.setCell ?_ (.inr GW199.out) _) | exact HK.out))⟩; have n5_ : Aside0 (Below w0.heap.size w0 wc) := ⟨by rw [← hq_]; exact (bg2 HB.out GE198.out GE199.out)⟩; clear HO_199000 HO_199001 BK198 BK199 HK HB hq_; have HO_199000 := n0_; have HO_199001 := n1_; have BK198 := n2_; have BK199 := n3_; have HK := n4_; have HB := n5_; clear n0_ n1_ n2_ n3_ n4_ n5_))))
   replace HO_199000 := am (Kd.S_drew HO_199000.out)
   replace HO_199001 := am (Kd.R_drew HO_199001.out)
   replace BK198 := am (blk_drew BK198.out)
   replace BK199 := am (blk_drew BK199.out)
   replace HK := am (Kept.drew HK.out)
   replace HB := am (below_drew1 HB.out)
   have p208 : 0 ≤ (a2 : Int) := ofb
   have q208 : a2 < (l1.length : Int) := ofb
   obtain ⟨ad208, e208, hx208_0, hx208_1, hx208_2, hx208_3, hx208_4, hx208_5, hx208_6, hx208_7⟩ := at_T98 (Kd.C_kept_now HR1.out HK.out) a2 p208 q208
   have hw208_7 := hx208_7
   have hw208_6 := hx208_6
   have hw208_5 := hx208_5
   have hw208_4 := hx208_4
   have hw208_3 := hx208_3
   have hw208_2 := hx208_2
   have hw208_1 := hx208_1
   have hw208_0 := hx208_0
   cases e208
   replace p208 := eq_true p208
   replace q208 := eq_true q208
   obtain ⟨Ao30, co30, eo30⟩ := Kd.S_slice HO_199000.out
   (first | subst eo30 | (injection eo30 with f1_ f2_ f3_; have f4_ := f1_.symm; have f5_ := f3_.symm; clear f1_ f2_ f3_; subst f4_; subst f5_))
   obtain ⟨Ao31, co31, eo31⟩ := Kd.R_slice HO_199001.out
   (first | subst eo31 | (injection eo31 with f1_ f2_ f3_; have f4_ := f1_.symm; have f5_ := f3_.symm; clear f1_ f2_ f3_; subst f4_; subst f5_))
   obtain ⟨PXh32, hxa_, hxb_⟩ := Kd.S_hand HO_199000.out
   have HXAh32 := am hxa_
   have HXBh32 := am hxb_
   clear hxa_ hxb_
   refine start_ (n := 7) (S := fun w' => w'.cell? ⟨gb198, 0, none⟩ = some (.slice Ao30 x199000_4.length co30) ∧ w'.cell? ⟨gb198, 1, none⟩ = some (.slice Ao31 x199001_4.length co31) ∧ w'.cell? (ad208.add ((a2).toNat * 8)) = some (.int .i64 ((rd_T98 l1 a2).f0)) ∧ w'.cell? ⟨(ad208.add ((a2).toNat * 8)).block, (ad208.add ((a2).toNat * 8)).off + 1, none⟩ = some (.int .i64 ((rd_T98 l1 a2).f1)) ∧ w'.cell? ⟨(ad208.add ((a2).toNat * 8)).block, (ad208.add ((a2).toNat * 8)).off + 2, none⟩ = some (.int .i64 ((rd_T98 l1 a2).f2)) ∧ w'.cell? ⟨(ad208.add ((a2).toNat * 8)).block, (ad208.add ((a2).toNat * 8)).off + 3, none⟩ = some (.int .i64 ((rd_T98 l1 a2).f3)) ∧ w'.cell? ⟨(ad208.add ((a2).toNat * 8)).block, (ad208.add ((a2).toNat * 8)).off + 4, none⟩ = some (.int .i64 ((rd_T98 l1 a2).f4.f0)) ∧ w'.cell? ⟨(ad208.add ((a2).toNat * 8)).block, (ad208.add ((a2).toNat * 8)).off + 5, none⟩ = some (.int .i64 ((rd_T98 l1 a2).f4.f1)) ∧ w'.cell? ⟨(ad208.add ((a2).toNat * 8)).block, (ad208.add ((a2).toNat * 8)).off + 6, none⟩ = some (.int .i64 ((rd_T98 l1 a2).f4.f2)) ∧ w'.cell? ⟨(ad208.add ((a2).toNat * 8)).block, (ad208.add ((a2).toNat * 8)).off + 7, none⟩ = some (.int .i64 ((rd_T98 l1 a2).f4.f3))) (ds := [5, 6]) #[false, false, false, false, false, false, false] (by kernel_rfl) rfl rfl ⟨(blk_cell BK198.out 0).trans rfl, (blk_cell BK198.out 1).trans rfl, hx208_0, hx208_1, hx208_2, hx208_3, hx208_4, hx208_5, hx208_6, hx208_7⟩ (fun hHeld => ?_)
   generalize wc.drew = w29 at HO_199000 HO_199001 BK198 BK199 HK HB HXAh32 HXBh32 hx208_0 hx208_1 hx208_2 hx208_3 hx208_4 hx208_5 hx208_6 hx208_7 hHeld ⊢
   refine pi_ 1 36 #[false, true, false, false, false, false, false] rfl rfl (fun _ _ _ h => h) ?_
   refine pi_ 2 37 #[false, true, true, false, false, false, false] rfl rfl (fun _ _ _ h => h) ?_
   refine pi_ 3 38 #[false, true, true, true, false, false, false] rfl rfl (fun _ _ _ h => h) ?_
   refine pm_ 0 35 #[true, true, true, true, false, false, false] rfl rfl (by kernel_rfl) (fun _ _ _ h => h) hHeld ?_
   refine pm_ 4 39 #[true, true, true, true, true, false, false] rfl rfl (by kernel_rfl) (fun _ _ _ h => h) hHeld ?_
   refine last_ (i := 5) (N := some 40) #[true, true, true, true, true, true, false] rfl rfl (by kernel_rfl) (by decide) (fun K hK => ?_)
   refine goes_ Try.func57 (by kernel_rfl) rfl #[.agg #[.slice Ao30 x199000_4.length co30, .slice Ao31 x199001_4.length co31], .agg #[.int .i64 ((rd_T98 l1 a2).f0), .int .i64 ((rd_T98 l1 a2).f1), .int .i64 ((rd_T98 l1 a2).f2), .int .i64 ((rd_T98 l1 a2).f3), .int .i64 ((rd_T98 l1 a2).f4.f0), .int .i64 ((rd_T98 l1 a2).f4.f1), .int .i64 ((rd_T98 l1 a2).f4.f2), .int .i64 ((rd_T98 l1 a2).f4.f3)], .bool true] (by rfl) rfl rfl (by (try simp only [List.map_toArray, List.map_cons, List.map_nil]); first | done | rfl | (simp only [List.length_drop, List.length_take]; rfl)) ?_
   with_reducible refine (spec_l12Do.calls kj4 PXh32 (.slice Ao30 x199000_4.length co30) x199000_4 (fun k_ => some k_ = (.slice Ao31 x199001_4.length co31 : Value).ownBlock) (.slice Ao31 x199001_4.length co31) x199001_4 ((rd_T98 l1 a2).f0) ((rd_T98 l1 a2).f1) ((rd_T98 l1 a2).f2) ((rd_T98 l1 a2).f3) ((rd_T98 l1 a2).f4.f0) ((rd_T98 l1 a2).f4.f1) ((rd_T98 l1 a2).f4.f2) ((rd_T98 l1 a2).f4.f3) true t209 t212 w0 _ ?side1 ?side2 ?side3 A28.out).mono ?_
   (case side1 => repeat (first | (with_reducible first | exact HB.out | apply below_alloc | apply pw_below_drewN | apply below_drew1 | refine below_set ?_ GE198.out | refine below_set ?_ GE199.out) | exact HB.out))
   (case side2 => exact (ps HXAh32.out))
   (case side3 => exact Kd.R_tight rfl HO_199001.out)
   rintro e w33 ⟨v210, v213, rfl, ho0, ho1, hb, hkp⟩
   refine ⟨_, rfl, ?_⟩
   replace BK198 := am (blk_kept (pb BK198.out) hkp (fun hs_ => Or.elim hs_ (fun e_ => (fun e_ => Kd.blk_awayP (fun k_ h_ => (HXBh32.out k_ h_).2.2.2) BK198.out (by decide) e_) e_) (fun e_ => (fun e_ => (Kd.R_ne HO_199001.out BK198.out (by decide)) e_) e_)))
   replace BK199 := am (blk_kept (pb BK199.out) hkp (fun hs_ => Or.elim hs_ (fun e_ => (fun e_ => Kd.blk_awayP (fun k_ h_ => (HXBh32.out k_ h_).2.2.2) BK199.out (by decide) e_) e_) (fun e_ => (fun e_ => (Kd.R_ne HO_199001.out BK199.out (by decide)) e_) e_)))
   have HO211 := am (Kd.S_mono (ok' := fun k_ => ((P0_0_ k_ ∨ P0_1_ k_) ∨ w.heap.size ≤ k_)) ho0 (fun k_ hk_ => Or.elim hk_ (fun hs_ => Or.elim hs_ (fun hs_ => (HXBh32.out k_ hs_).1) (fun hs_ => (HO_199001.out.1 k_ (hs_).symm))) (fun hn_ => (.inr (Nat.le_trans (by first | exact HK.out.1 | exact (show Kept w _ (fun k_ => P0_0_ k_ ∨ P0_1_ k_) from by repeat (first | (with_reducible first | exact HK.out | apply Kept.alloc | apply Kept.drewN | apply Kept.drew | refine Kept.setCell ?_ (.inr GW198.out) _ | refine Kept.setCell ?_ (.inr GW199.out) _) | exact HK.out)).1) hn_)))))
   have HO214 := am (Kd.R_mono (ok' := fun k_ => ((P0_0_ k_ ∨ P0_1_ k_) ∨ w.heap.size ≤ k_)) ho1 (fun k_ hk_ => Or.elim hk_ (fun hs_ => Or.elim hs_ (fun hs_ => (HXBh32.out k_ hs_).1) (fun hs_ => (HO_199001.out.1 k_ (hs_).symm))) (fun hn_ => (.inr (Nat.le_trans (by first | exact HK.out.1 | exact (show Kept w _ (fun k_ => P0_0_ k_ ∨ P0_1_ k_) from by repeat (first | (with_reducible first | exact HK.out | apply Kept.alloc | apply Kept.drewN | apply Kept.drew | refine Kept.setCell ?_ (.inr GW198.out) _ | refine Kept.setCell ?_ (.inr GW199.out) _) | exact HK.out)).1) hn_)))))
   replace HK := am (Kept.then_ (S := (fun k_ => P0_0_ k_ ∨ P0_1_ k_)) (by repeat (first | (with_reducible first | exact HK.out | apply Kept.alloc | apply Kept.drewN | apply Kept.drew | refine Kept.setCell ?_ (.inr GW198.out) _ | refine Kept.setCell ?_ (.inr GW199.out) _) | exact HK.out)) hkp (fun k_ hs_ => Or.elim hs_ (fun e_ => (fun e_ => (HXBh32.out k_ e_).1) e_) (fun e_ => (fun e_ => (HO_199001.out.1 k_ e_.symm)) e_)))
   replace HB := am (hb)
   clear HO_199000
   clear HO_199001
   (try clear hb)
   (try clear hkp)
   (try clear ho0)
   (try clear ho1)
   obtain ⟨Ao34, co34, eo34⟩ := Kd.S_slice HO211.out
   (first | subst eo34 | (injection eo34 with f1_ f2_ f3_; have f4_ := f1_.symm; have f5_ := f3_.symm; clear f1_ f2_ f3_; subst f4_; subst f5_))
   obtain ⟨Ao36, co36, eo36⟩ := Kd.R_slice HO214.out
   (first | subst eo36 | (injection eo36 with f1_ f2_ f3_; have f4_ := f1_.symm; have f5_ := f3_.symm; clear f1_ f2_ f3_; subst f4_; subst f5_))
   refine hK.out _ _ ?_
   clear hK K
   refine norm_ (a' := ?_) ?_ ?_
   rotate_left
   · show Act.put _ (some 40) _ = _
     simp only [Act.put, List.setIfInBounds_toArray, List.set_cons_zero, List.set_cons_succ, i64_w, i32_w]
     rfl
   refine last_ (i := 6) (N := none) #[true, true, true, true, true, true, true] rfl rfl (by kernel_rfl) (by decide) (fun K hK => ?_)
   have hs35 : w33.cell? ⟨gb198, 0, none⟩ = some (.slice Ao30 x199000_4.length co30) := (blk_cell BK198.out 0).trans rfl
   have hfs35 := blk_frozen BK198.out 0
   have hns35_1 := NB199_198.out
   have hms35_1 := NB198_199.out
   have hs37 : w33.cell? ⟨gb198, 1, none⟩ = some (.slice Ao31 x199001_4.length co31) := (blk_cell BK198.out 1).trans rfl
   have hfs37 := blk_frozen BK198.out 1
   have hns37_1 := NB199_198.out
   have hms37_1 := NB198_199.out
   refine skip_ (w1 := ?_) (by rfl) rfl ?_ ?_
   rotate_left
   · go_simp
     rfl
   refine hK.out _ _ ?_
   clear hK K
   refine done_ (by kernel_rfl) ?_
   have hnb38 := NB198_199.out
   have hnc38 := NB199_198.out
   obtain ⟨hcz39_0, hcz39_1⟩ := b2 BK198.out
   obtain ⟨hfz39_0, hfz39_1⟩ := f2 BK198.out
   obtain ⟨hcz40_0, hcz40_1⟩ := b2 BK199.out
   obtain ⟨hfz40_0, hfz40_1⟩ := f2 BK199.out
   try go_wp2
   refine bodyPost_ret (results_cell_row rfl _ _ gb199 70 #[.slice Ao34 t209.length co34, .slice Ao36 t212.length co36] (0, 0) _ rfl (by (with_reducible repeat (first | refine blk_drewN ?_ _ | refine blk_drew ?_ | refine blk_alloc ?_ _)); refine blk_put (cs := #[.slice Ao34 t209.length co34, .slice none 0 0]) ?_ 1 _ rfl; (with_reducible repeat (first | refine blk_drewN ?_ _ | refine blk_drew ?_ | refine blk_alloc ?_ _)); refine blk_put (cs := #[.slice none 0 0, .slice none 0 0]) ?_ 0 _ rfl; (with_reducible repeat (first | refine blk_drewN ?_ _ | refine blk_drew ?_ | refine blk_alloc ?_ _)); refine blk_far ?_ NB199_198.out _; (with_reducible repeat (first | refine blk_drewN ?_ _ | refine blk_drew ?_ | refine blk_alloc ?_ _)); refine blk_far ?_ NB199_198.out _; (with_reducible repeat (first | refine blk_drewN ?_ _ | refine blk_drew ?_ | refine blk_alloc ?_ _)); exact BK199.out) Try.underlying70 rfl (by kernel_rfl)) rfl ?_
   exact ⟨_, _, rq ⟨by (with_reducible repeat (first | apply Kd.S_alloc | apply Kd.S_drewN | apply Kd.S_drew)); exact Kd.S_mono (Kd.S_far (p := ⟨gb199, 1, none⟩) (Kd.S_far (p := ⟨gb199, 0, none⟩) (Kd.S_far (p := ⟨gb198, 1, none⟩) (Kd.S_far (p := ⟨gb198, 0, none⟩) (Kd.S_types (Kd.S_types HO211.out BK198.out (by decide)) BK199.out (by decide)) (fun _ hk => hk.1.2) (.slice Ao34 t209.length co34)) (fun _ hk => hk.1.2) (.slice Ao36 t212.length co36)) (fun _ hk => hk.2) (.slice Ao34 t209.length co34)) (fun _ hk => hk.2) (.slice Ao36 t212.length co36)) (fun _ hk => hk.1.1), by (with_reducible repeat (first | apply Kd.R_alloc | apply Kd.R_drewN | apply Kd.R_drew)); exact Kd.R_mono (Kd.R_far (p := ⟨gb199, 1, none⟩) (Kd.R_far (p := ⟨gb199, 0, none⟩) (Kd.R_far (p := ⟨gb198, 1, none⟩) (Kd.R_far (p := ⟨gb198, 0, none⟩) (Kd.R_types (Kd.R_types HO214.out BK198.out (by decide)) BK199.out (by decide)) (fun _ hk => hk.1.2) (.slice Ao34 t209.length co34)) (fun _ hk => hk.1.2) (.slice Ao36 t212.length co36)) (fun _ hk => hk.2) (.slice Ao34 t209.length co34)) (fun _ hk => hk.2) (.slice Ao36 t212.length co36)) (fun _ hk => hk.1.1), bg2 HB.out GE198.out GE199.out, by repeat (first | (with_reducible first | exact HK.out | apply Kept.alloc | apply Kept.drewN | apply Kept.drew | refine Kept.setCell ?_ (.inr GW198.out) _ | refine Kept.setCell ?_ (.inr GW199.out) _) | exact HK.out)⟩⟩
end Go.Proofs.Yteijhllkpahbhaa.Rk
