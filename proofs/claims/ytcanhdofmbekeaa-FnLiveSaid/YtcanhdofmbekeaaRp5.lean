-- printed by wip/pp/pp.py
import Derived.Test.YtcanhdofmbekeaaRp0
import Derived.Test.YtcanhdofmbekeaaRp3
import Derived.Test.YtcanhdofmbekeaaRp4
namespace Go.Proofs.Ytcanhdofmbekeaa.Rp
open Go.RowKit Go.Proofs.YtcanhdofmbekeaaW.PrintWords Go.Proofs.YtcanhdofmbekeaaW.PrintLast Go.Proofs.YtcanhdofmbekeaaW.PrintMore
attribute [local go_sem] max2_int min2_int max_two min_two max_three min_three max_four min_four
set_option linter.unusedVariables false
set_option linter.unusedSimpArgs false
def spec_l12Do.f (k : Nat) (l0_0 : List (S35)) (l0_1 : List Int) (a1_0 : Int) (a1_1 : Int) (a1_2 : Int) (a1_3 : Int) (a1_4 : Int) (a1_5 : Int) (a1_6 : Int) (a1_7 : Int) (a2 : Bool) : Option ((List (S35)) × List Int) := if a1_0 = 1 then (if a2 = true then (some (l0_0, l0_1)) else (if 0 ≤ (wrap64 (a1_1 - 1)) then (if (wrap64 (a1_1 - 1)) < (l0_1.length : Int) then (some (l0_0, (l0_1.set ((wrap64 (a1_1 - 1)) : Int).toNat a1_2))) else (none)) else (none))) else (if a1_0 = 2 then ((spec_l2Wipe.f k l0_0 a1_3 a2).bind fun bt197 => (some (bt197.1, l0_1))) else (if a1_0 = 3 then ((spec_l2Write.f k l0_0 a1_3 a1_4 a1_5 a1_6 a1_7 a2).bind fun bt201 => (some (bt201.1, l0_1))) else (some (l0_0, l0_1))))
theorem spec_l12Do.mono : ∀ a0 a1 a2 a3 a4 a5 a6 a7 a8 a9 a10 k, LeO (spec_l12Do.f k a0 a1 a2 a3 a4 a5 a6 a7 a8 a9 a10) (spec_l12Do.f (k + 1) a0 a1 a2 a3 a4 a5 a6 a7 a8 a9 a10) := by
 intro a0 a1 a2 a3 a4 a5 a6 a7 a8 a9 a10 k
 unfold spec_l12Do.f
 repeat' first
  | (with_reducible exact spec_l2Wipe.mono _ _ _ _)
  | (with_reducible exact spec_l2Write.mono _ _ _ _ _ _ _ _)
  | (with_reducible exact LeO.refl _)
  | (with_reducible exact LeO.none _)
  | (with_reducible refine LeO.ite ?_ ?_)
  | (with_reducible refine LeO.bind ?_ (fun _ => ?_))
  | exact spec_l2Wipe.mono _ _ _ _
  | exact spec_l2Write.mono _ _ _ _ _ _ _ _
  | exact LeO.none _
  | refine LeO.ite ?_ ?_
  | refine LeO.bind ?_ (fun _ => ?_)
set_option maxHeartbeats 8000000 in
set_option maxRecDepth 100000 in
theorem spec_l12Do.calls (k : Nat) (P0_0_ : Nat → Prop) (u9000_ : Value) (l0_0 : List (S35)) (P0_1_ : Nat → Prop) (u9001_ : Value) (l0_1 : List Int) (a1_0 : Int) (a1_1 : Int) (a1_2 : Int) (a1_3 : Int) (a1_4 : Int) (a1_5 : Int) (a1_6 : Int) (a1_7 : Int) (a2 : Bool) (r1 : List (S35)) (r2 : List Int) (w0 w : World) (hB : Below w0.heap.size w0 w) (ho0_0 : Kd.S k35 35 w w0.heap.size P0_0_ u9000_ l0_0) (ho0_1 : Kd.R (Kd.int .i64) 3 w w0.heap.size P0_1_ u9001_ l0_1) (h : spec_l12Do.f k l0_0 l0_1 a1_0 a1_1 a1_2 a1_3 a1_4 a1_5 a1_6 a1_7 a2 = some (r1, r2)) :
 Calls Try.prog 37 #[.agg #[u9000_, u9001_], .agg #[.int .i64 a1_0, .int .i64 a1_1, .int .i64 a1_2, .int .i64 a1_3, .int .i64 a1_4, .int .i64 a1_5, .int .i64 a1_6, .int .i64 a1_7], .bool a2] w fun e w' => ∃ v0_ v1_ : Value, e = .returned (.agg #[v0_, v1_]) ∧ Kd.S k35 35 w' w0.heap.size (fun k_ => ((P0_0_ k_ ∨ P0_1_ k_) ∨ w.heap.size ≤ k_)) v0_ r1 ∧ Kd.R (Kd.int .i64) 3 w' w0.heap.size (fun k_ => ((P0_0_ k_ ∨ P0_1_ k_) ∨ w.heap.size ≤ k_)) v1_ r2 ∧ Below w0.heap.size w0 w' ∧ Kept w w' (fun k_ => P0_0_ k_ ∨ P0_1_ k_) := by
 have hu57 := Try.underlying57
 have hu81 := Try.underlying81
 have hu30 := Try.underlying30
 have HO0_0 := am (show Kd.S k35 35 w w0.heap.size (fun k_ => ((P0_0_ k_ ∨ P0_1_ k_) ∨ w.heap.size ≤ k_)) u9000_ l0_0 from Kd.S_mono ho0_0 (fun k_ hk => (.inl (.inl hk))))
 have HO0_1 := am (show Kd.R (Kd.int .i64) 3 w w0.heap.size (fun k_ => ((P0_0_ k_ ∨ P0_1_ k_) ∨ w.heap.size ≤ k_)) u9001_ l0_1 from Kd.R_mono ho0_1 (fun k_ hk => (.inl (.inr hk))))
 have HK := am (Kept.refl w (fun k_ => P0_0_ k_ ∨ P0_1_ k_))
 have HW0 := am hB.size
 have HB := am hB
 clear hB
 have H : (if a1_0 = 1 then (if a2 = true then (some (l0_0, l0_1)) else (if 0 ≤ (wrap64 (a1_1 - 1)) then (if (wrap64 (a1_1 - 1)) < (l0_1.length : Int) then (some (l0_0, (l0_1.set ((wrap64 (a1_1 - 1)) : Int).toNat a1_2))) else (none)) else (none))) else (if a1_0 = 2 then ((spec_l2Wipe.f k l0_0 a1_3 a2).bind fun bt197 => (some (bt197.1, l0_1))) else (if a1_0 = 3 then ((spec_l2Write.f k l0_0 a1_3 a1_4 a1_5 a1_6 a1_7 a2).bind fun bt201 => (some (bt201.1, l0_1))) else (some (l0_0, l0_1))))) = some (r1, r2) := h
 clear h
 by_cases c4 : a1_0 = 1
 · rw [if_pos c4] at H
   have c4b0 : (a1_0 == 1) = true := beq_iff_eq.mpr c4
   have c4b1 : (a1_0 != 1) = false := bne_eq_false_iff_eq.mpr c4
   clear c4
   by_cases c5 : a2 = true
   · subst c5
     have H1 : (some (l0_0, l0_1)) = some (r1, r2) := by rw [if_pos rfl] at H; exact H
     clear H
     have H := H1
     clear H1
     simp only [Option.some.injEq, Prod.mk.injEq] at H
     obtain ⟨rfl, rfl⟩ := H
     obtain ⟨Ao6, co6, eo6⟩ := Kd.S_slice HO0_0.out
     subst eo6
     obtain ⟨Ao7, co7, eo7⟩ := Kd.R_slice HO0_1.out
     subst eo7
     go_enter Try.func37, Try.ntmps37
     go_wp2_with (first | (refine bx 3 #[.slice Ao6 l0_0.length co6, .slice Ao7 l0_1.length co7] 57 rfl ?_; intro gb193 hg w8 hbox hb; replace HO0_0 := am (Kd.S_below (ps HO0_0.out) hb); replace HO0_1 := am (Kd.R_below (pr HO0_1.out) hb); have BK193 := am (hbox); have GW193 := am ((by rw [hg]; exact (by first | exact HK.out.1 | exact (show Kept w _ (fun k_ => P0_0_ k_ ∨ P0_1_ k_) from pk HK.out).1) : w.heap.size ≤ gb193)); replace HK := am (Kept.below (S := (fun k_ => P0_0_ k_ ∨ P0_1_ k_)) (pk HK.out) hb); have GE193 := am ((by rw [hg]; exact (below_size (ph HB.out)) : w0.heap.size ≤ gb193)); replace HB := am (below_step (ph HB.out) hb); clear hb hbox hg) | (refine bx 4 #[.int .i64 a1_0, .int .i64 a1_1, .int .i64 a1_2, .int .i64 a1_3, .int .i64 a1_4, .int .i64 a1_5, .int .i64 a1_6, .int .i64 a1_7] 81 rfl ?_; intro gb194 hg w9 hbox hb; replace HO0_0 := am (Kd.S_below (ps HO0_0.out) hb); replace HO0_1 := am (Kd.R_below (pr HO0_1.out) hb); have BK194 := am (hbox); have GW194 := am ((by rw [hg]; exact (by first | exact HK.out.1 | exact (show Kept w _ (fun k_ => P0_0_ k_ ∨ P0_1_ k_) from by repeat (first | (with_reducible first | exact HK.out | apply Kept.alloc | apply Kept.drewN | apply Kept.drew | refine Kept.setCell ?_ (.inr GW193.out) _) | exact HK.out)).1) : w.heap.size ≤ gb194)); replace HK := am (Kept.below (S := (fun k_ => P0_0_ k_ ∨ P0_1_ k_)) (by repeat (first | (with_reducible first | exact HK.out | apply Kept.alloc | apply Kept.drewN | apply Kept.drew | refine Kept.setCell ?_ (.inr GW193.out) _) | exact HK.out)) hb); have GE194 := am ((by rw [hg]; exact (below_size (bg1 HB.out GE193.out)) : w0.heap.size ≤ gb194)); replace HB := am (below_step (bg1 HB.out GE193.out) hb); have NB193_194 := am ((by rw [hg]; exact Nat.ne_of_lt (blk_lt (pb BK193.out)) : gb193 ≠ gb194)); have NB194_193 := am (Ne.symm NB193_194.out); replace BK193 := am (blk_below (pb BK193.out) hb); clear hb hbox hg) | (refine bx 6 #[.slice none 0 0, .slice none 0 0] 57 rfl ?_; intro gb195 hg w10 hbox hb; replace HO0_0 := am (Kd.S_below (ps HO0_0.out) hb); replace HO0_1 := am (Kd.R_below (pr HO0_1.out) hb); have BK195 := am (hbox); have GW195 := am ((by rw [hg]; exact (by first | exact HK.out.1 | exact (show Kept w _ (fun k_ => P0_0_ k_ ∨ P0_1_ k_) from by repeat (first | (with_reducible first | exact HK.out | apply Kept.alloc | apply Kept.drewN | apply Kept.drew | refine Kept.setCell ?_ (.inr GW193.out) _ | refine Kept.setCell ?_ (.inr GW194.out) _) | exact HK.out)).1) : w.heap.size ≤ gb195)); replace HK := am (Kept.below (S := (fun k_ => P0_0_ k_ ∨ P0_1_ k_)) (by repeat (first | (with_reducible first | exact HK.out | apply Kept.alloc | apply Kept.drewN | apply Kept.drew | refine Kept.setCell ?_ (.inr GW193.out) _ | refine Kept.setCell ?_ (.inr GW194.out) _) | exact HK.out)) hb); have GE195 := am ((by rw [hg]; exact (below_size (bg2 HB.out GE193.out GE194.out)) : w0.heap.size ≤ gb195)); replace HB := am (below_step (bg2 HB.out GE193.out GE194.out) hb); have NB193_195 := am ((by rw [hg]; exact Nat.ne_of_lt (blk_lt (pb BK193.out)) : gb193 ≠ gb195)); have NB195_193 := am (Ne.symm NB193_195.out); replace BK193 := am (blk_below (pb BK193.out) hb); have NB194_195 := am ((by rw [hg]; exact Nat.ne_of_lt (blk_lt (pb BK194.out)) : gb194 ≠ gb195)); have NB195_194 := am (Ne.symm NB194_195.out); replace BK194 := am (blk_below (pb BK194.out) hb); clear hb hbox hg; have hnb11 := NB194_193.out; have hnc11 := NB193_194.out; have hnb12 := NB194_195.out; have hnc12 := NB195_194.out; obtain ⟨hcz13_0, hcz13_1, hcz13_2, hcz13_3, hcz13_4, hcz13_5, hcz13_6, hcz13_7⟩ := b8 BK194.out; obtain ⟨hfz13_0, hfz13_1, hfz13_2, hfz13_3, hfz13_4, hfz13_5, hfz13_6, hfz13_7⟩ := f8 BK194.out; have hnb14 := NB193_195.out; have hnc14 := NB195_193.out; obtain ⟨hcz15_0, hcz15_1⟩ := b2 BK193.out; obtain ⟨hfz15_0, hfz15_1⟩ := f2 BK193.out; obtain ⟨hcz16_0, hcz16_1⟩ := b2 BK195.out; obtain ⟨hfz16_0, hfz16_1⟩ := f2 BK195.out))
     refine bodyPost_ret (results_cell_row rfl _ _ gb195 57 #[.slice Ao6 l0_0.length co6, .slice Ao7 l0_1.length co7] (0, 0) _ rfl (by (with_reducible repeat (first | refine blk_drewN ?_ _ | refine blk_drew ?_ | refine blk_alloc ?_ _)); refine blk_put (cs := #[.slice Ao6 l0_0.length co6, .slice none 0 0]) ?_ 1 _ rfl; (with_reducible repeat (first | refine blk_drewN ?_ _ | refine blk_drew ?_ | refine blk_alloc ?_ _)); refine blk_put (cs := #[.slice none 0 0, .slice none 0 0]) ?_ 0 _ rfl; (with_reducible repeat (first | refine blk_drewN ?_ _ | refine blk_drew ?_ | refine blk_alloc ?_ _)); exact BK195.out) Try.underlying57 rfl (by kernel_rfl)) rfl ?_
     exact ⟨_, _, rq ⟨by (with_reducible repeat (first | apply Kd.S_alloc | apply Kd.S_drewN | apply Kd.S_drew)); exact Kd.S_mono (Kd.S_far (p := ⟨gb195, 1, none⟩) (Kd.S_far (p := ⟨gb195, 0, none⟩) (Kd.S_types HO0_0.out BK195.out (by decide)) (fun _ hk => hk.2) (.slice Ao6 l0_0.length co6)) (fun _ hk => hk.2) (.slice Ao7 l0_1.length co7)) (fun _ hk => hk.1), by (with_reducible repeat (first | apply Kd.R_alloc | apply Kd.R_drewN | apply Kd.R_drew)); exact Kd.R_mono (Kd.R_far (p := ⟨gb195, 1, none⟩) (Kd.R_far (p := ⟨gb195, 0, none⟩) (Kd.R_types HO0_1.out BK195.out (by decide)) (fun _ hk => hk.2) (.slice Ao6 l0_0.length co6)) (fun _ hk => hk.2) (.slice Ao7 l0_1.length co7)) (fun _ hk => hk.1), bg3 HB.out GE193.out GE194.out GE195.out, by repeat (first | (with_reducible first | exact HK.out | apply Kept.alloc | apply Kept.drewN | apply Kept.drew | refine Kept.setCell ?_ (.inr GW193.out) _ | refine Kept.setCell ?_ (.inr GW194.out) _ | refine Kept.setCell ?_ (.inr GW195.out) _) | exact HK.out)⟩⟩
   replace c5 := Bool.eq_false_iff.mpr c5
   subst c5
   have H1 : (if 0 ≤ (wrap64 (a1_1 - 1)) then (if (wrap64 (a1_1 - 1)) < (l0_1.length : Int) then (some (l0_0, (l0_1.set ((wrap64 (a1_1 - 1)) : Int).toNat a1_2))) else (none)) else (none)) = some (r1, r2) := by rw [if_neg (show ¬ (false = true) by decide)] at H; exact H
   clear H
   have H := H1
   clear H1
   obtain ⟨ji17, hji17⟩ : ∃ j_ : Int, (wrap64 (a1_1 - 1)) = j_ := ⟨_, rfl⟩
   replace H : (if 0 ≤ (ji17) then (if (ji17) < (l0_1.length : Int) then (some (l0_0, (l0_1.set ((ji17) : Int).toNat a1_2))) else (none)) else (none)) = some (r1, r2) := by first | (rw [hji17] at H; exact H) | (simp only [hji17] at H ⊢; exact H)
   have hji17w : (IntKind.i64.wrap (a1_1 - 1)) = ji17 := (i64_w _).trans hji17
   by_cases c18 : 0 ≤ (ji17)
   rotate_left
   · rw [if_neg c18] at H
     exact absurd H (by simp)
   rw [if_pos c18] at H
   have c18b0 := decide_eq_true c18
   clear c18
   by_cases c19 : (ji17) < (l0_1.length : Int)
   rotate_left
   · rw [if_neg c19] at H
     exact absurd H (by simp)
   rw [if_pos c19] at H
   have c19b0 := decide_eq_true c19
   clear c19
   obtain ⟨y196, hy196⟩ : ∃ y_ : List Int, y_ = (l0_1.set ((ji17) : Int).toNat a1_2) := ⟨_, rfl⟩
   replace H : (some (l0_0, y196)) = some (r1, r2) := by first | (rw [hy196]; with_reducible exact H) | (have H2_ := (Option.bind_some _ _).symm.trans H; rw [hy196]; with_reducible exact H2_) | (have H2_ := (Option.bind_some _ _).symm.trans H; with_reducible exact H2_) | with_reducible exact H | (rw [hy196]; exact H) | exact H
   have Ny196 := am hy196
   clear hy196
   simp only [Option.some.injEq, Prod.mk.injEq] at H
   obtain ⟨rfl, rfl⟩ := H
   obtain ⟨Ao21, co21, eo21⟩ := Kd.S_slice HO0_0.out
   subst eo21
   obtain ⟨Ao22, co22, eo22⟩ := Kd.R_slice HO0_1.out
   subst eo22
   go_enter Try.func37, Try.ntmps37
   go_wp2_with (first | (refine bx 3 #[.slice Ao21 l0_0.length co21, .slice Ao22 l0_1.length co22] 57 rfl ?_; intro gb193 hg w23 hbox hb; replace HO0_0 := am (Kd.S_below (ps HO0_0.out) hb); replace HO0_1 := am (Kd.R_below (pr HO0_1.out) hb); have BK193 := am (hbox); have GW193 := am ((by rw [hg]; exact (by first | exact HK.out.1 | exact (show Kept w _ (fun k_ => P0_0_ k_ ∨ P0_1_ k_) from pk HK.out).1) : w.heap.size ≤ gb193)); replace HK := am (Kept.below (S := (fun k_ => P0_0_ k_ ∨ P0_1_ k_)) (pk HK.out) hb); have GE193 := am ((by rw [hg]; exact (below_size (ph HB.out)) : w0.heap.size ≤ gb193)); replace HB := am (below_step (ph HB.out) hb); clear hb hbox hg) | (refine bx 4 #[.int .i64 a1_0, .int .i64 a1_1, .int .i64 a1_2, .int .i64 a1_3, .int .i64 a1_4, .int .i64 a1_5, .int .i64 a1_6, .int .i64 a1_7] 81 rfl ?_; intro gb194 hg w24 hbox hb; replace HO0_0 := am (Kd.S_below (ps HO0_0.out) hb); replace HO0_1 := am (Kd.R_below (pr HO0_1.out) hb); have BK194 := am (hbox); have GW194 := am ((by rw [hg]; exact (by first | exact HK.out.1 | exact (show Kept w _ (fun k_ => P0_0_ k_ ∨ P0_1_ k_) from by repeat (first | (with_reducible first | exact HK.out | apply Kept.alloc | apply Kept.drewN | apply Kept.drew | refine Kept.setCell ?_ (.inr GW193.out) _) | exact HK.out)).1) : w.heap.size ≤ gb194)); replace HK := am (Kept.below (S := (fun k_ => P0_0_ k_ ∨ P0_1_ k_)) (by repeat (first | (with_reducible first | exact HK.out | apply Kept.alloc | apply Kept.drewN | apply Kept.drew | refine Kept.setCell ?_ (.inr GW193.out) _) | exact HK.out)) hb); have GE194 := am ((by rw [hg]; exact (below_size (bg1 HB.out GE193.out)) : w0.heap.size ≤ gb194)); replace HB := am (below_step (bg1 HB.out GE193.out) hb); have NB193_194 := am ((by rw [hg]; exact Nat.ne_of_lt (blk_lt (pb BK193.out)) : gb193 ≠ gb194)); have NB194_193 := am (Ne.symm NB193_194.out); replace BK193 := am (blk_below (pb BK193.out) hb); clear hb hbox hg) | (refine bx 6 #[.slice none 0 0, .slice none 0 0] 57 rfl ?_; intro gb195 hg w25 hbox hb; replace HO0_0 := am (Kd.S_below (ps HO0_0.out) hb); replace HO0_1 := am (Kd.R_below (pr HO0_1.out) hb); have BK195 := am (hbox); have GW195 := am ((by rw [hg]; exact (by first | exact HK.out.1 | exact (show Kept w _ (fun k_ => P0_0_ k_ ∨ P0_1_ k_) from by repeat (first | (with_reducible first | exact HK.out | apply Kept.alloc | apply Kept.drewN | apply Kept.drew | refine Kept.setCell ?_ (.inr GW193.out) _ | refine Kept.setCell ?_ (.inr GW194.out) _) | exact HK.out)).1) : w.heap.size ≤ gb195)); replace HK := am (Kept.below (S := (fun k_ => P0_0_ k_ ∨ P0_1_ k_)) (by repeat (first | (with_reducible first | exact HK.out | apply Kept.alloc | apply Kept.drewN | apply Kept.drew | refine Kept.setCell ?_ (.inr GW193.out) _ | refine Kept.setCell ?_ (.inr GW194.out) _) | exact HK.out)) hb); have GE195 := am ((by rw [hg]; exact (below_size (bg2 HB.out GE193.out GE194.out)) : w0.heap.size ≤ gb195)); replace HB := am (below_step (bg2 HB.out GE193.out GE194.out) hb); have NB193_195 := am ((by rw [hg]; exact Nat.ne_of_lt (blk_lt (pb BK193.out)) : gb193 ≠ gb195)); have NB195_193 := am (Ne.symm NB193_195.out); replace BK193 := am (blk_below (pb BK193.out) hb); have NB194_195 := am ((by rw [hg]; exact Nat.ne_of_lt (blk_lt (pb BK194.out)) : gb194 ≠ gb195)); have NB195_194 := am (Ne.symm NB194_195.out); replace BK194 := am (blk_below (pb BK194.out) hb); clear hb hbox hg; have hnb26 := NB194_193.out; have hnc26 := NB193_194.out; have hnb27 := NB194_195.out; have hnc27 := NB195_194.out; obtain ⟨hcz28_0, hcz28_1, hcz28_2, hcz28_3, hcz28_4, hcz28_5, hcz28_6, hcz28_7⟩ := b8 BK194.out; obtain ⟨hfz28_0, hfz28_1, hfz28_2, hfz28_3, hfz28_4, hfz28_5, hfz28_6, hfz28_7⟩ := f8 BK194.out; have hnb29 := NB193_195.out; have hnc29 := NB195_193.out; obtain ⟨hcz30_0, hcz30_1⟩ := b2 BK193.out; obtain ⟨hfz30_0, hfz30_1⟩ := f2 BK193.out; have p20 : 0 ≤ ((ji17) : Int) := ofb; have q20 : ((ji17) : Int) < ((l0_1.length : Int) : Int) := ofb; obtain ⟨go20, co20, eo20, gb20, gl20, cl20, HG20⟩ := Kd.R_form HO0_1.out (by omega); (first | cases eo20 | (injection eo20 with ea_ en_ ec_; (first | subst ea_ | (injection ea_ with ea_; subst ea_)); subst ec_; clear en_)); have GB20 := am gb20; have GG20 := am HG20; clear gb20 gl20 HG20; have HMgo20 := am (show ((P0_0_ go20 ∨ P0_1_ go20) ∨ w.heap.size ≤ go20) from (HO0_1.out.1 _ rfl)); obtain ⟨hx20_0, hf20_0⟩ := Kd.R_celln 0 HO0_1.out ((ji17) : Int) p20 q20; replace p20 := eq_true p20; replace q20 := eq_true q20; obtain ⟨hy31_, hz31_⟩ := Kd.R_celln 0 HO0_1.out ((ji17) : Int) (ofb) (ofb); have HP31 := Kd.R_putg HO0_1.out ((ji17) : Int) a1_2) | ((with_reducible refine gate_store (t := 3) (p := 20) rfl ?_); refine store_event (t := 3) (p := 20) (v := ?vo_w32) (w1 := (w25.setCell ⟨go20, ((ji17) : Int).toNat, none⟩ (.int .i64 a1_2))) ?hg ?ho ?hn ?hr ?_; (case ho => rfl); (case hg => rfl); (case hn => rfl); (case hr => first | (go_simp; done) | (go_simp; rfl)); intro w32 hw; have hg : w25.grownBy w32 (some go20) := (by rw [hw]; exact HP31.2); have hp_ : Kd.R (Kd.int .i64) 3 w32 w0.heap.size (fun k_ => ((P0_0_ k_ ∨ P0_1_ k_) ∨ w.heap.size ≤ k_)) (.slice (some ⟨go20, 0, none⟩) l0_1.length co22) y196 := (by rw [hw, Ny196.out]; exact HP31.1); clear HP31; replace HO0_0 := am (Kd.S_over' (v := (.slice (some ⟨go20, 0, none⟩) l0_1.length co22)) (ps HO0_0.out) (Kd.R_typed HO0_1.out) (by decide) hg); replace BK193 := am (blk_grown (g := gb193) (o := .cells #[.slice Ao21 l0_0.length co21, .slice (some ⟨go20, 0, none⟩) l0_1.length co22] 57 (0, 0)) (pb BK193.out) hg (Kd.R_ne HO0_1.out BK193.out (by decide))); replace BK194 := am (blk_grown (g := gb194) (o := .cells #[.int .i64 a1_0, .int .i64 a1_1, .int .i64 a1_2, .int .i64 a1_3, .int .i64 a1_4, .int .i64 a1_5, .int .i64 a1_6, .int .i64 a1_7] 81 (0, 0)) (pb BK194.out) hg (Kd.R_ne HO0_1.out BK194.out (by decide))); replace BK195 := am (blk_grown (g := gb195) (o := .cells #[.slice none 0 0, .slice none 0 0] 57 (0, 0)) (pb BK195.out) hg (Kd.R_ne HO0_1.out BK195.out (by decide))); replace HB := am ((by rw [hw]; exact below_set (HB.out) GB20.out : Below w0.heap.size w0 w32)); replace HK := am (Kept.of_grown (S := (fun k_ => P0_0_ k_ ∨ P0_1_ k_)) hg (by repeat (first | (with_reducible first | exact HK.out | apply Kept.alloc | apply Kept.drewN | apply Kept.drew | refine Kept.setCell ?_ (.inr GW193.out) _ | refine Kept.setCell ?_ (.inr GW194.out) _ | refine Kept.setCell ?_ (.inr GW195.out) _) | exact HK.out)) (fun k_ e_ => (HO0_1.out.1 k_ e_))); replace HO0_1 := am (hp_); clear hg hw hp_; obtain ⟨hcz33_0, hcz33_1⟩ := b2 BK193.out; obtain ⟨hfz33_0, hfz33_1⟩ := f2 BK193.out; obtain ⟨hcz34_0, hcz34_1⟩ := b2 BK195.out; obtain ⟨hfz34_0, hfz34_1⟩ := f2 BK195.out))
   refine bodyPost_ret (results_cell_row rfl _ _ gb195 57 #[.slice Ao21 l0_0.length co21, .slice (some ⟨go20, 0, none⟩) l0_1.length co22] (0, 0) _ rfl (by (with_reducible repeat (first | refine blk_drewN ?_ _ | refine blk_drew ?_ | refine blk_alloc ?_ _)); refine blk_put (cs := #[.slice Ao21 l0_0.length co21, .slice none 0 0]) ?_ 1 _ rfl; (with_reducible repeat (first | refine blk_drewN ?_ _ | refine blk_drew ?_ | refine blk_alloc ?_ _)); refine blk_put (cs := #[.slice none 0 0, .slice none 0 0]) ?_ 0 _ rfl; (with_reducible repeat (first | refine blk_drewN ?_ _ | refine blk_drew ?_ | refine blk_alloc ?_ _)); exact BK195.out) Try.underlying57 rfl (by kernel_rfl)) rfl ?_
   exact ⟨_, _, by first | rfl | (simp [errW_none, errW_some] <;> rfl) | (simp only [← hji17]; first | rfl | (simp [errW_none, errW_some] <;> rfl)) | (simp [*, errW_none, errW_some] <;> rfl), by (with_reducible repeat (first | apply Kd.S_alloc | apply Kd.S_drewN | apply Kd.S_drew)); exact Kd.S_mono (Kd.S_far (p := ⟨gb195, 1, none⟩) (Kd.S_far (p := ⟨gb195, 0, none⟩) (Kd.S_types HO0_0.out BK195.out (by decide)) (fun _ hk => hk.2) (.slice Ao21 l0_0.length co21)) (fun _ hk => hk.2) (.slice (some ⟨go20, 0, none⟩) l0_1.length co22)) (fun _ hk => hk.1), by (with_reducible repeat (first | apply Kd.R_alloc | apply Kd.R_drewN | apply Kd.R_drew)); exact Kd.R_mono (Kd.R_far (p := ⟨gb195, 1, none⟩) (Kd.R_far (p := ⟨gb195, 0, none⟩) (Kd.R_types HO0_1.out BK195.out (by decide)) (fun _ hk => hk.2) (.slice Ao21 l0_0.length co21)) (fun _ hk => hk.2) (.slice (some ⟨go20, 0, none⟩) l0_1.length co22)) (fun _ hk => hk.1), bg3 HB.out GE193.out GE194.out GE195.out, by repeat (first | (with_reducible first | exact HK.out | apply Kept.alloc | apply Kept.drewN | apply Kept.drew | refine Kept.setCell ?_ (.inr GW193.out) _ | refine Kept.setCell ?_ (.inr GW194.out) _ | refine Kept.setCell ?_ (.inr GW195.out) _) | exact HK.out)⟩
 rw [if_neg c4] at H
 have c4b0 : (a1_0 == 1) = false := beq_eq_false_iff_ne.mpr c4
 have c4b1 : (a1_0 != 1) = true := bne_iff_ne.mpr c4
 by_cases c35 : a1_0 = 2
 · rw [if_pos c35] at H
   have c35b0 : (a1_0 == 2) = true := beq_iff_eq.mpr c35
   have c35b1 : (a1_0 != 2) = false := bne_eq_false_iff_eq.mpr c35
   clear c35
   replace H := Option.bind_eq_some_iff.mp H
   obtain ⟨⟨t197, t200⟩, A360, H⟩ := H
   replace H : (some (t197, l0_1)) = some (r1, r2) := H
   have A36 := am A360
   clear A360
   simp only [Option.some.injEq, Prod.mk.injEq] at H
   obtain ⟨rfl, rfl⟩ := H
   obtain ⟨Ao37, co37, eo37⟩ := Kd.S_slice HO0_0.out
   subst eo37
   obtain ⟨Ao38, co38, eo38⟩ := Kd.R_slice HO0_1.out
   subst eo38
   go_enter Try.func37, Try.ntmps37
   go_wp2_with (first | (refine bx 3 #[.slice Ao37 l0_0.length co37, .slice Ao38 l0_1.length co38] 57 rfl ?_; intro gb193 hg w39 hbox hb; replace HO0_0 := am (Kd.S_below (ps HO0_0.out) hb); replace HO0_1 := am (Kd.R_below (pr HO0_1.out) hb); have BK193 := am (hbox); have GW193 := am ((by rw [hg]; exact (by first | exact HK.out.1 | exact (show Kept w _ (fun k_ => P0_0_ k_ ∨ P0_1_ k_) from pk HK.out).1) : w.heap.size ≤ gb193)); replace HK := am (Kept.below (S := (fun k_ => P0_0_ k_ ∨ P0_1_ k_)) (pk HK.out) hb); have GE193 := am ((by rw [hg]; exact (below_size (ph HB.out)) : w0.heap.size ≤ gb193)); replace HB := am (below_step (ph HB.out) hb); clear hb hbox hg) | (refine bx 4 #[.int .i64 a1_0, .int .i64 a1_1, .int .i64 a1_2, .int .i64 a1_3, .int .i64 a1_4, .int .i64 a1_5, .int .i64 a1_6, .int .i64 a1_7] 81 rfl ?_; intro gb194 hg w40 hbox hb; replace HO0_0 := am (Kd.S_below (ps HO0_0.out) hb); replace HO0_1 := am (Kd.R_below (pr HO0_1.out) hb); have BK194 := am (hbox); have GW194 := am ((by rw [hg]; exact (by first | exact HK.out.1 | exact (show Kept w _ (fun k_ => P0_0_ k_ ∨ P0_1_ k_) from by repeat (first | (with_reducible first | exact HK.out | apply Kept.alloc | apply Kept.drewN | apply Kept.drew | refine Kept.setCell ?_ (.inr GW193.out) _) | exact HK.out)).1) : w.heap.size ≤ gb194)); replace HK := am (Kept.below (S := (fun k_ => P0_0_ k_ ∨ P0_1_ k_)) (by repeat (first | (with_reducible first | exact HK.out | apply Kept.alloc | apply Kept.drewN | apply Kept.drew | refine Kept.setCell ?_ (.inr GW193.out) _) | exact HK.out)) hb); have GE194 := am ((by rw [hg]; exact (below_size (bg1 HB.out GE193.out)) : w0.heap.size ≤ gb194)); replace HB := am (below_step (bg1 HB.out GE193.out) hb); have NB193_194 := am ((by rw [hg]; exact Nat.ne_of_lt (blk_lt (pb BK193.out)) : gb193 ≠ gb194)); have NB194_193 := am (Ne.symm NB193_194.out); replace BK193 := am (blk_below (pb BK193.out) hb); clear hb hbox hg) | (refine bx 6 #[.slice none 0 0, .slice none 0 0] 57 rfl ?_; intro gb195 hg w41 hbox hb; replace HO0_0 := am (Kd.S_below (ps HO0_0.out) hb); replace HO0_1 := am (Kd.R_below (pr HO0_1.out) hb); have BK195 := am (hbox); have GW195 := am ((by rw [hg]; exact (by first | exact HK.out.1 | exact (show Kept w _ (fun k_ => P0_0_ k_ ∨ P0_1_ k_) from by repeat (first | (with_reducible first | exact HK.out | apply Kept.alloc | apply Kept.drewN | apply Kept.drew | refine Kept.setCell ?_ (.inr GW193.out) _ | refine Kept.setCell ?_ (.inr GW194.out) _) | exact HK.out)).1) : w.heap.size ≤ gb195)); replace HK := am (Kept.below (S := (fun k_ => P0_0_ k_ ∨ P0_1_ k_)) (by repeat (first | (with_reducible first | exact HK.out | apply Kept.alloc | apply Kept.drewN | apply Kept.drew | refine Kept.setCell ?_ (.inr GW193.out) _ | refine Kept.setCell ?_ (.inr GW194.out) _) | exact HK.out)) hb); have GE195 := am ((by rw [hg]; exact (below_size (bg2 HB.out GE193.out GE194.out)) : w0.heap.size ≤ gb195)); replace HB := am (below_step (bg2 HB.out GE193.out GE194.out) hb); have NB193_195 := am ((by rw [hg]; exact Nat.ne_of_lt (blk_lt (pb BK193.out)) : gb193 ≠ gb195)); have NB195_193 := am (Ne.symm NB193_195.out); replace BK193 := am (blk_below (pb BK193.out) hb); have NB194_195 := am ((by rw [hg]; exact Nat.ne_of_lt (blk_lt (pb BK194.out)) : gb194 ≠ gb195)); have NB195_194 := am (Ne.symm NB194_195.out); replace BK194 := am (blk_below (pb BK194.out) hb); clear hb hbox hg; have hnb42 := NB194_193.out; have hnc42 := NB193_194.out; have hnb43 := NB194_195.out; have hnc43 := NB195_194.out; obtain ⟨hcz44_0, hcz44_1, hcz44_2, hcz44_3, hcz44_4, hcz44_5, hcz44_6, hcz44_7⟩ := b8 BK194.out; obtain ⟨hfz44_0, hfz44_1, hfz44_2, hfz44_3, hfz44_4, hfz44_5, hfz44_6, hfz44_7⟩ := f8 BK194.out; have hnb45 := NB193_195.out; have hnc45 := NB195_193.out; obtain ⟨hcz46_0, hcz46_1⟩ := b2 BK193.out; obtain ⟨hfz46_0, hfz46_1⟩ := f2 BK193.out; obtain ⟨PXh47, hxa_, hxb_⟩ := Kd.S_hand HO0_0.out; have HXAh47 := am hxa_; have HXBh47 := am hxb_; clear hxa_ hxb_) | (refine gl 29 Try.func42 #[.slice Ao37 l0_0.length co37, .int .i64 a1_3, .bool a2] rfl ?_; (with_reducible refine (spec_l2Wipe.calls k PXh47 (.slice Ao37 l0_0.length co37) l0_0 a1_3 a2 t197 t200 w0 _ ?side1 ?side2 A36.out).mono ?_); (case side1 => repeat (first | (with_reducible first | exact HB.out | apply below_alloc | apply pw_below_drewN | apply below_drew1 | refine below_set ?_ GE193.out | refine below_set ?_ GE194.out | refine below_set ?_ GE195.out) | exact HB.out)); (case side2 => exact (ps HXAh47.out)); rintro e w48 ⟨v198, rfl, ho0, hb, hkp⟩; refine ⟨_, rfl, ?_⟩; replace HO0_1 := am (Kd.R_mono (ok' := fun k_ => ((P0_0_ k_ ∨ P0_1_ k_) ∨ w.heap.size ≤ k_)) (Kd.R_keptB ((Kd.R_awayP HO0_1.out (fun k_ h_ => (HXBh47.out k_ h_).2.2.2) (by decide))) hkp (fun k_ hk_ hs_ => (hk_.2) hs_)) (fun k_ hk_ => hk_.1.1)); replace BK193 := am (blk_kept (pb BK193.out) hkp (fun hs_ => (fun e_ => Kd.blk_awayP (fun k_ h_ => (HXBh47.out k_ h_).2.2.2) BK193.out (by decide) e_) hs_)); replace BK194 := am (blk_kept (pb BK194.out) hkp (fun hs_ => (fun e_ => Kd.blk_awayP (fun k_ h_ => (HXBh47.out k_ h_).2.2.2) BK194.out (by decide) e_) hs_)); replace BK195 := am (blk_kept (pb BK195.out) hkp (fun hs_ => (fun e_ => Kd.blk_awayP (fun k_ h_ => (HXBh47.out k_ h_).2.2.2) BK195.out (by decide) e_) hs_)); have HO199 := am (Kd.S_mono (ok' := fun k_ => ((P0_0_ k_ ∨ P0_1_ k_) ∨ w.heap.size ≤ k_)) ho0 (fun k_ hk_ => Or.elim hk_ (fun hs_ => (HXBh47.out k_ hs_).1) (fun hn_ => (.inr (Nat.le_trans (by first | exact HK.out.1 | exact (show Kept w _ (fun k_ => P0_0_ k_ ∨ P0_1_ k_) from by repeat (first | (with_reducible first | exact HK.out | apply Kept.alloc | apply Kept.drewN | apply Kept.drew | refine Kept.setCell ?_ (.inr GW193.out) _ | refine Kept.setCell ?_ (.inr GW194.out) _ | refine Kept.setCell ?_ (.inr GW195.out) _) | exact HK.out)).1) hn_))))); replace HK := am (Kept.then_ (S := (fun k_ => P0_0_ k_ ∨ P0_1_ k_)) (by repeat (first | (with_reducible first | exact HK.out | apply Kept.alloc | apply Kept.drewN | apply Kept.drew | refine Kept.setCell ?_ (.inr GW193.out) _ | refine Kept.setCell ?_ (.inr GW194.out) _ | refine Kept.setCell ?_ (.inr GW195.out) _) | exact HK.out)) hkp (fun k_ hs_ => (fun e_ => (HXBh47.out k_ e_).1) hs_)); replace HB := am (hb); clear HO0_0; (try clear hb); (try clear hkp); (try clear ho0); obtain ⟨Ao49, co49, eo49⟩ := Kd.S_slice HO199.out; subst eo49; obtain ⟨hcz50_0, hcz50_1⟩ := b2 BK193.out; obtain ⟨hfz50_0, hfz50_1⟩ := f2 BK193.out; obtain ⟨hcz51_0, hcz51_1⟩ := b2 BK195.out; obtain ⟨hfz51_0, hfz51_1⟩ := f2 BK195.out))
   refine bodyPost_ret (results_cell_row rfl _ _ gb195 57 #[.slice Ao49 t197.length co49, .slice Ao38 l0_1.length co38] (0, 0) _ rfl (by (with_reducible repeat (first | refine blk_drewN ?_ _ | refine blk_drew ?_ | refine blk_alloc ?_ _)); refine blk_put (cs := #[.slice Ao49 t197.length co49, .slice none 0 0]) ?_ 1 _ rfl; (with_reducible repeat (first | refine blk_drewN ?_ _ | refine blk_drew ?_ | refine blk_alloc ?_ _)); refine blk_put (cs := #[.slice none 0 0, .slice none 0 0]) ?_ 0 _ rfl; (with_reducible repeat (first | refine blk_drewN ?_ _ | refine blk_drew ?_ | refine blk_alloc ?_ _)); refine blk_far ?_ NB195_193.out _; (with_reducible repeat (first | refine blk_drewN ?_ _ | refine blk_drew ?_ | refine blk_alloc ?_ _)); exact BK195.out) Try.underlying57 rfl (by kernel_rfl)) rfl ?_
   exact ⟨_, _, rq ⟨by (with_reducible repeat (first | apply Kd.S_alloc | apply Kd.S_drewN | apply Kd.S_drew)); exact Kd.S_mono (Kd.S_far (p := ⟨gb195, 1, none⟩) (Kd.S_far (p := ⟨gb195, 0, none⟩) (Kd.S_far (p := ⟨gb193, 0, none⟩) (Kd.S_types (Kd.S_types HO199.out BK193.out (by decide)) BK195.out (by decide)) (fun _ hk => hk.1.2) (.slice Ao49 t197.length co49)) (fun _ hk => hk.2) (.slice Ao49 t197.length co49)) (fun _ hk => hk.2) (.slice Ao38 l0_1.length co38)) (fun _ hk => hk.1.1), by (with_reducible repeat (first | apply Kd.R_alloc | apply Kd.R_drewN | apply Kd.R_drew)); exact Kd.R_mono (Kd.R_far (p := ⟨gb195, 1, none⟩) (Kd.R_far (p := ⟨gb195, 0, none⟩) (Kd.R_far (p := ⟨gb193, 0, none⟩) (Kd.R_types (Kd.R_types HO0_1.out BK193.out (by decide)) BK195.out (by decide)) (fun _ hk => hk.1.2) (.slice Ao49 t197.length co49)) (fun _ hk => hk.2) (.slice Ao49 t197.length co49)) (fun _ hk => hk.2) (.slice Ao38 l0_1.length co38)) (fun _ hk => hk.1.1), bg3 HB.out GE193.out GE194.out GE195.out, by repeat (first | (with_reducible first | exact HK.out | apply Kept.alloc | apply Kept.drewN | apply Kept.drew | refine Kept.setCell ?_ (.inr GW193.out) _ | refine Kept.setCell ?_ (.inr GW194.out) _ | refine Kept.setCell ?_ (.inr GW195.out) _) | exact HK.out)⟩⟩
 rw [if_neg c35] at H
 have c35b0 : (a1_0 == 2) = false := beq_eq_false_iff_ne.mpr c35
 have c35b1 : (a1_0 != 2) = true := bne_iff_ne.mpr c35
 by_cases c52 : a1_0 = 3
 rotate_left
 · rw [if_neg c52] at H
   have c52b0 : (a1_0 == 3) = false := beq_eq_false_iff_ne.mpr c52
   have c52b1 : (a1_0 != 3) = true := bne_iff_ne.mpr c52
   simp only [Option.some.injEq, Prod.mk.injEq] at H
   obtain ⟨rfl, rfl⟩ := H
   obtain ⟨Ao69, co69, eo69⟩ := Kd.S_slice HO0_0.out
   subst eo69
   obtain ⟨Ao70, co70, eo70⟩ := Kd.R_slice HO0_1.out
   subst eo70
   go_enter Try.func37, Try.ntmps37
   go_wp2_with (first | (refine bx 3 #[.slice Ao69 l0_0.length co69, .slice Ao70 l0_1.length co70] 57 rfl ?_; intro gb193 hg w71 hbox hb; replace HO0_0 := am (Kd.S_below (ps HO0_0.out) hb); replace HO0_1 := am (Kd.R_below (pr HO0_1.out) hb); have BK193 := am (hbox); have GW193 := am ((by rw [hg]; exact (by first | exact HK.out.1 | exact (show Kept w _ (fun k_ => P0_0_ k_ ∨ P0_1_ k_) from pk HK.out).1) : w.heap.size ≤ gb193)); replace HK := am (Kept.below (S := (fun k_ => P0_0_ k_ ∨ P0_1_ k_)) (pk HK.out) hb); have GE193 := am ((by rw [hg]; exact (below_size (ph HB.out)) : w0.heap.size ≤ gb193)); replace HB := am (below_step (ph HB.out) hb); clear hb hbox hg) | (refine bx 4 #[.int .i64 a1_0, .int .i64 a1_1, .int .i64 a1_2, .int .i64 a1_3, .int .i64 a1_4, .int .i64 a1_5, .int .i64 a1_6, .int .i64 a1_7] 81 rfl ?_; intro gb194 hg w72 hbox hb; replace HO0_0 := am (Kd.S_below (ps HO0_0.out) hb); replace HO0_1 := am (Kd.R_below (pr HO0_1.out) hb); have BK194 := am (hbox); have GW194 := am ((by rw [hg]; exact (by first | exact HK.out.1 | exact (show Kept w _ (fun k_ => P0_0_ k_ ∨ P0_1_ k_) from by repeat (first | (with_reducible first | exact HK.out | apply Kept.alloc | apply Kept.drewN | apply Kept.drew | refine Kept.setCell ?_ (.inr GW193.out) _) | exact HK.out)).1) : w.heap.size ≤ gb194)); replace HK := am (Kept.below (S := (fun k_ => P0_0_ k_ ∨ P0_1_ k_)) (by repeat (first | (with_reducible first | exact HK.out | apply Kept.alloc | apply Kept.drewN | apply Kept.drew | refine Kept.setCell ?_ (.inr GW193.out) _) | exact HK.out)) hb); have GE194 := am ((by rw [hg]; exact (below_size (bg1 HB.out GE193.out)) : w0.heap.size ≤ gb194)); replace HB := am (below_step (bg1 HB.out GE193.out) hb); have NB193_194 := am ((by rw [hg]; exact Nat.ne_of_lt (blk_lt (pb BK193.out)) : gb193 ≠ gb194)); have NB194_193 := am (Ne.symm NB193_194.out); replace BK193 := am (blk_below (pb BK193.out) hb); clear hb hbox hg) | (refine bx 6 #[.slice none 0 0, .slice none 0 0] 57 rfl ?_; intro gb195 hg w73 hbox hb; replace HO0_0 := am (Kd.S_below (ps HO0_0.out) hb); replace HO0_1 := am (Kd.R_below (pr HO0_1.out) hb); have BK195 := am (hbox); have GW195 := am ((by rw [hg]; exact (by first | exact HK.out.1 | exact (show Kept w _ (fun k_ => P0_0_ k_ ∨ P0_1_ k_) from by repeat (first | (with_reducible first | exact HK.out | apply Kept.alloc | apply Kept.drewN | apply Kept.drew | refine Kept.setCell ?_ (.inr GW193.out) _ | refine Kept.setCell ?_ (.inr GW194.out) _) | exact HK.out)).1) : w.heap.size ≤ gb195)); replace HK := am (Kept.below (S := (fun k_ => P0_0_ k_ ∨ P0_1_ k_)) (by repeat (first | (with_reducible first | exact HK.out | apply Kept.alloc | apply Kept.drewN | apply Kept.drew | refine Kept.setCell ?_ (.inr GW193.out) _ | refine Kept.setCell ?_ (.inr GW194.out) _) | exact HK.out)) hb); have GE195 := am ((by rw [hg]; exact (below_size (bg2 HB.out GE193.out GE194.out)) : w0.heap.size ≤ gb195)); replace HB := am (below_step (bg2 HB.out GE193.out GE194.out) hb); have NB193_195 := am ((by rw [hg]; exact Nat.ne_of_lt (blk_lt (pb BK193.out)) : gb193 ≠ gb195)); have NB195_193 := am (Ne.symm NB193_195.out); replace BK193 := am (blk_below (pb BK193.out) hb); have NB194_195 := am ((by rw [hg]; exact Nat.ne_of_lt (blk_lt (pb BK194.out)) : gb194 ≠ gb195)); have NB195_194 := am (Ne.symm NB194_195.out); replace BK194 := am (blk_below (pb BK194.out) hb); clear hb hbox hg; have hnb74 := NB194_193.out; have hnc74 := NB193_194.out; have hnb75 := NB194_195.out; have hnc75 := NB195_194.out; obtain ⟨hcz76_0, hcz76_1, hcz76_2, hcz76_3, hcz76_4, hcz76_5, hcz76_6, hcz76_7⟩ := b8 BK194.out; obtain ⟨hfz76_0, hfz76_1, hfz76_2, hfz76_3, hfz76_4, hfz76_5, hfz76_6, hfz76_7⟩ := f8 BK194.out; have hnb77 := NB193_195.out; have hnc77 := NB195_193.out; obtain ⟨hcz78_0, hcz78_1⟩ := b2 BK193.out; obtain ⟨hfz78_0, hfz78_1⟩ := f2 BK193.out; obtain ⟨hcz79_0, hcz79_1⟩ := b2 BK195.out; obtain ⟨hfz79_0, hfz79_1⟩ := f2 BK195.out))
   refine bodyPost_ret (results_cell_row rfl _ _ gb195 57 #[.slice Ao69 l0_0.length co69, .slice Ao70 l0_1.length co70] (0, 0) _ rfl (by (with_reducible repeat (first | refine blk_drewN ?_ _ | refine blk_drew ?_ | refine blk_alloc ?_ _)); refine blk_put (cs := #[.slice Ao69 l0_0.length co69, .slice none 0 0]) ?_ 1 _ rfl; (with_reducible repeat (first | refine blk_drewN ?_ _ | refine blk_drew ?_ | refine blk_alloc ?_ _)); refine blk_put (cs := #[.slice none 0 0, .slice none 0 0]) ?_ 0 _ rfl; (with_reducible repeat (first | refine blk_drewN ?_ _ | refine blk_drew ?_ | refine blk_alloc ?_ _)); exact BK195.out) Try.underlying57 rfl (by kernel_rfl)) rfl ?_
   exact ⟨_, _, rq ⟨by (with_reducible repeat (first | apply Kd.S_alloc | apply Kd.S_drewN | apply Kd.S_drew)); exact Kd.S_mono (Kd.S_far (p := ⟨gb195, 1, none⟩) (Kd.S_far (p := ⟨gb195, 0, none⟩) (Kd.S_types HO0_0.out BK195.out (by decide)) (fun _ hk => hk.2) (.slice Ao69 l0_0.length co69)) (fun _ hk => hk.2) (.slice Ao70 l0_1.length co70)) (fun _ hk => hk.1), by (with_reducible repeat (first | apply Kd.R_alloc | apply Kd.R_drewN | apply Kd.R_drew)); exact Kd.R_mono (Kd.R_far (p := ⟨gb195, 1, none⟩) (Kd.R_far (p := ⟨gb195, 0, none⟩) (Kd.R_types HO0_1.out BK195.out (by decide)) (fun _ hk => hk.2) (.slice Ao69 l0_0.length co69)) (fun _ hk => hk.2) (.slice Ao70 l0_1.length co70)) (fun _ hk => hk.1), bg3 HB.out GE193.out GE194.out GE195.out, by repeat (first | (with_reducible first | exact HK.out | apply Kept.alloc | apply Kept.drewN | apply Kept.drew | refine Kept.setCell ?_ (.inr GW193.out) _ | refine Kept.setCell ?_ (.inr GW194.out) _ | refine Kept.setCell ?_ (.inr GW195.out) _) | exact HK.out)⟩⟩
 rw [if_pos c52] at H
 have c52b0 : (a1_0 == 3) = true := beq_iff_eq.mpr c52
 have c52b1 : (a1_0 != 3) = false := bne_eq_false_iff_eq.mpr c52
 clear c52
 replace H := Option.bind_eq_some_iff.mp H
 obtain ⟨⟨t201, t204⟩, A530, H⟩ := H
 replace H : (some (t201, l0_1)) = some (r1, r2) := H
 have A53 := am A530
 clear A530
 simp only [Option.some.injEq, Prod.mk.injEq] at H
 obtain ⟨rfl, rfl⟩ := H
 obtain ⟨Ao54, co54, eo54⟩ := Kd.S_slice HO0_0.out
 subst eo54
 obtain ⟨Ao55, co55, eo55⟩ := Kd.R_slice HO0_1.out
 subst eo55
 go_enter Try.func37, Try.ntmps37
 go_wp2_with (first | (refine bx 3 #[.slice Ao54 l0_0.length co54, .slice Ao55 l0_1.length co55] 57 rfl ?_; intro gb193 hg w56 hbox hb; replace HO0_0 := am (Kd.S_below (ps HO0_0.out) hb); replace HO0_1 := am (Kd.R_below (pr HO0_1.out) hb); have BK193 := am (hbox); have GW193 := am ((by rw [hg]; exact (by first | exact HK.out.1 | exact (show Kept w _ (fun k_ => P0_0_ k_ ∨ P0_1_ k_) from pk HK.out).1) : w.heap.size ≤ gb193)); replace HK := am (Kept.below (S := (fun k_ => P0_0_ k_ ∨ P0_1_ k_)) (pk HK.out) hb); have GE193 := am ((by rw [hg]; exact (below_size (ph HB.out)) : w0.heap.size ≤ gb193)); replace HB := am (below_step (ph HB.out) hb); clear hb hbox hg) | (refine bx 4 #[.int .i64 a1_0, .int .i64 a1_1, .int .i64 a1_2, .int .i64 a1_3, .int .i64 a1_4, .int .i64 a1_5, .int .i64 a1_6, .int .i64 a1_7] 81 rfl ?_; intro gb194 hg w57 hbox hb; replace HO0_0 := am (Kd.S_below (ps HO0_0.out) hb); replace HO0_1 := am (Kd.R_below (pr HO0_1.out) hb); have BK194 := am (hbox); have GW194 := am ((by rw [hg]; exact (by first | exact HK.out.1 | exact (show Kept w _ (fun k_ => P0_0_ k_ ∨ P0_1_ k_) from by repeat (first | (with_reducible first | exact HK.out | apply Kept.alloc | apply Kept.drewN | apply Kept.drew | refine Kept.setCell ?_ (.inr GW193.out) _) | exact HK.out)).1) : w.heap.size ≤ gb194)); replace HK := am (Kept.below (S := (fun k_ => P0_0_ k_ ∨ P0_1_ k_)) (by repeat (first | (with_reducible first | exact HK.out | apply Kept.alloc | apply Kept.drewN | apply Kept.drew | refine Kept.setCell ?_ (.inr GW193.out) _) | exact HK.out)) hb); have GE194 := am ((by rw [hg]; exact (below_size (bg1 HB.out GE193.out)) : w0.heap.size ≤ gb194)); replace HB := am (below_step (bg1 HB.out GE193.out) hb); have NB193_194 := am ((by rw [hg]; exact Nat.ne_of_lt (blk_lt (pb BK193.out)) : gb193 ≠ gb194)); have NB194_193 := am (Ne.symm NB193_194.out); replace BK193 := am (blk_below (pb BK193.out) hb); clear hb hbox hg) | (refine bx 6 #[.slice none 0 0, .slice none 0 0] 57 rfl ?_; intro gb195 hg w58 hbox hb; replace HO0_0 := am (Kd.S_below (ps HO0_0.out) hb); replace HO0_1 := am (Kd.R_below (pr HO0_1.out) hb); have BK195 := am (hbox); have GW195 := am ((by rw [hg]; exact (by first | exact HK.out.1 | exact (show Kept w _ (fun k_ => P0_0_ k_ ∨ P0_1_ k_) from by repeat (first | (with_reducible first | exact HK.out | apply Kept.alloc | apply Kept.drewN | apply Kept.drew | refine Kept.setCell ?_ (.inr GW193.out) _ | refine Kept.setCell ?_ (.inr GW194.out) _) | exact HK.out)).1) : w.heap.size ≤ gb195)); replace HK := am (Kept.below (S := (fun k_ => P0_0_ k_ ∨ P0_1_ k_)) (by repeat (first | (with_reducible first | exact HK.out | apply Kept.alloc | apply Kept.drewN | apply Kept.drew | refine Kept.setCell ?_ (.inr GW193.out) _ | refine Kept.setCell ?_ (.inr GW194.out) _) | exact HK.out)) hb); have GE195 := am ((by rw [hg]; exact (below_size (bg2 HB.out GE193.out GE194.out)) : w0.heap.size ≤ gb195)); replace HB := am (below_step (bg2 HB.out GE193.out GE194.out) hb); have NB193_195 := am ((by rw [hg]; exact Nat.ne_of_lt (blk_lt (pb BK193.out)) : gb193 ≠ gb195)); have NB195_193 := am (Ne.symm NB193_195.out); replace BK193 := am (blk_below (pb BK193.out) hb); have NB194_195 := am ((by rw [hg]; exact Nat.ne_of_lt (blk_lt (pb BK194.out)) : gb194 ≠ gb195)); have NB195_194 := am (Ne.symm NB194_195.out); replace BK194 := am (blk_below (pb BK194.out) hb); clear hb hbox hg; have hnb59 := NB194_193.out; have hnc59 := NB193_194.out; have hnb60 := NB194_195.out; have hnc60 := NB195_194.out; obtain ⟨hcz61_0, hcz61_1, hcz61_2, hcz61_3, hcz61_4, hcz61_5, hcz61_6, hcz61_7⟩ := b8 BK194.out; obtain ⟨hfz61_0, hfz61_1, hfz61_2, hfz61_3, hfz61_4, hfz61_5, hfz61_6, hfz61_7⟩ := f8 BK194.out; have hnb62 := NB193_195.out; have hnc62 := NB195_193.out; obtain ⟨hcz63_0, hcz63_1⟩ := b2 BK193.out; obtain ⟨hfz63_0, hfz63_1⟩ := f2 BK193.out; obtain ⟨PXh64, hxa_, hxb_⟩ := Kd.S_hand HO0_0.out; have HXAh64 := am hxa_; have HXBh64 := am hxb_; clear hxa_ hxb_) | (refine gl 43 Try.func43 #[.slice Ao54 l0_0.length co54, .int .i64 a1_3, .agg #[.int .i64 a1_4, .int .i64 a1_5, .int .i64 a1_6, .int .i64 a1_7], .bool a2] rfl ?_; (with_reducible refine (spec_l2Write.calls k PXh64 (.slice Ao54 l0_0.length co54) l0_0 a1_3 a1_4 a1_5 a1_6 a1_7 a2 t201 t204 w0 _ ?side1 ?side2 A53.out).mono ?_); (case side1 => repeat (first | (with_reducible first | exact HB.out | apply below_alloc | apply pw_below_drewN | apply below_drew1 | refine below_set ?_ GE193.out | refine below_set ?_ GE194.out | refine below_set ?_ GE195.out) | exact HB.out)); (case side2 => exact (ps HXAh64.out)); rintro e w65 ⟨v202, rfl, ho0, hb, hkp⟩; refine ⟨_, rfl, ?_⟩; replace HO0_1 := am (Kd.R_mono (ok' := fun k_ => ((P0_0_ k_ ∨ P0_1_ k_) ∨ w.heap.size ≤ k_)) (Kd.R_keptB ((Kd.R_awayP HO0_1.out (fun k_ h_ => (HXBh64.out k_ h_).2.2.2) (by decide))) hkp (fun k_ hk_ hs_ => (hk_.2) hs_)) (fun k_ hk_ => hk_.1.1)); replace BK193 := am (blk_kept (pb BK193.out) hkp (fun hs_ => (fun e_ => Kd.blk_awayP (fun k_ h_ => (HXBh64.out k_ h_).2.2.2) BK193.out (by decide) e_) hs_)); replace BK194 := am (blk_kept (pb BK194.out) hkp (fun hs_ => (fun e_ => Kd.blk_awayP (fun k_ h_ => (HXBh64.out k_ h_).2.2.2) BK194.out (by decide) e_) hs_)); replace BK195 := am (blk_kept (pb BK195.out) hkp (fun hs_ => (fun e_ => Kd.blk_awayP (fun k_ h_ => (HXBh64.out k_ h_).2.2.2) BK195.out (by decide) e_) hs_)); have HO203 := am (Kd.S_mono (ok' := fun k_ => ((P0_0_ k_ ∨ P0_1_ k_) ∨ w.heap.size ≤ k_)) ho0 (fun k_ hk_ => Or.elim hk_ (fun hs_ => (HXBh64.out k_ hs_).1) (fun hn_ => (.inr (Nat.le_trans (by first | exact HK.out.1 | exact (show Kept w _ (fun k_ => P0_0_ k_ ∨ P0_1_ k_) from by repeat (first | (with_reducible first | exact HK.out | apply Kept.alloc | apply Kept.drewN | apply Kept.drew | refine Kept.setCell ?_ (.inr GW193.out) _ | refine Kept.setCell ?_ (.inr GW194.out) _ | refine Kept.setCell ?_ (.inr GW195.out) _) | exact HK.out)).1) hn_))))); replace HK := am (Kept.then_ (S := (fun k_ => P0_0_ k_ ∨ P0_1_ k_)) (by repeat (first | (with_reducible first | exact HK.out | apply Kept.alloc | apply Kept.drewN | apply Kept.drew | refine Kept.setCell ?_ (.inr GW193.out) _ | refine Kept.setCell ?_ (.inr GW194.out) _ | refine Kept.setCell ?_ (.inr GW195.out) _) | exact HK.out)) hkp (fun k_ hs_ => (fun e_ => (HXBh64.out k_ e_).1) hs_)); replace HB := am (hb); clear HO0_0; (try clear hb); (try clear hkp); (try clear ho0); obtain ⟨Ao66, co66, eo66⟩ := Kd.S_slice HO203.out; subst eo66; obtain ⟨hcz67_0, hcz67_1⟩ := b2 BK193.out; obtain ⟨hfz67_0, hfz67_1⟩ := f2 BK193.out; obtain ⟨hcz68_0, hcz68_1⟩ := b2 BK195.out; obtain ⟨hfz68_0, hfz68_1⟩ := f2 BK195.out))
 refine bodyPost_ret (results_cell_row rfl _ _ gb195 57 #[.slice Ao66 t201.length co66, .slice Ao55 l0_1.length co55] (0, 0) _ rfl (by (with_reducible repeat (first | refine blk_drewN ?_ _ | refine blk_drew ?_ | refine blk_alloc ?_ _)); refine blk_put (cs := #[.slice Ao66 t201.length co66, .slice none 0 0]) ?_ 1 _ rfl; (with_reducible repeat (first | refine blk_drewN ?_ _ | refine blk_drew ?_ | refine blk_alloc ?_ _)); refine blk_put (cs := #[.slice none 0 0, .slice none 0 0]) ?_ 0 _ rfl; (with_reducible repeat (first | refine blk_drewN ?_ _ | refine blk_drew ?_ | refine blk_alloc ?_ _)); refine blk_far ?_ NB195_193.out _; (with_reducible repeat (first | refine blk_drewN ?_ _ | refine blk_drew ?_ | refine blk_alloc ?_ _)); exact BK195.out) Try.underlying57 rfl (by kernel_rfl)) rfl ?_
 exact ⟨_, _, rq ⟨by (with_reducible repeat (first | apply Kd.S_alloc | apply Kd.S_drewN | apply Kd.S_drew)); exact Kd.S_mono (Kd.S_far (p := ⟨gb195, 1, none⟩) (Kd.S_far (p := ⟨gb195, 0, none⟩) (Kd.S_far (p := ⟨gb193, 0, none⟩) (Kd.S_types (Kd.S_types HO203.out BK193.out (by decide)) BK195.out (by decide)) (fun _ hk => hk.1.2) (.slice Ao66 t201.length co66)) (fun _ hk => hk.2) (.slice Ao66 t201.length co66)) (fun _ hk => hk.2) (.slice Ao55 l0_1.length co55)) (fun _ hk => hk.1.1), by (with_reducible repeat (first | apply Kd.R_alloc | apply Kd.R_drewN | apply Kd.R_drew)); exact Kd.R_mono (Kd.R_far (p := ⟨gb195, 1, none⟩) (Kd.R_far (p := ⟨gb195, 0, none⟩) (Kd.R_far (p := ⟨gb193, 0, none⟩) (Kd.R_types (Kd.R_types HO0_1.out BK193.out (by decide)) BK195.out (by decide)) (fun _ hk => hk.1.2) (.slice Ao66 t201.length co66)) (fun _ hk => hk.2) (.slice Ao66 t201.length co66)) (fun _ hk => hk.2) (.slice Ao55 l0_1.length co55)) (fun _ hk => hk.1.1), bg3 HB.out GE193.out GE194.out GE195.out, by repeat (first | (with_reducible first | exact HK.out | apply Kept.alloc | apply Kept.drewN | apply Kept.drew | refine Kept.setCell ?_ (.inr GW193.out) _ | refine Kept.setCell ?_ (.inr GW194.out) _ | refine Kept.setCell ?_ (.inr GW195.out) _) | exact HK.out)⟩⟩
mutual
def spec_l12To.j1 : Nat → List (S81) → Int → Bool → List (S35) → List Int → Option ((List (S35)) × List Int)
 | 0, _, _, _, _, _ => none
 | k + 1, x1, x2, x3, x206000, x206001 => if x3 = true then ((spec_l6In.f x2 0 (wrap64 ((x1.length : Int) - 1))).bind fun t214 => (if t214 = true then (if 0 ≤ x2 then (if x2 < (x1.length : Int) then ((spec_l12Do.f k x206000 x206001 ((rd_T81 x1 x2).f0) ((rd_T81 x1 x2).f1) ((rd_T81 x1 x2).f2) ((rd_T81 x1 x2).f3) ((rd_T81 x1 x2).f4.f0) ((rd_T81 x1 x2).f4.f1) ((rd_T81 x1 x2).f4.f2) ((rd_T81 x1 x2).f4.f3) true).bind fun bt216 => (some (bt216.1, bt216.2))) else (none)) else (none)) else (some (x206000, x206001)))) else (some (x206000, x206001))
def spec_l12To.l0 : Nat → List (S81) → Int → Bool → Int → List (S35) → List Int → Option ((List (S35)) × List Int)
 | 0, _, _, _, _, _, _ => none
 | k + 1, x1, x2, x3, x9, x206000, x206001 => if x9 < (x1.length : Int) then (if x9 < x2 then (if 0 ≤ x9 then ((spec_l12Do.f k x206000 x206001 ((rd_T81 x1 x9).f0) ((rd_T81 x1 x9).f1) ((rd_T81 x1 x9).f2) ((rd_T81 x1 x9).f3) ((rd_T81 x1 x9).f4.f0) ((rd_T81 x1 x9).f4.f1) ((rd_T81 x1 x9).f4.f2) ((rd_T81 x1 x9).f4.f3) false).bind fun bt208 => (spec_l12To.l0 k x1 x2 x3 (wrap64 (x9 + 1)) bt208.1 bt208.2)) else (none)) else (spec_l12To.j1 k x1 x2 x3 x206000 x206001)) else (spec_l12To.j1 k x1 x2 x3 x206000 x206001)
end
def spec_l12To.f (k : Nat) (l0_0 : List (S35)) (l0_1 : List Int) (l1 : List (S81)) (a2 : Int) (a3 : Bool) : Option ((List (S35)) × List Int) := spec_l12To.l0 k l1 a2 a3 0 l0_0 l0_1
theorem spec_l12To.mono_l : ∀ k, (∀ y0 y1 y2 y3 y4, LeO (spec_l12To.j1 k y0 y1 y2 y3 y4) (spec_l12To.j1 (k + 1) y0 y1 y2 y3 y4)) ∧ (∀ y0 y1 y2 y3 y4 y5, LeO (spec_l12To.l0 k y0 y1 y2 y3 y4 y5) (spec_l12To.l0 (k + 1) y0 y1 y2 y3 y4 y5))
 | 0 => ⟨fun _ _ _ _ _ r h => by simp [spec_l12To.j1] at h, fun _ _ _ _ _ _ r h => by simp [spec_l12To.l0] at h⟩
 | k + 1 => by
  obtain ⟨ih0, ih1⟩ := spec_l12To.mono_l k
  refine ⟨?_, ?_⟩
  · intro y0 y1 y2 y3 y4
    unfold spec_l12To.j1
    repeat' first
    | (with_reducible exact ih0 _ _ _ _ _)
    | (with_reducible exact ih1 _ _ _ _ _ _)
    | (with_reducible exact spec_l12Do.mono _ _ _ _ _ _ _ _ _ _ _ _)
    | (with_reducible exact LeO.refl _)
    | (with_reducible exact LeO.none _)
    | (with_reducible refine LeO.ite ?_ ?_)
    | (with_reducible refine LeO.bind ?_ (fun _ => ?_))
    | exact ih0 _ _ _ _ _
    | exact ih1 _ _ _ _ _ _
    | exact spec_l12Do.mono _ _ _ _ _ _ _ _ _ _ _ _
    | exact LeO.none _
    | refine LeO.ite ?_ ?_
    | refine LeO.bind ?_ (fun _ => ?_)
  · intro y0 y1 y2 y3 y4 y5
    unfold spec_l12To.l0
    repeat' first
    | (with_reducible exact ih0 _ _ _ _ _)
    | (with_reducible exact ih1 _ _ _ _ _ _)
    | (with_reducible exact spec_l12Do.mono _ _ _ _ _ _ _ _ _ _ _ _)
    | (with_reducible exact LeO.refl _)
    | (with_reducible exact LeO.none _)
    | (with_reducible refine LeO.ite ?_ ?_)
    | (with_reducible refine LeO.bind ?_ (fun _ => ?_))
    | exact ih0 _ _ _ _ _
    | exact ih1 _ _ _ _ _ _
    | exact spec_l12Do.mono _ _ _ _ _ _ _ _ _ _ _ _
    | exact LeO.none _
    | refine LeO.ite ?_ ?_
    | refine LeO.bind ?_ (fun _ => ?_)
theorem spec_l12To.mono : ∀ a0 a1 a2 a3 a4 k, LeO (spec_l12To.f k a0 a1 a2 a3 a4) (spec_l12To.f (k + 1) a0 a1 a2 a3 a4) := by
 intro a0 a1 a2 a3 a4 k
 obtain ⟨ih0, ih1⟩ := spec_l12To.mono_l k
 unfold spec_l12To.f
 repeat' first
  | (with_reducible exact ih0 _ _ _ _ _)
  | (with_reducible exact ih1 _ _ _ _ _ _)
  | (with_reducible exact spec_l12Do.mono _ _ _ _ _ _ _ _ _ _ _ _)
  | (with_reducible exact LeO.refl _)
  | (with_reducible exact LeO.none _)
  | (with_reducible refine LeO.ite ?_ ?_)
  | (with_reducible refine LeO.bind ?_ (fun _ => ?_))
  | exact ih0 _ _ _ _ _
  | exact ih1 _ _ _ _ _ _
  | exact spec_l12Do.mono _ _ _ _ _ _ _ _ _ _ _ _
  | exact LeO.none _
  | refine LeO.ite ?_ ?_
  | refine LeO.bind ?_ (fun _ => ?_)
set_option maxHeartbeats 8000000 in
set_option maxRecDepth 100000 in
theorem spec_l12To.calls (k : Nat) (P0_0_ : Nat → Prop) (u9000_ : Value) (l0_0 : List (S35)) (P0_1_ : Nat → Prop) (u9001_ : Value) (l0_1 : List Int) (A1 : Option Addr) (c1 : Nat) (l1 : List (S81)) (a2 : Int) (a3 : Bool) (r1 : List (S35)) (r2 : List Int) (w0 w : World) (hB : Below w0.heap.size w0 w) (ho0_0 : Kd.S k35 35 w w0.heap.size P0_0_ u9000_ l0_0) (ho0_1 : Kd.R (Kd.int .i64) 3 w w0.heap.size P0_1_ u9001_ l0_1) (hr1 : ∀ W_, Kept w W_ (fun k_ => P0_0_ k_ ∨ P0_1_ k_) → Kd.C k81 W_ A1 l1.length l1) (hc1 : l1.length ≤ c1) (h : spec_l12To.f k l0_0 l0_1 l1 a2 a3 = some (r1, r2)) :
 Calls Try.prog 32 #[.agg #[u9000_, u9001_], .slice A1 l1.length c1, .int .i64 a2, .bool a3] w fun e w' => ∃ v0_ v1_ : Value, e = .returned (.agg #[v0_, v1_]) ∧ Kd.S k35 35 w' w0.heap.size (fun k_ => ((P0_0_ k_ ∨ P0_1_ k_) ∨ w.heap.size ≤ k_)) v0_ r1 ∧ Kd.R (Kd.int .i64) 3 w' w0.heap.size (fun k_ => ((P0_0_ k_ ∨ P0_1_ k_) ∨ w.heap.size ≤ k_)) v1_ r2 ∧ Below w0.heap.size w0 w' ∧ Kept w w' (fun k_ => P0_0_ k_ ∨ P0_1_ k_) := by
 have hu57 := Try.underlying57
 have hu81 := Try.underlying81
 have HO0_0 := am (show Kd.S k35 35 w w0.heap.size (fun k_ => ((P0_0_ k_ ∨ P0_1_ k_) ∨ w.heap.size ≤ k_)) u9000_ l0_0 from Kd.S_mono ho0_0 (fun k_ hk => (.inl (.inl hk))))
 have HO0_1 := am (show Kd.R (Kd.int .i64) 3 w w0.heap.size (fun k_ => ((P0_0_ k_ ∨ P0_1_ k_) ∨ w.heap.size ≤ k_)) u9001_ l0_1 from Kd.R_mono ho0_1 (fun k_ hk => (.inl (.inr hk))))
 have HR1 := am hr1
 have HC1 := am hc1
 clear hr1 hc1
 have HK := am (Kept.refl w (fun k_ => P0_0_ k_ ∨ P0_1_ k_))
 have HW0 := am hB.size
 have HB := am hB
 clear hB
 have H : (spec_l12To.l0 k l1 a2 a3 0 l0_0 l0_1) = some (r1, r2) := h
 clear h
 have HC5 := am H
 clear H
 obtain ⟨Ao6, co6, eo6⟩ := Kd.S_slice HO0_0.out
 subst eo6
 obtain ⟨Ao7, co7, eo7⟩ := Kd.R_slice HO0_1.out
 subst eo7
 go_enter Try.func32, Try.ntmps32
 go_upto_block 0 with (first | ((with_reducible refine gate_dst (N := 4) rfl ?_); (try (refine gate_guard (by rfl) ?_; dsimp only)); refine box_event ?hg (N := 4) ?hd (cs := #[.slice Ao6 l0_0.length co6, .slice Ao7 l0_1.length co7]) (t := 57) ?hr ?_; (case hd => rfl); (case hg => rfl); (case hr => first | (go_simp; done) | (go_simp; rfl)); intro gb205 hg w8 hbox hb; replace HO0_0 := am (Kd.S_below (ps HO0_0.out) hb); replace HO0_1 := am (Kd.R_below (pr HO0_1.out) hb); have BK205 := am (hbox); have GW205 := am ((by rw [hg]; exact (by first | exact HK.out.1 | exact (show Kept w _ (fun k_ => P0_0_ k_ ∨ P0_1_ k_) from pk HK.out).1) : w.heap.size ≤ gb205)); replace HK := am (Kept.below (S := (fun k_ => P0_0_ k_ ∨ P0_1_ k_)) (pk HK.out) hb); have GE205 := am ((by rw [hg]; exact (below_size (ph HB.out)) : w0.heap.size ≤ gb205)); replace HB := am (below_step (ph HB.out) hb); clear hb hbox hg) | ((with_reducible refine gate_dst (N := 8) rfl ?_); (try (refine gate_guard (by rfl) ?_; dsimp only)); refine box_event ?hg (N := 8) ?hd (cs := #[.slice none 0 0, .slice none 0 0]) (t := 57) ?hr ?_; (case hd => rfl); (case hg => rfl); (case hr => first | (go_simp; done) | (go_simp; rfl)); intro gb206 hg w9 hbox hb; replace HO0_0 := am (Kd.S_below (ps HO0_0.out) hb); replace HO0_1 := am (Kd.R_below (pr HO0_1.out) hb); have BK206 := am (hbox); have GW206 := am ((by rw [hg]; exact (by first | exact HK.out.1 | exact (show Kept w _ (fun k_ => P0_0_ k_ ∨ P0_1_ k_) from by repeat (first | (with_reducible first | exact HK.out | apply Kept.alloc | apply Kept.drewN | apply Kept.drew | refine Kept.setCell ?_ (.inr GW205.out) _) | exact HK.out)).1) : w.heap.size ≤ gb206)); replace HK := am (Kept.below (S := (fun k_ => P0_0_ k_ ∨ P0_1_ k_)) (by repeat (first | (with_reducible first | exact HK.out | apply Kept.alloc | apply Kept.drewN | apply Kept.drew | refine Kept.setCell ?_ (.inr GW205.out) _) | exact HK.out)) hb); have GE206 := am ((by rw [hg]; exact (below_size (bg1 HB.out GE205.out)) : w0.heap.size ≤ gb206)); replace HB := am (below_step (bg1 HB.out GE205.out) hb); have NB205_206 := am ((by rw [hg]; exact Nat.ne_of_lt (blk_lt (pb BK205.out)) : gb205 ≠ gb206)); have NB206_205 := am (Ne.symm NB205_206.out); replace BK205 := am (blk_below (pb BK205.out) hb); clear hb hbox hg))
 (try simp only [Act.put, List.setIfInBounds_toArray, List.set_cons_zero, List.set_cons_succ])
 go_cut [] (fun wc => ∃ (kq : Nat) (x206000_4 : List (S35)) (x206001_4 : List Int) (u206000 : Value) (u206001 : Value), Aside0 (spec_l12To.j1 kq l1 a2 a3 x206000_4 x206001_4 = some (r1, r2)) ∧ Aside0 (kq ≤ k) ∧ Aside0 (Kd.S k35 35 wc w0.heap.size (fun k_ => ((P0_0_ k_ ∨ P0_1_ k_) ∨ w.heap.size ≤ k_)) u206000 x206000_4) ∧ Aside0 (Kd.R (Kd.int .i64) 3 wc w0.heap.size (fun k_ => ((P0_0_ k_ ∨ P0_1_ k_) ∨ w.heap.size ≤ k_)) u206001 x206001_4) ∧ Aside0 (wc.heap[gb205]? = some (.cells #[u206000, u206001] 57 (0, 0))) ∧ Aside0 (wc.heap[gb206]? = some (.cells #[(.slice none 0 0), (.slice none 0 0)] 57 (0, 0))) ∧ Aside0 (Kept w wc (fun k_ => P0_0_ k_ ∨ P0_1_ k_)) ∧ Aside0 (Below w0.heap.size w0 wc))
 case first =>
  have H := HC5.out
  clear HC5
  have H' := am H
  clear H
  go_wp2
  go_loopg [9] k (fun kq v9 w' => ∃ (x9_1 : Int) (x206000_1 : List (S35)) (x206001_1 : List Int) (u206000 : Value) (u206001 : Value), v9 = .int .i64 x9_1 ∧ Aside0 (spec_l12To.l0 kq l1 a2 a3 x9_1 x206000_1 x206001_1 = some (r1, r2)) ∧ Aside0 (kq ≤ k) ∧ Aside0 (Kd.S k35 35 w' w0.heap.size (fun k_ => ((P0_0_ k_ ∨ P0_1_ k_) ∨ w.heap.size ≤ k_)) u206000 x206000_1) ∧ Aside0 (Kd.R (Kd.int .i64) 3 w' w0.heap.size (fun k_ => ((P0_0_ k_ ∨ P0_1_ k_) ∨ w.heap.size ≤ k_)) u206001 x206001_1) ∧ Aside0 (w'.heap[gb205]? = some (.cells #[u206000, u206001] 57 (0, 0))) ∧ Aside0 (w'.heap[gb206]? = some (.cells #[(.slice none 0 0), (.slice none 0 0)] 57 (0, 0))) ∧ Aside0 (Kept w w' (fun k_ => P0_0_ k_ ∨ P0_1_ k_)) ∧ Aside0 (Below w0.heap.size w0 w'))
  case atStart => exact ⟨(0), (l0_0), (l0_1), (.slice Ao6 l0_0.length co6), (.slice Ao7 l0_1.length co7), rf, H', ⟨Nat.le_refl _⟩, ⟨ps HO0_0.out⟩, ⟨pr HO0_1.out⟩, ⟨pb BK205.out⟩, ⟨pb BK206.out⟩, ⟨by repeat (first | (with_reducible first | exact HK.out | apply Kept.alloc | apply Kept.drewN | apply Kept.drew | refine Kept.setCell ?_ (.inr GW205.out) _ | refine Kept.setCell ?_ (.inr GW206.out) _) | exact HK.out)⟩, ⟨bg2 HB.out GE205.out GE206.out⟩⟩
  case round =>
   clear H'
   obtain ⟨x9_1, x206000_1, x206001_1, u206000, u206001, rfl, HA, HK1, HO_206000, HO_206001, BK205, BK206, HK, HB⟩ := hrel
   cases gk with
   | zero => exact absurd HA.out (by simp [spec_l12To.l0])
   | succ k1 =>
    have H := HA.out
    clear HA
    simp only [spec_l12To.l0] at H
    by_cases c10 : x9_1 < (l1.length : Int)
    rotate_left
    · rw [if_neg c10] at H
      have c10b0 := decide_eq_false c10
      clear c10
      (first | rw [c10b0] | (simp only [i64_w, i32_w]; rw [c10b0]) | skip)
      have H' := am H
      clear H
      go_wp2
      go_meet
      case rel => exact ⟨_, (x206000_1), (x206001_1), (u206000), (u206001), H', ⟨by have := HK1.out; first | omega | exact Nat.le_refl _⟩, ⟨ps HO_206000.out⟩, ⟨pr HO_206001.out⟩, ⟨pb BK205.out⟩, ⟨pb BK206.out⟩, ⟨by repeat (first | (with_reducible first | exact HK.out | apply Kept.alloc | apply Kept.drewN | apply Kept.drew | refine Kept.setCell ?_ (.inr GW205.out) _ | refine Kept.setCell ?_ (.inr GW206.out) _) | exact HK.out)⟩, ⟨bg2 HB.out GE205.out GE206.out⟩⟩
    rw [if_pos c10] at H
    have c10b0 := decide_eq_true c10
    clear c10
    (first | rw [c10b0] | (simp only [i64_w, i32_w]; rw [c10b0]) | skip)
    by_cases c11 : x9_1 < a2
    rotate_left
    · rw [if_neg c11] at H
      have c11b0 := decide_eq_false c11
      clear c11
      have H' := am H
      clear H
      go_wp2
      go_meet
      case rel => exact ⟨_, (x206000_1), (x206001_1), (u206000), (u206001), H', ⟨by have := HK1.out; first | omega | exact Nat.le_refl _⟩, ⟨ps HO_206000.out⟩, ⟨pr HO_206001.out⟩, ⟨pb BK205.out⟩, ⟨pb BK206.out⟩, ⟨by repeat (first | (with_reducible first | exact HK.out | apply Kept.alloc | apply Kept.drewN | apply Kept.drew | refine Kept.setCell ?_ (.inr GW205.out) _ | refine Kept.setCell ?_ (.inr GW206.out) _) | exact HK.out)⟩, ⟨bg2 HB.out GE205.out GE206.out⟩⟩
    rw [if_pos c11] at H
    have c11b0 := decide_eq_true c11
    clear c11
    by_cases c12 : 0 ≤ x9_1
    rotate_left
    · rw [if_neg c12] at H
      exact absurd H (by simp)
    rw [if_pos c12] at H
    have c12b0 := decide_eq_true c12
    clear c12
    replace H := Option.bind_eq_some_iff.mp H
    obtain ⟨⟨t208, t211⟩, A130, H⟩ := H
    replace H : (spec_l12To.l0 k1 l1 a2 a3 (wrap64 (x9_1 + 1)) t208 t211) = some (r1, r2) := H
    have A13 := am A130
    clear A130
    have H' := am H
    clear H
    try go_wp2
    replace HO_206000 := am (Kd.S_drew HO_206000.out)
    replace HO_206001 := am (Kd.R_drew HO_206001.out)
    replace BK205 := am (blk_drew BK205.out)
    replace BK206 := am (blk_drew BK206.out)
    replace HK := am (Kept.drew HK.out)
    replace HB := am (below_drew1 HB.out)
    have p207 : 0 ≤ (x9_1 : Int) := ofb
    have q207 : x9_1 < (l1.length : Int) := ofb
    obtain ⟨ad207, e207, hx207_0, hx207_1, hx207_2, hx207_3, hx207_4, hx207_5, hx207_6, hx207_7⟩ := at_T81 (Kd.C_kept_now HR1.out HK.out) x9_1 p207 q207
    have hw207_7 := hx207_7
    have hw207_6 := hx207_6
    have hw207_5 := hx207_5
    have hw207_4 := hx207_4
    have hw207_3 := hx207_3
    have hw207_2 := hx207_2
    have hw207_1 := hx207_1
    have hw207_0 := hx207_0
    cases e207
    replace p207 := eq_true p207
    replace q207 := eq_true q207
    obtain ⟨Ao15, co15, eo15⟩ := Kd.S_slice HO_206000.out
    (first | subst eo15 | (injection eo15 with f1_ f2_ f3_; have f4_ := f1_.symm; have f5_ := f3_.symm; clear f1_ f2_ f3_; subst f4_; subst f5_))
    obtain ⟨Ao16, co16, eo16⟩ := Kd.R_slice HO_206001.out
    (first | subst eo16 | (injection eo16 with f1_ f2_ f3_; have f4_ := f1_.symm; have f5_ := f3_.symm; clear f1_ f2_ f3_; subst f4_; subst f5_))
    obtain ⟨PXh17, hxa_, hxb_⟩ := Kd.S_hand HO_206000.out
    have HXAh17 := am hxa_
    have HXBh17 := am hxb_
    clear hxa_ hxb_
    refine start_ (n := 7) (S := fun w' => w'.cell? ⟨gb205, 0, none⟩ = some (.slice Ao15 x206000_1.length co15) ∧ w'.cell? ⟨gb205, 1, none⟩ = some (.slice Ao16 x206001_1.length co16) ∧ w'.cell? (ad207.add ((x9_1).toNat * 8)) = some (.int .i64 ((rd_T81 l1 x9_1).f0)) ∧ w'.cell? ⟨(ad207.add ((x9_1).toNat * 8)).block, (ad207.add ((x9_1).toNat * 8)).off + 1, none⟩ = some (.int .i64 ((rd_T81 l1 x9_1).f1)) ∧ w'.cell? ⟨(ad207.add ((x9_1).toNat * 8)).block, (ad207.add ((x9_1).toNat * 8)).off + 2, none⟩ = some (.int .i64 ((rd_T81 l1 x9_1).f2)) ∧ w'.cell? ⟨(ad207.add ((x9_1).toNat * 8)).block, (ad207.add ((x9_1).toNat * 8)).off + 3, none⟩ = some (.int .i64 ((rd_T81 l1 x9_1).f3)) ∧ w'.cell? ⟨(ad207.add ((x9_1).toNat * 8)).block, (ad207.add ((x9_1).toNat * 8)).off + 4, none⟩ = some (.int .i64 ((rd_T81 l1 x9_1).f4.f0)) ∧ w'.cell? ⟨(ad207.add ((x9_1).toNat * 8)).block, (ad207.add ((x9_1).toNat * 8)).off + 5, none⟩ = some (.int .i64 ((rd_T81 l1 x9_1).f4.f1)) ∧ w'.cell? ⟨(ad207.add ((x9_1).toNat * 8)).block, (ad207.add ((x9_1).toNat * 8)).off + 6, none⟩ = some (.int .i64 ((rd_T81 l1 x9_1).f4.f2)) ∧ w'.cell? ⟨(ad207.add ((x9_1).toNat * 8)).block, (ad207.add ((x9_1).toNat * 8)).off + 7, none⟩ = some (.int .i64 ((rd_T81 l1 x9_1).f4.f3))) (ds := [5, 6]) #[false, false, false, false, false, false, false] (by kernel_rfl) rfl rfl ⟨(blk_cell BK205.out 0).trans rfl, (blk_cell BK205.out 1).trans rfl, hx207_0, hx207_1, hx207_2, hx207_3, hx207_4, hx207_5, hx207_6, hx207_7⟩ (fun hHeld => ?_)
    generalize wr.drew = w14 at HO_206000 HO_206001 BK205 BK206 HK HB HXAh17 HXBh17 hx207_0 hx207_1 hx207_2 hx207_3 hx207_4 hx207_5 hx207_6 hx207_7 hHeld ⊢
    refine pi_ 1 22 #[false, true, false, false, false, false, false] rfl rfl (fun _ _ _ h => h) ?_
    refine pi_ 2 23 #[false, true, true, false, false, false, false] rfl rfl (fun _ _ _ h => h) ?_
    refine pi_ 3 24 #[false, true, true, true, false, false, false] rfl rfl (fun _ _ _ h => h) ?_
    refine pm_ 0 21 #[true, true, true, true, false, false, false] rfl rfl (by kernel_rfl) (fun _ _ _ h => h) hHeld ?_
    refine pm_ 4 25 #[true, true, true, true, true, false, false] rfl rfl (by kernel_rfl) (fun _ _ _ h => h) hHeld ?_
    refine last_ (i := 5) (N := some 26) #[true, true, true, true, true, true, false] rfl rfl (by kernel_rfl) (by decide) (fun K hK => ?_)
    refine goes_ Try.func37 (by kernel_rfl) rfl #[.agg #[.slice Ao15 x206000_1.length co15, .slice Ao16 x206001_1.length co16], .agg #[.int .i64 ((rd_T81 l1 x9_1).f0), .int .i64 ((rd_T81 l1 x9_1).f1), .int .i64 ((rd_T81 l1 x9_1).f2), .int .i64 ((rd_T81 l1 x9_1).f3), .int .i64 ((rd_T81 l1 x9_1).f4.f0), .int .i64 ((rd_T81 l1 x9_1).f4.f1), .int .i64 ((rd_T81 l1 x9_1).f4.f2), .int .i64 ((rd_T81 l1 x9_1).f4.f3)], .bool false] (by rfl) rfl rfl (by (try simp only [List.map_toArray, List.map_cons, List.map_nil]); first | done | rfl | (simp only [List.length_drop, List.length_take]; rfl)) ?_
    with_reducible refine (spec_l12Do.calls k1 PXh17 (.slice Ao15 x206000_1.length co15) x206000_1 (fun k_ => some k_ = (.slice Ao16 x206001_1.length co16 : Value).ownBlock) (.slice Ao16 x206001_1.length co16) x206001_1 ((rd_T81 l1 x9_1).f0) ((rd_T81 l1 x9_1).f1) ((rd_T81 l1 x9_1).f2) ((rd_T81 l1 x9_1).f3) ((rd_T81 l1 x9_1).f4.f0) ((rd_T81 l1 x9_1).f4.f1) ((rd_T81 l1 x9_1).f4.f2) ((rd_T81 l1 x9_1).f4.f3) false t208 t211 w0 _ ?side1 ?side2 ?side3 A13.out).mono ?_
    (case side1 => repeat (first | (with_reducible first | exact HB.out | apply below_alloc | apply pw_below_drewN | apply below_drew1 | refine below_set ?_ GE205.out | refine below_set ?_ GE206.out) | exact HB.out))
    (case side2 => exact (ps HXAh17.out))
    (case side3 => exact Kd.R_tight rfl HO_206001.out)
    rintro e w18 ⟨v209, v212, rfl, ho0, ho1, hb, hkp⟩
    refine ⟨_, rfl, ?_⟩
    replace BK205 := am (blk_kept (pb BK205.out) hkp (fun hs_ => Or.elim hs_ (fun e_ => (fun e_ => Kd.blk_awayP (fun k_ h_ => (HXBh17.out k_ h_).2.2.2) BK205.out (by decide) e_) e_) (fun e_ => (fun e_ => (Kd.R_ne HO_206001.out BK205.out (by decide)) e_) e_)))
    replace BK206 := am (blk_kept (pb BK206.out) hkp (fun hs_ => Or.elim hs_ (fun e_ => (fun e_ => Kd.blk_awayP (fun k_ h_ => (HXBh17.out k_ h_).2.2.2) BK206.out (by decide) e_) e_) (fun e_ => (fun e_ => (Kd.R_ne HO_206001.out BK206.out (by decide)) e_) e_)))
    have HO210 := am (Kd.S_mono (ok' := fun k_ => ((P0_0_ k_ ∨ P0_1_ k_) ∨ w.heap.size ≤ k_)) ho0 (fun k_ hk_ => Or.elim hk_ (fun hs_ => Or.elim hs_ (fun hs_ => (HXBh17.out k_ hs_).1) (fun hs_ => (HO_206001.out.1 k_ (hs_).symm))) (fun hn_ => (.inr (Nat.le_trans (by first | exact HK.out.1 | exact (show Kept w _ (fun k_ => P0_0_ k_ ∨ P0_1_ k_) from by repeat (first | (with_reducible first | exact HK.out | apply Kept.alloc | apply Kept.drewN | apply Kept.drew | refine Kept.setCell ?_ (.inr GW205.out) _ | refine Kept.setCell ?_ (.inr GW206.out) _) | exact HK.out)).1) hn_)))))
    have HO213 := am (Kd.R_mono (ok' := fun k_ => ((P0_0_ k_ ∨ P0_1_ k_) ∨ w.heap.size ≤ k_)) ho1 (fun k_ hk_ => Or.elim hk_ (fun hs_ => Or.elim hs_ (fun hs_ => (HXBh17.out k_ hs_).1) (fun hs_ => (HO_206001.out.1 k_ (hs_).symm))) (fun hn_ => (.inr (Nat.le_trans (by first | exact HK.out.1 | exact (show Kept w _ (fun k_ => P0_0_ k_ ∨ P0_1_ k_) from by repeat (first | (with_reducible first | exact HK.out | apply Kept.alloc | apply Kept.drewN | apply Kept.drew | refine Kept.setCell ?_ (.inr GW205.out) _ | refine Kept.setCell ?_ (.inr GW206.out) _) | exact HK.out)).1) hn_)))))
    replace HK := am (Kept.then_ (S := (fun k_ => P0_0_ k_ ∨ P0_1_ k_)) (by repeat (first | (with_reducible first | exact HK.out | apply Kept.alloc | apply Kept.drewN | apply Kept.drew | refine Kept.setCell ?_ (.inr GW205.out) _ | refine Kept.setCell ?_ (.inr GW206.out) _) | exact HK.out)) hkp (fun k_ hs_ => Or.elim hs_ (fun e_ => (fun e_ => (HXBh17.out k_ e_).1) e_) (fun e_ => (fun e_ => (HO_206001.out.1 k_ e_.symm)) e_)))
    replace HB := am (hb)
    clear HO_206000
    clear HO_206001
    (try clear hb)
    (try clear hkp)
    (try clear ho0)
    (try clear ho1)
    obtain ⟨Ao19, co19, eo19⟩ := Kd.S_slice HO210.out
    (first | subst eo19 | (injection eo19 with f1_ f2_ f3_; have f4_ := f1_.symm; have f5_ := f3_.symm; clear f1_ f2_ f3_; subst f4_; subst f5_))
    obtain ⟨Ao21, co21, eo21⟩ := Kd.R_slice HO213.out
    (first | subst eo21 | (injection eo21 with f1_ f2_ f3_; have f4_ := f1_.symm; have f5_ := f3_.symm; clear f1_ f2_ f3_; subst f4_; subst f5_))
    refine hK.out _ _ ?_
    clear hK K
    refine norm_ (a' := ?_) ?_ ?_
    rotate_left
    · show Act.put _ (some 26) _ = _
      simp only [Act.put, List.setIfInBounds_toArray, List.set_cons_zero, List.set_cons_succ, i64_w, i32_w]
      rfl
    refine last_ (i := 6) (N := none) #[true, true, true, true, true, true, true] rfl rfl (by kernel_rfl) (by decide) (fun K hK => ?_)
    have hs20 : w18.cell? ⟨gb205, 0, none⟩ = some (.slice Ao15 x206000_1.length co15) := (blk_cell BK205.out 0).trans rfl
    have hfs20 := blk_frozen BK205.out 0
    have hns20_1 := NB206_205.out
    have hms20_1 := NB205_206.out
    have hs22 : w18.cell? ⟨gb205, 1, none⟩ = some (.slice Ao16 x206001_1.length co16) := (blk_cell BK205.out 1).trans rfl
    have hfs22 := blk_frozen BK205.out 1
    have hns22_1 := NB206_205.out
    have hms22_1 := NB205_206.out
    refine skip_ (w1 := ?_) (by rfl) rfl ?_ ?_
    rotate_left
    · go_simp
      rfl
    refine hK.out _ _ ?_
    clear hK K
    refine done_ (by kernel_rfl) ?_
    try go_wp2
    go_roundg k1
    case measure => have := HK1.out; omega
    case rel => exact ⟨(wrap64 (x9_1 + 1)), (t208), (t211), (.slice Ao19 t208.length co19), (.slice Ao21 t211.length co21), rf, H', ⟨by have := HK1.out; omega⟩, ⟨by (with_reducible repeat (first | apply Kd.S_alloc | apply Kd.S_drewN | apply Kd.S_drew)); exact Kd.S_mono (Kd.S_far (p := ⟨gb205, 1, none⟩) (Kd.S_far (p := ⟨gb205, 0, none⟩) (Kd.S_types HO210.out BK205.out (by decide)) (fun _ hk => hk.2) (.slice Ao19 t208.length co19)) (fun _ hk => hk.2) (.slice Ao21 t211.length co21)) (fun _ hk => hk.1)⟩, ⟨by (with_reducible repeat (first | apply Kd.R_alloc | apply Kd.R_drewN | apply Kd.R_drew)); exact Kd.R_mono (Kd.R_far (p := ⟨gb205, 1, none⟩) (Kd.R_far (p := ⟨gb205, 0, none⟩) (Kd.R_types HO213.out BK205.out (by decide)) (fun _ hk => hk.2) (.slice Ao19 t208.length co19)) (fun _ hk => hk.2) (.slice Ao21 t211.length co21)) (fun _ hk => hk.1)⟩, ⟨by (with_reducible repeat (first | refine blk_drewN ?_ _ | refine blk_drew ?_ | refine blk_alloc ?_ _)); refine blk_put (cs := #[.slice Ao19 t208.length co19, .slice Ao16 x206001_1.length co16]) ?_ 1 _ rfl; (with_reducible repeat (first | refine blk_drewN ?_ _ | refine blk_drew ?_ | refine blk_alloc ?_ _)); refine blk_put (cs := #[.slice Ao15 x206000_1.length co15, .slice Ao16 x206001_1.length co16]) ?_ 0 _ rfl; (with_reducible repeat (first | refine blk_drewN ?_ _ | refine blk_drew ?_ | refine blk_alloc ?_ _)); exact BK205.out⟩, ⟨by (with_reducible repeat (first | refine blk_drewN ?_ _ | refine blk_drew ?_ | refine blk_alloc ?_ _)); refine blk_far ?_ NB206_205.out _; (with_reducible repeat (first | refine blk_drewN ?_ _ | refine blk_drew ?_ | refine blk_alloc ?_ _)); refine blk_far ?_ NB206_205.out _; (with_reducible repeat (first | refine blk_drewN ?_ _ | refine blk_drew ?_ | refine blk_alloc ?_ _)); exact BK206.out⟩, ⟨by repeat (first | (with_reducible first | exact HK.out | apply Kept.alloc | apply Kept.drewN | apply Kept.drew | refine Kept.setCell ?_ (.inr GW205.out) _ | refine Kept.setCell ?_ (.inr GW206.out) _) | exact HK.out)⟩, ⟨bg2 HB.out GE205.out GE206.out⟩⟩
 case rest =>
  clear HC5
  obtain ⟨kq, x206000_4, x206001_4, u206000, u206001, HA, HJ4, HO_206000, HO_206001, BK205, BK206, HK, HB⟩ := hcut
  cases kq with
  | zero => exact absurd HA.out (by simp [spec_l12To.j1])
  | succ kj4 =>
   have H := HA.out
   clear HA
   simp only [spec_l12To.j1] at H
   by_cases c23 : a3 = true
   rotate_left
   · replace c23 := Bool.eq_false_iff.mpr c23
     subst c23
     have H1 : (some (x206000_4, x206001_4)) = some (r1, r2) := by rw [if_neg (show ¬ (false = true) by decide)] at H; exact H
     clear H
     have H := H1
     clear H1
     simp only [Option.some.injEq, Prod.mk.injEq] at H
     obtain ⟨rfl, rfl⟩ := H
     have hnb46 := NB205_206.out
     have hnc46 := NB206_205.out
     obtain ⟨hcz47_0, hcz47_1⟩ := b2 BK205.out
     obtain ⟨hfz47_0, hfz47_1⟩ := f2 BK205.out
     obtain ⟨Ao48, co48, eo48⟩ := Kd.S_slice HO_206000.out
     subst eo48
     obtain ⟨hcz49_0, hcz49_1⟩ := b2 BK206.out
     obtain ⟨hfz49_0, hfz49_1⟩ := f2 BK206.out
     obtain ⟨Ao50, co50, eo50⟩ := Kd.R_slice HO_206001.out
     subst eo50
     go_wp2
     refine bodyPost_ret (results_cell_row rfl _ _ gb206 57 #[.slice Ao48 x206000_4.length co48, .slice Ao50 x206001_4.length co50] (0, 0) _ rfl (by (with_reducible repeat (first | refine blk_drewN ?_ _ | refine blk_drew ?_ | refine blk_alloc ?_ _)); refine blk_put (cs := #[.slice Ao48 x206000_4.length co48, .slice none 0 0]) ?_ 1 _ rfl; (with_reducible repeat (first | refine blk_drewN ?_ _ | refine blk_drew ?_ | refine blk_alloc ?_ _)); refine blk_put (cs := #[.slice none 0 0, .slice none 0 0]) ?_ 0 _ rfl; (with_reducible repeat (first | refine blk_drewN ?_ _ | refine blk_drew ?_ | refine blk_alloc ?_ _)); exact BK206.out) Try.underlying57 rfl (by kernel_rfl)) rfl ?_
     exact ⟨_, _, rq ⟨by (with_reducible repeat (first | apply Kd.S_alloc | apply Kd.S_drewN | apply Kd.S_drew)); exact Kd.S_mono (Kd.S_far (p := ⟨gb206, 1, none⟩) (Kd.S_far (p := ⟨gb206, 0, none⟩) (Kd.S_types HO_206000.out BK206.out (by decide)) (fun _ hk => hk.2) (.slice Ao48 x206000_4.length co48)) (fun _ hk => hk.2) (.slice Ao50 x206001_4.length co50)) (fun _ hk => hk.1), by (with_reducible repeat (first | apply Kd.R_alloc | apply Kd.R_drewN | apply Kd.R_drew)); exact Kd.R_mono (Kd.R_far (p := ⟨gb206, 1, none⟩) (Kd.R_far (p := ⟨gb206, 0, none⟩) (Kd.R_types HO_206001.out BK206.out (by decide)) (fun _ hk => hk.2) (.slice Ao48 x206000_4.length co48)) (fun _ hk => hk.2) (.slice Ao50 x206001_4.length co50)) (fun _ hk => hk.1), bg2 HB.out GE205.out GE206.out, by repeat (first | (with_reducible first | exact HK.out | apply Kept.alloc | apply Kept.drewN | apply Kept.drew | refine Kept.setCell ?_ (.inr GW205.out) _ | refine Kept.setCell ?_ (.inr GW206.out) _) | exact HK.out)⟩⟩
   subst c23
   have H1 : ((spec_l6In.f a2 0 (wrap64 ((l1.length : Int) - 1))).bind fun t214 => (if t214 = true then (if 0 ≤ a2 then (if a2 < (l1.length : Int) then ((spec_l12Do.f kj4 x206000_4 x206001_4 ((rd_T81 l1 a2).f0) ((rd_T81 l1 a2).f1) ((rd_T81 l1 a2).f2) ((rd_T81 l1 a2).f3) ((rd_T81 l1 a2).f4.f0) ((rd_T81 l1 a2).f4.f1) ((rd_T81 l1 a2).f4.f2) ((rd_T81 l1 a2).f4.f3) true).bind fun bt216 => (some (bt216.1, bt216.2))) else (none)) else (none)) else (some (x206000_4, x206001_4)))) = some (r1, r2) := by rw [if_pos rfl] at H; exact H
   clear H
   have H := H1
   clear H1
   replace H := Option.bind_eq_some_iff.mp H
   obtain ⟨t214, A240, H⟩ := H
   replace H : (if t214 = true then (if 0 ≤ a2 then (if a2 < (l1.length : Int) then ((spec_l12Do.f kj4 x206000_4 x206001_4 ((rd_T81 l1 a2).f0) ((rd_T81 l1 a2).f1) ((rd_T81 l1 a2).f2) ((rd_T81 l1 a2).f3) ((rd_T81 l1 a2).f4.f0) ((rd_T81 l1 a2).f4.f1) ((rd_T81 l1 a2).f4.f2) ((rd_T81 l1 a2).f4.f3) true).bind fun bt216 => (some (bt216.1, bt216.2))) else (none)) else (none)) else (some (x206000_4, x206001_4))) = some (r1, r2) := H
   have A24 := am A240
   clear A240
   by_cases c25 : t214 = true
   rotate_left
   · replace c25 := Bool.eq_false_iff.mpr c25
     subst c25
     have H1 : (some (x206000_4, x206001_4)) = some (r1, r2) := by rw [if_neg (show ¬ (false = true) by decide)] at H; exact H
     clear H
     have H := H1
     clear H1
     simp only [Option.some.injEq, Prod.mk.injEq] at H
     obtain ⟨rfl, rfl⟩ := H
     go_wp2_with (first | (go_at_call 14; (with_reducible refine (spec_l6In.calls a2 0 (wrap64 ((l1.length : Int) - 1)) false _ A24.out).mono ?_); rintro e w' ⟨rfl, ⟨nd, rfl⟩⟩; (try (rw [drewN_self wc]; generalize hq_ : World.drewN wc _ = wc; have n0_ : Aside0 (Kd.S k35 35 wc w0.heap.size (fun k_ => (((P0_0_ k_ ∨ P0_1_ k_) ∨ w.heap.size ≤ k_))) u206000 x206000_4) := ⟨by rw [← hq_]; exact (ps HO_206000.out)⟩; have n1_ : Aside0 (Kd.R (Kd.int .i64) 3 wc w0.heap.size (fun k_ => (((P0_0_ k_ ∨ P0_1_ k_) ∨ w.heap.size ≤ k_))) u206001 x206001_4) := ⟨by rw [← hq_]; exact (pr HO_206001.out)⟩; have n2_ : Aside0 (wc.heap[gb205]? = some (.cells #[u206000, u206001] 57 (0, 0))) := ⟨by rw [← hq_]; exact (pb BK205.out)⟩; have n3_ : Aside0 (wc.heap[gb206]? = some (.cells #[.slice none 0 0, .slice none 0 0] 57 (0, 0))) := ⟨by rw [← hq_]; exact (pb BK206.out)⟩; have n4_ : Aside0 (Kept w wc (fun k_ => P0_0_ k_ ∨ P0_1_ k_)) := ⟨by rw [← hq_]; exact (by repeat (first | (with_reducible first | exact HK.out | apply Kept.alloc | apply Kept.drewN | apply Kept.drew | refine Kept.setCell ?_ (.inr GW205.out) _ | refine Kept.setCell ?_ (.inr GW206.out) _) | exact HK.out))⟩; have n5_ : Aside0 (Below w0.heap.size w0 wc) := ⟨by rw [← hq_]; exact (bg2 HB.out GE205.out GE206.out)⟩; clear HO_206000 HO_206001 BK205 BK206 HK HB hq_; have HO_206000 := n0_; have HO_206001 := n1_; have BK205 := n2_; have BK206 := n3_; have HK := n4_; have HB := n5_; clear n0_ n1_ n2_ n3_ n4_ n5_)); have hnb41 := NB205_206.out; have hnc41 := NB206_205.out; obtain ⟨hcz42_0, hcz42_1⟩ := b2 BK205.out; obtain ⟨hfz42_0, hfz42_1⟩ := f2 BK205.out; obtain ⟨Ao43, co43, eo43⟩ := Kd.S_slice HO_206000.out; subst eo43; obtain ⟨hcz44_0, hcz44_1⟩ := b2 BK206.out; obtain ⟨hfz44_0, hfz44_1⟩ := f2 BK206.out; obtain ⟨Ao45, co45, eo45⟩ := Kd.R_slice HO_206001.out; subst eo45))
     refine bodyPost_ret (results_cell_row rfl _ _ gb206 57 #[.slice Ao43 x206000_4.length co43, .slice Ao45 x206001_4.length co45] (0, 0) _ rfl (by (with_reducible repeat (first | refine blk_drewN ?_ _ | refine blk_drew ?_ | refine blk_alloc ?_ _)); refine blk_put (cs := #[.slice Ao43 x206000_4.length co43, .slice none 0 0]) ?_ 1 _ rfl; (with_reducible repeat (first | refine blk_drewN ?_ _ | refine blk_drew ?_ | refine blk_alloc ?_ _)); refine blk_put (cs := #[.slice none 0 0, .slice none 0 0]) ?_ 0 _ rfl; (with_reducible repeat (first | refine blk_drewN ?_ _ | refine blk_drew ?_ | refine blk_alloc ?_ _)); exact BK206.out) Try.underlying57 rfl (by kernel_rfl)) rfl ?_
     exact ⟨_, _, rq ⟨by (with_reducible repeat (first | apply Kd.S_alloc | apply Kd.S_drewN | apply Kd.S_drew)); exact Kd.S_mono (Kd.S_far (p := ⟨gb206, 1, none⟩) (Kd.S_far (p := ⟨gb206, 0, none⟩) (Kd.S_types HO_206000.out BK206.out (by decide)) (fun _ hk => hk.2) (.slice Ao43 x206000_4.length co43)) (fun _ hk => hk.2) (.slice Ao45 x206001_4.length co45)) (fun _ hk => hk.1), by (with_reducible repeat (first | apply Kd.R_alloc | apply Kd.R_drewN | apply Kd.R_drew)); exact Kd.R_mono (Kd.R_far (p := ⟨gb206, 1, none⟩) (Kd.R_far (p := ⟨gb206, 0, none⟩) (Kd.R_types HO_206001.out BK206.out (by decide)) (fun _ hk => hk.2) (.slice Ao43 x206000_4.length co43)) (fun _ hk => hk.2) (.slice Ao45 x206001_4.length co45)) (fun _ hk => hk.1), bg2 HB.out GE205.out GE206.out, by repeat (first | (with_reducible first | exact HK.out | apply Kept.alloc | apply Kept.drewN | apply Kept.drew | refine Kept.setCell ?_ (.inr GW205.out) _ | refine Kept.setCell ?_ (.inr GW206.out) _) | exact HK.out)⟩⟩
   subst c25
   have H1 : (if 0 ≤ a2 then (if a2 < (l1.length : Int) then ((spec_l12Do.f kj4 x206000_4 x206001_4 ((rd_T81 l1 a2).f0) ((rd_T81 l1 a2).f1) ((rd_T81 l1 a2).f2) ((rd_T81 l1 a2).f3) ((rd_T81 l1 a2).f4.f0) ((rd_T81 l1 a2).f4.f1) ((rd_T81 l1 a2).f4.f2) ((rd_T81 l1 a2).f4.f3) true).bind fun bt216 => (some (bt216.1, bt216.2))) else (none)) else (none)) = some (r1, r2) := by rw [if_pos rfl] at H; exact H
   clear H
   have H := H1
   clear H1
   by_cases c26 : 0 ≤ a2
   rotate_left
   · rw [if_neg c26] at H
     exact absurd H (by simp)
   rw [if_pos c26] at H
   have c26b0 := decide_eq_true c26
   clear c26
   by_cases c27 : a2 < (l1.length : Int)
   rotate_left
   · rw [if_neg c27] at H
     exact absurd H (by simp)
   rw [if_pos c27] at H
   have c27b0 := decide_eq_true c27
   clear c27
   replace H := Option.bind_eq_some_iff.mp H
   obtain ⟨⟨t216, t219⟩, A280, H⟩ := H
   replace H : (some (t216, t219)) = some (r1, r2) := H
   have A28 := am A280
   clear A280
   simp only [Option.some.injEq, Prod.mk.injEq] at H
   obtain ⟨rfl, rfl⟩ := H
   try go_wp2_with (first | (go_at_call 14; (with_reducible refine (spec_l6In.calls a2 0 (wrap64 ((l1.length : Int) - 1)) true _ A24.out).mono ?_); rintro e w' ⟨rfl, ⟨nd, rfl⟩⟩; (try (rw [drewN_self wc]; generalize hq_ : World.drewN wc _ = wc; have n0_ : Aside0 (Kd.S k35 35 wc w0.heap.size (fun k_ => (((P0_0_ k_ ∨ P0_1_ k_) ∨ w.heap.size ≤ k_))) u206000 x206000_4) := ⟨by rw [← hq_]; exact (ps HO_206000.out)⟩; have n1_ : Aside0 (Kd.R (Kd.int .i64) 3 wc w0.heap.size (fun k_ => (((P0_0_ k_ ∨ P0_1_ k_) ∨ w.heap.size ≤ k_))) u206001 x206001_4) := ⟨by rw [← hq_]; exact (pr HO_206001.out)⟩; have n2_ : Aside0 (wc.heap[gb205]? = some (.cells #[u206000, u206001] 57 (0, 0))) := ⟨by rw [← hq_]; exact (pb BK205.out)⟩; have n3_ : Aside0 (wc.heap[gb206]? = some (.cells #[.slice none 0 0, .slice none 0 0] 57 (0, 0))) := ⟨by rw [← hq_]; exact (pb BK206.out)⟩; have n4_ : Aside0 (Kept w wc (fun k_ => P0_0_ k_ ∨ P0_1_ k_)) := ⟨by rw [← hq_]; exact (by repeat (first | (with_reducible first | exact HK.out | apply Kept.alloc | apply Kept.drewN | apply Kept.drew | refine Kept.setCell ?_ (.inr GW205.out) _ | refine Kept.setCell ?_ (.inr GW206.out) _) | exact HK.out))⟩; have n5_ : Aside0 (Below w0.heap.size w0 wc) := ⟨by rw [← hq_]; exact (bg2 HB.out GE205.out GE206.out)⟩; clear HO_206000 HO_206001 BK205 BK206 HK HB hq_; have HO_206000 := n0_; have HO_206001 := n1_; have BK205 := n2_; have BK206 := n3_; have HK := n4_; have HB := n5_; clear n0_ n1_ n2_ n3_ n4_ n5_))))
   replace HO_206000 := am (Kd.S_drew HO_206000.out)
   replace HO_206001 := am (Kd.R_drew HO_206001.out)
   replace BK205 := am (blk_drew BK205.out)
   replace BK206 := am (blk_drew BK206.out)
   replace HK := am (Kept.drew HK.out)
   replace HB := am (below_drew1 HB.out)
   have p215 : 0 ≤ (a2 : Int) := ofb
   have q215 : a2 < (l1.length : Int) := ofb
   obtain ⟨ad215, e215, hx215_0, hx215_1, hx215_2, hx215_3, hx215_4, hx215_5, hx215_6, hx215_7⟩ := at_T81 (Kd.C_kept_now HR1.out HK.out) a2 p215 q215
   have hw215_7 := hx215_7
   have hw215_6 := hx215_6
   have hw215_5 := hx215_5
   have hw215_4 := hx215_4
   have hw215_3 := hx215_3
   have hw215_2 := hx215_2
   have hw215_1 := hx215_1
   have hw215_0 := hx215_0
   cases e215
   replace p215 := eq_true p215
   replace q215 := eq_true q215
   obtain ⟨Ao30, co30, eo30⟩ := Kd.S_slice HO_206000.out
   (first | subst eo30 | (injection eo30 with f1_ f2_ f3_; have f4_ := f1_.symm; have f5_ := f3_.symm; clear f1_ f2_ f3_; subst f4_; subst f5_))
   obtain ⟨Ao31, co31, eo31⟩ := Kd.R_slice HO_206001.out
   (first | subst eo31 | (injection eo31 with f1_ f2_ f3_; have f4_ := f1_.symm; have f5_ := f3_.symm; clear f1_ f2_ f3_; subst f4_; subst f5_))
   obtain ⟨PXh32, hxa_, hxb_⟩ := Kd.S_hand HO_206000.out
   have HXAh32 := am hxa_
   have HXBh32 := am hxb_
   clear hxa_ hxb_
   refine start_ (n := 7) (S := fun w' => w'.cell? ⟨gb205, 0, none⟩ = some (.slice Ao30 x206000_4.length co30) ∧ w'.cell? ⟨gb205, 1, none⟩ = some (.slice Ao31 x206001_4.length co31) ∧ w'.cell? (ad215.add ((a2).toNat * 8)) = some (.int .i64 ((rd_T81 l1 a2).f0)) ∧ w'.cell? ⟨(ad215.add ((a2).toNat * 8)).block, (ad215.add ((a2).toNat * 8)).off + 1, none⟩ = some (.int .i64 ((rd_T81 l1 a2).f1)) ∧ w'.cell? ⟨(ad215.add ((a2).toNat * 8)).block, (ad215.add ((a2).toNat * 8)).off + 2, none⟩ = some (.int .i64 ((rd_T81 l1 a2).f2)) ∧ w'.cell? ⟨(ad215.add ((a2).toNat * 8)).block, (ad215.add ((a2).toNat * 8)).off + 3, none⟩ = some (.int .i64 ((rd_T81 l1 a2).f3)) ∧ w'.cell? ⟨(ad215.add ((a2).toNat * 8)).block, (ad215.add ((a2).toNat * 8)).off + 4, none⟩ = some (.int .i64 ((rd_T81 l1 a2).f4.f0)) ∧ w'.cell? ⟨(ad215.add ((a2).toNat * 8)).block, (ad215.add ((a2).toNat * 8)).off + 5, none⟩ = some (.int .i64 ((rd_T81 l1 a2).f4.f1)) ∧ w'.cell? ⟨(ad215.add ((a2).toNat * 8)).block, (ad215.add ((a2).toNat * 8)).off + 6, none⟩ = some (.int .i64 ((rd_T81 l1 a2).f4.f2)) ∧ w'.cell? ⟨(ad215.add ((a2).toNat * 8)).block, (ad215.add ((a2).toNat * 8)).off + 7, none⟩ = some (.int .i64 ((rd_T81 l1 a2).f4.f3))) (ds := [5, 6]) #[false, false, false, false, false, false, false] (by kernel_rfl) rfl rfl ⟨(blk_cell BK205.out 0).trans rfl, (blk_cell BK205.out 1).trans rfl, hx215_0, hx215_1, hx215_2, hx215_3, hx215_4, hx215_5, hx215_6, hx215_7⟩ (fun hHeld => ?_)
   generalize wc.drew = w29 at HO_206000 HO_206001 BK205 BK206 HK HB HXAh32 HXBh32 hx215_0 hx215_1 hx215_2 hx215_3 hx215_4 hx215_5 hx215_6 hx215_7 hHeld ⊢
   refine pi_ 1 36 #[false, true, false, false, false, false, false] rfl rfl (fun _ _ _ h => h) ?_
   refine pi_ 2 37 #[false, true, true, false, false, false, false] rfl rfl (fun _ _ _ h => h) ?_
   refine pi_ 3 38 #[false, true, true, true, false, false, false] rfl rfl (fun _ _ _ h => h) ?_
   refine pm_ 0 35 #[true, true, true, true, false, false, false] rfl rfl (by kernel_rfl) (fun _ _ _ h => h) hHeld ?_
   refine pm_ 4 39 #[true, true, true, true, true, false, false] rfl rfl (by kernel_rfl) (fun _ _ _ h => h) hHeld ?_
   refine last_ (i := 5) (N := some 40) #[true, true, true, true, true, true, false] rfl rfl (by kernel_rfl) (by decide) (fun K hK => ?_)
   refine goes_ Try.func37 (by kernel_rfl) rfl #[.agg #[.slice Ao30 x206000_4.length co30, .slice Ao31 x206001_4.length co31], .agg #[.int .i64 ((rd_T81 l1 a2).f0), .int .i64 ((rd_T81 l1 a2).f1), .int .i64 ((rd_T81 l1 a2).f2), .int .i64 ((rd_T81 l1 a2).f3), .int .i64 ((rd_T81 l1 a2).f4.f0), .int .i64 ((rd_T81 l1 a2).f4.f1), .int .i64 ((rd_T81 l1 a2).f4.f2), .int .i64 ((rd_T81 l1 a2).f4.f3)], .bool true] (by rfl) rfl rfl (by (try simp only [List.map_toArray, List.map_cons, List.map_nil]); first | done | rfl | (simp only [List.length_drop, List.length_take]; rfl)) ?_
   with_reducible refine (spec_l12Do.calls kj4 PXh32 (.slice Ao30 x206000_4.length co30) x206000_4 (fun k_ => some k_ = (.slice Ao31 x206001_4.length co31 : Value).ownBlock) (.slice Ao31 x206001_4.length co31) x206001_4 ((rd_T81 l1 a2).f0) ((rd_T81 l1 a2).f1) ((rd_T81 l1 a2).f2) ((rd_T81 l1 a2).f3) ((rd_T81 l1 a2).f4.f0) ((rd_T81 l1 a2).f4.f1) ((rd_T81 l1 a2).f4.f2) ((rd_T81 l1 a2).f4.f3) true t216 t219 w0 _ ?side1 ?side2 ?side3 A28.out).mono ?_
   (case side1 => repeat (first | (with_reducible first | exact HB.out | apply below_alloc | apply pw_below_drewN | apply below_drew1 | refine below_set ?_ GE205.out | refine below_set ?_ GE206.out) | exact HB.out))
   (case side2 => exact (ps HXAh32.out))
   (case side3 => exact Kd.R_tight rfl HO_206001.out)
   rintro e w33 ⟨v217, v220, rfl, ho0, ho1, hb, hkp⟩
   refine ⟨_, rfl, ?_⟩
   replace BK205 := am (blk_kept (pb BK205.out) hkp (fun hs_ => Or.elim hs_ (fun e_ => (fun e_ => Kd.blk_awayP (fun k_ h_ => (HXBh32.out k_ h_).2.2.2) BK205.out (by decide) e_) e_) (fun e_ => (fun e_ => (Kd.R_ne HO_206001.out BK205.out (by decide)) e_) e_)))
   replace BK206 := am (blk_kept (pb BK206.out) hkp (fun hs_ => Or.elim hs_ (fun e_ => (fun e_ => Kd.blk_awayP (fun k_ h_ => (HXBh32.out k_ h_).2.2.2) BK206.out (by decide) e_) e_) (fun e_ => (fun e_ => (Kd.R_ne HO_206001.out BK206.out (by decide)) e_) e_)))
   have HO218 := am (Kd.S_mono (ok' := fun k_ => ((P0_0_ k_ ∨ P0_1_ k_) ∨ w.heap.size ≤ k_)) ho0 (fun k_ hk_ => Or.elim hk_ (fun hs_ => Or.elim hs_ (fun hs_ => (HXBh32.out k_ hs_).1) (fun hs_ => (HO_206001.out.1 k_ (hs_).symm))) (fun hn_ => (.inr (Nat.le_trans (by first | exact HK.out.1 | exact (show Kept w _ (fun k_ => P0_0_ k_ ∨ P0_1_ k_) from by repeat (first | (with_reducible first | exact HK.out | apply Kept.alloc | apply Kept.drewN | apply Kept.drew | refine Kept.setCell ?_ (.inr GW205.out) _ | refine Kept.setCell ?_ (.inr GW206.out) _) | exact HK.out)).1) hn_)))))
   have HO221 := am (Kd.R_mono (ok' := fun k_ => ((P0_0_ k_ ∨ P0_1_ k_) ∨ w.heap.size ≤ k_)) ho1 (fun k_ hk_ => Or.elim hk_ (fun hs_ => Or.elim hs_ (fun hs_ => (HXBh32.out k_ hs_).1) (fun hs_ => (HO_206001.out.1 k_ (hs_).symm))) (fun hn_ => (.inr (Nat.le_trans (by first | exact HK.out.1 | exact (show Kept w _ (fun k_ => P0_0_ k_ ∨ P0_1_ k_) from by repeat (first | (with_reducible first | exact HK.out | apply Kept.alloc | apply Kept.drewN | apply Kept.drew | refine Kept.setCell ?_ (.inr GW205.out) _ | refine Kept.setCell ?_ (.inr GW206.out) _) | exact HK.out)).1) hn_)))))
   replace HK := am (Kept.then_ (S := (fun k_ => P0_0_ k_ ∨ P0_1_ k_)) (by repeat (first | (with_reducible first | exact HK.out | apply Kept.alloc | apply Kept.drewN | apply Kept.drew | refine Kept.setCell ?_ (.inr GW205.out) _ | refine Kept.setCell ?_ (.inr GW206.out) _) | exact HK.out)) hkp (fun k_ hs_ => Or.elim hs_ (fun e_ => (fun e_ => (HXBh32.out k_ e_).1) e_) (fun e_ => (fun e_ => (HO_206001.out.1 k_ e_.symm)) e_)))
   replace HB := am (hb)
   clear HO_206000
   clear HO_206001
   (try clear hb)
   (try clear hkp)
   (try clear ho0)
   (try clear ho1)
   obtain ⟨Ao34, co34, eo34⟩ := Kd.S_slice HO218.out
   (first | subst eo34 | (injection eo34 with f1_ f2_ f3_; have f4_ := f1_.symm; have f5_ := f3_.symm; clear f1_ f2_ f3_; subst f4_; subst f5_))
   obtain ⟨Ao36, co36, eo36⟩ := Kd.R_slice HO221.out
   (first | subst eo36 | (injection eo36 with f1_ f2_ f3_; have f4_ := f1_.symm; have f5_ := f3_.symm; clear f1_ f2_ f3_; subst f4_; subst f5_))
   refine hK.out _ _ ?_
   clear hK K
   refine norm_ (a' := ?_) ?_ ?_
   rotate_left
   · show Act.put _ (some 40) _ = _
     simp only [Act.put, List.setIfInBounds_toArray, List.set_cons_zero, List.set_cons_succ, i64_w, i32_w]
     rfl
   refine last_ (i := 6) (N := none) #[true, true, true, true, true, true, true] rfl rfl (by kernel_rfl) (by decide) (fun K hK => ?_)
   have hs35 : w33.cell? ⟨gb205, 0, none⟩ = some (.slice Ao30 x206000_4.length co30) := (blk_cell BK205.out 0).trans rfl
   have hfs35 := blk_frozen BK205.out 0
   have hns35_1 := NB206_205.out
   have hms35_1 := NB205_206.out
   have hs37 : w33.cell? ⟨gb205, 1, none⟩ = some (.slice Ao31 x206001_4.length co31) := (blk_cell BK205.out 1).trans rfl
   have hfs37 := blk_frozen BK205.out 1
   have hns37_1 := NB206_205.out
   have hms37_1 := NB205_206.out
   refine skip_ (w1 := ?_) (by rfl) rfl ?_ ?_
   rotate_left
   · go_simp
     rfl
   refine hK.out _ _ ?_
   clear hK K
   refine done_ (by kernel_rfl) ?_
   have hnb38 := NB205_206.out
   have hnc38 := NB206_205.out
   obtain ⟨hcz39_0, hcz39_1⟩ := b2 BK205.out
   obtain ⟨hfz39_0, hfz39_1⟩ := f2 BK205.out
   obtain ⟨hcz40_0, hcz40_1⟩ := b2 BK206.out
   obtain ⟨hfz40_0, hfz40_1⟩ := f2 BK206.out
   try go_wp2
   refine bodyPost_ret (results_cell_row rfl _ _ gb206 57 #[.slice Ao34 t216.length co34, .slice Ao36 t219.length co36] (0, 0) _ rfl (by (with_reducible repeat (first | refine blk_drewN ?_ _ | refine blk_drew ?_ | refine blk_alloc ?_ _)); refine blk_put (cs := #[.slice Ao34 t216.length co34, .slice none 0 0]) ?_ 1 _ rfl; (with_reducible repeat (first | refine blk_drewN ?_ _ | refine blk_drew ?_ | refine blk_alloc ?_ _)); refine blk_put (cs := #[.slice none 0 0, .slice none 0 0]) ?_ 0 _ rfl; (with_reducible repeat (first | refine blk_drewN ?_ _ | refine blk_drew ?_ | refine blk_alloc ?_ _)); refine blk_far ?_ NB206_205.out _; (with_reducible repeat (first | refine blk_drewN ?_ _ | refine blk_drew ?_ | refine blk_alloc ?_ _)); refine blk_far ?_ NB206_205.out _; (with_reducible repeat (first | refine blk_drewN ?_ _ | refine blk_drew ?_ | refine blk_alloc ?_ _)); exact BK206.out) Try.underlying57 rfl (by kernel_rfl)) rfl ?_
   exact ⟨_, _, rq ⟨by (with_reducible repeat (first | apply Kd.S_alloc | apply Kd.S_drewN | apply Kd.S_drew)); exact Kd.S_mono (Kd.S_far (p := ⟨gb206, 1, none⟩) (Kd.S_far (p := ⟨gb206, 0, none⟩) (Kd.S_far (p := ⟨gb205, 1, none⟩) (Kd.S_far (p := ⟨gb205, 0, none⟩) (Kd.S_types (Kd.S_types HO218.out BK205.out (by decide)) BK206.out (by decide)) (fun _ hk => hk.1.2) (.slice Ao34 t216.length co34)) (fun _ hk => hk.1.2) (.slice Ao36 t219.length co36)) (fun _ hk => hk.2) (.slice Ao34 t216.length co34)) (fun _ hk => hk.2) (.slice Ao36 t219.length co36)) (fun _ hk => hk.1.1), by (with_reducible repeat (first | apply Kd.R_alloc | apply Kd.R_drewN | apply Kd.R_drew)); exact Kd.R_mono (Kd.R_far (p := ⟨gb206, 1, none⟩) (Kd.R_far (p := ⟨gb206, 0, none⟩) (Kd.R_far (p := ⟨gb205, 1, none⟩) (Kd.R_far (p := ⟨gb205, 0, none⟩) (Kd.R_types (Kd.R_types HO221.out BK205.out (by decide)) BK206.out (by decide)) (fun _ hk => hk.1.2) (.slice Ao34 t216.length co34)) (fun _ hk => hk.1.2) (.slice Ao36 t219.length co36)) (fun _ hk => hk.2) (.slice Ao34 t216.length co34)) (fun _ hk => hk.2) (.slice Ao36 t219.length co36)) (fun _ hk => hk.1.1), bg2 HB.out GE205.out GE206.out, by repeat (first | (with_reducible first | exact HK.out | apply Kept.alloc | apply Kept.drewN | apply Kept.drew | refine Kept.setCell ?_ (.inr GW205.out) _ | refine Kept.setCell ?_ (.inr GW206.out) _) | exact HK.out)⟩⟩
end Go.Proofs.Ytcanhdofmbekeaa.Rp
