-- printed by wip/pp/pp.py
import Derived.Test.YtbhchamohldehaaP40
import Derived.Test.YtbhchamohldehaaP46
import Derived.Test.YtbhchamohldehaaP47
import Derived.Test.YtbhchamohldehaaP43
namespace Go.Proofs.Ytbhchamohldehaa.P4
set_option maxHeartbeats 8000000
set_option maxRecDepth 100000
open Go.RowKit Go.Proofs.YtbhchamohldehaaW.PrintWords Go.Proofs.YtbhchamohldehaaW.PrintLast Go.Proofs.YtbhchamohldehaaW.PrintMore
attribute [local go_sem] max2_int min2_int max_two min_two max_three min_three max_four min_four
set_option linter.unusedVariables false
set_option linter.unusedSimpArgs false
def spec_l21Do.f (k : Nat) (l0_0 : List (S73)) (l0_1 : List Int) (a1_0 : Int) (a1_1 : Int) (a1_2 : Int) (a1_3 : Int) (a1_4 : Bool) : Option ((List (S73)) × List Int) := if a1_0 = 4 then ((spec_l21All.f k l0_0 l0_1).bind fun bt299 => (some (bt299.1, bt299.2))) else (if a1_3 < 0 then (some (l0_0, l0_1)) else ((spec_l21Steps.f k l0_0 l0_1 a1_0 a1_1 a1_2 a1_3 a1_4).bind fun t305 => ((spec_l12To.f k l0_0 l0_1 t305 a1_3 a1_4).bind fun bt308 => (some (bt308.1, bt308.2)))))
def spec_l21Do.T5 : Bool × List (List Nat × List Nat) := (true, [([], []), ([], []), ([], []), ([1, 2], [1, 2]), ([], []), ([4], [4]), ([], []), ([6], [6]), ([0, 3, 5, 7, 3], [0, 3, 5, 7]), ([8, 8, 0, 1, 2, 3, 4, 5, 6, 7, 8], [8])])
def spec_l21Do.B5 : List Nat := [0, 0, 0, 6, 0, 16, 0, 64, 255, 511]
theorem spec_l21Do.tab5 : rtab .any (opsOf Try.f28 5) = spec_l21Do.T5 := by kernel_rfl
theorem spec_l21Do.bits5 : waitsOk spec_l21Do.T5.2 spec_l21Do.B5 = true := by kernel_rfl
theorem spec_l21Do.calls (k : Nat) (P0_0_ : Nat → Prop) (u9000_ : Value) (l0_0 : List (S73)) (P0_1_ : Nat → Prop) (u9001_ : Value) (l0_1 : List Int) (a1_0 : Int) (a1_1 : Int) (a1_2 : Int) (a1_3 : Int) (a1_4 : Bool) (r1 : List (S73)) (r2 : List Int) (w0 w : World) (hB : Below w0.heap.size w0 w) (ho0_0 : Kd.S k73 73 w w0.heap.size P0_0_ u9000_ l0_0) (ho0_1 : Kd.R (Kd.int .i64) 3 w w0.heap.size P0_1_ u9001_ l0_1) (h : spec_l21Do.f k l0_0 l0_1 a1_0 a1_1 a1_2 a1_3 a1_4 = some (r1, r2)) :
 Calls Try.prog 28 #[.agg #[u9000_, u9001_], .agg #[.int .i64 a1_0, .int .i64 a1_1, .int .i64 a1_2, .int .i64 a1_3, .bool a1_4]] w fun e w' => ∃ v0_ v1_ : Value, e = .returned (.agg #[v0_, v1_]) ∧ Kd.S k73 73 w' w0.heap.size (fun k_ => ((P0_0_ k_ ∨ P0_1_ k_) ∨ w.heap.size ≤ k_)) v0_ r1 ∧ Kd.R (Kd.int .i64) 3 w' w0.heap.size (fun k_ => ((P0_0_ k_ ∨ P0_1_ k_) ∨ w.heap.size ≤ k_)) v1_ r2 ∧ Below w0.heap.size w0 w' ∧ Kept w w' (fun k_ => P0_0_ k_ ∨ P0_1_ k_) := by
 have hu26 := Try.underlying26
 have hu61 := Try.underlying61
 have HO0_0 := am (show Kd.S k73 73 w w0.heap.size (fun k_ => ((P0_0_ k_ ∨ P0_1_ k_) ∨ w.heap.size ≤ k_)) u9000_ l0_0 from Kd.S_mono ho0_0 (fun k_ hk => (.inl (.inl hk))))
 have HO0_1 := am (show Kd.R (Kd.int .i64) 3 w w0.heap.size (fun k_ => ((P0_0_ k_ ∨ P0_1_ k_) ∨ w.heap.size ≤ k_)) u9001_ l0_1 from Kd.R_mono ho0_1 (fun k_ hk => (.inl (.inr hk))))
 have HK := am (Kept.refl w (fun k_ => P0_0_ k_ ∨ P0_1_ k_))
 have HW0 := am hB.size
 have HB := am hB
 clear hB
 have H : (if a1_0 = 4 then ((spec_l21All.f k l0_0 l0_1).bind fun bt299 => (some (bt299.1, bt299.2))) else (if a1_3 < 0 then (some (l0_0, l0_1)) else ((spec_l21Steps.f k l0_0 l0_1 a1_0 a1_1 a1_2 a1_3 a1_4).bind fun t305 => ((spec_l12To.f k l0_0 l0_1 t305 a1_3 a1_4).bind fun bt308 => (some (bt308.1, bt308.2)))))) = some (r1, r2) := h
 clear h
 by_cases c3 : a1_0 = 4
 · rw [if_pos c3] at H
   have c3b0 : (a1_0 == 4) = true := beq_iff_eq.mpr c3
   have c3b1 : (a1_0 != 4) = false := bne_eq_false_iff_eq.mpr c3
   clear c3
   replace H := Option.bind_eq_some_iff.mp H
   obtain ⟨⟨t299, t302⟩, A40, H⟩ := H
   have A4 := am A40
   clear A40
   simp only [Option.some.injEq, Prod.mk.injEq] at H
   obtain ⟨rfl, rfl⟩ := H
   obtain ⟨Ao5, co5, eo5⟩ := Kd.S_slice HO0_0.out
   subst eo5
   obtain ⟨Ao6, co6, eo6⟩ := Kd.R_slice HO0_1.out
   subst eo6
   go_enter Try.func28, Try.ntmps28
   go_wp2_with (first | (refine bx 2 #[.slice Ao5 l0_0.length co5, .slice Ao6 l0_1.length co6] 26 rfl ?_; intro gb296 hg w7 hbox hb; replace HO0_0 := am (Kd.S_below (ps HO0_0.out) hb); replace HO0_1 := am (Kd.R_below (pr HO0_1.out) hb); have BK296 := am (hbox); have GW296 := am (gw hg (pk HK.out)); replace HK := am (Kept.below (pk HK.out) hb); have GE296 := am (ge hg (ph HB.out)); replace HB := am (below_step (ph HB.out) hb); clear hb hbox hg) | (refine bx 3 #[.int .i64 a1_0, .int .i64 a1_1, .int .i64 a1_2, .int .i64 a1_3, .bool a1_4] 61 rfl ?_; intro gb297 hg w8 hbox hb; replace HO0_0 := am (Kd.S_below (ps HO0_0.out) hb); replace HO0_1 := am (Kd.R_below (pr HO0_1.out) hb); have BK297 := am (hbox); have GW297 := am (gw hg (kg1 HK.out (.inr GW296.out))); replace HK := am (Kept.below (kg1 HK.out (.inr GW296.out)) hb); have GE297 := am (ge hg (bg1 HB.out GE296.out)); replace HB := am (below_step (bg1 HB.out GE296.out) hb); have NB296_297 := am (nb hg (pb BK296.out)); have NB297_296 := am (Ne.symm NB296_297.out); replace BK296 := am (blk_below (pb BK296.out) hb); clear hb hbox hg) | (refine bx 4 #[.slice none 0 0, .slice none 0 0] 26 rfl ?_; intro gb298 hg w9 hbox hb; replace HO0_0 := am (Kd.S_below (ps HO0_0.out) hb); replace HO0_1 := am (Kd.R_below (pr HO0_1.out) hb); have BK298 := am (hbox); have GW298 := am (gw hg (kg2 HK.out (.inr GW296.out) (.inr GW297.out))); replace HK := am (Kept.below (kg2 HK.out (.inr GW296.out) (.inr GW297.out)) hb); have GE298 := am (ge hg (bg2 HB.out GE296.out GE297.out)); replace HB := am (below_step (bg2 HB.out GE296.out GE297.out) hb); have NB296_298 := am (nb hg (pb BK296.out)); have NB298_296 := am (Ne.symm NB296_298.out); replace BK296 := am (blk_below (pb BK296.out) hb); have NB297_298 := am (nb hg (pb BK297.out)); have NB298_297 := am (Ne.symm NB297_298.out); replace BK297 := am (blk_below (pb BK297.out) hb); clear hb hbox hg; have hnb10 := NB297_296.out; have hnc10 := NB296_297.out; have hnb11 := NB297_298.out; have hnc11 := NB298_297.out; obtain ⟨hcz12_0, hcz12_1, hcz12_2, hcz12_3, hcz12_4⟩ := b5 BK297.out; obtain ⟨hfz12_0, hfz12_1, hfz12_2, hfz12_3, hfz12_4⟩ := f5 BK297.out; have hnb13 := NB296_298.out; have hnc13 := NB298_296.out; obtain ⟨hcz14_0, hcz14_1⟩ := b2 BK296.out; obtain ⟨hfz14_0, hfz14_1⟩ := f2 BK296.out; obtain ⟨PXh15, hxa_, hxb_⟩ := Kd.S_hand HO0_0.out; have HXAh15 := am hxa_; have HXBh15 := am hxb_; clear hxa_ hxb_) | (refine gl 9 Try.func47 #[.agg #[.slice Ao5 l0_0.length co5, .slice Ao6 l0_1.length co6]] rfl ?_; (with_reducible refine (spec_l21All.calls k PXh15 (.slice Ao5 l0_0.length co5) l0_0 (fun k_ => some k_ = (.slice Ao6 l0_1.length co6 : Value).ownBlock) (.slice Ao6 l0_1.length co6) l0_1 t299 t302 w0 _ ?side1 ?side2 ?side3 A4.out).mono ?_); (case side1 => exact bg3 HB.out GE296.out GE297.out GE298.out); (case side2 => exact (ps HXAh15.out)); (case side3 => exact Kd.R_tight rfl HO0_1.out); rintro e w16 ⟨v300, v303, rfl, ho0, ho1, hb, hkp⟩; refine ⟨_, rfl, ?_⟩; replace BK296 := am (blk_kept (pb BK296.out) hkp (fun hs_ => Or.elim hs_ (fun e_ => (fun e_ => Kd.blk_awayP (fun k_ h_ => (HXBh15.out k_ h_).2.2.2) BK296.out (by decide) e_) e_) (fun e_ => (fun e_ => (Kd.R_ne HO0_1.out BK296.out (by decide)) e_) e_))); replace BK297 := am (blk_kept (pb BK297.out) hkp (fun hs_ => Or.elim hs_ (fun e_ => (fun e_ => Kd.blk_awayP (fun k_ h_ => (HXBh15.out k_ h_).2.2.2) BK297.out (by decide) e_) e_) (fun e_ => (fun e_ => (Kd.R_ne HO0_1.out BK297.out (by decide)) e_) e_))); replace BK298 := am (blk_kept (pb BK298.out) hkp (fun hs_ => Or.elim hs_ (fun e_ => (fun e_ => Kd.blk_awayP (fun k_ h_ => (HXBh15.out k_ h_).2.2.2) BK298.out (by decide) e_) e_) (fun e_ => (fun e_ => (Kd.R_ne HO0_1.out BK298.out (by decide)) e_) e_))); have HO301 := am (Kd.S_mono (ok' := fun k_ => ((P0_0_ k_ ∨ P0_1_ k_) ∨ w.heap.size ≤ k_)) ho0 (fun k_ hk_ => Or.elim hk_ (fun hs_ => Or.elim hs_ (fun hs_ => (HXBh15.out k_ hs_).1) (fun hs_ => (HO0_1.out.1 k_ (hs_).symm))) (fun hn_ => (.inr (Nat.le_trans (kg3 HK.out (.inr GW296.out) (.inr GW297.out) (.inr GW298.out)).1 hn_))))); have HO304 := am (Kd.R_mono (ok' := fun k_ => ((P0_0_ k_ ∨ P0_1_ k_) ∨ w.heap.size ≤ k_)) ho1 (fun k_ hk_ => Or.elim hk_ (fun hs_ => Or.elim hs_ (fun hs_ => (HXBh15.out k_ hs_).1) (fun hs_ => (HO0_1.out.1 k_ (hs_).symm))) (fun hn_ => (.inr (Nat.le_trans (kg3 HK.out (.inr GW296.out) (.inr GW297.out) (.inr GW298.out)).1 hn_))))); replace HK := am (Kept.then_ (S := (fun k_ => P0_0_ k_ ∨ P0_1_ k_)) (kg3 HK.out (.inr GW296.out) (.inr GW297.out) (.inr GW298.out)) hkp (fun k_ hs_ => Or.elim hs_ (fun e_ => (fun e_ => (HXBh15.out k_ e_).1) e_) (fun e_ => (fun e_ => (HO0_1.out.1 k_ e_.symm)) e_))); replace HB := am (hb); clear HO0_0; clear HO0_1; clear hb hkp ho0 ho1; obtain ⟨Ao17, co17, eo17⟩ := Kd.S_slice HO301.out; subst eo17; obtain ⟨hcz18_0, hcz18_1⟩ := b2 BK298.out; obtain ⟨hfz18_0, hfz18_1⟩ := f2 BK298.out; obtain ⟨Ao19, co19, eo19⟩ := Kd.R_slice HO304.out; subst eo19))
   refine bodyPost_ret (results_cell_row rfl _ _ gb298 26 #[.slice Ao17 t299.length co17, .slice Ao19 t302.length co19] (0, 0) _ rfl (bp2 (pb BK298.out)) Try.underlying26 rfl (by kernel_rfl)) rfl ?_
   exact ⟨_, _, rq ⟨ps (Kd.S_mono (Kd.S_far (p := ⟨gb298, 1, none⟩) (Kd.S_far (p := ⟨gb298, 0, none⟩) (Kd.S_types HO301.out BK298.out (by decide)) (fun _ hk => hk.2) (.slice Ao17 t299.length co17)) (fun _ hk => hk.2) (.slice Ao19 t302.length co19)) (fun _ hk => hk.1)), pr (Kd.R_mono (Kd.R_far (p := ⟨gb298, 1, none⟩) (Kd.R_far (p := ⟨gb298, 0, none⟩) (Kd.R_types HO304.out BK298.out (by decide)) (fun _ hk => hk.2) (.slice Ao17 t299.length co17)) (fun _ hk => hk.2) (.slice Ao19 t302.length co19)) (fun _ hk => hk.1)), bg3 HB.out GE296.out GE297.out GE298.out, kg3 HK.out (.inr GW296.out) (.inr GW297.out) (.inr GW298.out)⟩⟩
 rw [if_neg c3] at H
 have c3b0 : (a1_0 == 4) = false := beq_eq_false_iff_ne.mpr c3
 have c3b1 : (a1_0 != 4) = true := bne_iff_ne.mpr c3
 by_cases c20 : a1_3 < 0
 · rw [if_pos c20] at H
   have c20b0 := decide_eq_true c20
   clear c20
   simp only [Option.some.injEq, Prod.mk.injEq] at H
   obtain ⟨rfl, rfl⟩ := H
   obtain ⟨Ao21, co21, eo21⟩ := Kd.S_slice HO0_0.out
   subst eo21
   obtain ⟨Ao22, co22, eo22⟩ := Kd.R_slice HO0_1.out
   subst eo22
   go_enter Try.func28, Try.ntmps28
   go_wp2_with (first | (refine bx 2 #[.slice Ao21 l0_0.length co21, .slice Ao22 l0_1.length co22] 26 rfl ?_; intro gb296 hg w23 hbox hb; replace HO0_0 := am (Kd.S_below (ps HO0_0.out) hb); replace HO0_1 := am (Kd.R_below (pr HO0_1.out) hb); have BK296 := am (hbox); have GW296 := am (gw hg (pk HK.out)); replace HK := am (Kept.below (pk HK.out) hb); have GE296 := am (ge hg (ph HB.out)); replace HB := am (below_step (ph HB.out) hb); clear hb hbox hg) | (refine bx 3 #[.int .i64 a1_0, .int .i64 a1_1, .int .i64 a1_2, .int .i64 a1_3, .bool a1_4] 61 rfl ?_; intro gb297 hg w24 hbox hb; replace HO0_0 := am (Kd.S_below (ps HO0_0.out) hb); replace HO0_1 := am (Kd.R_below (pr HO0_1.out) hb); have BK297 := am (hbox); have GW297 := am (gw hg (kg1 HK.out (.inr GW296.out))); replace HK := am (Kept.below (kg1 HK.out (.inr GW296.out)) hb); have GE297 := am (ge hg (bg1 HB.out GE296.out)); replace HB := am (below_step (bg1 HB.out GE296.out) hb); have NB296_297 := am (nb hg (pb BK296.out)); have NB297_296 := am (Ne.symm NB296_297.out); replace BK296 := am (blk_below (pb BK296.out) hb); clear hb hbox hg) | (refine bx 4 #[.slice none 0 0, .slice none 0 0] 26 rfl ?_; intro gb298 hg w25 hbox hb; replace HO0_0 := am (Kd.S_below (ps HO0_0.out) hb); replace HO0_1 := am (Kd.R_below (pr HO0_1.out) hb); have BK298 := am (hbox); have GW298 := am (gw hg (kg2 HK.out (.inr GW296.out) (.inr GW297.out))); replace HK := am (Kept.below (kg2 HK.out (.inr GW296.out) (.inr GW297.out)) hb); have GE298 := am (ge hg (bg2 HB.out GE296.out GE297.out)); replace HB := am (below_step (bg2 HB.out GE296.out GE297.out) hb); have NB296_298 := am (nb hg (pb BK296.out)); have NB298_296 := am (Ne.symm NB296_298.out); replace BK296 := am (blk_below (pb BK296.out) hb); have NB297_298 := am (nb hg (pb BK297.out)); have NB298_297 := am (Ne.symm NB297_298.out); replace BK297 := am (blk_below (pb BK297.out) hb); clear hb hbox hg; have hnb26 := NB297_296.out; have hnc26 := NB296_297.out; have hnb27 := NB297_298.out; have hnc27 := NB298_297.out; obtain ⟨hcz28_0, hcz28_1, hcz28_2, hcz28_3, hcz28_4⟩ := b5 BK297.out; obtain ⟨hfz28_0, hfz28_1, hfz28_2, hfz28_3, hfz28_4⟩ := f5 BK297.out; have hnb29 := NB296_298.out; have hnc29 := NB298_296.out; obtain ⟨hcz30_0, hcz30_1⟩ := b2 BK296.out; obtain ⟨hfz30_0, hfz30_1⟩ := f2 BK296.out; obtain ⟨hcz31_0, hcz31_1⟩ := b2 BK298.out; obtain ⟨hfz31_0, hfz31_1⟩ := f2 BK298.out))
   refine bodyPost_ret (results_cell_row rfl _ _ gb298 26 #[.slice Ao21 l0_0.length co21, .slice Ao22 l0_1.length co22] (0, 0) _ rfl (bp2 (pb BK298.out)) Try.underlying26 rfl (by kernel_rfl)) rfl ?_
   exact ⟨_, _, rq ⟨ps (Kd.S_mono (Kd.S_far (p := ⟨gb298, 1, none⟩) (Kd.S_far (p := ⟨gb298, 0, none⟩) (Kd.S_types HO0_0.out BK298.out (by decide)) (fun _ hk => hk.2) (.slice Ao21 l0_0.length co21)) (fun _ hk => hk.2) (.slice Ao22 l0_1.length co22)) (fun _ hk => hk.1)), pr (Kd.R_mono (Kd.R_far (p := ⟨gb298, 1, none⟩) (Kd.R_far (p := ⟨gb298, 0, none⟩) (Kd.R_types HO0_1.out BK298.out (by decide)) (fun _ hk => hk.2) (.slice Ao21 l0_0.length co21)) (fun _ hk => hk.2) (.slice Ao22 l0_1.length co22)) (fun _ hk => hk.1)), bg3 HB.out GE296.out GE297.out GE298.out, kg3 HK.out (.inr GW296.out) (.inr GW297.out) (.inr GW298.out)⟩⟩
 rw [if_neg c20] at H
 have c20b0 := decide_eq_false c20
 clear c20
 replace H := Option.bind_eq_some_iff.mp H
 obtain ⟨t305, A320, H⟩ := H
 have A32 := am A320
 clear A320
 replace H := Option.bind_eq_some_iff.mp H
 obtain ⟨⟨t308, t311⟩, A330, H⟩ := H
 have A33 := am A330
 clear A330
 simp only [Option.some.injEq, Prod.mk.injEq] at H
 obtain ⟨rfl, rfl⟩ := H
 obtain ⟨Ao34, co34, eo34⟩ := Kd.S_slice HO0_0.out
 subst eo34
 obtain ⟨Ao35, co35, eo35⟩ := Kd.R_slice HO0_1.out
 subst eo35
 go_enter Try.func28, Try.ntmps28
 try go_wp2_with (first | (refine bx 2 #[.slice Ao34 l0_0.length co34, .slice Ao35 l0_1.length co35] 26 rfl ?_; intro gb296 hg w36 hbox hb; replace HO0_0 := am (Kd.S_below (ps HO0_0.out) hb); replace HO0_1 := am (Kd.R_below (pr HO0_1.out) hb); have BK296 := am (hbox); have GW296 := am (gw hg (pk HK.out)); replace HK := am (Kept.below (pk HK.out) hb); have GE296 := am (ge hg (ph HB.out)); replace HB := am (below_step (ph HB.out) hb); clear hb hbox hg) | (refine bx 3 #[.int .i64 a1_0, .int .i64 a1_1, .int .i64 a1_2, .int .i64 a1_3, .bool a1_4] 61 rfl ?_; intro gb297 hg w37 hbox hb; replace HO0_0 := am (Kd.S_below (ps HO0_0.out) hb); replace HO0_1 := am (Kd.R_below (pr HO0_1.out) hb); have BK297 := am (hbox); have GW297 := am (gw hg (kg1 HK.out (.inr GW296.out))); replace HK := am (Kept.below (kg1 HK.out (.inr GW296.out)) hb); have GE297 := am (ge hg (bg1 HB.out GE296.out)); replace HB := am (below_step (bg1 HB.out GE296.out) hb); have NB296_297 := am (nb hg (pb BK296.out)); have NB297_296 := am (Ne.symm NB296_297.out); replace BK296 := am (blk_below (pb BK296.out) hb); clear hb hbox hg) | (refine bx 4 #[.slice none 0 0, .slice none 0 0] 26 rfl ?_; intro gb298 hg w38 hbox hb; replace HO0_0 := am (Kd.S_below (ps HO0_0.out) hb); replace HO0_1 := am (Kd.R_below (pr HO0_1.out) hb); have BK298 := am (hbox); have GW298 := am (gw hg (kg2 HK.out (.inr GW296.out) (.inr GW297.out))); replace HK := am (Kept.below (kg2 HK.out (.inr GW296.out) (.inr GW297.out)) hb); have GE298 := am (ge hg (bg2 HB.out GE296.out GE297.out)); replace HB := am (below_step (bg2 HB.out GE296.out GE297.out) hb); have NB296_298 := am (nb hg (pb BK296.out)); have NB298_296 := am (Ne.symm NB296_298.out); replace BK296 := am (blk_below (pb BK296.out) hb); have NB297_298 := am (nb hg (pb BK297.out)); have NB298_297 := am (Ne.symm NB297_298.out); replace BK297 := am (blk_below (pb BK297.out) hb); clear hb hbox hg; have hnb39 := NB297_296.out; have hnc39 := NB296_297.out; have hnb40 := NB297_298.out; have hnc40 := NB298_297.out; obtain ⟨hcz41_0, hcz41_1, hcz41_2, hcz41_3, hcz41_4⟩ := b5 BK297.out; obtain ⟨hfz41_0, hfz41_1, hfz41_2, hfz41_3, hfz41_4⟩ := f5 BK297.out))
 replace HO0_0 := am (Kd.S_drew HO0_0.out)
 replace HO0_1 := am (Kd.R_drew HO0_1.out)
 replace BK296 := am (blk_drew BK296.out)
 replace BK297 := am (blk_drew BK297.out)
 replace BK298 := am (blk_drew BK298.out)
 replace HK := am (Kept.drew HK.out)
 replace HB := am (below_drew1 HB.out)
 refine start_ (n := 10) (S := fun w' => w'.cell? ⟨gb296, 0, none⟩ = some (.slice Ao34 l0_0.length co34) ∧ w'.cell? ⟨gb296, 1, none⟩ = some (.slice Ao35 l0_1.length co35) ∧ w'.cell? ⟨gb297, 0, none⟩ = some (.int .i64 a1_0) ∧ w'.cell? ⟨gb297, 1, none⟩ = some (.int .i64 a1_1) ∧ w'.cell? ⟨gb297, 2, none⟩ = some (.int .i64 a1_2) ∧ w'.cell? ⟨gb297, 3, none⟩ = some (.int .i64 a1_3) ∧ w'.cell? ⟨gb297, 4, none⟩ = some (.bool a1_4)) (ds := []) (bt 10 0) (by kernel_rfl) rfl rfl ⟨(blk_cell BK296.out 0).trans rfl, (blk_cell BK296.out 1).trans rfl, (blk_cell BK297.out 0).trans rfl, (blk_cell BK297.out 1).trans rfl, (blk_cell BK297.out 2).trans rfl, (blk_cell BK297.out 3).trans rfl, (blk_cell BK297.out 4).trans rfl⟩ (fun hHeld => ?_); refine with_tabW spec_l21Do.tab5 spec_l21Do.bits5 (fun HT_ HW_ => ?_)
 generalize w38.drew = w42 at HO0_0 HO0_1 BK296 BK297 BK298 HK HB hHeld ⊢
 refine qj 4 18 (bt 10 16) rfl rfl HT_.out ?_
 refine qj 6 20 (bt 10 80) rfl rfl HT_.out ?_
 refine qm 0 14 (bt 10 81) rfl rfl HT_.out HW_.out hHeld ?_
 refine qm 1 15 (bt 10 83) rfl rfl HT_.out HW_.out hHeld ?_
 refine qm 2 16 (bt 10 87) rfl rfl HT_.out HW_.out hHeld ?_
 refine qm 5 19 (bt 10 119) rfl rfl HT_.out HW_.out hHeld ?_
 refine qm 7 21 (bt 10 247) rfl rfl HT_.out HW_.out hHeld ?_
 refine qo 3 (some 17) (bt 10 255) rfl rfl HT_.out fun K hK => ?_
 refine qg Try.func49 #[.agg #[.slice Ao34 l0_0.length co34, .slice Ao35 l0_1.length co35], .agg #[.int .i64 a1_0, .int .i64 a1_1, .int .i64 a1_2, .int .i64 a1_3, .bool a1_4]] rfl rfl ?_
 with_reducible refine (spec_l21Steps.calls k _ _ l0_0 _ _ l0_1 a1_0 a1_1 a1_2 a1_3 a1_4 t305 _ ?side1 ?side2 ?side3 ?side4 A32.out).mono ?_
 (case side1 => exact pc ((Kd.S_reads' HO0_0.out).2.2))
 (case side2 => exact (Kd.S_reads' HO0_0.out).2.1)
 (case side3 => exact pc ((Kd.R_reads' HO0_1.out).2.2))
 (case side4 => exact (Kd.R_reads' HO0_1.out).2.1)
 rintro e w43 ⟨v306, rfl, ho0, hb⟩
 refine ⟨_, rfl, ?_⟩
 replace HO0_0 := am (Kd.S_below (ps HO0_0.out) hb)
 replace HO0_1 := am (Kd.R_below (pr HO0_1.out) hb)
 have HO307 := am (Kd.R_lower (Kd.R_newM (M := fun k_ => ((P0_0_ k_ ∨ P0_1_ k_) ∨ w.heap.size ≤ k_)) ho0 (kg3 HK.out (.inr GW296.out) (.inr GW297.out) (.inr GW298.out)).1 (fun k_ h_ => .inr h_)) (below_size (bg3 HB.out GE296.out GE297.out GE298.out)))
 replace BK296 := am (blk_below (pb BK296.out) hb)
 replace BK297 := am (blk_below (pb BK297.out) hb)
 replace BK298 := am (blk_below (pb BK298.out) hb)
 replace HK := am (Kept.below (kg3 HK.out (.inr GW296.out) (.inr GW297.out) (.inr GW298.out)) hb)
 replace HB := am (below_step (bg3 HB.out GE296.out GE297.out GE298.out) hb)
 clear hb ho0
 obtain ⟨Ao44, co44, eo44⟩ := Kd.R_slice HO307.out
 (first | subst eo44 | (injection eo44 with f1_ f2_ f3_; have f4_ := f1_.symm; have f5_ := f3_.symm; clear f1_ f2_ f3_; subst f4_; subst f5_))
 obtain ⟨PXh45, hxa_, hxb_⟩ := Kd.S_hand HO0_0.out
 have HXAh45 := am hxa_
 have HXBh45 := am hxb_
 clear hxa_ hxb_
 refine hK.out _ _ ⟨(blk_cell BK296.out 0).trans rfl, (blk_cell BK296.out 1).trans rfl, (blk_cell BK297.out 0).trans rfl, (blk_cell BK297.out 1).trans rfl, (blk_cell BK297.out 2).trans rfl, (blk_cell BK297.out 3).trans rfl, (blk_cell BK297.out 4).trans rfl⟩ (fun hHeld => ?_)
 clear hK K
 refine qn (some 17) ?_
 refine qo 8 (some 22) (bt 10 511) rfl rfl HT_.out fun K hK => ?_
 refine qg Try.func48 #[.agg #[.slice Ao34 l0_0.length co34, .slice Ao35 l0_1.length co35], .slice Ao44 t305.length co44, .int .i64 a1_3, .bool a1_4] rfl rfl ?_
 with_reducible refine (spec_l12To.calls k PXh45 (.slice Ao34 l0_0.length co34) l0_0 (fun k_ => some k_ = (.slice Ao35 l0_1.length co35 : Value).ownBlock) (.slice Ao35 l0_1.length co35) l0_1 _ _ t305 a1_3 a1_4 t308 t311 w0 _ ?side1 ?side2 ?side3 ?side4 ?side5 A33.out).mono ?_
 (case side1 => exact bg3 HB.out GE296.out GE297.out GE298.out)
 (case side2 => exact (ps HXAh45.out))
 (case side3 => exact Kd.R_tight rfl HO0_1.out)
 (case side4 => exact Kd.C_kept_own ((Kd.R_apart' (Kd.R_awayP HO307.out (fun k_ h_ => (HXBh45.out k_ h_).2.2.2) (by decide)) (Kd.R_typed HO0_1.out) (by decide))) (fun k_ hk_ hs_ => Or.elim hs_ (fun e_ => (hk_.1.2) e_) (fun e_ => (hk_.2) e_)))
 (case side5 => exact (Kd.R_reads' HO307.out).2.1)
 rintro e w46 ⟨v309, v312, rfl, ho0, ho1, hb, hkp⟩
 refine ⟨_, rfl, ?_⟩
 replace BK296 := am (blk_kept (pb BK296.out) hkp (fun hs_ => Or.elim hs_ (fun e_ => (fun e_ => Kd.blk_awayP (fun k_ h_ => (HXBh45.out k_ h_).2.2.2) BK296.out (by decide) e_) e_) (fun e_ => (fun e_ => (Kd.R_ne HO0_1.out BK296.out (by decide)) e_) e_)))
 replace BK297 := am (blk_kept (pb BK297.out) hkp (fun hs_ => Or.elim hs_ (fun e_ => (fun e_ => Kd.blk_awayP (fun k_ h_ => (HXBh45.out k_ h_).2.2.2) BK297.out (by decide) e_) e_) (fun e_ => (fun e_ => (Kd.R_ne HO0_1.out BK297.out (by decide)) e_) e_)))
 replace BK298 := am (blk_kept (pb BK298.out) hkp (fun hs_ => Or.elim hs_ (fun e_ => (fun e_ => Kd.blk_awayP (fun k_ h_ => (HXBh45.out k_ h_).2.2.2) BK298.out (by decide) e_) e_) (fun e_ => (fun e_ => (Kd.R_ne HO0_1.out BK298.out (by decide)) e_) e_)))
 replace HO307 := am (Kd.R_mono (ok' := fun k_ => ((P0_0_ k_ ∨ P0_1_ k_) ∨ w.heap.size ≤ k_)) (Kd.R_keptB ((Kd.R_apart' (Kd.R_awayP HO307.out (fun k_ h_ => (HXBh45.out k_ h_).2.2.2) (by decide)) (Kd.R_typed HO0_1.out) (by decide))) hkp (fun k_ hk_ hs_ => Or.elim hs_ (fun e_ => (hk_.1.2) e_) (fun e_ => (hk_.2) e_))) (fun k_ hk_ => hk_.1.1.1.1))
 have HO310 := am (Kd.S_mono (ok' := fun k_ => ((P0_0_ k_ ∨ P0_1_ k_) ∨ w.heap.size ≤ k_)) ho0 (fun k_ hk_ => Or.elim hk_ (fun hs_ => Or.elim hs_ (fun hs_ => (HXBh45.out k_ hs_).1) (fun hs_ => (HO0_1.out.1 k_ (hs_).symm))) (fun hn_ => (.inr (Nat.le_trans (kg3 HK.out (.inr GW296.out) (.inr GW297.out) (.inr GW298.out)).1 hn_)))))
 have HO313 := am (Kd.R_mono (ok' := fun k_ => ((P0_0_ k_ ∨ P0_1_ k_) ∨ w.heap.size ≤ k_)) ho1 (fun k_ hk_ => Or.elim hk_ (fun hs_ => Or.elim hs_ (fun hs_ => (HXBh45.out k_ hs_).1) (fun hs_ => (HO0_1.out.1 k_ (hs_).symm))) (fun hn_ => (.inr (Nat.le_trans (kg3 HK.out (.inr GW296.out) (.inr GW297.out) (.inr GW298.out)).1 hn_)))))
 replace HK := am (Kept.then_ (S := (fun k_ => P0_0_ k_ ∨ P0_1_ k_)) (kg3 HK.out (.inr GW296.out) (.inr GW297.out) (.inr GW298.out)) hkp (fun k_ hs_ => Or.elim hs_ (fun e_ => (fun e_ => (HXBh45.out k_ e_).1) e_) (fun e_ => (fun e_ => (HO0_1.out.1 k_ e_.symm)) e_)))
 replace HB := am (hb)
 clear HO0_0 HO0_1
 clear hb hkp ho0 ho1
 obtain ⟨Ao47, co47, eo47⟩ := Kd.S_slice HO310.out
 (first | subst eo47 | (injection eo47 with f1_ f2_ f3_; have f4_ := f1_.symm; have f5_ := f3_.symm; clear f1_ f2_ f3_; subst f4_; subst f5_))
 obtain ⟨Ao49, co49, eo49⟩ := Kd.R_slice HO313.out
 (first | subst eo49 | (injection eo49 with f1_ f2_ f3_; have f4_ := f1_.symm; have f5_ := f3_.symm; clear f1_ f2_ f3_; subst f4_; subst f5_))
 refine hK.out _ _ ⟨(blk_cell BK296.out 0).trans rfl, (blk_cell BK296.out 1).trans rfl, (blk_cell BK297.out 0).trans rfl, (blk_cell BK297.out 1).trans rfl, (blk_cell BK297.out 2).trans rfl, (blk_cell BK297.out 3).trans rfl, (blk_cell BK297.out 4).trans rfl⟩ (fun hHeld => ?_)
 clear hK K
 refine qn (some 22) ?_
 refine qo 9 none (bt 10 1023) rfl rfl HT_.out fun K hK => ?_
 have hs48 : w46.cell? ⟨gb298, 0, none⟩ = some (.slice none 0 0) := (blk_cell BK298.out 0).trans rfl
 have hfs48 := blk_frozen BK298.out 0
 have hns48_0 := NB296_298.out
 have hns48_1 := NB297_298.out
 have hms48_0 := NB298_296.out
 have hms48_1 := NB298_297.out
 have hs50 : w46.cell? ⟨gb298, 1, none⟩ = some (.slice none 0 0) := (blk_cell BK298.out 1).trans rfl
 have hfs50 := blk_frozen BK298.out 1
 have hns50_0 := NB296_298.out
 have hns50_1 := NB297_298.out
 have hms50_0 := NB298_296.out
 have hms50_1 := NB298_297.out
 refine qs rfl ?_
 refine hK.out _ _ ⟨((cell_far (p := ⟨gb298, _, none⟩) NB296_298.out _).trans (((cell_far (p := ⟨gb298, _, none⟩) NB296_298.out _).trans (hHeld.1)))), ((cell_far (p := ⟨gb298, _, none⟩) NB296_298.out _).trans (((cell_far (p := ⟨gb298, _, none⟩) NB296_298.out _).trans (hHeld.2.1)))), ((cell_far (p := ⟨gb298, _, none⟩) NB297_298.out _).trans (((cell_far (p := ⟨gb298, _, none⟩) NB297_298.out _).trans (hHeld.2.2.1)))), ((cell_far (p := ⟨gb298, _, none⟩) NB297_298.out _).trans (((cell_far (p := ⟨gb298, _, none⟩) NB297_298.out _).trans (hHeld.2.2.2.1)))), ((cell_far (p := ⟨gb298, _, none⟩) NB297_298.out _).trans (((cell_far (p := ⟨gb298, _, none⟩) NB297_298.out _).trans (hHeld.2.2.2.2.1)))), ((cell_far (p := ⟨gb298, _, none⟩) NB297_298.out _).trans (((cell_far (p := ⟨gb298, _, none⟩) NB297_298.out _).trans (hHeld.2.2.2.2.2.1)))), ((cell_far (p := ⟨gb298, _, none⟩) NB297_298.out _).trans (((cell_far (p := ⟨gb298, _, none⟩) NB297_298.out _).trans (hHeld.2.2.2.2.2.2))))⟩ (fun hHeld => ?_)
 clear hK K
 refine done_ (done_of HT_.out (by kernel_rfl)) ?_
 try go_wp2
 refine bodyPost_ret (results_cell_row rfl _ _ gb298 26 #[.slice Ao47 t308.length co47, .slice Ao49 t311.length co49] (0, 0) _ rfl (bp2 (pb BK298.out)) Try.underlying26 rfl (by kernel_rfl)) rfl ?_
 exact ⟨_, _, rq ⟨ps (Kd.S_mono (Kd.S_far (p := ⟨gb298, 1, none⟩) (Kd.S_far (p := ⟨gb298, 0, none⟩) (Kd.S_types HO310.out BK298.out (by decide)) (fun _ hk => hk.2) (.slice Ao47 t308.length co47)) (fun _ hk => hk.2) (.slice Ao49 t311.length co49)) (fun _ hk => hk.1)), pr (Kd.R_mono (Kd.R_far (p := ⟨gb298, 1, none⟩) (Kd.R_far (p := ⟨gb298, 0, none⟩) (Kd.R_types HO313.out BK298.out (by decide)) (fun _ hk => hk.2) (.slice Ao47 t308.length co47)) (fun _ hk => hk.2) (.slice Ao49 t311.length co49)) (fun _ hk => hk.1)), bg3 HB.out GE296.out GE297.out GE298.out, kg3 HK.out (.inr GW296.out) (.inr GW297.out) (.inr GW298.out)⟩⟩
def spec_FlashNew.l0 : Nat → List (S73) → Int → Option ((List (S73)))
 | 0, _, _ => none
 | k + 1, x1, x2 => if x2 < 4 then (if 4 ≤ 7036874417766 then (if x1.length < 4398046511104 then (spec_FlashNew.l0 k (x1 ++ [(⟨(List.replicate 4 z69), 0⟩ : S73)]) (wrap64 (x2 + 1))) else (none)) else (none)) else (some x1)
def spec_FlashNew.f (k : Nat)  : Option ((List (S73))) := spec_FlashNew.l0 k (([] : List (S73))) 0
theorem spec_FlashNew.calls (k : Nat)  (r : List (S73)) (w : World) (h : spec_FlashNew.f k  = some r) :
 Calls Try.prog 69 #[] w fun e w' => ∃ v0_ : Value, e = .returned (v0_) ∧ Kd.S k73 73 w' w.heap.size (fun _ => True) v0_ r ∧ Below w.heap.size w w' := by
 have hu73 := Try.underlying73
 have HB := am (Below.refl w.heap.size w)
 have H : (spec_FlashNew.l0 k (([] : List (S73))) 0) = some r := h
 clear h
 obtain ⟨y314, hy314⟩ : ∃ y_ : List (S73), y_ = (([] : List (S73))) := ⟨_, rfl⟩
 replace H : (spec_FlashNew.l0 k y314 0) = some r := yy hy314 H
 have Ny314 := am hy314
 clear hy314
 have H' := am H
 clear H
 go_enter Try.func69, Try.ntmps69
 go_wp2_with (first | ((with_reducible refine gate_dst (N := 3) rfl ?_); refine Kd.S_lit k73 _ 73 ?hg (N := 3) ?hd (xs := ([] : List (S73))) (inner := []) (ok := fun _ => True) (okp := fun _ => True) ?hr ?hp (fun _ hk => hk) trivial (Below.refl _ _) (Nat.le_refl _) (by simp) ?_; (case hd => rfl); (case hg => rfl); (case hr => first | (go_simp; done) | (go_simp; rfl)); (case hp => exact (Reps.none _ _)); intro v315 w1 ho2 hb hg_ hnew_; clear hg_ hnew_; (first | rw [← Ny314.out] at ho2 | (simp only [Int.reduceToNat] at ho2; rw [← Ny314.out] at ho2)); have HO316 := am (Kd.S_lower ho2 (below_size (ph HB.out))); replace HB := am (below_step (ph HB.out) hb); clear hb ho2))
 go_loopg [1, 2] k (fun kq v1 v2 w' => ∃ (x1_1 : List (S73)) (x2_1 : Int), v2 = .int .i64 x2_1 ∧ Aside0 (spec_FlashNew.l0 kq x1_1 x2_1 = some r) ∧ Aside0 (kq ≤ k) ∧ Aside0 (Kd.S k73 73 w' w.heap.size (fun _ => True) v1 x1_1) ∧ Aside0 (Below w.heap.size w w'))
 case atStart => exact ⟨(y314), (0), rf, H', ⟨Nat.le_refl _⟩, ⟨ps HO316.out⟩, ⟨ph HB.out⟩⟩
 case round =>
  clear H'
  obtain ⟨x1_1, x2_1, rfl, HA, HK1, HO_1, HB⟩ := hrel
  cases gk with
  | zero => exact absurd HA.out (by simp [spec_FlashNew.l0])
  | succ k1 =>
   have H := HA.out
   clear HA
   simp only [spec_FlashNew.l0] at H
   by_cases c3 : x2_1 < 4
   rotate_left
   · rw [if_neg c3] at H
     have c3b0 := decide_eq_false c3
     clear c3
     obtain rfl := Option.some.inj H
     go_wp2
     go_ret
     exact ⟨_, rq ⟨ps HO_1.out, ph HB.out⟩⟩
   rw [if_pos c3] at H
   have c3b0 := decide_eq_true c3
   clear c3
   by_cases c4 : 4 ≤ 7036874417766
   rotate_left
   · rw [if_neg c4] at H
     exact absurd H (by simp)
   rw [if_pos c4] at H
   have c4b0 := eq_true c4
   have c4b1 := decide_eq_true c4
   clear c4
   obtain ⟨y317, hy317⟩ : ∃ y_ : List (S69), y_ = (List.replicate 4 z69) := ⟨_, rfl⟩
   replace H : (if x1_1.length < 4398046511104 then (spec_FlashNew.l0 k1 (x1_1 ++ [(⟨y317, 0⟩ : S73)]) (wrap64 (x2_1 + 1))) else (none)) = some r := yy hy317 H
   have Ny317 := am hy317
   clear hy317
   by_cases c5 : x1_1.length < 4398046511104
   rotate_left
   · rw [if_neg c5] at H
     exact absurd H (by simp)
   rw [if_pos c5] at H
   have LMc5 := am c5
   clear c5
   obtain ⟨y320, hy320⟩ : ∃ y_ : List (S73), y_ = (x1_1 ++ [(⟨y317, 0⟩ : S73)]) := ⟨_, rfl⟩
   replace H : (spec_FlashNew.l0 k1 y320 (wrap64 (x2_1 + 1))) = some r := yy hy320 H
   have Ny320 := am hy320
   clear hy320
   have H' := am H
   clear H
   go_wp2_with (first | ((with_reducible refine gate_dst (N := 9) rfl ?_); refine Kd.R_make k69 _ 69 rfl (N := 9) rfl 71 _ _ rfl 4 rfl rfl Try.underlying71 (.agg #[(.int .i64 0), (.int .i64 0), (.int .i64 0), (.int .i64 0), (.int .i64 0)]) 40 info69 rfl (by decide) (by omega) z69 (ok := fun _ => True) (okp := fun _ => True) (k69_mkM _ _ _ z69 ) (fun _ hk => hk) trivial (by omega) (by omega) (Below.refl _ _) (Nat.le_refl _) ?_; intro v318 w6 ho7 hb hg_ hnew_; clear hg_ hnew_; (first | rw [← Ny317.out] at ho7 | (simp only [Int.reduceToNat] at ho7; rw [← Ny317.out] at ho7)); replace HO_1 := am (Kd.S_elder' (ps HO_1.out) (Kd.R_base ho7) hb); have HO319 := am (Kd.R_lower ho7 (below_size (ph HB.out))); replace HB := am (below_step (ph HB.out) hb); clear hb ho7; obtain ⟨Ao8, co8, eo8⟩ := Kd.R_slice HO319.out; subst eo8) | ((with_reducible refine gate_builtin (b := .append) (xs := #[.tmp 8, .tmp 11]) rfl ?_); at_builtin; refine Kd.S_append k73 (w0 := w) w.heap.size rfl (.tmp 8) (.tmp 11) 23 73 (.agg #[(.slice none 0 0), (.int .i64 0)]) 32 rfl Try.underlying23 info73 rfl (by decide) (by omega) u1 x1_1 (⟨y317, 0⟩ : S73) [.slice Ao8 y317.length co8, .int .i64 0] (fun _ => True) (fun k_ => some k_ = (.slice Ao8 y317.length co8 : Value).ownBlock) rfl rfl ?aP (fun k_ hk_ => ((Kd.R_mono (ok' := fun k_ => ((fun _ => True)) k_ ∧ some k_ ≠ (u1 : Value).ownBlock) (Kd.R_apart' (HO319.out) (Kd.S_typed HO_1.out) (by decide)) (fun k_ hk => ⟨trivial, hk.2⟩))).1 k_ hk_.symm) ?aF ?aO ?aB ?aS ?aL ?_; (case aP => exact k73_mkM _ _ _ (⟨y317, 0⟩ : S73) (Kd.R_mono (Kd.R_tight rfl (Kd.R_mono (ok' := fun k_ => ((fun _ => True)) k_ ∧ some k_ ≠ (u1 : Value).ownBlock) (Kd.R_apart' (HO319.out) (Kd.S_typed HO_1.out) (by decide)) (fun k_ hk => ⟨trivial, hk.2⟩))) (fun _ h_ => h_))); (case aB => exact (ph HB.out)); (case aF => exact (fun _ _ => trivial)); (case aO => exact (ps (Kd.S_mono HO_1.out (fun k_ hk => ⟨trivial, fun e_ => hk.2 e_⟩)))); (case aS => exact (below_size (ph HB.out))); (case aL => have := LMc5.out; omega); intro v321 w9 ho hb hg hat; rw [← Ny320.out] at ho; replace HB := am (hb); have HO322 := am (ho); clear HO_1; clear HO319; clear ho hb hg hat))
   go_roundg k1
   case measure => have := HK1.out; omega
   case rel => exact ⟨(y320), (wrap64 (x2_1 + 1)), rf, H', ⟨by have := HK1.out; omega⟩, ⟨ps HO322.out⟩, ⟨ph HB.out⟩⟩
def spec_StoreNew.f (k : Nat)  : Option ((List (S73)) × List Int) := (spec_FlashNew.f k).bind fun t324 => (if 6 ≤ 35184372088832 then (some (t324, (List.replicate 6 0))) else (none))
theorem spec_StoreNew.calls (k : Nat)  (r1 : List (S73)) (r2 : List Int) (w : World) (h : spec_StoreNew.f k  = some (r1, r2)) :
 Calls Try.prog 62 #[] w fun e w' => ∃ v0_ v1_ : Value, e = .returned (.agg #[v0_, v1_]) ∧ Kd.S k73 73 w' w.heap.size (fun _ => True) v0_ r1 ∧ Kd.R (Kd.int .i64) 3 w' w.heap.size (fun _ => True) v1_ r2 ∧ Below w.heap.size w w' := by
 have hu26 := Try.underlying26
 have HB := am (Below.refl w.heap.size w)
 have H : ((spec_FlashNew.f k).bind fun t324 => (if 6 ≤ 35184372088832 then (some (t324, (List.replicate 6 0))) else (none))) = some (r1, r2) := h
 clear h
 replace H := Option.bind_eq_some_iff.mp H
 obtain ⟨t324, A10, H⟩ := H
 have A1 := am A10
 clear A10
 by_cases c2 : 6 ≤ 35184372088832
 rotate_left
 · rw [if_neg c2] at H
   exact absurd H (by simp)
 rw [if_pos c2] at H
 have c2b0 := eq_true c2
 have c2b1 := decide_eq_true c2
 clear c2
 obtain ⟨y327, hy327⟩ : ∃ y_ : List Int, y_ = (List.replicate 6 0) := ⟨_, rfl⟩
 replace H : (some (t324, y327)) = some (r1, r2) := yy hy327 H
 have Ny327 := am hy327
 clear hy327
 simp only [Option.some.injEq, Prod.mk.injEq] at H
 obtain ⟨rfl, rfl⟩ := H
 go_enter Try.func62, Try.ntmps62
 try go_wp2_with (first | (refine bx 0 #[.slice none 0 0, .slice none 0 0] 26 rfl ?_; intro gb323 hg w3 hbox hb; have BK323 := am (hbox); have GW323 := am (ge hg (ph HB.out)); have GE323 := GW323; replace HB := am (below_step (ph HB.out) hb); clear hb hbox hg))
 replace BK323 := am (blk_drew BK323.out)
 replace HB := am (below_drew1 HB.out)
 refine start_ (n := 4) (S := fun w' => True) (ds := []) (bt 4 0) (by kernel_rfl) rfl rfl trivial (fun hHeld => ?_)
 generalize w3.drew = w4 at BK323 HB hHeld ⊢
 refine join_ (σ := Value × Value) 2 #[true, true, false, false] (fun s_ => [(1, s_.1), (2, s_.2)]) (fun s_ w' => (Kd.S k73 73 w' w.heap.size (fun _ => True) s_.1 t324) ∧ (Kd.R (Kd.int .i64) 3 w' w.heap.size (fun _ => True) s_.2 y327) ∧ (w'.heap[gb323]? = some (.cells #[.slice none 0 0, .slice none 0 0] 26 (0, 0))) ∧ (Below w.heap.size w w')) ?_ ?_
 rotate_left
 · intro hCont
   refine two_ (i := 0) (j := 1) (Ni := some 1) (Nj := some 2) #[true, false, false, false] (bt 4 2) rfl rfl rfl rfl (by kernel_rfl) (by decide) (by decide) (fun K hK => ?_) (fun K hK => ?_)
   · skip
     refine qg Try.func69 #[] rfl rfl ?_
     with_reducible refine (spec_FlashNew.calls k  t324 _ A1.out).mono ?_
     rintro e w5 ⟨v325, rfl, ho0, hb⟩
     refine ⟨_, rfl, ?_⟩
     have HO326 := am (Kd.S_lower ho0 (below_size (bg1 HB.out GE323.out)))
     replace BK323 := am (blk_below (pb BK323.out) hb)
     replace HB := am (below_step (bg1 HB.out GE323.out) hb)
     clear hb ho0
     refine hK.out _ _ trivial (fun hHeld => ?_)
     clear hK K
     refine qn (some 1) ?_
     refine one_ (i := 1) (N := some 2) (bt 4 3) rfl rfl (by kernel_rfl) (by decide) (fun K hK => ?_)
     refine Kd.R_make_step (Kd.int .i64) _ 3 (by rfl) (N := 2) rfl 24 _ _ rfl 6 rfl rfl Try.underlying24 (.int .i64 0) 8 info3 rfl (by decide) (by omega) 0 (ok := fun _ => True) (okp := fun _ => True) rfl (fun _ hk => hk) trivial (by omega) (by omega) (Below.refl _ _) (Nat.le_refl _) ?_
     intro v328 w6 ho7 hb hg_ hnew_
     clear hg_ hnew_
     (first | rw [← Ny327.out] at ho7 | (simp only [Int.reduceToNat] at ho7; rw [← Ny327.out] at ho7))
     replace HO326 := am (Kd.S_below (ps HO326.out) hb)
     have HO329 := am (Kd.R_lower ho7 (below_size (bg1 HB.out GE323.out)))
     replace BK323 := am (blk_below (pb BK323.out) hb)
     replace HB := am (below_step (bg1 HB.out GE323.out) hb)
     clear hb ho7
     obtain ⟨Ao8, co8, eo8⟩ := Kd.R_slice HO329.out
     (first | subst eo8 | (injection eo8 with f1_ f2_ f3_; have f4_ := f1_.symm; have f5_ := f3_.symm; clear f1_ f2_ f3_; subst f4_; subst f5_))
     obtain ⟨Ao9, co9, eo9⟩ := Kd.S_slice HO326.out
     (first | subst eo9 | (injection eo9 with f1_ f2_ f3_; have f4_ := f1_.symm; have f5_ := f3_.symm; clear f1_ f2_ f3_; subst f4_; subst f5_))
     refine hK.out _ _ trivial (fun hHeld => ?_)
     clear hK K
     refine qn (some 2) ?_
     exact norm_ (by simp only [putAll, Act.put, List.setIfInBounds_toArray, List.set_cons_zero, List.set_cons_succ]) (hCont (.slice Ao9 t324.length co9, .slice Ao8 y327.length co8) _ ⟨(ps HO326.out), (pr HO329.out), (pb BK323.out), (bg1 HB.out GE323.out)⟩)
   · skip
     refine Kd.R_make_step (Kd.int .i64) _ 3 (by rfl) (N := 2) rfl 24 _ _ rfl 6 rfl rfl Try.underlying24 (.int .i64 0) 8 info3 rfl (by decide) (by omega) 0 (ok := fun _ => True) (okp := fun _ => True) rfl (fun _ hk => hk) trivial (by omega) (by omega) (Below.refl _ _) (Nat.le_refl _) ?_
     intro v328 w5 ho6 hb hg_ hnew_
     clear hg_ hnew_
     (first | rw [← Ny327.out] at ho6 | (simp only [Int.reduceToNat] at ho6; rw [← Ny327.out] at ho6))
     have HO329 := am (Kd.R_lower ho6 (below_size (bg1 HB.out GE323.out)))
     replace BK323 := am (blk_below (pb BK323.out) hb)
     replace HB := am (below_step (bg1 HB.out GE323.out) hb)
     clear hb ho6
     refine hK.out _ _ trivial (fun hHeld => ?_)
     clear hK K
     refine qn (some 2) ?_
     refine one_ (i := 0) (N := some 1) (bt 4 3) rfl rfl (by kernel_rfl) (by decide) (fun K hK => ?_)
     refine qg Try.func69 #[] rfl rfl ?_
     with_reducible refine (spec_FlashNew.calls k  t324 _ A1.out).mono ?_
     rintro e w7 ⟨v325, rfl, ho0, hb⟩
     refine ⟨_, rfl, ?_⟩
     replace HO329 := am (Kd.R_below (pr HO329.out) hb)
     have HO326 := am (Kd.S_lower ho0 (below_size (bg1 HB.out GE323.out)))
     replace BK323 := am (blk_below (pb BK323.out) hb)
     replace HB := am (below_step (bg1 HB.out GE323.out) hb)
     clear hb ho0
     obtain ⟨Ao8, co8, eo8⟩ := Kd.R_slice HO329.out
     (first | subst eo8 | (injection eo8 with f1_ f2_ f3_; have f4_ := f1_.symm; have f5_ := f3_.symm; clear f1_ f2_ f3_; subst f4_; subst f5_))
     obtain ⟨Ao9, co9, eo9⟩ := Kd.S_slice HO326.out
     (first | subst eo9 | (injection eo9 with f1_ f2_ f3_; have f4_ := f1_.symm; have f5_ := f3_.symm; clear f1_ f2_ f3_; subst f4_; subst f5_))
     refine hK.out _ _ trivial (fun hHeld => ?_)
     clear hK K
     refine qn (some 1) ?_
     exact norm_ (by simp only [putAll, Act.put, List.setIfInBounds_toArray, List.set_cons_zero, List.set_cons_succ]) (hCont (.slice Ao9 t324.length co9, .slice Ao8 y327.length co8) _ ⟨(ps HO326.out), (pr HO329.out), (pb BK323.out), (bg1 HB.out GE323.out)⟩)
 rintro ⟨v325, v328⟩ w10 ⟨h0_, h1_, h2_, h3_⟩
 have n0_ : Aside0 (Kd.S k73 73 w10 w.heap.size (fun _ => True) v325 t324) := ⟨h0_⟩
 have n1_ : Aside0 (Kd.R (Kd.int .i64) 3 w10 w.heap.size (fun _ => True) v328 y327) := ⟨h1_⟩
 have n2_ : Aside0 (w10.heap[gb323]? = some (.cells #[.slice none 0 0, .slice none 0 0] 26 (0, 0))) := ⟨h2_⟩
 have n3_ : Aside0 (Below w.heap.size w w10) := ⟨h3_⟩
 clear BK323 HB h0_ h1_ h2_ h3_
 have HO326 := n0_
 have HO329 := n1_
 have BK323 := n2_
 have HB := n3_
 clear n0_ n1_ n2_ n3_
 have hHeld := trivial
 obtain ⟨Ao11, co11, eo11⟩ := Kd.R_slice HO329.out
 (first | subst eo11 | (injection eo11 with f1_ f2_ f3_; have f4_ := f1_.symm; have f5_ := f3_.symm; clear f1_ f2_ f3_; subst f4_; subst f5_))
 obtain ⟨Ao12, co12, eo12⟩ := Kd.S_slice HO326.out
 (first | subst eo12 | (injection eo12 with f1_ f2_ f3_; have f4_ := f1_.symm; have f5_ := f3_.symm; clear f1_ f2_ f3_; subst f4_; subst f5_))
 refine norm_ (a' := ?_) ?_ ?_
 rotate_left
 · simp only [putAll, Act.put, List.setIfInBounds_toArray, List.set_cons_zero, List.set_cons_succ]
   rfl
 refine pi_ 2 3 (bt 4 7) rfl rfl (fun _ _ _ h => h) ?_
 refine one_ (i := 3) (N := none) (bt 4 15) rfl rfl (by kernel_rfl) (by decide) (fun K hK => ?_)
 have hs13 : w10.cell? ⟨gb323, 0, none⟩ = some (.slice none 0 0) := (blk_cell BK323.out 0).trans rfl
 have hfs13 := blk_frozen BK323.out 0
 have hs14 : w10.cell? ⟨gb323, 1, none⟩ = some (.slice none 0 0) := (blk_cell BK323.out 1).trans rfl
 have hfs14 := blk_frozen BK323.out 1
 refine qs rfl ?_
 refine hK.out _ _ trivial (fun hHeld => ?_)
 clear hK K
 refine done_ (by kernel_rfl) ?_
 try go_wp2
 refine bodyPost_ret (results_cell_row rfl _ _ gb323 26 #[.slice Ao12 t324.length co12, .slice Ao11 y327.length co11] (0, 0) _ rfl (bp2 (pb BK323.out)) Try.underlying26 rfl (by kernel_rfl)) rfl ?_
 exact ⟨_, _, rq ⟨ps (Kd.S_mono (Kd.S_far (p := ⟨gb323, 1, none⟩) (Kd.S_far (p := ⟨gb323, 0, none⟩) (Kd.S_types HO326.out BK323.out (by decide)) (fun _ hk => hk.2) (.slice Ao12 t324.length co12)) (fun _ hk => hk.2) (.slice Ao11 y327.length co11)) (fun _ hk => trivial)), pr (Kd.R_mono (Kd.R_far (p := ⟨gb323, 1, none⟩) (Kd.R_far (p := ⟨gb323, 0, none⟩) (Kd.R_types HO329.out BK323.out (by decide)) (fun _ hk => hk.2) (.slice Ao12 t324.length co12)) (fun _ hk => hk.2) (.slice Ao11 y327.length co11)) (fun _ hk => trivial)), bg1 HB.out GE323.out⟩⟩
def spec_l71Event.kd (k : Nat) (s0_0 : List Int) (c p : Int) : Option (Int × Int) :=
 if c = 0 ∨ c = 1 ∨ c = 2 then some (2, p) else if c = 3 then some (3, p) else if c = 4 then (spec_l6Rd_pick.f k s0_0 p 3).bind fun x => some (if x.1 = 0 then 4 else 1, x.2) else some (1, p)
def spec_l71Event.f (k : Nat) (s0_0 : List Int) (s0_1 : Int) : Option (Int × Int × Int × Int × Bool × Int) :=
 (spec_l6Rd_pick.f k s0_0 s0_1 6).bind fun a => (spec_l6Rd_pick.f k s0_0 a.2 10).bind fun b => (spec_l6Rd_pick.f k s0_0 b.2 12).bind fun c => (spec_l71Event.kd k s0_0 c.1 c.2).bind fun e => (spec_l6Rd_pick.f k s0_0 e.2 4).bind fun x =>
  if x.1 = 0 then (spec_l6Rd_pick.f k s0_0 x.2 5).bind fun y => (spec_l6Rd_pick.f k s0_0 y.2 3).bind fun z => some (e.1, wrap64 (1 + a.1), b.1, y.1, decide (z.1 > 0), z.2) else some (e.1, wrap64 (1 + a.1), b.1, 9, false, x.2)
theorem evKb {w w' : World} {g a : Nat} {o : Obj} (h : w.heap[a]? = some o) (hk : KeepBut w w' g none) (hne : a ≠ g) : w'.heap[a]? = some o := (hk.2 a (Array.getElem?_eq_some_iff.1 h).1 hne (by simp)).trans h
theorem evPut5 {w : World} {g : Nat} {t : TypeId} {z0 z1 z2 z3 z4 : Value} (h : w.heap[g]? = some (.cells #[z0, z1, z2, z3, z4] t (0, 0))) (a b c d e : Value) : (((((w.setCell ⟨g, 0, none⟩ a).setCell ⟨g, 1, none⟩ b).setCell ⟨g, 2, none⟩ c).setCell ⟨g, 3, none⟩ d).setCell ⟨g, 4, none⟩ e).heap[g]? = some (.cells #[a, b, c, d, e] t (0, 0)) :=
 blk_put (cs := #[a, b, c, d, z4]) (blk_put (cs := #[a, b, c, z3, z4]) (blk_put (cs := #[a, b, z2, z3, z4]) (blk_put (cs := #[a, z1, z2, z3, z4]) (blk_put (cs := #[z0, z1, z2, z3, z4]) h 0 _ rfl) 1 _ rfl) 2 _ rfl) 3 _ rfl) 4 _ rfl
theorem evEnd {w0 w W : World} {g : Nat} {s : List Int} {p : Int} (h : IsS56 w0 W g s p ∧ Below w0.heap.size w0 W ∧ KeepBut w W g none) {T : Nat} (hT : w.heap.size ≤ T) (hL : w0.heap.size ≤ w.heap.size) (hg : g < w.heap.size) (i : Nat) (a : Value) :
 IsS56 w0 (W.setCell ⟨T, i, none⟩ a) g s p ∧ Below w0.heap.size w0 (W.setCell ⟨T, i, none⟩ a) ∧ KeepBut w (W.setCell ⟨T, i, none⟩ a) g none :=
 ⟨IsS56.far (p := ⟨T, i, none⟩) h.1 (show g ≠ T by omega) _, h.2.1.setCell (p := ⟨T, i, none⟩) (Nat.le_trans hL hT) _, keep_far (p := ⟨T, i, none⟩) h.2.2 hT _⟩
theorem spec_l71Event.calls (k : Nat) (g : Nat) (s0_0 : List Int) (s0_1 : Int) (r1 : Int) (r2 : Int) (r3 : Int) (r4 : Int) (r5 : Bool) (r6 : Int) (w0 w : World) (hI : IsS56 w0 w g s0_0 s0_1) (hB : Below w0.heap.size w0 w) (h : spec_l71Event.f k s0_0 s0_1 = some (r1, r2, r3, r4, r5, r6)) :
 Calls Try.prog 63 #[.pointer (some ⟨g, 0, none⟩)] w fun e w' => e = .returned (.agg #[.int .i64 r1, .int .i64 r2, .int .i64 r3, .int .i64 r4, .bool r5]) ∧ IsS56 w0 w' g s0_0 r6 ∧ Below w0.heap.size w0 w' ∧ KeepBut w w' g none := by
 unfold spec_l71Event.f at h
 obtain ⟨⟨a1, p1⟩, h1, h⟩ := Option.bind_eq_some_iff.1 h
 obtain ⟨⟨a2, p2⟩, h2, h⟩ := Option.bind_eq_some_iff.1 h
 obtain ⟨⟨a3, p3⟩, h3, h⟩ := Option.bind_eq_some_iff.1 h
 obtain ⟨⟨kd, p4⟩, h4, h⟩ := Option.bind_eq_some_iff.1 h
 obtain ⟨⟨a5, p5⟩, h5, h⟩ := Option.bind_eq_some_iff.1 h
 have HH := am h
 have H4 := am h4
 clear h h4
 have hgl := IsS56.lt hI
 have hL := hB.size
 have hu := Try.underlying61
 go_enter Try.func63, Try.ntmps63
 go_wp2_with fail
 refine (spec_l6Rd_pick.calls k g s0_0 s0_1 6 a1 p1 w0 _ (hI.alloc _) (below_alloc hB _) h1).mono ?_
 rintro e w1 ⟨rfl, hI1, hB1, hK1⟩
 have hb := evKb (blk_new w _) hK1 (show w.heap.size ≠ g by omega)
 have K := KeepBut.trans (keep_alloc (KeepBut.refl w g none) _) hK1 (.inl rfl)
 clear hI hB hK1
 go_wp2_with fail
 refine (spec_l6Rd_pick.calls k g s0_0 p1 10 a2 p2 w0 _ hI1 hB1 h2).mono ?_
 rintro e w2 ⟨rfl, hI2, hB2, hK2⟩
 replace hb := evKb hb hK2 (show w.heap.size ≠ g by omega)
 replace K := KeepBut.trans K hK2 (.inl rfl)
 clear hI1 hB1 hK2
 go_wp2_with fail
 refine (spec_l6Rd_pick.calls k g s0_0 p2 12 a3 p3 w0 _ (hI2.alloc _) (below_alloc hB2 _) h3).mono ?_
 rintro e w3 ⟨rfl, hI3, hB3, hK3⟩
 have hl2 := hI2.lt
 have hw2 := blk_lt hb
 replace hb := evKb (blk_alloc hb _) hK3 (show w.heap.size ≠ g by omega)
 have hx := evKb (blk_new w2 _) hK3 (show w2.heap.size ≠ g by omega)
 replace K := KeepBut.trans (keep_alloc K _) hK3 (.inl rfl)
 clear hI2 hB2 hK3 h1 h2 h3
 have hXw : w.heap.size ≤ w2.heap.size := by omega
 have hXg : w2.heap.size ≠ g := by omega
 have hwg : w.heap.size ≠ g := by omega
 have hne : w2.heap.size ≠ w.heap.size := by omega
 have hne2 : w.heap.size ≠ w2.heap.size := by omega
 clear hl2 hw2
 generalize w2.heap.size = X at hx hXw hXg hne hne2 ⊢
 go_upto_block 0 with (fail)
 go_cut [] (fun wc => Aside0 (wc.heap[w.heap.size]? = some (.cells #[.int .i64 0, .int .i64 0, .int .i64 0, .int .i64 0, .bool false] 61 (0, 0)) ∧ wc.heap[X]? = some (.cells #[.int .i64 kd, .int .i64 (wrap64 (1 + a1)), .int .i64 a2, .int .i64 9, .bool false] 61 (0, 0)) ∧ IsS56 w0 wc g s0_0 p4 ∧ Below w0.heap.size w0 wc ∧ KeepBut w wc g none))
 case first =>
  have hs0 := (blk_cell hx 0).trans rfl
  have hf0 := blk_frozen hx 0
  have HE := am (And.intro hb (And.intro hx (And.intro hI3 (And.intro hB3 K))))
  have h := H4.out
  clear H4 HH h5 hI3 hB3 K hx hb
  unfold spec_l71Event.kd at h
  by_cases c2 : a3 = 0 ∨ a3 = 1 ∨ a3 = 2
  · rw [if_pos c2] at h
    simp only [Option.some.injEq, Prod.mk.injEq] at h
    obtain ⟨rfl, rfl⟩ := h
    rcases c2 with rfl | rfl | rfl
    all_goals
     go_wp2
     go_meet
     case rel => exact ⟨blk_far HE.out.1 hne2 _, blk_put HE.out.2.1 0 _ rfl, evEnd HE.out.2.2 hXw hL hgl 0 _⟩
  rw [if_neg c2] at h
  by_cases c3 : a3 = 3
  · rw [if_pos c3] at h
    simp only [Option.some.injEq, Prod.mk.injEq] at h
    obtain ⟨rfl, rfl⟩ := h
    subst c3
    clear c2
    go_wp2
    go_meet
    case rel => exact ⟨blk_far HE.out.1 hne2 _, blk_put HE.out.2.1 0 _ rfl, evEnd HE.out.2.2 hXw hL hgl 0 _⟩
  rw [if_neg c3] at h
  by_cases c4 : a3 = 4
  · rw [if_pos c4] at h
    obtain ⟨⟨v, q⟩, h6, h⟩ := Option.bind_eq_some_iff.1 h
    simp only [Option.some.injEq, Prod.mk.injEq] at h
    obtain ⟨hkd, rfl⟩ := h
    subst c4
    clear c2 c3
    go_wp2_with fail
    refine (spec_l6Rd_pick.calls k g s0_0 p3 3 v q w0 _ HE.out.2.2.1 HE.out.2.2.2.1 h6).mono ?_
    rintro e w6 ⟨rfl, hI6, hB6, hK6⟩
    have hb := evKb HE.out.1 hK6 hwg
    have hx := evKb HE.out.2.1 hK6 hXg
    have HE := am (And.intro hb (And.intro hx (And.intro hI6 (And.intro hB6 (KeepBut.trans HE.out.2.2.2.2 hK6 (.inl rfl))))))
    clear hs0 hf0
    have hs0 := (blk_cell hx 0).trans rfl
    have hf0 := blk_frozen hx 0
    clear hI6 hB6 hK6 h6 hb hx
    by_cases c5 : v = 0
    rotate_left
    · rw [if_neg c5] at hkd
      subst hkd
      have e0 : (v == 0) = false := beq_eq_false_iff_ne.mpr c5
      clear c5
      go_wp2
      go_meet
      case rel => exact HE
    rw [if_pos c5] at hkd
    subst hkd c5
    go_wp2
    go_meet
    case rel => exact ⟨blk_far HE.out.1 hne2 _, blk_put HE.out.2.1 0 _ rfl, evEnd HE.out.2.2 hXw hL hgl 0 _⟩
  rw [if_neg c4] at h
  simp only [Option.some.injEq, Prod.mk.injEq] at h
  obtain ⟨rfl, rfl⟩ := h
  have e0 : (a3 == 0) = false := beq_eq_false_iff_ne.mpr (fun h => c2 (.inl h))
  have e1 : (a3 == 1) = false := beq_eq_false_iff_ne.mpr (fun h => c2 (.inr (.inl h)))
  have e2 : (a3 == 2) = false := beq_eq_false_iff_ne.mpr (fun h => c2 (.inr (.inr h)))
  have e3 : (a3 == 3) = false := beq_eq_false_iff_ne.mpr c3
  have e4 : (a3 == 4) = false := beq_eq_false_iff_ne.mpr c4
  clear c2 c3 c4
  go_wp2
  go_meet
  case rel => exact HE
 case rest =>
  clear hb hx hI3 hB3 K H4
  have HE := hcut
  have h := HH.out
  clear HH hcut
  go_wp2_with fail
  refine (spec_l6Rd_pick.calls k g s0_0 p4 4 a5 p5 w0 _ HE.out.2.2.1 HE.out.2.2.2.1 h5).mono ?_
  rintro e w6 ⟨rfl, hI6, hB6, hK6⟩
  have hb := evKb HE.out.1 hK6 hwg
  have hx := evKb HE.out.2.1 hK6 hXg
  have K := KeepBut.trans HE.out.2.2.2.2 hK6 (.inl rfl)
  clear HE hK6 h5
  have y0 := (blk_cell hb 0).trans rfl
  by_cases c5 : a5 = 0
  rotate_left
  · rw [if_neg c5] at h
    simp only [Option.some.injEq, Prod.mk.injEq] at h
    obtain ⟨rfl, rfl, rfl, rfl, rfl, rfl⟩ := h
    have e0 : (a5 == 0) = false := beq_eq_false_iff_ne.mpr c5
    clear c5 y0
    have hs0 := (blk_cell hx 0).trans rfl
    have hs1 := (blk_cell hx 1).trans rfl
    have hs2 := (blk_cell hx 2).trans rfl
    have hs3 := (blk_cell hx 3).trans rfl
    have hs4 := (blk_cell hx 4).trans rfl
    have y0 := (blk_cell hb 0).trans rfl
    have g0 := blk_frozen hb 0
    have y1 := (blk_cell hb 1).trans rfl
    have g1 := blk_frozen hb 1
    have y2 := (blk_cell hb 2).trans rfl
    have g2 := blk_frozen hb 2
    have y3 := (blk_cell hb 3).trans rfl
    have g3 := blk_frozen hb 3
    have y4 := (blk_cell hb 4).trans rfl
    have g4 := blk_frozen hb 4
    have HE := am (And.intro hI6 (And.intro hB6 K))
    have HB := am hb
    clear hI6 hB6 K hb hx
    go_wp2
    refine bodyPost_ret (results_cell_row rfl _ _ w.heap.size 61 #[.int .i64 kd, .int .i64 (wrap64 (1 + a1)), .int .i64 a2, .int .i64 9, .bool false] (0, 0) _ rfl (evPut5 HB.out _ _ _ _ _) Try.underlying61 rfl (by kernel_rfl)) rfl ?_
    exact ⟨rfl, evEnd (evEnd (evEnd (evEnd (evEnd HE.out (Nat.le_refl _) hL hgl 0 _) (Nat.le_refl _) hL hgl 1 _) (Nat.le_refl _) hL hgl 2 _) (Nat.le_refl _) hL hgl 3 _) (Nat.le_refl _) hL hgl 4 _⟩
  rw [if_pos c5] at h
  obtain ⟨⟨y, q1⟩, h7, h⟩ := Option.bind_eq_some_iff.1 h
  obtain ⟨⟨z, q2⟩, h8, h⟩ := Option.bind_eq_some_iff.1 h
  simp only [Option.some.injEq, Prod.mk.injEq] at h
  obtain ⟨rfl, rfl, rfl, rfl, rfl, rfl⟩ := h
  subst c5
  clear y0
  go_wp2_with fail
  refine (spec_l6Rd_pick.calls k g s0_0 p5 5 y q1 w0 _ hI6 hB6 h7).mono ?_
  rintro e w7 ⟨rfl, hI7, hB7, hK7⟩
  replace hb := evKb hb hK7 hwg
  replace hx := evKb hx hK7 hXg
  replace K := KeepBut.trans K hK7 (.inl rfl)
  clear hI6 hB6 hK7 h7
  have hs3 := (blk_cell hx 3).trans rfl
  have hf3 := blk_frozen hx 3
  go_wp2_with fail
  have HE := evEnd ⟨hI7, hB7, K⟩ hXw hL hgl 3 (.int .i64 y)
  replace hb := blk_far hb hne2 (p := ⟨X, 3, none⟩) (.int .i64 y)
  replace hx := blk_put hx 3 (.int .i64 y) rfl
  refine (spec_l6Rd_pick.calls k g s0_0 q1 3 z q2 w0 _ HE.1 HE.2.1 h8).mono ?_
  rintro e w8 ⟨rfl, hI8, hB8, hK8⟩
  replace hb := evKb hb hK8 hwg
  replace hx := evKb hx hK8 hXg
  replace K := KeepBut.trans HE.2.2 hK8 (.inl rfl)
  clear hI7 hB7 hK8 h8 HE hs3 hf3
  have hs0 := (blk_cell hx 0).trans rfl
  have hs1 := (blk_cell hx 1).trans rfl
  have hs2 := (blk_cell hx 2).trans rfl
  have hs3 := (blk_cell hx 3).trans rfl
  have hs4 := (blk_cell hx 4).trans rfl
  have hf4 := blk_frozen hx 4
  have y0 := (blk_cell hb 0).trans rfl
  have g0 := blk_frozen hb 0
  have y1 := (blk_cell hb 1).trans rfl
  have g1 := blk_frozen hb 1
  have y2 := (blk_cell hb 2).trans rfl
  have g2 := blk_frozen hb 2
  have y3 := (blk_cell hb 3).trans rfl
  have g3 := blk_frozen hb 3
  have y4 := (blk_cell hb 4).trans rfl
  have g4 := blk_frozen hb 4
  have HE := am (And.intro hI8 (And.intro hB8 K))
  have HB := am hb
  clear hI8 hB8 K hb hx
  go_wp2
  refine bodyPost_ret (results_cell_row rfl _ _ w.heap.size 61 #[.int .i64 kd, .int .i64 (wrap64 (1 + a1)), .int .i64 a2, .int .i64 y, .bool (decide (z > 0))] (0, 0) _ rfl (evPut5 (blk_far HB.out hne2 _) _ _ _ _ _) Try.underlying61 rfl (by kernel_rfl)) rfl ?_
  exact ⟨rfl, evEnd (evEnd (evEnd (evEnd (evEnd (evEnd HE.out hXw hL hgl 4 _) (Nat.le_refl _) hL hgl 0 _) (Nat.le_refl _) hL hgl 1 _) (Nat.le_refl _) hL hgl 2 _) (Nat.le_refl _) hL hgl 3 _) (Nat.le_refl _) hL hgl 4 _⟩
end Go.Proofs.Ytbhchamohldehaa.P4
