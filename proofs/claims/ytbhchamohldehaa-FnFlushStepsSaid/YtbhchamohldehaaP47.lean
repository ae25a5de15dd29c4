-- printed by wip/pp/pp.py
import Derived.Test.YtbhchamohldehaaP40
import Derived.Test.YtbhchamohldehaaP42
import Derived.Test.YtbhchamohldehaaP44
import Derived.Test.YtbhchamohldehaaP46
namespace Go.Proofs.Ytbhchamohldehaa.P4
set_option maxHeartbeats 8000000
set_option maxRecDepth 100000
open Go.RowKit Go.Proofs.YtbhchamohldehaaW.PrintWords Go.Proofs.YtbhchamohldehaaW.PrintLast Go.Proofs.YtbhchamohldehaaW.PrintMore
attribute [local go_sem] max2_int min2_int max_two min_two max_three min_three max_four min_four
set_option linter.unusedVariables false
set_option linter.unusedSimpArgs false
def spec_l21All.l0 : Nat → Int → List (S73) → List Int → Option ((List (S73)) × List Int)
 | 0, _, _, _ => none
 | k + 1, x3, x254000, x254001 => if x3 ≤ 6 then ((spec_l12Flush.f k x254000 x254001 x3).bind fun t255 => ((spec_l12To.f k x254000 x254001 t255 (t255.length : Int) false).bind fun bt258 => (spec_l21All.l0 k (wrap64 (x3 + 1)) bt258.1 bt258.2))) else (some (x254000, x254001))
def spec_l21All.f (k : Nat) (l0_0 : List (S73)) (l0_1 : List Int) : Option ((List (S73)) × List Int) := spec_l21All.l0 k 1 l0_0 l0_1
theorem spec_l21All.calls (k : Nat) (P0_0_ : Nat → Prop) (u9000_ : Value) (l0_0 : List (S73)) (P0_1_ : Nat → Prop) (u9001_ : Value) (l0_1 : List Int) (r1 : List (S73)) (r2 : List Int) (w0 w : World) (hB : Below w0.heap.size w0 w) (ho0_0 : Kd.S k73 73 w w0.heap.size P0_0_ u9000_ l0_0) (ho0_1 : Kd.R (Kd.int .i64) 3 w w0.heap.size P0_1_ u9001_ l0_1) (h : spec_l21All.f k l0_0 l0_1 = some (r1, r2)) :
 Calls Try.prog 47 #[.agg #[u9000_, u9001_]] w fun e w' => ∃ v0_ v1_ : Value, e = .returned (.agg #[v0_, v1_]) ∧ Kd.S k73 73 w' w0.heap.size (fun k_ => ((P0_0_ k_ ∨ P0_1_ k_) ∨ w.heap.size ≤ k_)) v0_ r1 ∧ Kd.R (Kd.int .i64) 3 w' w0.heap.size (fun k_ => ((P0_0_ k_ ∨ P0_1_ k_) ∨ w.heap.size ≤ k_)) v1_ r2 ∧ Below w0.heap.size w0 w' ∧ Kept w w' (fun k_ => P0_0_ k_ ∨ P0_1_ k_) := by
 have hu26 := Try.underlying26
 have HO0_0 := am (show Kd.S k73 73 w w0.heap.size (fun k_ => ((P0_0_ k_ ∨ P0_1_ k_) ∨ w.heap.size ≤ k_)) u9000_ l0_0 from Kd.S_mono ho0_0 (fun k_ hk => (.inl (.inl hk))))
 have HO0_1 := am (show Kd.R (Kd.int .i64) 3 w w0.heap.size (fun k_ => ((P0_0_ k_ ∨ P0_1_ k_) ∨ w.heap.size ≤ k_)) u9001_ l0_1 from Kd.R_mono ho0_1 (fun k_ hk => (.inl (.inr hk))))
 have HK := am (Kept.refl w (fun k_ => P0_0_ k_ ∨ P0_1_ k_))
 have HW0 := am hB.size
 have HB := am hB
 clear hB
 have H : (spec_l21All.l0 k 1 l0_0 l0_1) = some (r1, r2) := h
 clear h
 have H' := am H
 clear H
 obtain ⟨Ao2, co2, eo2⟩ := Kd.S_slice HO0_0.out
 subst eo2
 obtain ⟨Ao3, co3, eo3⟩ := Kd.R_slice HO0_1.out
 subst eo3
 go_enter Try.func47, Try.ntmps47
 go_wp2_with (first | (refine bx 1 #[.slice Ao2 l0_0.length co2, .slice Ao3 l0_1.length co3] 26 rfl ?_; intro gb253 hg w4 hbox hb; replace HO0_0 := am (Kd.S_below (ps HO0_0.out) hb); replace HO0_1 := am (Kd.R_below (pr HO0_1.out) hb); have BK253 := am (hbox); have GW253 := am (gw hg (pk HK.out)); replace HK := am (Kept.below (pk HK.out) hb); have GE253 := am (ge hg (ph HB.out)); replace HB := am (below_step (ph HB.out) hb); clear hb hbox hg) | (refine bx 2 #[.slice none 0 0, .slice none 0 0] 26 rfl ?_; intro gb254 hg w5 hbox hb; replace HO0_0 := am (Kd.S_below (ps HO0_0.out) hb); replace HO0_1 := am (Kd.R_below (pr HO0_1.out) hb); have BK254 := am (hbox); have GW254 := am (gw hg (kg1 HK.out (.inr GW253.out))); replace HK := am (Kept.below (kg1 HK.out (.inr GW253.out)) hb); have GE254 := am (ge hg (bg1 HB.out GE253.out)); replace HB := am (below_step (bg1 HB.out GE253.out) hb); have NB253_254 := am (nb hg (pb BK253.out)); have NB254_253 := am (Ne.symm NB253_254.out); replace BK253 := am (blk_below (pb BK253.out) hb); clear hb hbox hg))
 go_loopg [3] k (fun kq v3 w' => ∃ (x3_1 : Int) (x254000_1 : List (S73)) (x254001_1 : List Int) (u254000 : Value) (u254001 : Value), v3 = .int .i64 x3_1 ∧ Aside0 (spec_l21All.l0 kq x3_1 x254000_1 x254001_1 = some (r1, r2)) ∧ Aside0 (kq ≤ k) ∧ Aside0 (Kd.S k73 73 w' w0.heap.size (fun k_ => ((P0_0_ k_ ∨ P0_1_ k_) ∨ w.heap.size ≤ k_)) u254000 x254000_1) ∧ Aside0 (Kd.R (Kd.int .i64) 3 w' w0.heap.size (fun k_ => ((P0_0_ k_ ∨ P0_1_ k_) ∨ w.heap.size ≤ k_)) u254001 x254001_1) ∧ Aside0 (w'.heap[gb253]? = some (.cells #[u254000, u254001] 26 (0, 0))) ∧ Aside0 (w'.heap[gb254]? = some (.cells #[(.slice none 0 0), (.slice none 0 0)] 26 (0, 0))) ∧ Aside0 (Kept w w' (fun k_ => P0_0_ k_ ∨ P0_1_ k_)) ∧ Aside0 (Below w0.heap.size w0 w'))
 case atStart => exact ⟨(1), (l0_0), (l0_1), (.slice Ao2 l0_0.length co2), (.slice Ao3 l0_1.length co3), rf, H', ⟨Nat.le_refl _⟩, ⟨ps HO0_0.out⟩, ⟨pr HO0_1.out⟩, ⟨pb BK253.out⟩, ⟨pb BK254.out⟩, ⟨kg2 HK.out (.inr GW253.out) (.inr GW254.out)⟩, ⟨bg2 HB.out GE253.out GE254.out⟩⟩
 case round =>
  clear H'
  obtain ⟨x3_1, x254000_1, x254001_1, u254000, u254001, rfl, HA, HK1, HO_254000, HO_254001, BK253, BK254, HK, HB⟩ := hrel
  cases gk with
  | zero => exact absurd HA.out (by simp [spec_l21All.l0])
  | succ k1 =>
   have H := HA.out
   clear HA
   simp only [spec_l21All.l0] at H
   by_cases c6 : x3_1 ≤ 6
   rotate_left
   · rw [if_neg c6] at H
     have c6b0 := decide_eq_false c6
     clear c6
     simp only [Option.some.injEq, Prod.mk.injEq] at H
     obtain ⟨rfl, rfl⟩ := H
     have hnb21 := NB253_254.out
     have hnc21 := NB254_253.out
     obtain ⟨hcz22_0, hcz22_1⟩ := b2 BK253.out
     obtain ⟨hfz22_0, hfz22_1⟩ := f2 BK253.out
     obtain ⟨Ao23, co23, eo23⟩ := Kd.S_slice HO_254000.out
     subst eo23
     obtain ⟨hcz24_0, hcz24_1⟩ := b2 BK254.out
     obtain ⟨hfz24_0, hfz24_1⟩ := f2 BK254.out
     obtain ⟨Ao25, co25, eo25⟩ := Kd.R_slice HO_254001.out
     subst eo25
     go_wp2
     refine bodyPost_ret (results_cell_row rfl _ _ gb254 26 #[.slice Ao23 x254000_1.length co23, .slice Ao25 x254001_1.length co25] (0, 0) _ rfl (bp2 (pb BK254.out)) Try.underlying26 rfl (by kernel_rfl)) rfl ?_
     exact ⟨_, _, rq ⟨ps (Kd.S_mono (Kd.S_far (p := ⟨gb254, 1, none⟩) (Kd.S_far (p := ⟨gb254, 0, none⟩) (Kd.S_types HO_254000.out BK254.out (by decide)) (fun _ hk => hk.2) (.slice Ao23 x254000_1.length co23)) (fun _ hk => hk.2) (.slice Ao25 x254001_1.length co25)) (fun _ hk => hk.1)), pr (Kd.R_mono (Kd.R_far (p := ⟨gb254, 1, none⟩) (Kd.R_far (p := ⟨gb254, 0, none⟩) (Kd.R_types HO_254001.out BK254.out (by decide)) (fun _ hk => hk.2) (.slice Ao23 x254000_1.length co23)) (fun _ hk => hk.2) (.slice Ao25 x254001_1.length co25)) (fun _ hk => hk.1)), bg2 HB.out GE253.out GE254.out, kg2 HK.out (.inr GW253.out) (.inr GW254.out)⟩⟩
   rw [if_pos c6] at H
   have c6b0 := decide_eq_true c6
   clear c6
   replace H := Option.bind_eq_some_iff.mp H
   obtain ⟨t255, A70, H⟩ := H
   have A7 := am A70
   clear A70
   replace H := Option.bind_eq_some_iff.mp H
   obtain ⟨⟨t258, t261⟩, A80, H⟩ := H
   have A8 := am A80
   clear A80
   have H' := am H
   clear H
   have hnb9 := NB253_254.out
   have hnc9 := NB254_253.out
   obtain ⟨hcz10_0, hcz10_1⟩ := b2 BK253.out
   obtain ⟨hfz10_0, hfz10_1⟩ := f2 BK253.out
   obtain ⟨Ao11, co11, eo11⟩ := Kd.S_slice HO_254000.out
   subst eo11
   obtain ⟨Ao12, co12, eo12⟩ := Kd.R_slice HO_254001.out
   subst eo12
   go_wp2_with (first | (refine gl 11 Try.func20 #[.agg #[.slice Ao11 x254000_1.length co11, .slice Ao12 x254001_1.length co12], .int .i64 x3_1] rfl ?_; (with_reducible refine (spec_l12Flush.calls k1 _ _ x254000_1 _ _ x254001_1 x3_1 t255 _ ?side1 ?side2 ?side3 ?side4 A7.out).mono ?_); (case side1 => exact pc ((Kd.S_reads' HO_254000.out).2.2)); (case side2 => exact (Kd.S_reads' HO_254000.out).2.1); (case side3 => exact pc ((Kd.R_reads' HO_254001.out).2.2)); (case side4 => exact (Kd.R_reads' HO_254001.out).2.1); rintro e w13 ⟨v256, rfl, ho0, hb⟩; refine ⟨_, rfl, ?_⟩; replace HO_254000 := am (Kd.S_below (ps HO_254000.out) hb); replace HO_254001 := am (Kd.R_below (pr HO_254001.out) hb); have HO257 := am (Kd.R_lower (Kd.R_newM (M := fun k_ => ((P0_0_ k_ ∨ P0_1_ k_) ∨ w.heap.size ≤ k_)) ho0 (kg2 HK.out (.inr GW253.out) (.inr GW254.out)).1 (fun k_ h_ => .inr h_)) (below_size (bg2 HB.out GE253.out GE254.out))); replace BK253 := am (blk_below (pb BK253.out) hb); replace BK254 := am (blk_below (pb BK254.out) hb); replace HK := am (Kept.below (kg2 HK.out (.inr GW253.out) (.inr GW254.out)) hb); replace HB := am (below_step (bg2 HB.out GE253.out GE254.out) hb); clear hb ho0; obtain ⟨hcz14_0, hcz14_1⟩ := b2 BK253.out; obtain ⟨hfz14_0, hfz14_1⟩ := f2 BK253.out; obtain ⟨Ao15, co15, eo15⟩ := Kd.R_slice HO257.out; subst eo15; obtain ⟨PXh16, hxa_, hxb_⟩ := Kd.S_hand HO_254000.out; have HXAh16 := am hxa_; have HXBh16 := am hxb_; clear hxa_ hxb_) | (refine gl 16 Try.func48 #[.agg #[.slice Ao11 x254000_1.length co11, .slice Ao12 x254001_1.length co12], .slice Ao15 t255.length co15, .int .i64 (t255.length : Int), .bool false] rfl ?_; (with_reducible refine (spec_l12To.calls k1 PXh16 (.slice Ao11 x254000_1.length co11) x254000_1 (fun k_ => some k_ = (.slice Ao12 x254001_1.length co12 : Value).ownBlock) (.slice Ao12 x254001_1.length co12) x254001_1 _ _ t255 (t255.length : Int) false t258 t261 w0 _ ?side1 ?side2 ?side3 ?side4 ?side5 A8.out).mono ?_); (case side1 => exact bg2 HB.out GE253.out GE254.out); (case side2 => exact (ps HXAh16.out)); (case side3 => exact Kd.R_tight rfl HO_254001.out); (case side4 => exact Kd.C_kept_own ((Kd.R_apart' (Kd.R_awayP HO257.out (fun k_ h_ => (HXBh16.out k_ h_).2.2.2) (by decide)) (Kd.R_typed HO_254001.out) (by decide))) (fun k_ hk_ hs_ => Or.elim hs_ (fun e_ => (hk_.1.2) e_) (fun e_ => (hk_.2) e_))); (case side5 => exact (Kd.R_reads' HO257.out).2.1); rintro e w17 ⟨v259, v262, rfl, ho0, ho1, hb, hkp⟩; refine ⟨_, rfl, ?_⟩; replace BK253 := am (blk_kept (pb BK253.out) hkp (fun hs_ => Or.elim hs_ (fun e_ => (fun e_ => Kd.blk_awayP (fun k_ h_ => (HXBh16.out k_ h_).2.2.2) BK253.out (by decide) e_) e_) (fun e_ => (fun e_ => (Kd.R_ne HO_254001.out BK253.out (by decide)) e_) e_))); replace BK254 := am (blk_kept (pb BK254.out) hkp (fun hs_ => Or.elim hs_ (fun e_ => (fun e_ => Kd.blk_awayP (fun k_ h_ => (HXBh16.out k_ h_).2.2.2) BK254.out (by decide) e_) e_) (fun e_ => (fun e_ => (Kd.R_ne HO_254001.out BK254.out (by decide)) e_) e_))); replace HO257 := am (Kd.R_mono (ok' := fun k_ => ((P0_0_ k_ ∨ P0_1_ k_) ∨ w.heap.size ≤ k_)) (Kd.R_keptB ((Kd.R_apart' (Kd.R_awayP HO257.out (fun k_ h_ => (HXBh16.out k_ h_).2.2.2) (by decide)) (Kd.R_typed HO_254001.out) (by decide))) hkp (fun k_ hk_ hs_ => Or.elim hs_ (fun e_ => (hk_.1.2) e_) (fun e_ => (hk_.2) e_))) (fun k_ hk_ => hk_.1.1.1.1)); have HO260 := am (Kd.S_mono (ok' := fun k_ => ((P0_0_ k_ ∨ P0_1_ k_) ∨ w.heap.size ≤ k_)) ho0 (fun k_ hk_ => Or.elim hk_ (fun hs_ => Or.elim hs_ (fun hs_ => (HXBh16.out k_ hs_).1) (fun hs_ => (HO_254001.out.1 k_ (hs_).symm))) (fun hn_ => (.inr (Nat.le_trans (kg2 HK.out (.inr GW253.out) (.inr GW254.out)).1 hn_))))); have HO263 := am (Kd.R_mono (ok' := fun k_ => ((P0_0_ k_ ∨ P0_1_ k_) ∨ w.heap.size ≤ k_)) ho1 (fun k_ hk_ => Or.elim hk_ (fun hs_ => Or.elim hs_ (fun hs_ => (HXBh16.out k_ hs_).1) (fun hs_ => (HO_254001.out.1 k_ (hs_).symm))) (fun hn_ => (.inr (Nat.le_trans (kg2 HK.out (.inr GW253.out) (.inr GW254.out)).1 hn_))))); replace HK := am (Kept.then_ (S := (fun k_ => P0_0_ k_ ∨ P0_1_ k_)) (kg2 HK.out (.inr GW253.out) (.inr GW254.out)) hkp (fun k_ hs_ => Or.elim hs_ (fun e_ => (fun e_ => (HXBh16.out k_ e_).1) e_) (fun e_ => (fun e_ => (HO_254001.out.1 k_ e_.symm)) e_))); replace HB := am (hb); clear HO_254000; clear HO_254001; clear hb hkp ho0 ho1; obtain ⟨Ao18, co18, eo18⟩ := Kd.S_slice HO260.out; subst eo18; obtain ⟨hcz19_0, hcz19_1⟩ := b2 BK253.out; obtain ⟨hfz19_0, hfz19_1⟩ := f2 BK253.out; obtain ⟨Ao20, co20, eo20⟩ := Kd.R_slice HO263.out; subst eo20))
   go_roundg k1
   case measure => have := HK1.out; omega
   case rel => exact ⟨(wrap64 (x3_1 + 1)), (t258), (t261), (.slice Ao18 t258.length co18), (.slice Ao20 t261.length co20), rf, H', ⟨by have := HK1.out; omega⟩, ⟨ps (Kd.S_mono (Kd.S_far (p := ⟨gb253, 1, none⟩) (Kd.S_far (p := ⟨gb253, 0, none⟩) (Kd.S_types HO260.out BK253.out (by decide)) (fun _ hk => hk.2) (.slice Ao18 t258.length co18)) (fun _ hk => hk.2) (.slice Ao20 t261.length co20)) (fun _ hk => hk.1))⟩, ⟨pr (Kd.R_mono (Kd.R_far (p := ⟨gb253, 1, none⟩) (Kd.R_far (p := ⟨gb253, 0, none⟩) (Kd.R_types HO263.out BK253.out (by decide)) (fun _ hk => hk.2) (.slice Ao18 t258.length co18)) (fun _ hk => hk.2) (.slice Ao20 t261.length co20)) (fun _ hk => hk.1))⟩, ⟨bp2 (pb BK253.out)⟩, ⟨bf2 (pb BK254.out) NB254_253.out⟩, ⟨kg2 HK.out (.inr GW253.out) (.inr GW254.out)⟩, ⟨bg2 HB.out GE253.out GE254.out⟩⟩
def spec_l12Fill.f (k : Nat) (l0_0 : List (S73)) (l0_1 : List Int) (a1 : Int) : Option ((List (S38))) := (spec_l6In.f a1 1 6).bind fun t265 => (if t265 = true then ((spec_l3Last.f k l0_0 a1).bind fun bt269 => (if bt269.2.2.2.2 = true then (some (([] : List (S38)))) else (if 0 ≤ (wrap64 (a1 - 1)) then (if (wrap64 (a1 - 1)) < (l0_1.length : Int) then ((spec_l12Write.f k l0_0 l0_1 2 a1 (rd l0_1 (wrap64 (a1 - 1)))).bind fun t279 => (some t279)) else (none)) else (none)))) else (some (([] : List (S38)))))
def spec_l12Fill.T6 : Bool × List (List Nat × List Nat) := (true, [([], []), ([], []), ([], []), ([2], [2]), ([], []), ([4], [4]), ([3, 5], [3, 5]), ([6], [6]), ([0, 1, 7], [0, 1, 7]), ([8, 8, 0, 1, 2, 3, 4, 5, 6, 7, 8], [8])])
def spec_l12Fill.B6 : List Nat := [0, 0, 0, 4, 0, 16, 60, 124, 255, 511]
theorem spec_l12Fill.tab6 : rtab .any (opsOf Try.f66 6) = spec_l12Fill.T6 := by kernel_rfl
theorem spec_l12Fill.bits6 : waitsOk spec_l12Fill.T6.2 spec_l12Fill.B6 = true := by kernel_rfl
theorem spec_l12Fill.calls (k : Nat) (A0_0 : Option Addr) (c0_0 : Nat) (l0_0 : List (S73)) (A0_1 : Option Addr) (c0_1 : Nat) (l0_1 : List Int) (a1 : Int) (r : List (S38)) (w : World) (hr0_0 : Kd.C k73 w A0_0 l0_0.length l0_0) (hc0_0 : l0_0.length ≤ c0_0) (hr0_1 : Kd.C (Kd.int .i64) w A0_1 l0_1.length l0_1) (hc0_1 : l0_1.length ≤ c0_1) (h : spec_l12Fill.f k l0_0 l0_1 a1 = some r) :
 Calls Try.prog 66 #[.agg #[.slice A0_0 l0_0.length c0_0, .slice A0_1 l0_1.length c0_1], .int .i64 a1] w fun e w' => ∃ v0_ : Value, e = .returned (v0_) ∧ Kd.R k38 38 w' w.heap.size (fun _ => True) v0_ r ∧ Below w.heap.size w w' := by
 have hu26 := Try.underlying26
 have hu36 := Try.underlying36
 have HR0_0 := am hr0_0
 have HC0_0 := am hc0_0
 clear hr0_0 hc0_0
 have HR0_1 := am hr0_1
 have HC0_1 := am hc0_1
 clear hr0_1 hc0_1
 have HB := am (Below.refl w.heap.size w)
 have H : ((spec_l6In.f a1 1 6).bind fun t265 => (if t265 = true then ((spec_l3Last.f k l0_0 a1).bind fun bt269 => (if bt269.2.2.2.2 = true then (some (([] : List (S38)))) else (if 0 ≤ (wrap64 (a1 - 1)) then (if (wrap64 (a1 - 1)) < (l0_1.length : Int) then ((spec_l12Write.f k l0_0 l0_1 2 a1 (rd l0_1 (wrap64 (a1 - 1)))).bind fun t279 => (some t279)) else (none)) else (none)))) else (some (([] : List (S38)))))) = some r := h
 clear h
 replace H := Option.bind_eq_some_iff.mp H
 obtain ⟨t265, A30, H⟩ := H
 have A3 := am A30
 clear A30
 by_cases c4 : t265 = true
 rotate_left
 · replace c4 := Bool.eq_false_iff.mpr c4
   subst c4
   rw [if_neg (show ¬ (false = true) by decide)] at H
   obtain ⟨y266, hy266⟩ : ∃ y_ : List (S38), y_ = (([] : List (S38))) := ⟨_, rfl⟩
   replace H : (some y266) = some r := yy hy266 H
   have Ny266 := am hy266
   clear hy266
   obtain rfl := Option.some.inj H
   go_enter Try.func66, Try.ntmps66
   go_wp2_with (first | (refine bx 2 #[.slice A0_0 l0_0.length c0_0, .slice A0_1 l0_1.length c0_1] 26 rfl ?_; intro gb264 hg w28 hbox hb; have BK264 := am (hbox); have GW264 := am (ge hg (ph HB.out)); have GE264 := GW264; replace HB := am (below_step (ph HB.out) hb); clear hb hbox hg) | (refine gl 8 Try.func23 #[.int .i64 a1, .int .i64 1, .int .i64 6] rfl ?_; (with_reducible refine (spec_l6In.calls a1 1 6 false _ A3.out).mono ?_); rintro e w' ⟨rfl, ⟨nd, rfl⟩⟩; refine ⟨_, rfl, ?_⟩) | ((with_reducible refine gate_dst (N := 10) rfl ?_); refine Kd.R_lit k38 _ 38 ?hg (N := 10) ?hd (xs := ([] : List (S38))) (inner := []) (ok := fun _ => True) (okp := fun _ => True) ?hr ?hp (fun _ hk => hk) trivial (Below.refl _ _) (Nat.le_refl _) (by simp) ?_; (case hd => rfl); (case hg => rfl); (case hr => first | (go_simp; done) | (go_simp; rfl)); (case hp => exact (Reps.none _ _)); intro v267 w29 ho30 hb hg_ hnew_; clear hg_ hnew_; (first | rw [← Ny266.out] at ho30 | (simp only [Int.reduceToNat] at ho30; rw [← Ny266.out] at ho30)); have HO268 := am (Kd.R_lower ho30 (below_size (bg1 HB.out GE264.out))); replace BK264 := am (blk_below (pb BK264.out) hb); replace HB := am (below_step (bg1 HB.out GE264.out) hb); clear hb ho30))
   go_ret
   exact ⟨_, rq ⟨pr HO268.out, bg1 HB.out GE264.out⟩⟩
 subst c4
 rw [if_pos rfl] at H
 replace H := Option.bind_eq_some_iff.mp H
 obtain ⟨⟨t269, t270, t271, t272, t273⟩, A50, H⟩ := H
 have A5 := am A50
 clear A50
 by_cases c6 : t273 = true
 · subst c6
   rw [if_pos rfl] at H
   obtain ⟨y275, hy275⟩ : ∃ y_ : List (S38), y_ = (([] : List (S38))) := ⟨_, rfl⟩
   replace H : (some y275) = some r := yy hy275 H
   have Ny275 := am hy275
   clear hy275
   obtain rfl := Option.some.inj H
   go_enter Try.func66, Try.ntmps66
   go_wp2_with (first | (refine bx 2 #[.slice A0_0 l0_0.length c0_0, .slice A0_1 l0_1.length c0_1] 26 rfl ?_; intro gb264 hg w7 hbox hb; have BK264 := am (hbox); have GW264 := am (ge hg (ph HB.out)); have GE264 := GW264; replace HB := am (below_step (ph HB.out) hb); clear hb hbox hg) | (refine gl 8 Try.func23 #[.int .i64 a1, .int .i64 1, .int .i64 6] rfl ?_; (with_reducible refine (spec_l6In.calls a1 1 6 true _ A3.out).mono ?_); rintro e w' ⟨rfl, ⟨nd, rfl⟩⟩; refine ⟨_, rfl, ?_⟩; (try (rw [drewN_self w7]; generalize hq_ : World.drewN w7 _ = w7; have n0_ : Aside0 (w7.heap[gb264]? = some (.cells #[.slice A0_0 l0_0.length c0_0, .slice A0_1 l0_1.length c0_1] 26 (0, 0))) := ⟨by rw [← hq_]; exact (pb BK264.out)⟩; have n1_ : Aside0 (Below w.heap.size w w7) := ⟨by rw [← hq_]; exact (bg1 HB.out GE264.out)⟩; clear BK264 HB hq_; have BK264 := n0_; have HB := n1_; clear n0_ n1_)); obtain ⟨hcz8_0, hcz8_1⟩ := b2 BK264.out; obtain ⟨hfz8_0, hfz8_1⟩ := f2 BK264.out) | (refine gl 15 Try.func22 #[.slice A0_0 l0_0.length c0_0, .int .i64 a1] rfl ?_; (with_reducible refine (spec_l3Last.calls k _ _ l0_0 a1 t269 t270 t271 t272 true _ ?side1 ?side2 A5.out).mono ?_); (case side1 => exact pc (Kd.C_below HR0_0.out HB.out)); (case side2 => exact HC0_0.out); rintro e w9 ⟨rfl, hb⟩; refine ⟨_, rfl, ?_⟩; replace BK264 := am (blk_below (pb BK264.out) hb); replace HB := am (below_step (bg1 HB.out GE264.out) hb); clear hb) | (refine bx 5 #[.int .i64 0, .int .i64 0, .int .i64 0, .int .i64 0] 36 rfl ?_; intro gb274 hg w10 hbox hb; have BK274 := am (hbox); have GW274 := am (ge hg (bg1 HB.out GE264.out)); have GE274 := GW274; replace HB := am (below_step (bg1 HB.out GE264.out) hb); have NB264_274 := am (nb hg (pb BK264.out)); have NB274_264 := am (Ne.symm NB264_274.out); replace BK264 := am (blk_below (pb BK264.out) hb); clear hb hbox hg; have hnb11 := NB274_264.out; have hnc11 := NB264_274.out; obtain ⟨hcz12_0, hcz12_1, hcz12_2, hcz12_3⟩ := b4 BK274.out; obtain ⟨hfz12_0, hfz12_1, hfz12_2, hfz12_3⟩ := f4 BK274.out) | ((with_reducible refine gate_dst (N := 19) rfl ?_); refine Kd.R_lit k38 _ 38 ?hg (N := 19) ?hd (xs := ([] : List (S38))) (inner := []) (ok := fun _ => True) (okp := fun _ => True) ?hr ?hp (fun _ hk => hk) trivial (Below.refl _ _) (Nat.le_refl _) (by simp) ?_; (case hd => rfl); (case hg => rfl); (case hr => first | (go_simp; done) | (go_simp; rfl)); (case hp => exact (Reps.none _ _)); intro v276 w13 ho14 hb hg_ hnew_; clear hg_ hnew_; (first | rw [← Ny275.out] at ho14 | (simp only [Int.reduceToNat] at ho14; rw [← Ny275.out] at ho14)); have HO277 := am (Kd.R_lower ho14 (below_size (bg2 HB.out GE264.out GE274.out))); replace BK264 := am (blk_below (bf4 (pb BK264.out) NB264_274.out) hb); replace BK274 := am (blk_below (bp4 (pb BK274.out)) hb); replace HB := am (below_step (bg2 HB.out GE264.out GE274.out) hb); clear hb ho14))
   go_ret
   exact ⟨_, rq ⟨pr HO277.out, bg2 HB.out GE264.out GE274.out⟩⟩
 replace c6 := Bool.eq_false_iff.mpr c6
 subst c6
 rw [if_neg (show ¬ (false = true) by decide)] at H
 obtain ⟨ji15, hji15⟩ : ∃ j_ : Int, (wrap64 (a1 - 1)) = j_ := ⟨_, rfl⟩
 replace H : (if 0 ≤ (ji15) then (if (ji15) < (l0_1.length : Int) then ((spec_l12Write.f k l0_0 l0_1 2 a1 (rd l0_1 (ji15))).bind fun t279 => (some t279)) else (none)) else (none)) = some r := by first | (rw [hji15] at H; exact H) | (simp only [hji15] at H ⊢; exact H)
 (try rw [hji15] at A3)
 (try rw [hji15] at A5)
 have hji15w : (IntKind.i64.wrap (a1 - 1)) = ji15 := (i64_w _).trans hji15
 obtain ⟨c16b0, H⟩ := ifd H
 obtain ⟨c17b0, H⟩ := ifd H
 replace H := Option.bind_eq_some_iff.mp H
 obtain ⟨t279, A180, H⟩ := H
 have A18 := am A180
 clear A180
 obtain rfl := Option.some.inj H
 go_enter Try.func66, Try.ntmps66
 try go_wp2_with (first | (refine bx 2 #[.slice A0_0 l0_0.length c0_0, .slice A0_1 l0_1.length c0_1] 26 rfl ?_; intro gb264 hg w19 hbox hb; have BK264 := am (hbox); have GW264 := am (ge hg (ph HB.out)); have GE264 := GW264; replace HB := am (below_step (ph HB.out) hb); clear hb hbox hg) | (refine gl 8 Try.func23 #[.int .i64 a1, .int .i64 1, .int .i64 6] rfl ?_; (with_reducible refine (spec_l6In.calls a1 1 6 true _ A3.out).mono ?_); rintro e w' ⟨rfl, ⟨nd, rfl⟩⟩; refine ⟨_, rfl, ?_⟩; (try (rw [drewN_self w19]; generalize hq_ : World.drewN w19 _ = w19; have n0_ : Aside0 (w19.heap[gb264]? = some (.cells #[.slice A0_0 l0_0.length c0_0, .slice A0_1 l0_1.length c0_1] 26 (0, 0))) := ⟨by rw [← hq_]; exact (pb BK264.out)⟩; have n1_ : Aside0 (Below w.heap.size w w19) := ⟨by rw [← hq_]; exact (bg1 HB.out GE264.out)⟩; clear BK264 HB hq_; have BK264 := n0_; have HB := n1_; clear n0_ n1_)); obtain ⟨hcz20_0, hcz20_1⟩ := b2 BK264.out; obtain ⟨hfz20_0, hfz20_1⟩ := f2 BK264.out) | (refine gl 15 Try.func22 #[.slice A0_0 l0_0.length c0_0, .int .i64 a1] rfl ?_; (with_reducible refine (spec_l3Last.calls k _ _ l0_0 a1 t269 t270 t271 t272 false _ ?side1 ?side2 A5.out).mono ?_); (case side1 => exact pc (Kd.C_below HR0_0.out HB.out)); (case side2 => exact HC0_0.out); rintro e w21 ⟨rfl, hb⟩; refine ⟨_, rfl, ?_⟩; replace BK264 := am (blk_below (pb BK264.out) hb); replace HB := am (below_step (bg1 HB.out GE264.out) hb); clear hb) | (refine bx 5 #[.int .i64 0, .int .i64 0, .int .i64 0, .int .i64 0] 36 rfl ?_; intro gb274 hg w22 hbox hb; have BK274 := am (hbox); have GW274 := am (ge hg (bg1 HB.out GE264.out)); have GE274 := GW274; replace HB := am (below_step (bg1 HB.out GE264.out) hb); have NB264_274 := am (nb hg (pb BK264.out)); have NB274_264 := am (Ne.symm NB264_274.out); replace BK264 := am (blk_below (pb BK264.out) hb); clear hb hbox hg; have hnb23 := NB274_264.out; have hnc23 := NB264_274.out; obtain ⟨hcz24_0, hcz24_1, hcz24_2, hcz24_3⟩ := b4 BK274.out; obtain ⟨hfz24_0, hfz24_1, hfz24_2, hfz24_3⟩ := f4 BK274.out))
 have n0_ : Aside0 (((((w22.setCell ⟨gb274, 0, none⟩ (.int .i64 t269)).setCell ⟨gb274, 1, none⟩ (.int .i64 t270)).setCell ⟨gb274, 2, none⟩ (.int .i64 t271)).setCell ⟨gb274, 3, none⟩ (.int .i64 t272)).heap[gb264]? = some (.cells #[.slice A0_0 l0_0.length c0_0, .slice A0_1 l0_1.length c0_1] 26 (0, 0))) := ⟨bf4 (pb BK264.out) NB264_274.out⟩
 have n1_ : Aside0 (((((w22.setCell ⟨gb274, 0, none⟩ (.int .i64 t269)).setCell ⟨gb274, 1, none⟩ (.int .i64 t270)).setCell ⟨gb274, 2, none⟩ (.int .i64 t271)).setCell ⟨gb274, 3, none⟩ (.int .i64 t272)).heap[gb274]? = some (.cells #[.int .i64 t269, .int .i64 t270, .int .i64 t271, .int .i64 t272] 36 (0, 0))) := ⟨bp4 (pb BK274.out)⟩
 have n2_ : Aside0 (Below w.heap.size w ((((w22.setCell ⟨gb274, 0, none⟩ (.int .i64 t269)).setCell ⟨gb274, 1, none⟩ (.int .i64 t270)).setCell ⟨gb274, 2, none⟩ (.int .i64 t271)).setCell ⟨gb274, 3, none⟩ (.int .i64 t272))) := ⟨bg2 HB.out GE264.out GE274.out⟩
 (try clear BK264)
 (try clear BK274)
 (try clear HB)
 generalize ((((w22.setCell ⟨gb274, 0, none⟩ (.int .i64 t269)).setCell ⟨gb274, 1, none⟩ (.int .i64 t270)).setCell ⟨gb274, 2, none⟩ (.int .i64 t271)).setCell ⟨gb274, 3, none⟩ (.int .i64 t272)) = w25 at n0_ n1_ n2_ ⊢
 have BK264 := n0_
 have BK274 := n1_
 have HB := n2_
 clear n0_ n1_ n2_
 replace BK264 := am (blk_drew BK264.out)
 replace BK274 := am (blk_drew BK274.out)
 replace HB := am (below_drew1 HB.out)
 have p278 : 0 ≤ ((ji15) : Int) := ofb
 have q278 : (ji15) < (l0_1.length : Int) := ofb
 obtain ⟨ad278, e278, hx278_0⟩ := Kd.at_int HR0_1.out (ji15) p278 q278
 have hw278_0 := hx278_0
 cases e278
 replace hx278_0 := up HB.out hx278_0
 replace p278 := eq_true p278
 replace q278 := eq_true q278
 refine start_ (n := 10) (S := fun w' => w'.cell? ⟨gb264, 0, none⟩ = some (.slice A0_0 l0_0.length c0_0) ∧ w'.cell? ⟨gb264, 1, none⟩ = some (.slice (some ad278) l0_1.length c0_1) ∧ w'.cell? (ad278.add ((ji15)).toNat) = some (.int .i64 (rd l0_1 (ji15)))) (ds := []) (bt 10 0) (by kernel_rfl) rfl rfl ⟨(blk_cell BK264.out 0).trans rfl, (blk_cell BK264.out 1).trans rfl, ((HB.out.cell (World.block_lt_of_cell? w _ hw278_0)).trans hw278_0)⟩ (fun hHeld => ?_); refine with_tabW spec_l12Fill.tab6 spec_l12Fill.bits6 (fun HT_ HW_ => ?_)
 generalize w25.drew = w26 at BK264 BK274 HB hx278_0 hHeld ⊢
 refine qj 1 21 (bt 10 2) rfl rfl HT_.out ?_
 refine qj 2 22 (bt 10 6) rfl rfl HT_.out ?_
 refine qj 4 24 (bt 10 22) rfl rfl HT_.out ?_
 refine qj 5 25 (bt 10 54) rfl rfl HT_.out ?_
 refine qm 0 20 (bt 10 55) rfl rfl HT_.out HW_.out hHeld ?_
 refine qm 3 23 (bt 10 63) rfl rfl HT_.out HW_.out hHeld ?_
 refine qj 6 26 (bt 10 127) rfl rfl HT_.out ?_
 refine qm 7 27 (bt 10 255) rfl rfl HT_.out HW_.out hHeld ?_
 refine qo 8 (some 28) (bt 10 511) rfl rfl HT_.out fun K hK => ?_
 refine goes_ Try.func40 (by kernel_rfl) rfl #[.agg #[.slice A0_0 l0_0.length c0_0, .slice (some ad278) l0_1.length c0_1], .int .i64 2, .int .i64 a1, .int .i64 (rd l0_1 (ji15))] (by rfl) rfl rfl (by (try simp only [List.map_toArray, List.map_cons, List.map_nil]); first | done | (simp only [hji15]; rfl) | rfl | (simp only [List.length_drop, List.length_take]; rfl)) ?_
 with_reducible refine (spec_l12Write.calls k _ _ l0_0 _ _ l0_1 2 a1 (rd l0_1 (ji15)) t279 _ ?side1 ?side2 ?side3 ?side4 A18.out).mono ?_
 (case side1 => exact pc (Kd.C_below HR0_0.out HB.out))
 (case side2 => exact HC0_0.out)
 (case side3 => exact pc (Kd.C_below HR0_1.out HB.out))
 (case side4 => exact HC0_1.out)
 rintro e w27 ⟨v280, rfl, ho0, hb⟩
 refine ⟨_, rfl, ?_⟩
 have HO281 := am (Kd.R_lower ho0 (below_size (bg2 HB.out GE264.out GE274.out)))
 replace BK264 := am (blk_below (pb BK264.out) hb)
 replace BK274 := am (blk_below (pb BK274.out) hb)
 replace HB := am (below_step (bg2 HB.out GE264.out GE274.out) hb)
 clear hb ho0
 refine hK.out _ _ ⟨(blk_cell BK264.out 0).trans rfl, (blk_cell BK264.out 1).trans rfl, ((HB.out.cell (World.block_lt_of_cell? w _ hw278_0)).trans hw278_0)⟩ (fun hHeld => ?_)
 clear hK K
 refine qn (some 28) ?_
 refine qj 9 4 (bt 10 1023) rfl rfl HT_.out ?_
 refine done_ (done_of HT_.out (by kernel_rfl)) ?_
 try go_wp2
 go_ret
 exact ⟨_, by first | rfl | (simp [errW_none, errW_some] <;> rfl) | (simp only [← hji15]; first | rfl | (simp [errW_none, errW_some] <;> rfl)) | (simp [*, errW_none, errW_some] <;> rfl), pr HO281.out, bg2 HB.out GE264.out GE274.out⟩
def spec_l21Steps.f (k : Nat) (l0_0 : List (S73)) (l0_1 : List Int) (a1_0 : Int) (a1_1 : Int) (a1_2 : Int) (a1_3 : Int) (a1_4 : Bool) : Option ((List (S38))) := if a1_0 = 1 then ((spec_l12Write.f k l0_0 l0_1 1 a1_1 a1_2).bind fun t284 => (some t284)) else (if a1_0 = 2 then ((spec_l12Flush.f k l0_0 l0_1 a1_1).bind fun t287 => (some t287)) else (if a1_0 = 3 then ((spec_l12Fill.f k l0_0 l0_1 a1_1).bind fun t290 => (some t290)) else (some (([] : List (S38))))))
theorem spec_l21Steps.calls (k : Nat) (A0_0 : Option Addr) (c0_0 : Nat) (l0_0 : List (S73)) (A0_1 : Option Addr) (c0_1 : Nat) (l0_1 : List Int) (a1_0 : Int) (a1_1 : Int) (a1_2 : Int) (a1_3 : Int) (a1_4 : Bool) (r : List (S38)) (w : World) (hr0_0 : Kd.C k73 w A0_0 l0_0.length l0_0) (hc0_0 : l0_0.length ≤ c0_0) (hr0_1 : Kd.C (Kd.int .i64) w A0_1 l0_1.length l0_1) (hc0_1 : l0_1.length ≤ c0_1) (h : spec_l21Steps.f k l0_0 l0_1 a1_0 a1_1 a1_2 a1_3 a1_4 = some r) :
 Calls Try.prog 49 #[.agg #[.slice A0_0 l0_0.length c0_0, .slice A0_1 l0_1.length c0_1], .agg #[.int .i64 a1_0, .int .i64 a1_1, .int .i64 a1_2, .int .i64 a1_3, .bool a1_4]] w fun e w' => ∃ v0_ : Value, e = .returned (v0_) ∧ Kd.R k38 38 w' w.heap.size (fun _ => True) v0_ r ∧ Below w.heap.size w w' := by
 have hu26 := Try.underlying26
 have hu61 := Try.underlying61
 have HR0_0 := am hr0_0
 have HC0_0 := am hc0_0
 clear hr0_0 hc0_0
 have HR0_1 := am hr0_1
 have HC0_1 := am hc0_1
 clear hr0_1 hc0_1
 have HB := am (Below.refl w.heap.size w)
 have H : (if a1_0 = 1 then ((spec_l12Write.f k l0_0 l0_1 1 a1_1 a1_2).bind fun t284 => (some t284)) else (if a1_0 = 2 then ((spec_l12Flush.f k l0_0 l0_1 a1_1).bind fun t287 => (some t287)) else (if a1_0 = 3 then ((spec_l12Fill.f k l0_0 l0_1 a1_1).bind fun t290 => (some t290)) else (some (([] : List (S38))))))) = some r := h
 clear h
 by_cases c3 : a1_0 = 1
 · rw [if_pos c3] at H
   have c3b0 : (a1_0 == 1) = true := beq_iff_eq.mpr c3
   have c3b1 : (a1_0 != 1) = false := bne_eq_false_iff_eq.mpr c3
   clear c3
   replace H := Option.bind_eq_some_iff.mp H
   obtain ⟨t284, A40, H⟩ := H
   have A4 := am A40
   clear A40
   obtain rfl := Option.some.inj H
   go_enter Try.func49, Try.ntmps49
   go_wp2_with (first | (refine bx 2 #[.slice A0_0 l0_0.length c0_0, .slice A0_1 l0_1.length c0_1] 26 rfl ?_; intro gb282 hg w5 hbox hb; have BK282 := am (hbox); have GW282 := am (ge hg (ph HB.out)); have GE282 := GW282; replace HB := am (below_step (ph HB.out) hb); clear hb hbox hg) | (refine bx 3 #[.int .i64 a1_0, .int .i64 a1_1, .int .i64 a1_2, .int .i64 a1_3, .bool a1_4] 61 rfl ?_; intro gb283 hg w6 hbox hb; have BK283 := am (hbox); have GW283 := am (ge hg (bg1 HB.out GE282.out)); have GE283 := GW283; replace HB := am (below_step (bg1 HB.out GE282.out) hb); have NB282_283 := am (nb hg (pb BK282.out)); have NB283_282 := am (Ne.symm NB282_283.out); replace BK282 := am (blk_below (pb BK282.out) hb); clear hb hbox hg; have hnb7 := NB283_282.out; have hnc7 := NB282_283.out; obtain ⟨hcz8_0, hcz8_1, hcz8_2, hcz8_3, hcz8_4⟩ := b5 BK283.out; obtain ⟨hfz8_0, hfz8_1, hfz8_2, hfz8_3, hfz8_4⟩ := f5 BK283.out; obtain ⟨hcz9_0, hcz9_1⟩ := b2 BK282.out; obtain ⟨hfz9_0, hfz9_1⟩ := f2 BK282.out) | (refine gl 14 Try.func40 #[.agg #[.slice A0_0 l0_0.length c0_0, .slice A0_1 l0_1.length c0_1], .int .i64 1, .int .i64 a1_1, .int .i64 a1_2] rfl ?_; (with_reducible refine (spec_l12Write.calls k _ _ l0_0 _ _ l0_1 1 a1_1 a1_2 t284 _ ?side1 ?side2 ?side3 ?side4 A4.out).mono ?_); (case side1 => exact pc (Kd.C_below HR0_0.out HB.out)); (case side2 => exact HC0_0.out); (case side3 => exact pc (Kd.C_below HR0_1.out HB.out)); (case side4 => exact HC0_1.out); rintro e w10 ⟨v285, rfl, ho0, hb⟩; refine ⟨_, rfl, ?_⟩; have HO286 := am (Kd.R_lower ho0 (below_size (bg2 HB.out GE282.out GE283.out))); replace BK282 := am (blk_below (pb BK282.out) hb); replace BK283 := am (blk_below (pb BK283.out) hb); replace HB := am (below_step (bg2 HB.out GE282.out GE283.out) hb); clear hb ho0))
   go_ret
   exact ⟨_, rq ⟨pr HO286.out, bg2 HB.out GE282.out GE283.out⟩⟩
 rw [if_neg c3] at H
 have c3b0 : (a1_0 == 1) = false := beq_eq_false_iff_ne.mpr c3
 have c3b1 : (a1_0 != 1) = true := bne_iff_ne.mpr c3
 by_cases c11 : a1_0 = 2
 · rw [if_pos c11] at H
   have c11b0 : (a1_0 == 2) = true := beq_iff_eq.mpr c11
   have c11b1 : (a1_0 != 2) = false := bne_eq_false_iff_eq.mpr c11
   clear c11
   replace H := Option.bind_eq_some_iff.mp H
   obtain ⟨t287, A120, H⟩ := H
   have A12 := am A120
   clear A120
   obtain rfl := Option.some.inj H
   go_enter Try.func49, Try.ntmps49
   go_wp2_with (first | (refine bx 2 #[.slice A0_0 l0_0.length c0_0, .slice A0_1 l0_1.length c0_1] 26 rfl ?_; intro gb282 hg w13 hbox hb; have BK282 := am (hbox); have GW282 := am (ge hg (ph HB.out)); have GE282 := GW282; replace HB := am (below_step (ph HB.out) hb); clear hb hbox hg) | (refine bx 3 #[.int .i64 a1_0, .int .i64 a1_1, .int .i64 a1_2, .int .i64 a1_3, .bool a1_4] 61 rfl ?_; intro gb283 hg w14 hbox hb; have BK283 := am (hbox); have GW283 := am (ge hg (bg1 HB.out GE282.out)); have GE283 := GW283; replace HB := am (below_step (bg1 HB.out GE282.out) hb); have NB282_283 := am (nb hg (pb BK282.out)); have NB283_282 := am (Ne.symm NB282_283.out); replace BK282 := am (blk_below (pb BK282.out) hb); clear hb hbox hg; have hnb15 := NB283_282.out; have hnc15 := NB282_283.out; obtain ⟨hcz16_0, hcz16_1, hcz16_2, hcz16_3, hcz16_4⟩ := b5 BK283.out; obtain ⟨hfz16_0, hfz16_1, hfz16_2, hfz16_3, hfz16_4⟩ := f5 BK283.out; obtain ⟨hcz17_0, hcz17_1⟩ := b2 BK282.out; obtain ⟨hfz17_0, hfz17_1⟩ := f2 BK282.out) | (refine gl 20 Try.func20 #[.agg #[.slice A0_0 l0_0.length c0_0, .slice A0_1 l0_1.length c0_1], .int .i64 a1_1] rfl ?_; (with_reducible refine (spec_l12Flush.calls k _ _ l0_0 _ _ l0_1 a1_1 t287 _ ?side1 ?side2 ?side3 ?side4 A12.out).mono ?_); (case side1 => exact pc (Kd.C_below HR0_0.out HB.out)); (case side2 => exact HC0_0.out); (case side3 => exact pc (Kd.C_below HR0_1.out HB.out)); (case side4 => exact HC0_1.out); rintro e w18 ⟨v288, rfl, ho0, hb⟩; refine ⟨_, rfl, ?_⟩; have HO289 := am (Kd.R_lower ho0 (below_size (bg2 HB.out GE282.out GE283.out))); replace BK282 := am (blk_below (pb BK282.out) hb); replace BK283 := am (blk_below (pb BK283.out) hb); replace HB := am (below_step (bg2 HB.out GE282.out GE283.out) hb); clear hb ho0))
   go_ret
   exact ⟨_, rq ⟨pr HO289.out, bg2 HB.out GE282.out GE283.out⟩⟩
 rw [if_neg c11] at H
 have c11b0 : (a1_0 == 2) = false := beq_eq_false_iff_ne.mpr c11
 have c11b1 : (a1_0 != 2) = true := bne_iff_ne.mpr c11
 by_cases c19 : a1_0 = 3
 rotate_left
 · rw [if_neg c19] at H
   have c19b0 : (a1_0 == 3) = false := beq_eq_false_iff_ne.mpr c19
   have c19b1 : (a1_0 != 3) = true := bne_iff_ne.mpr c19
   obtain ⟨y293, hy293⟩ : ∃ y_ : List (S38), y_ = (([] : List (S38))) := ⟨_, rfl⟩
   replace H : (some y293) = some r := yy hy293 H
   have Ny293 := am hy293
   clear hy293
   obtain rfl := Option.some.inj H
   go_enter Try.func49, Try.ntmps49
   go_wp2_with (first | (refine bx 2 #[.slice A0_0 l0_0.length c0_0, .slice A0_1 l0_1.length c0_1] 26 rfl ?_; intro gb282 hg w27 hbox hb; have BK282 := am (hbox); have GW282 := am (ge hg (ph HB.out)); have GE282 := GW282; replace HB := am (below_step (ph HB.out) hb); clear hb hbox hg) | (refine bx 3 #[.int .i64 a1_0, .int .i64 a1_1, .int .i64 a1_2, .int .i64 a1_3, .bool a1_4] 61 rfl ?_; intro gb283 hg w28 hbox hb; have BK283 := am (hbox); have GW283 := am (ge hg (bg1 HB.out GE282.out)); have GE283 := GW283; replace HB := am (below_step (bg1 HB.out GE282.out) hb); have NB282_283 := am (nb hg (pb BK282.out)); have NB283_282 := am (Ne.symm NB282_283.out); replace BK282 := am (blk_below (pb BK282.out) hb); clear hb hbox hg; have hnb29 := NB283_282.out; have hnc29 := NB282_283.out; obtain ⟨hcz30_0, hcz30_1, hcz30_2, hcz30_3, hcz30_4⟩ := b5 BK283.out; obtain ⟨hfz30_0, hfz30_1, hfz30_2, hfz30_3, hfz30_4⟩ := f5 BK283.out) | ((with_reducible refine gate_dst (N := 27) rfl ?_); refine Kd.R_lit k38 _ 38 ?hg (N := 27) ?hd (xs := ([] : List (S38))) (inner := []) (ok := fun _ => True) (okp := fun _ => True) ?hr ?hp (fun _ hk => hk) trivial (Below.refl _ _) (Nat.le_refl _) (by simp) ?_; (case hd => rfl); (case hg => rfl); (case hr => first | (go_simp; done) | (go_simp; rfl)); (case hp => exact (Reps.none _ _)); intro v294 w31 ho32 hb hg_ hnew_; clear hg_ hnew_; (first | rw [← Ny293.out] at ho32 | (simp only [Int.reduceToNat] at ho32; rw [← Ny293.out] at ho32)); have HO295 := am (Kd.R_lower ho32 (below_size (bg2 HB.out GE282.out GE283.out))); replace BK282 := am (blk_below (pb BK282.out) hb); replace BK283 := am (blk_below (pb BK283.out) hb); replace HB := am (below_step (bg2 HB.out GE282.out GE283.out) hb); clear hb ho32))
   go_ret
   exact ⟨_, rq ⟨pr HO295.out, bg2 HB.out GE282.out GE283.out⟩⟩
 rw [if_pos c19] at H
 have c19b0 : (a1_0 == 3) = true := beq_iff_eq.mpr c19
 have c19b1 : (a1_0 != 3) = false := bne_eq_false_iff_eq.mpr c19
 clear c19
 replace H := Option.bind_eq_some_iff.mp H
 obtain ⟨t290, A200, H⟩ := H
 have A20 := am A200
 clear A200
 obtain rfl := Option.some.inj H
 go_enter Try.func49, Try.ntmps49
 go_wp2_with (first | (refine bx 2 #[.slice A0_0 l0_0.length c0_0, .slice A0_1 l0_1.length c0_1] 26 rfl ?_; intro gb282 hg w21 hbox hb; have BK282 := am (hbox); have GW282 := am (ge hg (ph HB.out)); have GE282 := GW282; replace HB := am (below_step (ph HB.out) hb); clear hb hbox hg) | (refine bx 3 #[.int .i64 a1_0, .int .i64 a1_1, .int .i64 a1_2, .int .i64 a1_3, .bool a1_4] 61 rfl ?_; intro gb283 hg w22 hbox hb; have BK283 := am (hbox); have GW283 := am (ge hg (bg1 HB.out GE282.out)); have GE283 := GW283; replace HB := am (below_step (bg1 HB.out GE282.out) hb); have NB282_283 := am (nb hg (pb BK282.out)); have NB283_282 := am (Ne.symm NB282_283.out); replace BK282 := am (blk_below (pb BK282.out) hb); clear hb hbox hg; have hnb23 := NB283_282.out; have hnc23 := NB282_283.out; obtain ⟨hcz24_0, hcz24_1, hcz24_2, hcz24_3, hcz24_4⟩ := b5 BK283.out; obtain ⟨hfz24_0, hfz24_1, hfz24_2, hfz24_3, hfz24_4⟩ := f5 BK283.out; obtain ⟨hcz25_0, hcz25_1⟩ := b2 BK282.out; obtain ⟨hfz25_0, hfz25_1⟩ := f2 BK282.out) | (refine gl 26 Try.func66 #[.agg #[.slice A0_0 l0_0.length c0_0, .slice A0_1 l0_1.length c0_1], .int .i64 a1_1] rfl ?_; (with_reducible refine (spec_l12Fill.calls k _ _ l0_0 _ _ l0_1 a1_1 t290 _ ?side1 ?side2 ?side3 ?side4 A20.out).mono ?_); (case side1 => exact pc (Kd.C_below HR0_0.out HB.out)); (case side2 => exact HC0_0.out); (case side3 => exact pc (Kd.C_below HR0_1.out HB.out)); (case side4 => exact HC0_1.out); rintro e w26 ⟨v291, rfl, ho0, hb⟩; refine ⟨_, rfl, ?_⟩; have HO292 := am (Kd.R_lower ho0 (below_size (bg2 HB.out GE282.out GE283.out))); replace BK282 := am (blk_below (pb BK282.out) hb); replace BK283 := am (blk_below (pb BK283.out) hb); replace HB := am (below_step (bg2 HB.out GE282.out GE283.out) hb); clear hb ho0))
 go_ret
 exact ⟨_, rq ⟨pr HO292.out, bg2 HB.out GE282.out GE283.out⟩⟩
end Go.Proofs.Ytbhchamohldehaa.P4
