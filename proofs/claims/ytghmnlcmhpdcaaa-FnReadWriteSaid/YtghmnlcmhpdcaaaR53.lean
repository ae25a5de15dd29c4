-- printed by wip/pp/pp.py
import Derived.Test.YtghmnlcmhpdcaaaR50
import Derived.Test.YtghmnlcmhpdcaaaR51
import Derived.Test.YtghmnlcmhpdcaaaR52
namespace Go.Proofs.Ytghmnlcmhpdcaaa.R5
open Go.RowKit Go.Proofs.YtghmnlcmhpdcaaaW.PrintWords Go.Proofs.YtghmnlcmhpdcaaaW.PrintLast Go.Proofs.YtghmnlcmhpdcaaaW.PrintMore
attribute [local go_sem] max2_int min2_int max_two min_two max_three min_three max_four min_four
set_option linter.unusedVariables false
set_option linter.unusedSimpArgs false
mutual
def spec_l12To.j1 : Nat → List (S107) → Int → Bool → List (S54) → List Int → Option ((List (S54)) × List Int)
 | 0, _, _, _, _, _ => none
 | k + 1, x1, x2, x3, x152000, x152001 => if x3 = true then ((spec_l6In.f x2 0 (wrap64 ((x1.length : Int) - 1))).bind fun t160 => (if t160 = true then (if 0 ≤ x2 then (if x2 < (x1.length : Int) then ((spec_l12Do.f k x152000 x152001 ((rd_T107 x1 x2).f0) ((rd_T107 x1 x2).f1) ((rd_T107 x1 x2).f2) ((rd_T107 x1 x2).f3) ((rd_T107 x1 x2).f4.f0) ((rd_T107 x1 x2).f4.f1) ((rd_T107 x1 x2).f4.f2) ((rd_T107 x1 x2).f4.f3) true).bind fun bt162 => (some (bt162.1, bt162.2))) else (none)) else (none)) else (some (x152000, x152001)))) else (some (x152000, x152001))
def spec_l12To.l0 : Nat → List (S107) → Int → Bool → Int → List (S54) → List Int → Option ((List (S54)) × List Int)
 | 0, _, _, _, _, _, _ => none
 | k + 1, x1, x2, x3, x9, x152000, x152001 => if x9 < (x1.length : Int) then (if x9 < x2 then (if 0 ≤ x9 then ((spec_l12Do.f k x152000 x152001 ((rd_T107 x1 x9).f0) ((rd_T107 x1 x9).f1) ((rd_T107 x1 x9).f2) ((rd_T107 x1 x9).f3) ((rd_T107 x1 x9).f4.f0) ((rd_T107 x1 x9).f4.f1) ((rd_T107 x1 x9).f4.f2) ((rd_T107 x1 x9).f4.f3) false).bind fun bt154 => (spec_l12To.l0 k x1 x2 x3 (wrap64 (x9 + 1)) bt154.1 bt154.2)) else (none)) else (spec_l12To.j1 k x1 x2 x3 x152000 x152001)) else (spec_l12To.j1 k x1 x2 x3 x152000 x152001)
end
def spec_l12To.f (k : Nat) (l0_0 : List (S54)) (l0_1 : List Int) (l1 : List (S107)) (a2 : Int) (a3 : Bool) : Option ((List (S54)) × List Int) := spec_l12To.l0 k l1 a2 a3 0 l0_0 l0_1
theorem spec_l12To.mono_l : ∀ k, (∀ y0 y1 y2 y3 y4, LeO (spec_l12To.j1 k y0 y1 y2 y3 y4) (spec_l12To.j1 (k + 1) y0 y1 y2 y3 y4)) ∧ (∀ y0 y1 y2 y3 y4 y5, LeO (spec_l12To.l0 k y0 y1 y2 y3 y4 y5) (spec_l12To.l0 (k + 1) y0 y1 y2 y3 y4 y5))
 | 0 => ⟨fun _ _ _ _ _ r h => by simp [spec_l12To.j1] at h, fun _ _ _ _ _ _ r h => by simp [spec_l12To.l0] at h⟩
 | k + 1 => by
  obtain ⟨ih0, ih1⟩ := spec_l12To.mono_l k
  refine ⟨?_, ?_⟩
  · intro y0 y1 y2 y3 y4
    unfold spec_l12To.j1
    with_reducible repeat' first | exact ih0 _ _ _ _ _ | exact ih1 _ _ _ _ _ _ | exact spec_l12Do.mono _ _ _ _ _ _ _ _ _ _ _ _ | exact LeO.refl _ | exact LeO.none _ | refine LeO.ite ?_ ?_ | refine LeO.bind ?_ (fun _ => ?_)
  · intro y0 y1 y2 y3 y4 y5
    unfold spec_l12To.l0
    with_reducible repeat' first | exact ih0 _ _ _ _ _ | exact ih1 _ _ _ _ _ _ | exact spec_l12Do.mono _ _ _ _ _ _ _ _ _ _ _ _ | exact LeO.refl _ | exact LeO.none _ | refine LeO.ite ?_ ?_ | refine LeO.bind ?_ (fun _ => ?_)
theorem spec_l12To.mono : ∀ a0 a1 a2 a3 a4 k, LeO (spec_l12To.f k a0 a1 a2 a3 a4) (spec_l12To.f (k + 1) a0 a1 a2 a3 a4) := by
 intro a0 a1 a2 a3 a4 k
 obtain ⟨ih0, ih1⟩ := spec_l12To.mono_l k
 unfold spec_l12To.f
 with_reducible repeat' first | exact ih0 _ _ _ _ _ | exact ih1 _ _ _ _ _ _ | exact spec_l12Do.mono _ _ _ _ _ _ _ _ _ _ _ _ | exact LeO.refl _ | exact LeO.none _ | refine LeO.ite ?_ ?_ | refine LeO.bind ?_ (fun _ => ?_)
set_option maxHeartbeats 8000000 in
set_option maxRecDepth 100000 in
theorem spec_l12To.calls (k : Nat) (P0_0_ : Nat → Prop) (u9000_ : Value) (l0_0 : List (S54)) (P0_1_ : Nat → Prop) (u9001_ : Value) (l0_1 : List Int) (A1 : Option Addr) (c1 : Nat) (l1 : List (S107)) (a2 : Int) (a3 : Bool) (r1 : List (S54)) (r2 : List Int) (w0 w : World) (hB : Below w0.heap.size w0 w) (ho0_0 : Kd.S k54 54 w w0.heap.size P0_0_ u9000_ l0_0) (ho0_1 : Kd.R (Kd.int .i64) 3 w w0.heap.size P0_1_ u9001_ l0_1) (hr1 : ∀ W_, Kept w W_ (fun k_ => P0_0_ k_ ∨ P0_1_ k_) → Kd.C k107 W_ A1 l1.length l1) (hc1 : l1.length ≤ c1) (h : spec_l12To.f k l0_0 l0_1 l1 a2 a3 = some (r1, r2)) :
 Calls Try.prog 53 #[.agg #[u9000_, u9001_], .slice A1 l1.length c1, .int .i64 a2, .bool a3] w fun e w' => ∃ v0_ v1_ : Value, e = .returned (.agg #[v0_, v1_]) ∧ Kd.S k54 54 w' w0.heap.size (fun k_ => ((P0_0_ k_ ∨ P0_1_ k_) ∨ w.heap.size ≤ k_)) v0_ r1 ∧ Kd.R (Kd.int .i64) 3 w' w0.heap.size (fun k_ => ((P0_0_ k_ ∨ P0_1_ k_) ∨ w.heap.size ≤ k_)) v1_ r2 ∧ Below w0.heap.size w0 w' ∧ Kept w w' (fun k_ => P0_0_ k_ ∨ P0_1_ k_) := by
 have hu26 := Try.underlying26
 have hu107 := Try.underlying107
 have HO0_0 := am (show Kd.S k54 54 w w0.heap.size (fun k_ => ((P0_0_ k_ ∨ P0_1_ k_) ∨ w.heap.size ≤ k_)) u9000_ l0_0 from Kd.S_mono ho0_0 (fun k_ hk => (.inl (.inl hk))))
 have HO0_1 := am (show Kd.R (Kd.int .i64) 3 w w0.heap.size (fun k_ => ((P0_0_ k_ ∨ P0_1_ k_) ∨ w.heap.size ≤ k_)) u9001_ l0_1 from Kd.R_mono ho0_1 (fun k_ hk => (.inl (.inr hk))))
 have HR1 := am hr1
 have HC1 := am hc1
 clear hr1 hc1
 have HK := am (Kept.refl w (fun k_ => P0_0_ k_ ∨ P0_1_ k_))
 have HW0 := am hB.size
 have HB := am hB
 clear hB
 have H : (spec_l12To.l0 k l1 a2 a3 0 l0_0 l0_1) = some (r1, r2) := h
 clear h
 have HC5 := am H
 clear H
 obtain ⟨Ao6, co6, eo6⟩ := Kd.S_slice HO0_0.out
 subst eo6
 obtain ⟨Ao7, co7, eo7⟩ := Kd.R_slice HO0_1.out
 subst eo7
 go_enter Try.func53, Try.ntmps53
 go_upto_block 0 with (first | ((with_reducible refine gate_dst (N := 4) rfl ?_); (try (refine gate_guard (by rfl) ?_; dsimp only)); refine box_event ?hg (N := 4) ?hd (cs := #[.slice Ao6 l0_0.length co6, .slice Ao7 l0_1.length co7]) (t := 26) ?hr ?_; (case hd => rfl); (case hg => rfl); (case hr => first | (go_simp; done) | (go_simp; rfl)); intro gb151 hg w8 hbox hb; replace HO0_0 := am (Kd.S_below (ps HO0_0.out) hb); replace HO0_1 := am (Kd.R_below (pr HO0_1.out) hb); have BK151 := am (hbox); have GW151 := am (gw hg (pk HK.out)); replace HK := am (Kept.below (pk HK.out) hb); have GE151 := am (ge hg (ph HB.out)); replace HB := am (below_step (ph HB.out) hb); clear hb hbox hg) | ((with_reducible refine gate_dst (N := 8) rfl ?_); (try (refine gate_guard (by rfl) ?_; dsimp only)); refine box_event ?hg (N := 8) ?hd (cs := #[.slice none 0 0, .slice none 0 0]) (t := 26) ?hr ?_; (case hd => rfl); (case hg => rfl); (case hr => first | (go_simp; done) | (go_simp; rfl)); intro gb152 hg w9 hbox hb; replace HO0_0 := am (Kd.S_below (ps HO0_0.out) hb); replace HO0_1 := am (Kd.R_below (pr HO0_1.out) hb); have BK152 := am (hbox); have GW152 := am (gw hg (kg1 HK.out (.inr GW151.out))); replace HK := am (Kept.below (kg1 HK.out (.inr GW151.out)) hb); have GE152 := am (ge hg (bg1 HB.out GE151.out)); replace HB := am (below_step (bg1 HB.out GE151.out) hb); have NB151_152 := am (nb hg (pb BK151.out)); have NB152_151 := am (Ne.symm NB151_152.out); replace BK151 := am (blk_below (pb BK151.out) hb); clear hb hbox hg))
 (try simp only [Act.put, List.setIfInBounds_toArray, List.set_cons_zero, List.set_cons_succ])
 go_cut [] (fun wc => ∃ (kq : Nat) (x152000_4 : List (S54)) (x152001_4 : List Int) (u152000 : Value) (u152001 : Value), Aside0 (spec_l12To.j1 kq l1 a2 a3 x152000_4 x152001_4 = some (r1, r2)) ∧ Aside0 (kq ≤ k) ∧ Aside0 (Kd.S k54 54 wc w0.heap.size (fun k_ => ((P0_0_ k_ ∨ P0_1_ k_) ∨ w.heap.size ≤ k_)) u152000 x152000_4) ∧ Aside0 (Kd.R (Kd.int .i64) 3 wc w0.heap.size (fun k_ => ((P0_0_ k_ ∨ P0_1_ k_) ∨ w.heap.size ≤ k_)) u152001 x152001_4) ∧ Aside0 (wc.heap[gb151]? = some (.cells #[u152000, u152001] 26 (0, 0))) ∧ Aside0 (wc.heap[gb152]? = some (.cells #[(.slice none 0 0), (.slice none 0 0)] 26 (0, 0))) ∧ Aside0 (Kept w wc (fun k_ => P0_0_ k_ ∨ P0_1_ k_)) ∧ Aside0 (Below w0.heap.size w0 wc))
 case first =>
  have H := HC5.out
  clear HC5
  have H' := am H
  clear H
  go_wp2
  go_loopg [9] k (fun kq v9 w' => ∃ (x9_1 : Int) (x152000_1 : List (S54)) (x152001_1 : List Int) (u152000 : Value) (u152001 : Value), v9 = .int .i64 x9_1 ∧ Aside0 (spec_l12To.l0 kq l1 a2 a3 x9_1 x152000_1 x152001_1 = some (r1, r2)) ∧ Aside0 (kq ≤ k) ∧ Aside0 (Kd.S k54 54 w' w0.heap.size (fun k_ => ((P0_0_ k_ ∨ P0_1_ k_) ∨ w.heap.size ≤ k_)) u152000 x152000_1) ∧ Aside0 (Kd.R (Kd.int .i64) 3 w' w0.heap.size (fun k_ => ((P0_0_ k_ ∨ P0_1_ k_) ∨ w.heap.size ≤ k_)) u152001 x152001_1) ∧ Aside0 (w'.heap[gb151]? = some (.cells #[u152000, u152001] 26 (0, 0))) ∧ Aside0 (w'.heap[gb152]? = some (.cells #[(.slice none 0 0), (.slice none 0 0)] 26 (0, 0))) ∧ Aside0 (Kept w w' (fun k_ => P0_0_ k_ ∨ P0_1_ k_)) ∧ Aside0 (Below w0.heap.size w0 w'))
  case atStart => exact ⟨(0), (l0_0), (l0_1), (.slice Ao6 l0_0.length co6), (.slice Ao7 l0_1.length co7), rf, H', ⟨Nat.le_refl _⟩, ⟨ps HO0_0.out⟩, ⟨pr HO0_1.out⟩, ⟨pb BK151.out⟩, ⟨pb BK152.out⟩, ⟨kg2 HK.out (.inr GW151.out) (.inr GW152.out)⟩, ⟨bg2 HB.out GE151.out GE152.out⟩⟩
  case round =>
   clear H'
   obtain ⟨x9_1, x152000_1, x152001_1, u152000, u152001, rfl, HA, HK1, HO_152000, HO_152001, BK151, BK152, HK, HB⟩ := hrel
   cases gk with
   | zero => exact absurd HA.out (by simp [spec_l12To.l0])
   | succ k1 =>
    have H := HA.out
    clear HA
    simp only [spec_l12To.l0] at H
    by_cases c10 : x9_1 < (l1.length : Int)
    rotate_left
    · rw [if_neg c10] at H
      have c10b0 := decide_eq_false c10
      clear c10
      (first | rw [c10b0] | (simp only [i64_w, i32_w]; rw [c10b0]) | skip)
      have H' := am H
      clear H
      go_wp2
      go_meet
      case rel => exact ⟨_, (x152000_1), (x152001_1), (u152000), (u152001), H', ⟨by have := HK1.out; first | omega | exact Nat.le_refl _⟩, ⟨ps HO_152000.out⟩, ⟨pr HO_152001.out⟩, ⟨pb BK151.out⟩, ⟨pb BK152.out⟩, ⟨kg2 HK.out (.inr GW151.out) (.inr GW152.out)⟩, ⟨bg2 HB.out GE151.out GE152.out⟩⟩
    rw [if_pos c10] at H
    have c10b0 := decide_eq_true c10
    clear c10
    (first | rw [c10b0] | (simp only [i64_w, i32_w]; rw [c10b0]) | skip)
    by_cases c11 : x9_1 < a2
    rotate_left
    · rw [if_neg c11] at H
      have c11b0 := decide_eq_false c11
      clear c11
      have H' := am H
      clear H
      go_wp2
      go_meet
      case rel => exact ⟨_, (x152000_1), (x152001_1), (u152000), (u152001), H', ⟨by have := HK1.out; first | omega | exact Nat.le_refl _⟩, ⟨ps HO_152000.out⟩, ⟨pr HO_152001.out⟩, ⟨pb BK151.out⟩, ⟨pb BK152.out⟩, ⟨kg2 HK.out (.inr GW151.out) (.inr GW152.out)⟩, ⟨bg2 HB.out GE151.out GE152.out⟩⟩
    rw [if_pos c11] at H
    have c11b0 := decide_eq_true c11
    clear c11
    obtain ⟨c12b0, H⟩ := ifd H
    replace H := Option.bind_eq_some_iff.mp H
    obtain ⟨⟨t154, t157⟩, A130, H⟩ := H
    have A13 := am A130
    clear A130
    have H' := am H
    clear H
    try go_wp2
    replace HO_152000 := am (Kd.S_drew HO_152000.out)
    replace HO_152001 := am (Kd.R_drew HO_152001.out)
    replace BK151 := am (blk_drew BK151.out)
    replace BK152 := am (blk_drew BK152.out)
    replace HK := am (Kept.drew HK.out)
    replace HB := am (below_drew1 HB.out)
    have p153 : 0 ≤ (x9_1 : Int) := ofb
    have q153 : x9_1 < (l1.length : Int) := ofb
    obtain ⟨ad153, e153, hx153_0, hx153_1, hx153_2, hx153_3, hx153_4, hx153_5, hx153_6, hx153_7⟩ := at_T107 (Kd.C_kept_now HR1.out HK.out) x9_1 p153 q153
    have hw153_7 := hx153_7
    have hw153_6 := hx153_6
    have hw153_5 := hx153_5
    have hw153_4 := hx153_4
    have hw153_3 := hx153_3
    have hw153_2 := hx153_2
    have hw153_1 := hx153_1
    have hw153_0 := hx153_0
    cases e153
    replace p153 := eq_true p153
    replace q153 := eq_true q153
    obtain ⟨Ao15, co15, eo15⟩ := Kd.S_slice HO_152000.out
    (first | subst eo15 | (injection eo15 with f1_ f2_ f3_; have f4_ := f1_.symm; have f5_ := f3_.symm; clear f1_ f2_ f3_; subst f4_; subst f5_))
    obtain ⟨Ao16, co16, eo16⟩ := Kd.R_slice HO_152001.out
    (first | subst eo16 | (injection eo16 with f1_ f2_ f3_; have f4_ := f1_.symm; have f5_ := f3_.symm; clear f1_ f2_ f3_; subst f4_; subst f5_))
    obtain ⟨PXh17, hxa_, hxb_⟩ := Kd.S_hand HO_152000.out
    have HXAh17 := am hxa_
    have HXBh17 := am hxb_
    clear hxa_ hxb_
    refine start_ (n := 7) (S := fun w' => w'.cell? ⟨gb151, 0, none⟩ = some (.slice Ao15 x152000_1.length co15) ∧ w'.cell? ⟨gb151, 1, none⟩ = some (.slice Ao16 x152001_1.length co16) ∧ w'.cell? (ad153.add ((x9_1).toNat * 8)) = some (.int .i64 ((rd_T107 l1 x9_1).f0)) ∧ w'.cell? ⟨(ad153.add ((x9_1).toNat * 8)).block, (ad153.add ((x9_1).toNat * 8)).off + 1, none⟩ = some (.int .i64 ((rd_T107 l1 x9_1).f1)) ∧ w'.cell? ⟨(ad153.add ((x9_1).toNat * 8)).block, (ad153.add ((x9_1).toNat * 8)).off + 2, none⟩ = some (.int .i64 ((rd_T107 l1 x9_1).f2)) ∧ w'.cell? ⟨(ad153.add ((x9_1).toNat * 8)).block, (ad153.add ((x9_1).toNat * 8)).off + 3, none⟩ = some (.int .i64 ((rd_T107 l1 x9_1).f3)) ∧ w'.cell? ⟨(ad153.add ((x9_1).toNat * 8)).block, (ad153.add ((x9_1).toNat * 8)).off + 4, none⟩ = some (.int .i64 ((rd_T107 l1 x9_1).f4.f0)) ∧ w'.cell? ⟨(ad153.add ((x9_1).toNat * 8)).block, (ad153.add ((x9_1).toNat * 8)).off + 5, none⟩ = some (.int .i64 ((rd_T107 l1 x9_1).f4.f1)) ∧ w'.cell? ⟨(ad153.add ((x9_1).toNat * 8)).block, (ad153.add ((x9_1).toNat * 8)).off + 6, none⟩ = some (.int .i64 ((rd_T107 l1 x9_1).f4.f2)) ∧ w'.cell? ⟨(ad153.add ((x9_1).toNat * 8)).block, (ad153.add ((x9_1).toNat * 8)).off + 7, none⟩ = some (.int .i64 ((rd_T107 l1 x9_1).f4.f3))) (ds := [5, 6]) (bt 7 0) (by kernel_rfl) rfl rfl ⟨(blk_cell BK151.out 0).trans rfl, (blk_cell BK151.out 1).trans rfl, hx153_0, hx153_1, hx153_2, hx153_3, hx153_4, hx153_5, hx153_6, hx153_7⟩ (fun hHeld => ?_)
    generalize wr.drew = w14 at HO_152000 HO_152001 BK151 BK152 HK HB HXAh17 HXBh17 hx153_0 hx153_1 hx153_2 hx153_3 hx153_4 hx153_5 hx153_6 hx153_7 hHeld ⊢
    refine pi_ 1 22 (bt 7 2) rfl rfl (fun _ _ _ h => h) ?_
    refine pi_ 2 23 (bt 7 6) rfl rfl (fun _ _ _ h => h) ?_
    refine pi_ 3 24 (bt 7 14) rfl rfl (fun _ _ _ h => h) ?_
    refine pm_ 0 21 (bt 7 15) rfl rfl (by kernel_rfl) (fun _ _ _ h => h) hHeld ?_
    refine pm_ 4 25 (bt 7 31) rfl rfl (by kernel_rfl) (fun _ _ _ h => h) hHeld ?_
    refine last_ (i := 5) (N := some 26) (bt 7 63) rfl rfl (by kernel_rfl) (by decide) (fun K hK => ?_)
    refine qg Try.func57 #[.agg #[.slice Ao15 x152000_1.length co15, .slice Ao16 x152001_1.length co16], .agg #[.int .i64 ((rd_T107 l1 x9_1).f0), .int .i64 ((rd_T107 l1 x9_1).f1), .int .i64 ((rd_T107 l1 x9_1).f2), .int .i64 ((rd_T107 l1 x9_1).f3), .int .i64 ((rd_T107 l1 x9_1).f4.f0), .int .i64 ((rd_T107 l1 x9_1).f4.f1), .int .i64 ((rd_T107 l1 x9_1).f4.f2), .int .i64 ((rd_T107 l1 x9_1).f4.f3)], .bool false] rfl rfl ?_
    with_reducible refine (spec_l12Do.calls k1 PXh17 (.slice Ao15 x152000_1.length co15) x152000_1 (fun k_ => some k_ = (.slice Ao16 x152001_1.length co16 : Value).ownBlock) (.slice Ao16 x152001_1.length co16) x152001_1 ((rd_T107 l1 x9_1).f0) ((rd_T107 l1 x9_1).f1) ((rd_T107 l1 x9_1).f2) ((rd_T107 l1 x9_1).f3) ((rd_T107 l1 x9_1).f4.f0) ((rd_T107 l1 x9_1).f4.f1) ((rd_T107 l1 x9_1).f4.f2) ((rd_T107 l1 x9_1).f4.f3) false t154 t157 w0 _ ?side1 ?side2 ?side3 A13.out).mono ?_
    (case side1 => exact bg2 HB.out GE151.out GE152.out)
    (case side2 => exact (ps HXAh17.out))
    (case side3 => exact Kd.R_tight rfl HO_152001.out)
    rintro e w18 ⟨v155, v158, rfl, ho0, ho1, hb, hkp⟩
    refine ⟨_, rfl, ?_⟩
    replace BK151 := am (blk_kept (pb BK151.out) hkp (fun hs_ => Or.elim hs_ (fun e_ => (fun e_ => Kd.blk_awayP (fun k_ h_ => (HXBh17.out k_ h_).2.2.2) BK151.out (by decide) e_) e_) (fun e_ => (fun e_ => (Kd.R_ne HO_152001.out BK151.out (by decide)) e_) e_)))
    replace BK152 := am (blk_kept (pb BK152.out) hkp (fun hs_ => Or.elim hs_ (fun e_ => (fun e_ => Kd.blk_awayP (fun k_ h_ => (HXBh17.out k_ h_).2.2.2) BK152.out (by decide) e_) e_) (fun e_ => (fun e_ => (Kd.R_ne HO_152001.out BK152.out (by decide)) e_) e_)))
    have HO156 := am (Kd.S_mono (ok' := fun k_ => ((P0_0_ k_ ∨ P0_1_ k_) ∨ w.heap.size ≤ k_)) ho0 (fun k_ hk_ => Or.elim hk_ (fun hs_ => Or.elim hs_ (fun hs_ => (HXBh17.out k_ hs_).1) (fun hs_ => (HO_152001.out.1 k_ (hs_).symm))) (fun hn_ => (.inr (Nat.le_trans (kg2 HK.out (.inr GW151.out) (.inr GW152.out)).1 hn_)))))
    have HO159 := am (Kd.R_mono (ok' := fun k_ => ((P0_0_ k_ ∨ P0_1_ k_) ∨ w.heap.size ≤ k_)) ho1 (fun k_ hk_ => Or.elim hk_ (fun hs_ => Or.elim hs_ (fun hs_ => (HXBh17.out k_ hs_).1) (fun hs_ => (HO_152001.out.1 k_ (hs_).symm))) (fun hn_ => (.inr (Nat.le_trans (kg2 HK.out (.inr GW151.out) (.inr GW152.out)).1 hn_)))))
    replace HK := am (Kept.then_ (S := (fun k_ => P0_0_ k_ ∨ P0_1_ k_)) (kg2 HK.out (.inr GW151.out) (.inr GW152.out)) hkp (fun k_ hs_ => Or.elim hs_ (fun e_ => (fun e_ => (HXBh17.out k_ e_).1) e_) (fun e_ => (fun e_ => (HO_152001.out.1 k_ e_.symm)) e_)))
    replace HB := am (hb)
    clear HO_152000 HO_152001
    clear hb hkp ho0 ho1
    obtain ⟨Ao19, co19, eo19⟩ := Kd.S_slice HO156.out
    (first | subst eo19 | (injection eo19 with f1_ f2_ f3_; have f4_ := f1_.symm; have f5_ := f3_.symm; clear f1_ f2_ f3_; subst f4_; subst f5_))
    obtain ⟨Ao21, co21, eo21⟩ := Kd.R_slice HO159.out
    (first | subst eo21 | (injection eo21 with f1_ f2_ f3_; have f4_ := f1_.symm; have f5_ := f3_.symm; clear f1_ f2_ f3_; subst f4_; subst f5_))
    refine hK.out _ _ ?_
    clear hK K
    refine qn (some 26) ?_
    refine last_ (i := 6) (N := none) (bt 7 127) rfl rfl (by kernel_rfl) (by decide) (fun K hK => ?_)
    have hs20 : w18.cell? ⟨gb151, 0, none⟩ = some (.slice Ao15 x152000_1.length co15) := (blk_cell BK151.out 0).trans rfl
    have hfs20 := blk_frozen BK151.out 0
    have hns20_1 := NB152_151.out
    have hms20_1 := NB151_152.out
    have hs22 : w18.cell? ⟨gb151, 1, none⟩ = some (.slice Ao16 x152001_1.length co16) := (blk_cell BK151.out 1).trans rfl
    have hfs22 := blk_frozen BK151.out 1
    have hns22_1 := NB152_151.out
    have hms22_1 := NB151_152.out
    refine qs rfl ?_
    refine hK.out _ _ ?_
    clear hK K
    refine done_ (by kernel_rfl) ?_
    try go_wp2
    go_roundg k1
    case measure => have := HK1.out; omega
    case rel => exact ⟨(wrap64 (x9_1 + 1)), (t154), (t157), (.slice Ao19 t154.length co19), (.slice Ao21 t157.length co21), rf, H', ⟨by have := HK1.out; omega⟩, ⟨ps (Kd.S_mono (Kd.S_far (p := ⟨gb151, 1, none⟩) (Kd.S_far (p := ⟨gb151, 0, none⟩) (Kd.S_types HO156.out BK151.out (by decide)) (fun _ hk => hk.2) (.slice Ao19 t154.length co19)) (fun _ hk => hk.2) (.slice Ao21 t157.length co21)) (fun _ hk => hk.1))⟩, ⟨pr (Kd.R_mono (Kd.R_far (p := ⟨gb151, 1, none⟩) (Kd.R_far (p := ⟨gb151, 0, none⟩) (Kd.R_types HO159.out BK151.out (by decide)) (fun _ hk => hk.2) (.slice Ao19 t154.length co19)) (fun _ hk => hk.2) (.slice Ao21 t157.length co21)) (fun _ hk => hk.1))⟩, ⟨bp2 (pb BK151.out)⟩, ⟨bf2 (pb BK152.out) NB152_151.out⟩, ⟨kg2 HK.out (.inr GW151.out) (.inr GW152.out)⟩, ⟨bg2 HB.out GE151.out GE152.out⟩⟩
 case rest =>
  clear HC5
  obtain ⟨kq, x152000_4, x152001_4, u152000, u152001, HA, HJ4, HO_152000, HO_152001, BK151, BK152, HK, HB⟩ := hcut
  cases kq with
  | zero => exact absurd HA.out (by simp [spec_l12To.j1])
  | succ kj4 =>
   have H := HA.out
   clear HA
   simp only [spec_l12To.j1] at H
   by_cases c23 : a3 = true
   rotate_left
   · replace c23 := Bool.eq_false_iff.mpr c23
     subst c23
     rw [if_neg (show ¬ (false = true) by decide)] at H
     simp only [Option.some.injEq, Prod.mk.injEq] at H
     obtain ⟨rfl, rfl⟩ := H
     have hnb46 := NB151_152.out
     have hnc46 := NB152_151.out
     obtain ⟨hcz47_0, hcz47_1⟩ := b2 BK151.out
     obtain ⟨hfz47_0, hfz47_1⟩ := f2 BK151.out
     obtain ⟨Ao48, co48, eo48⟩ := Kd.S_slice HO_152000.out
     subst eo48
     obtain ⟨hcz49_0, hcz49_1⟩ := b2 BK152.out
     obtain ⟨hfz49_0, hfz49_1⟩ := f2 BK152.out
     obtain ⟨Ao50, co50, eo50⟩ := Kd.R_slice HO_152001.out
     subst eo50
     go_wp2
     refine bodyPost_ret (results_cell_row rfl _ _ gb152 26 #[.slice Ao48 x152000_4.length co48, .slice Ao50 x152001_4.length co50] (0, 0) _ rfl (bp2 (pb BK152.out)) Try.underlying26 rfl (by kernel_rfl)) rfl ?_
     exact ⟨_, _, rq ⟨ps (Kd.S_mono (Kd.S_far (p := ⟨gb152, 1, none⟩) (Kd.S_far (p := ⟨gb152, 0, none⟩) (Kd.S_types HO_152000.out BK152.out (by decide)) (fun _ hk => hk.2) (.slice Ao48 x152000_4.length co48)) (fun _ hk => hk.2) (.slice Ao50 x152001_4.length co50)) (fun _ hk => hk.1)), pr (Kd.R_mono (Kd.R_far (p := ⟨gb152, 1, none⟩) (Kd.R_far (p := ⟨gb152, 0, none⟩) (Kd.R_types HO_152001.out BK152.out (by decide)) (fun _ hk => hk.2) (.slice Ao48 x152000_4.length co48)) (fun _ hk => hk.2) (.slice Ao50 x152001_4.length co50)) (fun _ hk => hk.1)), bg2 HB.out GE151.out GE152.out, kg2 HK.out (.inr GW151.out) (.inr GW152.out)⟩⟩
   subst c23
   rw [if_pos rfl] at H
   replace H := Option.bind_eq_some_iff.mp H
   obtain ⟨t160, A240, H⟩ := H
   have A24 := am A240
   clear A240
   by_cases c25 : t160 = true
   rotate_left
   · replace c25 := Bool.eq_false_iff.mpr c25
     subst c25
     rw [if_neg (show ¬ (false = true) by decide)] at H
     simp only [Option.some.injEq, Prod.mk.injEq] at H
     obtain ⟨rfl, rfl⟩ := H
     go_wp2_with (first | (go_at_call 19; (with_reducible refine (spec_l6In.calls a2 0 (wrap64 ((l1.length : Int) - 1)) false _ A24.out).mono ?_); rintro e w' ⟨rfl, ⟨nd, rfl⟩⟩; (try (rw [drewN_self wc]; generalize hq_ : World.drewN wc _ = wc; have n0_ : Aside0 (Kd.S k54 54 wc w0.heap.size (fun k_ => (((P0_0_ k_ ∨ P0_1_ k_) ∨ w.heap.size ≤ k_))) u152000 x152000_4) := ⟨by rw [← hq_]; exact (ps HO_152000.out)⟩; have n1_ : Aside0 (Kd.R (Kd.int .i64) 3 wc w0.heap.size (fun k_ => (((P0_0_ k_ ∨ P0_1_ k_) ∨ w.heap.size ≤ k_))) u152001 x152001_4) := ⟨by rw [← hq_]; exact (pr HO_152001.out)⟩; have n2_ : Aside0 (wc.heap[gb151]? = some (.cells #[u152000, u152001] 26 (0, 0))) := ⟨by rw [← hq_]; exact (pb BK151.out)⟩; have n3_ : Aside0 (wc.heap[gb152]? = some (.cells #[.slice none 0 0, .slice none 0 0] 26 (0, 0))) := ⟨by rw [← hq_]; exact (pb BK152.out)⟩; have n4_ : Aside0 (Kept w wc (fun k_ => P0_0_ k_ ∨ P0_1_ k_)) := ⟨by rw [← hq_]; exact (kg2 HK.out (.inr GW151.out) (.inr GW152.out))⟩; have n5_ : Aside0 (Below w0.heap.size w0 wc) := ⟨by rw [← hq_]; exact (bg2 HB.out GE151.out GE152.out)⟩; clear HO_152000 HO_152001 BK151 BK152 HK HB hq_; have HO_152000 := n0_; have HO_152001 := n1_; have BK151 := n2_; have BK152 := n3_; have HK := n4_; have HB := n5_; clear n0_ n1_ n2_ n3_ n4_ n5_)); have hnb41 := NB151_152.out; have hnc41 := NB152_151.out; obtain ⟨hcz42_0, hcz42_1⟩ := b2 BK151.out; obtain ⟨hfz42_0, hfz42_1⟩ := f2 BK151.out; obtain ⟨Ao43, co43, eo43⟩ := Kd.S_slice HO_152000.out; subst eo43; obtain ⟨hcz44_0, hcz44_1⟩ := b2 BK152.out; obtain ⟨hfz44_0, hfz44_1⟩ := f2 BK152.out; obtain ⟨Ao45, co45, eo45⟩ := Kd.R_slice HO_152001.out; subst eo45))
     refine bodyPost_ret (results_cell_row rfl _ _ gb152 26 #[.slice Ao43 x152000_4.length co43, .slice Ao45 x152001_4.length co45] (0, 0) _ rfl (bp2 (pb BK152.out)) Try.underlying26 rfl (by kernel_rfl)) rfl ?_
     exact ⟨_, _, rq ⟨ps (Kd.S_mono (Kd.S_far (p := ⟨gb152, 1, none⟩) (Kd.S_far (p := ⟨gb152, 0, none⟩) (Kd.S_types HO_152000.out BK152.out (by decide)) (fun _ hk => hk.2) (.slice Ao43 x152000_4.length co43)) (fun _ hk => hk.2) (.slice Ao45 x152001_4.length co45)) (fun _ hk => hk.1)), pr (Kd.R_mono (Kd.R_far (p := ⟨gb152, 1, none⟩) (Kd.R_far (p := ⟨gb152, 0, none⟩) (Kd.R_types HO_152001.out BK152.out (by decide)) (fun _ hk => hk.2) (.slice Ao43 x152000_4.length co43)) (fun _ hk => hk.2) (.slice Ao45 x152001_4.length co45)) (fun _ hk => hk.1)), bg2 HB.out GE151.out GE152.out, kg2 HK.out (.inr GW151.out) (.inr GW152.out)⟩⟩
   subst c25
   rw [if_pos rfl] at H
   obtain ⟨c26b0, H⟩ := ifd H
   obtain ⟨c27b0, H⟩ := ifd H
   replace H := Option.bind_eq_some_iff.mp H
   obtain ⟨⟨t162, t165⟩, A280, H⟩ := H
   have A28 := am A280
   clear A280
   simp only [Option.some.injEq, Prod.mk.injEq] at H
   obtain ⟨rfl, rfl⟩ := H
   try go_wp2_with (first | (go_at_call 19; (with_reducible refine (spec_l6In.calls a2 0 (wrap64 ((l1.length : Int) - 1)) true _ A24.out).mono ?_); rintro e w' ⟨rfl, ⟨nd, rfl⟩⟩; (try (rw [drewN_self wc]; generalize hq_ : World.drewN wc _ = wc; have n0_ : Aside0 (Kd.S k54 54 wc w0.heap.size (fun k_ => (((P0_0_ k_ ∨ P0_1_ k_) ∨ w.heap.size ≤ k_))) u152000 x152000_4) := ⟨by rw [← hq_]; exact (ps HO_152000.out)⟩; have n1_ : Aside0 (Kd.R (Kd.int .i64) 3 wc w0.heap.size (fun k_ => (((P0_0_ k_ ∨ P0_1_ k_) ∨ w.heap.size ≤ k_))) u152001 x152001_4) := ⟨by rw [← hq_]; exact (pr HO_152001.out)⟩; have n2_ : Aside0 (wc.heap[gb151]? = some (.cells #[u152000, u152001] 26 (0, 0))) := ⟨by rw [← hq_]; exact (pb BK151.out)⟩; have n3_ : Aside0 (wc.heap[gb152]? = some (.cells #[.slice none 0 0, .slice none 0 0] 26 (0, 0))) := ⟨by rw [← hq_]; exact (pb BK152.out)⟩; have n4_ : Aside0 (Kept w wc (fun k_ => P0_0_ k_ ∨ P0_1_ k_)) := ⟨by rw [← hq_]; exact (kg2 HK.out (.inr GW151.out) (.inr GW152.out))⟩; have n5_ : Aside0 (Below w0.heap.size w0 wc) := ⟨by rw [← hq_]; exact (bg2 HB.out GE151.out GE152.out)⟩; clear HO_152000 HO_152001 BK151 BK152 HK HB hq_; have HO_152000 := n0_; have HO_152001 := n1_; have BK151 := n2_; have BK152 := n3_; have HK := n4_; have HB := n5_; clear n0_ n1_ n2_ n3_ n4_ n5_))))
   replace HO_152000 := am (Kd.S_drew HO_152000.out)
   replace HO_152001 := am (Kd.R_drew HO_152001.out)
   replace BK151 := am (blk_drew BK151.out)
   replace BK152 := am (blk_drew BK152.out)
   replace HK := am (Kept.drew HK.out)
   replace HB := am (below_drew1 HB.out)
   have p161 : 0 ≤ (a2 : Int) := ofb
   have q161 : a2 < (l1.length : Int) := ofb
   obtain ⟨ad161, e161, hx161_0, hx161_1, hx161_2, hx161_3, hx161_4, hx161_5, hx161_6, hx161_7⟩ := at_T107 (Kd.C_kept_now HR1.out HK.out) a2 p161 q161
   have hw161_7 := hx161_7
   have hw161_6 := hx161_6
   have hw161_5 := hx161_5
   have hw161_4 := hx161_4
   have hw161_3 := hx161_3
   have hw161_2 := hx161_2
   have hw161_1 := hx161_1
   have hw161_0 := hx161_0
   cases e161
   replace p161 := eq_true p161
   replace q161 := eq_true q161
   obtain ⟨Ao30, co30, eo30⟩ := Kd.S_slice HO_152000.out
   (first | subst eo30 | (injection eo30 with f1_ f2_ f3_; have f4_ := f1_.symm; have f5_ := f3_.symm; clear f1_ f2_ f3_; subst f4_; subst f5_))
   obtain ⟨Ao31, co31, eo31⟩ := Kd.R_slice HO_152001.out
   (first | subst eo31 | (injection eo31 with f1_ f2_ f3_; have f4_ := f1_.symm; have f5_ := f3_.symm; clear f1_ f2_ f3_; subst f4_; subst f5_))
   obtain ⟨PXh32, hxa_, hxb_⟩ := Kd.S_hand HO_152000.out
   have HXAh32 := am hxa_
   have HXBh32 := am hxb_
   clear hxa_ hxb_
   refine start_ (n := 7) (S := fun w' => w'.cell? ⟨gb151, 0, none⟩ = some (.slice Ao30 x152000_4.length co30) ∧ w'.cell? ⟨gb151, 1, none⟩ = some (.slice Ao31 x152001_4.length co31) ∧ w'.cell? (ad161.add ((a2).toNat * 8)) = some (.int .i64 ((rd_T107 l1 a2).f0)) ∧ w'.cell? ⟨(ad161.add ((a2).toNat * 8)).block, (ad161.add ((a2).toNat * 8)).off + 1, none⟩ = some (.int .i64 ((rd_T107 l1 a2).f1)) ∧ w'.cell? ⟨(ad161.add ((a2).toNat * 8)).block, (ad161.add ((a2).toNat * 8)).off + 2, none⟩ = some (.int .i64 ((rd_T107 l1 a2).f2)) ∧ w'.cell? ⟨(ad161.add ((a2).toNat * 8)).block, (ad161.add ((a2).toNat * 8)).off + 3, none⟩ = some (.int .i64 ((rd_T107 l1 a2).f3)) ∧ w'.cell? ⟨(ad161.add ((a2).toNat * 8)).block, (ad161.add ((a2).toNat * 8)).off + 4, none⟩ = some (.int .i64 ((rd_T107 l1 a2).f4.f0)) ∧ w'.cell? ⟨(ad161.add ((a2).toNat * 8)).block, (ad161.add ((a2).toNat * 8)).off + 5, none⟩ = some (.int .i64 ((rd_T107 l1 a2).f4.f1)) ∧ w'.cell? ⟨(ad161.add ((a2).toNat * 8)).block, (ad161.add ((a2).toNat * 8)).off + 6, none⟩ = some (.int .i64 ((rd_T107 l1 a2).f4.f2)) ∧ w'.cell? ⟨(ad161.add ((a2).toNat * 8)).block, (ad161.add ((a2).toNat * 8)).off + 7, none⟩ = some (.int .i64 ((rd_T107 l1 a2).f4.f3))) (ds := [5, 6]) (bt 7 0) (by kernel_rfl) rfl rfl ⟨(blk_cell BK151.out 0).trans rfl, (blk_cell BK151.out 1).trans rfl, hx161_0, hx161_1, hx161_2, hx161_3, hx161_4, hx161_5, hx161_6, hx161_7⟩ (fun hHeld => ?_)
   generalize wc.drew = w29 at HO_152000 HO_152001 BK151 BK152 HK HB HXAh32 HXBh32 hx161_0 hx161_1 hx161_2 hx161_3 hx161_4 hx161_5 hx161_6 hx161_7 hHeld ⊢
   refine pi_ 1 36 (bt 7 2) rfl rfl (fun _ _ _ h => h) ?_
   refine pi_ 2 37 (bt 7 6) rfl rfl (fun _ _ _ h => h) ?_
   refine pi_ 3 38 (bt 7 14) rfl rfl (fun _ _ _ h => h) ?_
   refine pm_ 0 35 (bt 7 15) rfl rfl (by kernel_rfl) (fun _ _ _ h => h) hHeld ?_
   refine pm_ 4 39 (bt 7 31) rfl rfl (by kernel_rfl) (fun _ _ _ h => h) hHeld ?_
   refine last_ (i := 5) (N := some 40) (bt 7 63) rfl rfl (by kernel_rfl) (by decide) (fun K hK => ?_)
   refine qg Try.func57 #[.agg #[.slice Ao30 x152000_4.length co30, .slice Ao31 x152001_4.length co31], .agg #[.int .i64 ((rd_T107 l1 a2).f0), .int .i64 ((rd_T107 l1 a2).f1), .int .i64 ((rd_T107 l1 a2).f2), .int .i64 ((rd_T107 l1 a2).f3), .int .i64 ((rd_T107 l1 a2).f4.f0), .int .i64 ((rd_T107 l1 a2).f4.f1), .int .i64 ((rd_T107 l1 a2).f4.f2), .int .i64 ((rd_T107 l1 a2).f4.f3)], .bool true] rfl rfl ?_
   with_reducible refine (spec_l12Do.calls kj4 PXh32 (.slice Ao30 x152000_4.length co30) x152000_4 (fun k_ => some k_ = (.slice Ao31 x152001_4.length co31 : Value).ownBlock) (.slice Ao31 x152001_4.length co31) x152001_4 ((rd_T107 l1 a2).f0) ((rd_T107 l1 a2).f1) ((rd_T107 l1 a2).f2) ((rd_T107 l1 a2).f3) ((rd_T107 l1 a2).f4.f0) ((rd_T107 l1 a2).f4.f1) ((rd_T107 l1 a2).f4.f2) ((rd_T107 l1 a2).f4.f3) true t162 t165 w0 _ ?side1 ?side2 ?side3 A28.out).mono ?_
   (case side1 => exact bg2 HB.out GE151.out GE152.out)
   (case side2 => exact (ps HXAh32.out))
   (case side3 => exact Kd.R_tight rfl HO_152001.out)
   rintro e w33 ⟨v163, v166, rfl, ho0, ho1, hb, hkp⟩
   refine ⟨_, rfl, ?_⟩
   replace BK151 := am (blk_kept (pb BK151.out) hkp (fun hs_ => Or.elim hs_ (fun e_ => (fun e_ => Kd.blk_awayP (fun k_ h_ => (HXBh32.out k_ h_).2.2.2) BK151.out (by decide) e_) e_) (fun e_ => (fun e_ => (Kd.R_ne HO_152001.out BK151.out (by decide)) e_) e_)))
   replace BK152 := am (blk_kept (pb BK152.out) hkp (fun hs_ => Or.elim hs_ (fun e_ => (fun e_ => Kd.blk_awayP (fun k_ h_ => (HXBh32.out k_ h_).2.2.2) BK152.out (by decide) e_) e_) (fun e_ => (fun e_ => (Kd.R_ne HO_152001.out BK152.out (by decide)) e_) e_)))
   have HO164 := am (Kd.S_mono (ok' := fun k_ => ((P0_0_ k_ ∨ P0_1_ k_) ∨ w.heap.size ≤ k_)) ho0 (fun k_ hk_ => Or.elim hk_ (fun hs_ => Or.elim hs_ (fun hs_ => (HXBh32.out k_ hs_).1) (fun hs_ => (HO_152001.out.1 k_ (hs_).symm))) (fun hn_ => (.inr (Nat.le_trans (kg2 HK.out (.inr GW151.out) (.inr GW152.out)).1 hn_)))))
   have HO167 := am (Kd.R_mono (ok' := fun k_ => ((P0_0_ k_ ∨ P0_1_ k_) ∨ w.heap.size ≤ k_)) ho1 (fun k_ hk_ => Or.elim hk_ (fun hs_ => Or.elim hs_ (fun hs_ => (HXBh32.out k_ hs_).1) (fun hs_ => (HO_152001.out.1 k_ (hs_).symm))) (fun hn_ => (.inr (Nat.le_trans (kg2 HK.out (.inr GW151.out) (.inr GW152.out)).1 hn_)))))
   replace HK := am (Kept.then_ (S := (fun k_ => P0_0_ k_ ∨ P0_1_ k_)) (kg2 HK.out (.inr GW151.out) (.inr GW152.out)) hkp (fun k_ hs_ => Or.elim hs_ (fun e_ => (fun e_ => (HXBh32.out k_ e_).1) e_) (fun e_ => (fun e_ => (HO_152001.out.1 k_ e_.symm)) e_)))
   replace HB := am (hb)
   clear HO_152000 HO_152001
   clear hb hkp ho0 ho1
   obtain ⟨Ao34, co34, eo34⟩ := Kd.S_slice HO164.out
   (first | subst eo34 | (injection eo34 with f1_ f2_ f3_; have f4_ := f1_.symm; have f5_ := f3_.symm; clear f1_ f2_ f3_; subst f4_; subst f5_))
   obtain ⟨Ao36, co36, eo36⟩ := Kd.R_slice HO167.out
   (first | subst eo36 | (injection eo36 with f1_ f2_ f3_; have f4_ := f1_.symm; have f5_ := f3_.symm; clear f1_ f2_ f3_; subst f4_; subst f5_))
   refine hK.out _ _ ?_
   clear hK K
   refine qn (some 40) ?_
   refine last_ (i := 6) (N := none) (bt 7 127) rfl rfl (by kernel_rfl) (by decide) (fun K hK => ?_)
   have hs35 : w33.cell? ⟨gb151, 0, none⟩ = some (.slice Ao30 x152000_4.length co30) := (blk_cell BK151.out 0).trans rfl
   have hfs35 := blk_frozen BK151.out 0
   have hns35_1 := NB152_151.out
   have hms35_1 := NB151_152.out
   have hs37 : w33.cell? ⟨gb151, 1, none⟩ = some (.slice Ao31 x152001_4.length co31) := (blk_cell BK151.out 1).trans rfl
   have hfs37 := blk_frozen BK151.out 1
   have hns37_1 := NB152_151.out
   have hms37_1 := NB151_152.out
   refine qs rfl ?_
   refine hK.out _ _ ?_
   clear hK K
   refine done_ (by kernel_rfl) ?_
   have hnb38 := NB151_152.out
   have hnc38 := NB152_151.out
   obtain ⟨hcz39_0, hcz39_1⟩ := b2 BK151.out
   obtain ⟨hfz39_0, hfz39_1⟩ := f2 BK151.out
   obtain ⟨hcz40_0, hcz40_1⟩ := b2 BK152.out
   obtain ⟨hfz40_0, hfz40_1⟩ := f2 BK152.out
   try go_wp2
   refine bodyPost_ret (results_cell_row rfl _ _ gb152 26 #[.slice Ao34 t162.length co34, .slice Ao36 t165.length co36] (0, 0) _ rfl (bp2 (bf2 (pb BK152.out) NB152_151.out)) Try.underlying26 rfl (by kernel_rfl)) rfl ?_
   exact ⟨_, _, rq ⟨ps (Kd.S_mono (Kd.S_far (p := ⟨gb152, 1, none⟩) (Kd.S_far (p := ⟨gb152, 0, none⟩) (Kd.S_far (p := ⟨gb151, 1, none⟩) (Kd.S_far (p := ⟨gb151, 0, none⟩) (Kd.S_types (Kd.S_types HO164.out BK151.out (by decide)) BK152.out (by decide)) (fun _ hk => hk.1.2) (.slice Ao34 t162.length co34)) (fun _ hk => hk.1.2) (.slice Ao36 t165.length co36)) (fun _ hk => hk.2) (.slice Ao34 t162.length co34)) (fun _ hk => hk.2) (.slice Ao36 t165.length co36)) (fun _ hk => hk.1.1)), pr (Kd.R_mono (Kd.R_far (p := ⟨gb152, 1, none⟩) (Kd.R_far (p := ⟨gb152, 0, none⟩) (Kd.R_far (p := ⟨gb151, 1, none⟩) (Kd.R_far (p := ⟨gb151, 0, none⟩) (Kd.R_types (Kd.R_types HO167.out BK151.out (by decide)) BK152.out (by decide)) (fun _ hk => hk.1.2) (.slice Ao34 t162.length co34)) (fun _ hk => hk.1.2) (.slice Ao36 t165.length co36)) (fun _ hk => hk.2) (.slice Ao34 t162.length co34)) (fun _ hk => hk.2) (.slice Ao36 t165.length co36)) (fun _ hk => hk.1.1)), bg2 HB.out GE151.out GE152.out, kg2 HK.out (.inr GW151.out) (.inr GW152.out)⟩⟩
mutual
def spec_l3Last.l0 : Nat → List (S54) → Int → Int → Int → Int → Int → Int → Option (Int × Int × Int × Int × Bool)
 | 0, _, _, _, _, _, _, _ => none
 | k + 1, x0, x1, x7, x170000, x170001, x170002, x170003 => if x7 < (x0.length : Int) then (spec_l3Last.l1 k x0 x1 x7 0 x170000 x170001 x170002 x170003) else (some (x170000, x170001, x170002, x170003, decide (x170001 > 0)))
def spec_l3Last.l1 : Nat → List (S54) → Int → Int → Int → Int → Int → Int → Int → Option (Int × Int × Int × Int × Bool)
 | 0, _, _, _, _, _, _, _, _ => none
 | k + 1, x0, x1, x7, x8, x170000, x170001, x170002, x170003 => if 0 ≤ x7 then (if x7 < (x0.length : Int) then (if x8 < (((rd_T54 x0 x7).f0).length : Int) then (if 0 ≤ x8 then (if ((rd_T63 ((rd_T54 x0 x7).f0) x8).f0) = 1 then (if ((rd_T63 ((rd_T54 x0 x7).f0) x8).f1.f2) = x1 then (if ((rd_T63 ((rd_T54 x0 x7).f0) x8).f1.f1) > x170001 then (spec_l3Last.l1 k x0 x1 x7 (wrap64 (x8 + 1)) ((rd_T63 ((rd_T54 x0 x7).f0) x8).f1.f0) ((rd_T63 ((rd_T54 x0 x7).f0) x8).f1.f1) ((rd_T63 ((rd_T54 x0 x7).f0) x8).f1.f2) ((rd_T63 ((rd_T54 x0 x7).f0) x8).f1.f3)) else (spec_l3Last.l1 k x0 x1 x7 (wrap64 (x8 + 1)) x170000 x170001 x170002 x170003)) else (spec_l3Last.l1 k x0 x1 x7 (wrap64 (x8 + 1)) x170000 x170001 x170002 x170003)) else (spec_l3Last.l1 k x0 x1 x7 (wrap64 (x8 + 1)) x170000 x170001 x170002 x170003)) else (none)) else (spec_l3Last.l0 k x0 x1 (wrap64 (x7 + 1)) x170000 x170001 x170002 x170003)) else (none)) else (none)
end
def spec_l3Last.f (k : Nat) (l0 : List (S54)) (a1 : Int) : Option (Int × Int × Int × Int × Bool) := spec_l3Last.l0 k l0 a1 0 0 0 0 0
theorem spec_l3Last.mono_l : ∀ k, (∀ y0 y1 y2 y3 y4 y5 y6, LeO (spec_l3Last.l0 k y0 y1 y2 y3 y4 y5 y6) (spec_l3Last.l0 (k + 1) y0 y1 y2 y3 y4 y5 y6)) ∧ (∀ y0 y1 y2 y3 y4 y5 y6 y7, LeO (spec_l3Last.l1 k y0 y1 y2 y3 y4 y5 y6 y7) (spec_l3Last.l1 (k + 1) y0 y1 y2 y3 y4 y5 y6 y7))
 | 0 => ⟨fun _ _ _ _ _ _ _ r h => by simp [spec_l3Last.l0] at h, fun _ _ _ _ _ _ _ _ r h => by simp [spec_l3Last.l1] at h⟩
 | k + 1 => by
  obtain ⟨ih0, ih1⟩ := spec_l3Last.mono_l k
  refine ⟨?_, ?_⟩
  · intro y0 y1 y2 y3 y4 y5 y6
    unfold spec_l3Last.l0
    with_reducible repeat' first | exact ih0 _ _ _ _ _ _ _ | exact ih1 _ _ _ _ _ _ _ _ | exact LeO.refl _ | exact LeO.none _ | refine LeO.ite ?_ ?_ | refine LeO.bind ?_ (fun _ => ?_)
  · intro y0 y1 y2 y3 y4 y5 y6 y7
    unfold spec_l3Last.l1
    with_reducible repeat' first | exact ih0 _ _ _ _ _ _ _ | exact ih1 _ _ _ _ _ _ _ _ | exact LeO.refl _ | exact LeO.none _ | refine LeO.ite ?_ ?_ | refine LeO.bind ?_ (fun _ => ?_)
theorem spec_l3Last.mono : ∀ a0 a1 k, LeO (spec_l3Last.f k a0 a1) (spec_l3Last.f (k + 1) a0 a1) := by
 intro a0 a1 k
 obtain ⟨ih0, ih1⟩ := spec_l3Last.mono_l k
 unfold spec_l3Last.f
 with_reducible repeat' first | exact ih0 _ _ _ _ _ _ _ | exact ih1 _ _ _ _ _ _ _ _ | exact LeO.refl _ | exact LeO.none _ | refine LeO.ite ?_ ?_ | refine LeO.bind ?_ (fun _ => ?_)
set_option maxHeartbeats 8000000 in
set_option maxRecDepth 100000 in
theorem spec_l3Last.calls (k : Nat) (A0 : Option Addr) (c0 : Nat) (l0 : List (S54)) (a1 : Int) (r1 : Int) (r2 : Int) (r3 : Int) (r4 : Int) (r5 : Bool) (w : World) (hr0 : Kd.C k54 w A0 l0.length l0) (hc0 : l0.length ≤ c0) (h : spec_l3Last.f k l0 a1 = some (r1, r2, r3, r4, r5)) :
 Calls Try.prog 22 #[.slice A0 l0.length c0, .int .i64 a1] w fun e w' => e = .returned (.tuple #[.agg #[.int .i64 r1, .int .i64 r2, .int .i64 r3, .int .i64 r4], .bool r5]) ∧ Below w.heap.size w w' := by
 have hu37 := Try.underlying37
 have hu63 := Try.underlying63
 have HR0 := am hr0
 have HC0 := am hc0
 clear hr0 hc0
 have HB := am (Below.refl w.heap.size w)
 have H : (spec_l3Last.l0 k l0 a1 0 0 0 0 0) = some (r1, r2, r3, r4, r5) := h
 clear h
 have H' := am H
 clear H
 go_enter Try.func22, Try.ntmps22
 go_wp2_with (first | (refine bx 4 #[.int .i64 0, .int .i64 0, .int .i64 0, .int .i64 0] 37 rfl ?_; intro gb168 hg w3 hbox hb; have BK168 := am (hbox); have GW168 := am (ge hg (ph HB.out)); have GE168 := GW168; replace HB := am (below_step (ph HB.out) hb); clear hb hbox hg) | (refine bx 6 #[.int .i64 0, .int .i64 0, .int .i64 0, .int .i64 0] 37 rfl ?_; intro gb169 hg w4 hbox hb; have BK169 := am (hbox); have GW169 := am (ge hg (bg1 HB.out GE168.out)); have GE169 := GW169; replace HB := am (below_step (bg1 HB.out GE168.out) hb); have NB168_169 := am (nb hg (pb BK168.out)); have NB169_168 := am (Ne.symm NB168_169.out); replace BK168 := am (blk_below (pb BK168.out) hb); clear hb hbox hg; have hnb5 := NB169_168.out; have hnc5 := NB168_169.out; obtain ⟨hcz6_0, hcz6_1, hcz6_2, hcz6_3⟩ := b4 BK169.out; obtain ⟨hfz6_0, hfz6_1, hfz6_2, hfz6_3⟩ := f4 BK169.out))
 go_loopg [7] k (fun kq v7 w' => ∃ (x7_1 : Int) (x170000_1 : Int) (x170001_1 : Int) (x170002_1 : Int) (x170003_1 : Int), v7 = .int .i64 x7_1 ∧ Aside0 (spec_l3Last.l0 kq l0 a1 x7_1 x170000_1 x170001_1 x170002_1 x170003_1 = some (r1, r2, r3, r4, r5)) ∧ Aside0 (kq ≤ k) ∧ Aside0 (w'.heap[gb168]? = some (.cells #[.int .i64 0, .int .i64 0, .int .i64 0, .int .i64 0] 37 (0, 0))) ∧ Aside0 (w'.heap[gb169]? = some (.cells #[.int .i64 x170000_1, .int .i64 x170001_1, .int .i64 x170002_1, .int .i64 x170003_1] 37 (0, 0))) ∧ Aside0 (Below w.heap.size w w'))
 case atStart => exact ⟨(0), (0), (0), (0), (0), rf, H', ⟨Nat.le_refl _⟩, ⟨bf4 (pb BK168.out) NB168_169.out⟩, ⟨bp4 (pb BK169.out)⟩, ⟨bg2 HB.out GE168.out GE169.out⟩⟩
 case round =>
  clear H'
  obtain ⟨x7_1, x170000_1, x170001_1, x170002_1, x170003_1, rfl, HA, HK1, BK168, BK169, HB⟩ := hrel
  cases gk with
  | zero => exact absurd HA.out (by simp [spec_l3Last.l0])
  | succ k1 =>
   have H := HA.out
   clear HA
   simp only [spec_l3Last.l0] at H
   by_cases c7 : x7_1 < (l0.length : Int)
   rotate_left
   · rw [if_neg c7] at H
     have c7b0 := decide_eq_false c7
     clear c7
     simp only [Option.some.injEq, Prod.mk.injEq] at H
     obtain ⟨rfl, rfl, rfl, rfl, rfl⟩ := H
     try go_wp2
     replace BK168 := am (blk_drew BK168.out)
     replace BK169 := am (blk_drew BK169.out)
     replace HB := am (below_drew1 HB.out)
     refine start_ (n := 6) (S := fun w' => w'.cell? ⟨gb169, 0, none⟩ = some (.int .i64 x170000_1) ∧ w'.cell? ⟨gb169, 1, none⟩ = some (.int .i64 x170001_1) ∧ w'.cell? ⟨gb169, 2, none⟩ = some (.int .i64 x170002_1) ∧ w'.cell? ⟨gb169, 3, none⟩ = some (.int .i64 x170003_1)) (ds := []) (bt 6 0) (by kernel_rfl) rfl rfl ⟨(blk_cell BK169.out 0).trans rfl, (blk_cell BK169.out 1).trans rfl, (blk_cell BK169.out 2).trans rfl, (blk_cell BK169.out 3).trans rfl⟩ (fun hHeld => ?_)
     generalize wr.drew = w35 at BK168 BK169 HB hHeld ⊢
     refine pi_ 1 56 (bt 6 2) rfl rfl (fun _ _ _ h => h) ?_
     refine pm_ 0 55 (bt 6 3) rfl rfl (by kernel_rfl) (fun _ _ _ h => h) hHeld ?_
     refine pm_ 2 57 (bt 6 7) rfl rfl (by kernel_rfl) (fun _ _ _ h => h) hHeld ?_
     refine pi_ 3 58 (bt 6 15) rfl rfl (fun _ _ _ h => h) ?_
     refine one_ (i := 4) (N := none) (bt 6 31) rfl rfl (by kernel_rfl) (by decide) (fun K hK => ?_)
     have hs36 : w35.cell? ⟨gb168, 0, none⟩ = some (.int .i64 0) := (blk_cell BK168.out 0).trans rfl
     have hfs36 := blk_frozen BK168.out 0
     have hns36_1 := NB169_168.out
     have hms36_1 := NB168_169.out
     have hs37 : w35.cell? ⟨gb168, 1, none⟩ = some (.int .i64 0) := (blk_cell BK168.out 1).trans rfl
     have hfs37 := blk_frozen BK168.out 1
     have hns37_1 := NB169_168.out
     have hms37_1 := NB168_169.out
     have hs38 : w35.cell? ⟨gb168, 2, none⟩ = some (.int .i64 0) := (blk_cell BK168.out 2).trans rfl
     have hfs38 := blk_frozen BK168.out 2
     have hns38_1 := NB169_168.out
     have hms38_1 := NB168_169.out
     have hs39 : w35.cell? ⟨gb168, 3, none⟩ = some (.int .i64 0) := (blk_cell BK168.out 3).trans rfl
     have hfs39 := blk_frozen BK168.out 3
     have hns39_1 := NB169_168.out
     have hms39_1 := NB168_169.out
     refine qs rfl ?_
     refine hK.out _ _ ⟨((cell_far (p := ⟨gb168, _, none⟩) NB169_168.out _).trans (((cell_far (p := ⟨gb168, _, none⟩) NB169_168.out _).trans (((cell_far (p := ⟨gb168, _, none⟩) NB169_168.out _).trans (((cell_far (p := ⟨gb168, _, none⟩) NB169_168.out _).trans (hHeld.1)))))))), ((cell_far (p := ⟨gb168, _, none⟩) NB169_168.out _).trans (((cell_far (p := ⟨gb168, _, none⟩) NB169_168.out _).trans (((cell_far (p := ⟨gb168, _, none⟩) NB169_168.out _).trans (((cell_far (p := ⟨gb168, _, none⟩) NB169_168.out _).trans (hHeld.2.1)))))))), ((cell_far (p := ⟨gb168, _, none⟩) NB169_168.out _).trans (((cell_far (p := ⟨gb168, _, none⟩) NB169_168.out _).trans (((cell_far (p := ⟨gb168, _, none⟩) NB169_168.out _).trans (((cell_far (p := ⟨gb168, _, none⟩) NB169_168.out _).trans (hHeld.2.2.1)))))))), ((cell_far (p := ⟨gb168, _, none⟩) NB169_168.out _).trans (((cell_far (p := ⟨gb168, _, none⟩) NB169_168.out _).trans (((cell_far (p := ⟨gb168, _, none⟩) NB169_168.out _).trans (((cell_far (p := ⟨gb168, _, none⟩) NB169_168.out _).trans (hHeld.2.2.2))))))))⟩ (fun hHeld => ?_)
     clear hK K
     refine pi_ 5 5 (bt 6 63) rfl rfl (fun _ _ _ h => h) ?_
     refine done_ (by kernel_rfl) ?_
     try go_wp2
     refine bodyPost_ret (results_ct rfl _ _ gb168 37 #[.int .i64 x170000_1, .int .i64 x170001_1, .int .i64 x170002_1, .int .i64 x170003_1] (0, 0) _ rfl (bp4 (pb BK168.out)) Try.underlying37 rfl (by kernel_rfl)) rfl ?_
     exact (rq (bg2 HB.out GE168.out GE169.out))
   rw [if_pos c7] at H
   have c7b0 := decide_eq_true c7
   clear c7
   have H' := am H
   clear H
   go_wp2
   go_loopg [8] k1 (fun kq v8 w' => ∃ (x8_2 : Int) (x170000_2 : Int) (x170001_2 : Int) (x170002_2 : Int) (x170003_2 : Int), v8 = .int .i64 x8_2 ∧ Aside0 (spec_l3Last.l1 kq l0 a1 x7_1 x8_2 x170000_2 x170001_2 x170002_2 x170003_2 = some (r1, r2, r3, r4, r5)) ∧ Aside0 (kq ≤ k1) ∧ Aside0 (w'.heap[gb168]? = some (.cells #[.int .i64 0, .int .i64 0, .int .i64 0, .int .i64 0] 37 (0, 0))) ∧ Aside0 (w'.heap[gb169]? = some (.cells #[.int .i64 x170000_2, .int .i64 x170001_2, .int .i64 x170002_2, .int .i64 x170003_2] 37 (0, 0))) ∧ Aside0 (Below w.heap.size w w'))
   case atStart => exact ⟨(0), (x170000_1), (x170001_1), (x170002_1), (x170003_1), rf, H', ⟨Nat.le_refl _⟩, ⟨pb BK168.out⟩, ⟨pb BK169.out⟩, ⟨bg2 HB.out GE168.out GE169.out⟩⟩
   case round =>
    clear H'
    obtain ⟨x8_2, x170000_2, x170001_2, x170002_2, x170003_2, rfl, HA, HK2, BK168, BK169, HB⟩ := hrel
    cases gk with
    | zero => exact absurd HA.out (by simp [spec_l3Last.l1])
    | succ k2 =>
     have H := HA.out
     clear HA
     simp only [spec_l3Last.l1] at H
     obtain ⟨c8b0, H⟩ := ifd H
     obtain ⟨c9b0, H⟩ := ifd H
     by_cases c10 : x8_2 < (((rd_T54 l0 x7_1).f0).length : Int)
     rotate_left
     · rw [if_neg c10] at H
       have c10b0 := decide_eq_false c10
       clear c10
       have H' := am H
       clear H
       have p170 : 0 ≤ (x7_1 : Int) := ofb
       have q170 : x7_1 < (l0.length : Int) := ofb
       obtain ⟨ad170, A170_0, c170_0, e170, hx170_0, hx170_1, hl170_0, hi170_0⟩ := at_T54 HR0.out x7_1 p170 q170
       cases e170
       replace hx170_0 := up HB.out hx170_0
       replace hx170_1 := up HB.out hx170_1
       have HR170_0 := am hi170_0
       have HC170_0 := am hl170_0
       clear hi170_0 hl170_0
       replace p170 := eq_true p170
       replace q170 := eq_true q170
       go_wp2
       go_roundg k2
       case measure => have := HK1.out; have := HK2.out; omega
       case rel => exact ⟨(wrap64 (x7_1 + 1)), (x170000_2), (x170001_2), (x170002_2), (x170003_2), rf, H', ⟨by have := HK1.out; have := HK2.out; omega⟩, ⟨pb BK168.out⟩, ⟨pb BK169.out⟩, ⟨bg2 HB.out GE168.out GE169.out⟩⟩
     rw [if_pos c10] at H
     have c10b0 := decide_eq_true c10
     clear c10
     obtain ⟨c11b0, H⟩ := ifd H
     by_cases c12 : ((rd_T63 ((rd_T54 l0 x7_1).f0) x8_2).f0) = 1
     rotate_left
     · rw [if_neg c12] at H
       have c12b0 : (((rd_T63 ((rd_T54 l0 x7_1).f0) x8_2).f0) == 1) = false := beq_eq_false_iff_ne.mpr c12
       have c12b1 : (((rd_T63 ((rd_T54 l0 x7_1).f0) x8_2).f0) != 1) = true := bne_iff_ne.mpr c12
       have H' := am H
       clear H
       have p170 : 0 ≤ (x7_1 : Int) := ofb
       have q170 : x7_1 < (l0.length : Int) := ofb
       obtain ⟨ad170, A170_0, c170_0, e170, hx170_0, hx170_1, hl170_0, hi170_0⟩ := at_T54 HR0.out x7_1 p170 q170
       cases e170
       replace hx170_0 := up HB.out hx170_0
       replace hx170_1 := up HB.out hx170_1
       have HR170_0 := am hi170_0
       have HC170_0 := am hl170_0
       clear hi170_0 hl170_0
       replace p170 := eq_true p170
       replace q170 := eq_true q170
       have p171 : 0 ≤ (x7_1 : Int) := ofb
       have q171 : x7_1 < (l0.length : Int) := ofb
       obtain ⟨ad171, A171_0, c171_0, e171, hx171_0, hx171_1, hl171_0, hi171_0⟩ := at_T54 HR0.out x7_1 p171 q171
       obtain rfl : ad170 = ad171 := (by injection e171)
       replace hx171_0 := up HB.out hx171_0
       replace hx171_1 := up HB.out hx171_1
       have HR171_0 := am hi171_0
       have HC171_0 := am hl171_0
       clear hi171_0 hl171_0
       replace p171 := eq_true p171
       replace q171 := eq_true q171
       have ea_ := Option.some.inj (hx170_0.symm.trans hx171_0)
       injection ea_ with ea_ en_ ec_
       subst ea_
       subst ec_
       clear en_
       have p172 : 0 ≤ (x8_2 : Int) := ofb
       have q172 : x8_2 < (((rd_T54 l0 x7_1).f0).length : Int) := ofb
       obtain ⟨ad172, e172, hx172_0, hx172_1, hx172_2, hx172_3, hx172_4⟩ := at_T63 HR171_0.out x8_2 p172 q172
       cases e172
       replace hx172_0 := up HB.out hx172_0
       replace hx172_1 := up HB.out hx172_1
       replace hx172_2 := up HB.out hx172_2
       replace hx172_3 := up HB.out hx172_3
       replace hx172_4 := up HB.out hx172_4
       replace p172 := eq_true p172
       replace q172 := eq_true q172
       go_wp2_with (first | (refine bx 9 #[.int .i64 0, .int .i64 0, .int .i64 0, .int .i64 0, .int .i64 0] 63 rfl ?_; intro gb173 hg w31 hbox hb; have BK173 := am (hbox); have GW173 := am (ge hg (bg2 HB.out GE168.out GE169.out)); have GE173 := GW173; replace HB := am (below_step (bg2 HB.out GE168.out GE169.out) hb); have NB168_173 := am (nb hg (pb BK168.out)); have NB173_168 := am (Ne.symm NB168_173.out); replace BK168 := am (blk_below (pb BK168.out) hb); have NB169_173 := am (nb hg (pb BK169.out)); have NB173_169 := am (Ne.symm NB169_173.out); replace BK169 := am (blk_below (pb BK169.out) hb); clear hb hbox hg; have hnb32 := NB173_168.out; have hnc32 := NB168_173.out; have hnb33 := NB173_169.out; have hnc33 := NB169_173.out; obtain ⟨hcz34_0, hcz34_1, hcz34_2, hcz34_3, hcz34_4⟩ := b5 BK173.out; obtain ⟨hfz34_0, hfz34_1, hfz34_2, hfz34_3, hfz34_4⟩ := f5 BK173.out))
       go_roundg k2
       case measure => have := HK1.out; have := HK2.out; omega
       case rel => exact ⟨(wrap64 (x8_2 + 1)), (x170000_2), (x170001_2), (x170002_2), (x170003_2), rf, H', ⟨by have := HK1.out; have := HK2.out; omega⟩, ⟨bf5 (pb BK168.out) NB168_173.out⟩, ⟨bf5 (pb BK169.out) NB169_173.out⟩, ⟨bg3 HB.out GE168.out GE169.out GE173.out⟩⟩
     rw [if_pos c12] at H
     have c12b0 : (((rd_T63 ((rd_T54 l0 x7_1).f0) x8_2).f0) == 1) = true := beq_iff_eq.mpr c12
     have c12b1 : (((rd_T63 ((rd_T54 l0 x7_1).f0) x8_2).f0) != 1) = false := bne_eq_false_iff_eq.mpr c12
     clear c12
     by_cases c13 : ((rd_T63 ((rd_T54 l0 x7_1).f0) x8_2).f1.f2) = a1
     rotate_left
     · rw [if_neg c13] at H
       have c13b0 : (((rd_T63 ((rd_T54 l0 x7_1).f0) x8_2).f1.f2) == a1) = false := beq_eq_false_iff_ne.mpr c13
       have c13b1 : (((rd_T63 ((rd_T54 l0 x7_1).f0) x8_2).f1.f2) != a1) = true := bne_iff_ne.mpr c13
       have H' := am H
       clear H
       have p170 : 0 ≤ (x7_1 : Int) := ofb
       have q170 : x7_1 < (l0.length : Int) := ofb
       obtain ⟨ad170, A170_0, c170_0, e170, hx170_0, hx170_1, hl170_0, hi170_0⟩ := at_T54 HR0.out x7_1 p170 q170
       cases e170
       replace hx170_0 := up HB.out hx170_0
       replace hx170_1 := up HB.out hx170_1
       have HR170_0 := am hi170_0
       have HC170_0 := am hl170_0
       clear hi170_0 hl170_0
       replace p170 := eq_true p170
       replace q170 := eq_true q170
       have p171 : 0 ≤ (x7_1 : Int) := ofb
       have q171 : x7_1 < (l0.length : Int) := ofb
       obtain ⟨ad171, A171_0, c171_0, e171, hx171_0, hx171_1, hl171_0, hi171_0⟩ := at_T54 HR0.out x7_1 p171 q171
       obtain rfl : ad170 = ad171 := (by injection e171)
       replace hx171_0 := up HB.out hx171_0
       replace hx171_1 := up HB.out hx171_1
       have HR171_0 := am hi171_0
       have HC171_0 := am hl171_0
       clear hi171_0 hl171_0
       replace p171 := eq_true p171
       replace q171 := eq_true q171
       have ea_ := Option.some.inj (hx170_0.symm.trans hx171_0)
       injection ea_ with ea_ en_ ec_
       subst ea_
       subst ec_
       clear en_
       have p172 : 0 ≤ (x8_2 : Int) := ofb
       have q172 : x8_2 < (((rd_T54 l0 x7_1).f0).length : Int) := ofb
       obtain ⟨ad172, e172, hx172_0, hx172_1, hx172_2, hx172_3, hx172_4⟩ := at_T63 HR171_0.out x8_2 p172 q172
       cases e172
       replace hx172_0 := up HB.out hx172_0
       replace hx172_1 := up HB.out hx172_1
       replace hx172_2 := up HB.out hx172_2
       replace hx172_3 := up HB.out hx172_3
       replace hx172_4 := up HB.out hx172_4
       replace p172 := eq_true p172
       replace q172 := eq_true q172
       go_wp2_with (first | (refine bx 9 #[.int .i64 0, .int .i64 0, .int .i64 0, .int .i64 0, .int .i64 0] 63 rfl ?_; intro gb173 hg w27 hbox hb; have BK173 := am (hbox); have GW173 := am (ge hg (bg2 HB.out GE168.out GE169.out)); have GE173 := GW173; replace HB := am (below_step (bg2 HB.out GE168.out GE169.out) hb); have NB168_173 := am (nb hg (pb BK168.out)); have NB173_168 := am (Ne.symm NB168_173.out); replace BK168 := am (blk_below (pb BK168.out) hb); have NB169_173 := am (nb hg (pb BK169.out)); have NB173_169 := am (Ne.symm NB169_173.out); replace BK169 := am (blk_below (pb BK169.out) hb); clear hb hbox hg; have hnb28 := NB173_168.out; have hnc28 := NB168_173.out; have hnb29 := NB173_169.out; have hnc29 := NB169_173.out; obtain ⟨hcz30_0, hcz30_1, hcz30_2, hcz30_3, hcz30_4⟩ := b5 BK173.out; obtain ⟨hfz30_0, hfz30_1, hfz30_2, hfz30_3, hfz30_4⟩ := f5 BK173.out))
       go_roundg k2
       case measure => have := HK1.out; have := HK2.out; omega
       case rel => exact ⟨(wrap64 (x8_2 + 1)), (x170000_2), (x170001_2), (x170002_2), (x170003_2), rf, H', ⟨by have := HK1.out; have := HK2.out; omega⟩, ⟨bf5 (pb BK168.out) NB168_173.out⟩, ⟨bf5 (pb BK169.out) NB169_173.out⟩, ⟨bg3 HB.out GE168.out GE169.out GE173.out⟩⟩
     rw [if_pos c13] at H
     have c13b0 : (((rd_T63 ((rd_T54 l0 x7_1).f0) x8_2).f1.f2) == a1) = true := beq_iff_eq.mpr c13
     have c13b1 : (((rd_T63 ((rd_T54 l0 x7_1).f0) x8_2).f1.f2) != a1) = false := bne_eq_false_iff_eq.mpr c13
     clear c13
     by_cases c14 : ((rd_T63 ((rd_T54 l0 x7_1).f0) x8_2).f1.f1) > x170001_2
     rotate_left
     · rw [if_neg c14] at H
       have c14b0 := decide_eq_false c14
       clear c14
       have H' := am H
       clear H
       have p170 : 0 ≤ (x7_1 : Int) := ofb
       have q170 : x7_1 < (l0.length : Int) := ofb
       obtain ⟨ad170, A170_0, c170_0, e170, hx170_0, hx170_1, hl170_0, hi170_0⟩ := at_T54 HR0.out x7_1 p170 q170
       cases e170
       replace hx170_0 := up HB.out hx170_0
       replace hx170_1 := up HB.out hx170_1
       have HR170_0 := am hi170_0
       have HC170_0 := am hl170_0
       clear hi170_0 hl170_0
       replace p170 := eq_true p170
       replace q170 := eq_true q170
       have p171 : 0 ≤ (x7_1 : Int) := ofb
       have q171 : x7_1 < (l0.length : Int) := ofb
       obtain ⟨ad171, A171_0, c171_0, e171, hx171_0, hx171_1, hl171_0, hi171_0⟩ := at_T54 HR0.out x7_1 p171 q171
       obtain rfl : ad170 = ad171 := (by injection e171)
       replace hx171_0 := up HB.out hx171_0
       replace hx171_1 := up HB.out hx171_1
       have HR171_0 := am hi171_0
       have HC171_0 := am hl171_0
       clear hi171_0 hl171_0
       replace p171 := eq_true p171
       replace q171 := eq_true q171
       have ea_ := Option.some.inj (hx170_0.symm.trans hx171_0)
       injection ea_ with ea_ en_ ec_
       subst ea_
       subst ec_
       clear en_
       have p172 : 0 ≤ (x8_2 : Int) := ofb
       have q172 : x8_2 < (((rd_T54 l0 x7_1).f0).length : Int) := ofb
       obtain ⟨ad172, e172, hx172_0, hx172_1, hx172_2, hx172_3, hx172_4⟩ := at_T63 HR171_0.out x8_2 p172 q172
       cases e172
       replace hx172_0 := up HB.out hx172_0
       replace hx172_1 := up HB.out hx172_1
       replace hx172_2 := up HB.out hx172_2
       replace hx172_3 := up HB.out hx172_3
       replace hx172_4 := up HB.out hx172_4
       replace p172 := eq_true p172
       replace q172 := eq_true q172
       go_wp2_with (first | (refine bx 9 #[.int .i64 0, .int .i64 0, .int .i64 0, .int .i64 0, .int .i64 0] 63 rfl ?_; intro gb173 hg w21 hbox hb; have BK173 := am (hbox); have GW173 := am (ge hg (bg2 HB.out GE168.out GE169.out)); have GE173 := GW173; replace HB := am (below_step (bg2 HB.out GE168.out GE169.out) hb); have NB168_173 := am (nb hg (pb BK168.out)); have NB173_168 := am (Ne.symm NB168_173.out); replace BK168 := am (blk_below (pb BK168.out) hb); have NB169_173 := am (nb hg (pb BK169.out)); have NB173_169 := am (Ne.symm NB169_173.out); replace BK169 := am (blk_below (pb BK169.out) hb); clear hb hbox hg; have hnb22 := NB173_168.out; have hnc22 := NB168_173.out; have hnb23 := NB173_169.out; have hnc23 := NB169_173.out; obtain ⟨hcz24_0, hcz24_1, hcz24_2, hcz24_3, hcz24_4⟩ := b5 BK173.out; obtain ⟨hfz24_0, hfz24_1, hfz24_2, hfz24_3, hfz24_4⟩ := f5 BK173.out; have hnb25 := NB169_168.out; have hnc25 := NB168_169.out; obtain ⟨hcz26_0, hcz26_1, hcz26_2, hcz26_3⟩ := b4 BK169.out; obtain ⟨hfz26_0, hfz26_1, hfz26_2, hfz26_3⟩ := f4 BK169.out))
       go_roundg k2
       case measure => have := HK1.out; have := HK2.out; omega
       case rel => exact ⟨(wrap64 (x8_2 + 1)), (x170000_2), (x170001_2), (x170002_2), (x170003_2), rf, H', ⟨by have := HK1.out; have := HK2.out; omega⟩, ⟨bf5 (pb BK168.out) NB168_173.out⟩, ⟨bf5 (pb BK169.out) NB169_173.out⟩, ⟨bg3 HB.out GE168.out GE169.out GE173.out⟩⟩
     rw [if_pos c14] at H
     have c14b0 := decide_eq_true c14
     clear c14
     have H' := am H
     clear H
     have p170 : 0 ≤ (x7_1 : Int) := ofb
     have q170 : x7_1 < (l0.length : Int) := ofb
     obtain ⟨ad170, A170_0, c170_0, e170, hx170_0, hx170_1, hl170_0, hi170_0⟩ := at_T54 HR0.out x7_1 p170 q170
     cases e170
     replace hx170_0 := up HB.out hx170_0
     replace hx170_1 := up HB.out hx170_1
     have HR170_0 := am hi170_0
     have HC170_0 := am hl170_0
     clear hi170_0 hl170_0
     replace p170 := eq_true p170
     replace q170 := eq_true q170
     have p171 : 0 ≤ (x7_1 : Int) := ofb
     have q171 : x7_1 < (l0.length : Int) := ofb
     obtain ⟨ad171, A171_0, c171_0, e171, hx171_0, hx171_1, hl171_0, hi171_0⟩ := at_T54 HR0.out x7_1 p171 q171
     obtain rfl : ad170 = ad171 := (by injection e171)
     replace hx171_0 := up HB.out hx171_0
     replace hx171_1 := up HB.out hx171_1
     have HR171_0 := am hi171_0
     have HC171_0 := am hl171_0
     clear hi171_0 hl171_0
     replace p171 := eq_true p171
     replace q171 := eq_true q171
     have ea_ := Option.some.inj (hx170_0.symm.trans hx171_0)
     injection ea_ with ea_ en_ ec_
     subst ea_
     subst ec_
     clear en_
     have p172 : 0 ≤ (x8_2 : Int) := ofb
     have q172 : x8_2 < (((rd_T54 l0 x7_1).f0).length : Int) := ofb
     obtain ⟨ad172, e172, hx172_0, hx172_1, hx172_2, hx172_3, hx172_4⟩ := at_T63 HR171_0.out x8_2 p172 q172
     cases e172
     replace hx172_0 := up HB.out hx172_0
     replace hx172_1 := up HB.out hx172_1
     replace hx172_2 := up HB.out hx172_2
     replace hx172_3 := up HB.out hx172_3
     replace hx172_4 := up HB.out hx172_4
     replace p172 := eq_true p172
     replace q172 := eq_true q172
     go_wp2_with (first | (refine bx 9 #[.int .i64 0, .int .i64 0, .int .i64 0, .int .i64 0, .int .i64 0] 63 rfl ?_; intro gb173 hg w15 hbox hb; have BK173 := am (hbox); have GW173 := am (ge hg (bg2 HB.out GE168.out GE169.out)); have GE173 := GW173; replace HB := am (below_step (bg2 HB.out GE168.out GE169.out) hb); have NB168_173 := am (nb hg (pb BK168.out)); have NB173_168 := am (Ne.symm NB168_173.out); replace BK168 := am (blk_below (pb BK168.out) hb); have NB169_173 := am (nb hg (pb BK169.out)); have NB173_169 := am (Ne.symm NB169_173.out); replace BK169 := am (blk_below (pb BK169.out) hb); clear hb hbox hg; have hnb16 := NB173_168.out; have hnc16 := NB168_173.out; have hnb17 := NB173_169.out; have hnc17 := NB169_173.out; obtain ⟨hcz18_0, hcz18_1, hcz18_2, hcz18_3, hcz18_4⟩ := b5 BK173.out; obtain ⟨hfz18_0, hfz18_1, hfz18_2, hfz18_3, hfz18_4⟩ := f5 BK173.out; have hnb19 := NB169_168.out; have hnc19 := NB168_169.out; obtain ⟨hcz20_0, hcz20_1, hcz20_2, hcz20_3⟩ := b4 BK169.out; obtain ⟨hfz20_0, hfz20_1, hfz20_2, hfz20_3⟩ := f4 BK169.out))
     go_roundg k2
     case measure => have := HK1.out; have := HK2.out; omega
     case rel => exact ⟨(wrap64 (x8_2 + 1)), ((rd_T63 ((rd_T54 l0 x7_1).f0) x8_2).f1.f0), ((rd_T63 ((rd_T54 l0 x7_1).f0) x8_2).f1.f1), ((rd_T63 ((rd_T54 l0 x7_1).f0) x8_2).f1.f2), ((rd_T63 ((rd_T54 l0 x7_1).f0) x8_2).f1.f3), rf, H', ⟨by have := HK1.out; have := HK2.out; omega⟩, ⟨bf4 (bf5 (pb BK168.out) NB168_173.out) NB168_169.out⟩, ⟨bp4 (bf5 (pb BK169.out) NB169_173.out)⟩, ⟨bg3 HB.out GE168.out GE169.out GE173.out⟩⟩
end Go.Proofs.Ytghmnlcmhpdcaaa.R5
