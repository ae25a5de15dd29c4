-- printed by wip/pp/pp.py
import Derived.Test.YtfijfkbdedcnfaaR40
import Derived.Test.YtfijfkbdedcnfaaR41
import Derived.Test.YtfijfkbdedcnfaaR42
namespace Go.Proofs.Ytfijfkbdedcnfaa.R4
open Go.RowKit Go.Proofs.YtfijfkbdedcnfaaW.PrintWords Go.Proofs.YtfijfkbdedcnfaaW.PrintLast Go.Proofs.YtfijfkbdedcnfaaW.PrintMore
attribute [local go_sem] max2_int min2_int max_two min_two max_three min_three max_four min_four
set_option linter.unusedVariables false
set_option linter.unusedSimpArgs false
mutual
def spec_l12To.j1 : Nat → List (S75) → Int → Bool → List (S33) → List Int → Option ((List (S33)) × List Int)
 | 0, _, _, _, _, _ => none
 | k + 1, x1, x2, x3, x152000, x152001 => if x3 = true then ((spec_l6In.f x2 0 (wrap64 ((x1.length : Int) - 1))).bind fun t160 => (if t160 = true then (if 0 ≤ x2 then (if x2 < (x1.length : Int) then ((spec_l12Do.f k x152000 x152001 ((rd_T75 x1 x2).f0) ((rd_T75 x1 x2).f1) ((rd_T75 x1 x2).f2) ((rd_T75 x1 x2).f3) ((rd_T75 x1 x2).f4.f0) ((rd_T75 x1 x2).f4.f1) ((rd_T75 x1 x2).f4.f2) ((rd_T75 x1 x2).f4.f3) true).bind fun bt162 => (some (bt162.1, bt162.2))) else (none)) else (none)) else (some (x152000, x152001)))) else (some (x152000, x152001))
def spec_l12To.l0 : Nat → List (S75) → Int → Bool → Int → List (S33) → List Int → Option ((List (S33)) × List Int)
 | 0, _, _, _, _, _, _ => none
 | k + 1, x1, x2, x3, x9, x152000, x152001 => if x9 < (x1.length : Int) then (if x9 < x2 then (if 0 ≤ x9 then ((spec_l12Do.f k x152000 x152001 ((rd_T75 x1 x9).f0) ((rd_T75 x1 x9).f1) ((rd_T75 x1 x9).f2) ((rd_T75 x1 x9).f3) ((rd_T75 x1 x9).f4.f0) ((rd_T75 x1 x9).f4.f1) ((rd_T75 x1 x9).f4.f2) ((rd_T75 x1 x9).f4.f3) false).bind fun bt154 => (spec_l12To.l0 k x1 x2 x3 (wrap64 (x9 + 1)) bt154.1 bt154.2)) else (none)) else (spec_l12To.j1 k x1 x2 x3 x152000 x152001)) else (spec_l12To.j1 k x1 x2 x3 x152000 x152001)
end
def spec_l12To.f (k : Nat) (l0_0 : List (S33)) (l0_1 : List Int) (l1 : List (S75)) (a2 : Int) (a3 : Bool) : Option ((List (S33)) × List Int) := spec_l12To.l0 k l1 a2 a3 0 l0_0 l0_1
theorem spec_l12To.mono_l : ∀ k, (∀ y0 y1 y2 y3 y4, LeO (spec_l12To.j1 k y0 y1 y2 y3 y4) (spec_l12To.j1 (k + 1) y0 y1 y2 y3 y4)) ∧ (∀ y0 y1 y2 y3 y4 y5, LeO (spec_l12To.l0 k y0 y1 y2 y3 y4 y5) (spec_l12To.l0 (k + 1) y0 y1 y2 y3 y4 y5))
 | 0 => ⟨fun _ _ _ _ _ r h => by simp [spec_l12To.j1] at h, fun _ _ _ _ _ _ r h => by simp [spec_l12To.l0] at h⟩
 | k + 1 => by
  obtain ⟨ih0, ih1⟩ := spec_l12To.mono_l k
  refine ⟨?_, ?_⟩
  · intro y0 y1 y2 y3 y4
    unfold spec_l12To.j1
    with_reducible repeat' first | exact ih0 _ _ _ _ _ | exact ih1 _ _ _ _ _ _ | exact spec_l12Do.mono _ _ _ _ _ _ _ _ _ _ _ _ | exact LeO.refl _ | exact LeO.none _ | refine LeO.ite ?_ ?_ | refine LeO.bind ?_ (fun _ => ?_)
  · intro y0 y1 y2 y3 y4 y5
    unfold spec_l12To.l0
    with_reducible repeat' first | exact ih0 _ _ _ _ _ | exact ih1 _ _ _ _ _ _ | exact spec_l12Do.mono _ _ _ _ _ _ _ _ _ _ _ _ | exact LeO.refl _ | exact LeO.none _ | refine LeO.ite ?_ ?_ | refine LeO.bind ?_ (fun _ => ?_)
theorem spec_l12To.mono : ∀ a0 a1 a2 a3 a4 k, LeO (spec_l12To.f k a0 a1 a2 a3 a4) (spec_l12To.f (k + 1) a0 a1 a2 a3 a4) := by
 intro a0 a1 a2 a3 a4 k
 obtain ⟨ih0, ih1⟩ := spec_l12To.mono_l k
 unfold spec_l12To.f
 with_reducible repeat' first | exact ih0 _ _ _ _ _ | exact ih1 _ _ _ _ _ _ | exact spec_l12Do.mono _ _ _ _ _ _ _ _ _ _ _ _ | exact LeO.refl _ | exact LeO.none _ | refine LeO.ite ?_ ?_ | refine LeO.bind ?_ (fun _ => ?_)
set_option maxHeartbeats 8000000 in
set_option maxRecDepth 100000 in
theorem spec_l12To.calls (k : Nat) (P0_0_ : Nat → Prop) (u9000_ : Value) (l0_0 : List (S33)) (P0_1_ : Nat → Prop) (u9001_ : Value) (l0_1 : List Int) (A1 : Option Addr) (c1 : Nat) (l1 : List (S75)) (a2 : Int) (a3 : Bool) (r1 : List (S33)) (r2 : List Int) (w0 w : World) (hB : Below w0.heap.size w0 w) (ho0_0 : Kd.S k33 33 w w0.heap.size P0_0_ u9000_ l0_0) (ho0_1 : Kd.R (Kd.int .i64) 3 w w0.heap.size P0_1_ u9001_ l0_1) (hr1 : ∀ W_, Kept w W_ (fun k_ => P0_0_ k_ ∨ P0_1_ k_) → Kd.C k75 W_ A1 l1.length l1) (hc1 : l1.length ≤ c1) (h : spec_l12To.f k l0_0 l0_1 l1 a2 a3 = some (r1, r2)) :
 Calls Try.prog 29 #[.agg #[u9000_, u9001_], .slice A1 l1.length c1, .int .i64 a2, .bool a3] w fun e w' => ∃ v0_ v1_ : Value, e = .returned (.agg #[v0_, v1_]) ∧ Kd.S k33 33 w' w0.heap.size (fun k_ => ((P0_0_ k_ ∨ P0_1_ k_) ∨ w.heap.size ≤ k_)) v0_ r1 ∧ Kd.R (Kd.int .i64) 3 w' w0.heap.size (fun k_ => ((P0_0_ k_ ∨ P0_1_ k_) ∨ w.heap.size ≤ k_)) v1_ r2 ∧ Below w0.heap.size w0 w' ∧ Kept w w' (fun k_ => P0_0_ k_ ∨ P0_1_ k_) := by
 have hu51 := Try.underlying51
 have hu75 := Try.underlying75
 have HO0_0 := am (show Kd.S k33 33 w w0.heap.size (fun k_ => ((P0_0_ k_ ∨ P0_1_ k_) ∨ w.heap.size ≤ k_)) u9000_ l0_0 from Kd.S_mono ho0_0 (fun k_ hk => (.inl (.inl hk))))
 have HO0_1 := am (show Kd.R (Kd.int .i64) 3 w w0.heap.size (fun k_ => ((P0_0_ k_ ∨ P0_1_ k_) ∨ w.heap.size ≤ k_)) u9001_ l0_1 from Kd.R_mono ho0_1 (fun k_ hk => (.inl (.inr hk))))
 have HR1 := am hr1
 have HC1 := am hc1
 clear hr1 hc1
 have HK := am (Kept.refl w (fun k_ => P0_0_ k_ ∨ P0_1_ k_))
 have HW0 := am hB.size
 have HB := am hB
 clear hB
 have H : (spec_l12To.l0 k l1 a2 a3 0 l0_0 l0_1) = some (r1, r2) := h
 clear h
 have HC5 := am H
 clear H
 obtain ⟨Ao6, co6, eo6⟩ := Kd.S_slice HO0_0.out
 subst eo6
 obtain ⟨Ao7, co7, eo7⟩ := Kd.R_slice HO0_1.out
 subst eo7
 go_enter Try.func29, Try.ntmps29
 go_upto_block 0 with (first | ((with_reducible refine gate_dst (N := 4) rfl ?_); (try (refine gate_guard (by rfl) ?_; dsimp only)); refine box_event ?hg (N := 4) ?hd (cs := #[.slice Ao6 l0_0.length co6, .slice Ao7 l0_1.length co7]) (t := 51) ?hr ?_; (case hd => rfl); (case hg => rfl); (case hr => first | (go_simp; done) | (go_simp; rfl)); intro gb151 hg w8 hbox hb; replace HO0_0 := am (Kd.S_below (ps HO0_0.out) hb); replace HO0_1 := am (Kd.R_below (pr HO0_1.out) hb); have BK151 := am (hbox); have GW151 := am (gw hg (pk HK.out)); replace HK := am (Kept.below (pk HK.out) hb); have GE151 := am (ge hg (ph HB.out)); replace HB := am (below_step (ph HB.out) hb); clear hb hbox hg) | ((with_reducible refine gate_dst (N := 8) rfl ?_); (try (refine gate_guard (by rfl) ?_; dsimp only)); refine box_event ?hg (N := 8) ?hd (cs := #[.slice none 0 0, .slice none 0 0]) (t := 51) ?hr ?_; (case hd => rfl); (case hg => rfl); (case hr => first | (go_simp; done) | (go_simp; rfl)); intro gb152 hg w9 hbox hb; replace HO0_0 := am (Kd.S_below (ps HO0_0.out) hb); replace HO0_1 := am (Kd.R_below (pr HO0_1.out) hb); have BK152 := am (hbox); have GW152 := am (gw hg (kg1 HK.out (.inr GW151.out))); replace HK := am (Kept.below (kg1 HK.out (.inr GW151.out)) hb); have GE152 := am (ge hg (bg1 HB.out GE151.out)); replace HB := am (below_step (bg1 HB.out GE151.out) hb); have NB151_152 := am (nb hg (pb BK151.out)); have NB152_151 := am (Ne.symm NB151_152.out); replace BK151 := am (blk_below (pb BK151.out) hb); clear hb hbox hg))
 (try simp only [Act.put, List.setIfInBounds_toArray, List.set_cons_zero, List.set_cons_succ])
 go_cut [] (fun wc => ∃ (kq : Nat) (x152000_4 : List (S33)) (x152001_4 : List Int) (u152000 : Value) (u152001 : Value), Aside0 (spec_l12To.j1 kq l1 a2 a3 x152000_4 x152001_4 = some (r1, r2)) ∧ Aside0 (kq ≤ k) ∧ Aside0 (Kd.S k33 33 wc w0.heap.size (fun k_ => ((P0_0_ k_ ∨ P0_1_ k_) ∨ w.heap.size ≤ k_)) u152000 x152000_4) ∧ Aside0 (Kd.R (Kd.int .i64) 3 wc w0.heap.size (fun k_ => ((P0_0_ k_ ∨ P0_1_ k_) ∨ w.heap.size ≤ k_)) u152001 x152001_4) ∧ Aside0 (wc.heap[gb151]? = some (.cells #[u152000, u152001] 51 (0, 0))) ∧ Aside0 (wc.heap[gb152]? = some (.cells #[(.slice none 0 0), (.slice none 0 0)] 51 (0, 0))) ∧ Aside0 (Kept w wc (fun k_ => P0_0_ k_ ∨ P0_1_ k_)) ∧ Aside0 (Below w0.heap.size w0 wc))
 case first =>
  have H := HC5.out
  clear HC5
  have H' := am H
  clear H
  go_wp2
  go_loopg [9] k (fun kq v9 w' => ∃ (x9_1 : Int) (x152000_1 : List (S33)) (x152001_1 : List Int) (u152000 : Value) (u152001 : Value), v9 = .int .i64 x9_1 ∧ Aside0 (spec_l12To.l0 kq l1 a2 a3 x9_1 x152000_1 x152001_1 = some (r1, r2)) ∧ Aside0 (kq ≤ k) ∧ Aside0 (Kd.S k33 33 w' w0.heap.size (fun k_ => ((P0_0_ k_ ∨ P0_1_ k_) ∨ w.heap.size ≤ k_)) u152000 x152000_1) ∧ Aside0 (Kd.R (Kd.int .i64) 3 w' w0.heap.size (fun k_ => ((P0_0_ k_ ∨ P0_1_ k_) ∨ w.heap.size ≤ k_)) u152001 x152001_1) ∧ Aside0 (w'.heap[gb151]? = some (.cells #[u152000, u152001] 51 (0, 0))) ∧ Aside0 (w'.heap[gb152]? = some (.cells #[(.slice none 0 0), (.slice none 0 0)] 51 (0, 0))) ∧ Aside0 (Kept w w' (fun k_ => P0_0_ k_ ∨ P0_1_ k_)) ∧ Aside0 (Below w0.heap.size w0 w'))
  case atStart => exact ⟨(0), (l0_0), (l0_1), (.slice Ao6 l0_0.length co6), (.slice Ao7 l0_1.length co7), rf, H', ⟨Nat.le_refl _⟩, ⟨ps HO0_0.out⟩, ⟨pr HO0_1.out⟩, ⟨pb BK151.out⟩, ⟨pb BK152.out⟩, ⟨kg2 HK.out (.inr GW151.out) (.inr GW152.out)⟩, ⟨bg2 HB.out GE151.out GE152.out⟩⟩
  case round =>
   clear H'
   obtain ⟨x9_1, x152000_1, x152001_1, u152000, u152001, rfl, HA, HK1, HO_152000, HO_152001, BK151, BK152, HK, HB⟩ := hrel
   cases gk with
   | zero => exact absurd HA.out (by simp [spec_l12To.l0])
   | succ k1 =>
    have H := HA.out
    clear HA
    simp only [spec_l12To.l0] at H
    by_cases c10 : x9_1 < (l1.length : Int)
    rotate_left
    · rw [if_neg c10] at H
      have c10b0 := decide_eq_false c10
      clear c10
      (first | rw [c10b0] | (simp only [i64_w, i32_w]; rw [c10b0]) | skip)
      have H' := am H
      clear H
      go_wp2
      go_meet
      case rel => exact ⟨_, (x152000_1), (x152001_1), (u152000), (u152001), H', ⟨by have := HK1.out; first | omega | exact Nat.le_refl _⟩, ⟨ps HO_152000.out⟩, ⟨pr HO_152001.out⟩, ⟨pb BK151.out⟩, ⟨pb BK152.out⟩, ⟨kg2 HK.out (.inr GW151.out) (.inr GW152.out)⟩, ⟨bg2 HB.out GE151.out GE152.out⟩⟩
    rw [if_pos c10] at H
    have c10b0 := decide_eq_true c10
    clear c10
    (first | rw [c10b0] | (simp only [i64_w, i32_w]; rw [c10b0]) | skip)
    by_cases c11 : x9_1 < a2
    rotate_left
    · rw [if_neg c11] at H
      have c11b0 := decide_eq_false c11
      clear c11
      have H' := am H
      clear H
      go_wp2
      go_meet
      case rel => exact ⟨_, (x152000_1), (x152001_1), (u152000), (u152001), H', ⟨by have := HK1.out; first | omega | exact Nat.le_refl _⟩, ⟨ps HO_152000.out⟩, ⟨pr HO_152001.out⟩, ⟨pb BK151.out⟩, ⟨pb BK152.out⟩, ⟨kg2 HK.out (.inr GW151.out) (.inr GW152.out)⟩, ⟨bg2 HB.out GE151.out GE152.out⟩⟩
    rw [if_pos c11] at H
    have c11b0 := decide_eq_true c11
    clear c11
    obtain ⟨c12b0, H⟩ := ifd H
    replace H := Option.bind_eq_some_iff.mp H
    obtain ⟨⟨t154, t157⟩, A130, H⟩ := H
    have A13 := am A130
    clear A130
    have H' := am H
    clear H
    try go_wp2
    replace HO_152000 := am (Kd.S_drew HO_152000.out)
    replace HO_152001 := am (Kd.R_drew HO_152001.out)
    replace BK151 := am (blk_drew BK151.out)
    replace BK152 := am (blk_drew BK152.out)
    replace HK := am (Kept.drew HK.out)
    replace HB := am (below_drew1 HB.out)
    have p153 : 0 ≤ (x9_1 : Int) := ofb
    have q153 : x9_1 < (l1.length : Int) := ofb
    obtain ⟨ad153, e153, hx153_0, hx153_1, hx153_2, hx153_3, hx153_4, hx153_5, hx153_6, hx153_7⟩ := at_T75 (Kd.C_kept_now HR1.out HK.out) x9_1 p153 q153
    have hw153_7 := hx153_7
    have hw153_6 := hx153_6
    have hw153_5 := hx153_5
    have hw153_4 := hx153_4
    have hw153_3 := hx153_3
    have hw153_2 := hx153_2
    have hw153_1 := hx153_1
    have hw153_0 := hx153_0
    cases e153
    replace p153 := eq_true p153
    replace q153 := eq_true q153
    obtain ⟨Ao15, co15, eo15⟩ := Kd.S_slice HO_152000.out
    (first | subst eo15 | (injection eo15 with f1_ f2_ f3_; have f4_ := f1_.symm; have f5_ := f3_.symm; clear f1_ f2_ f3_; subst f4_; subst f5_))
    obtain ⟨Ao16, co16, eo16⟩ := Kd.R_slice HO_152001.out
    (first | subst eo16 | (injection eo16 with f1_ f2_ f3_; have f4_ := f1_.symm; have f5_ := f3_.symm; clear f1_ f2_ f3_; subst f4_; subst f5_))
    obtain ⟨PXh17, hxa_, hxb_⟩ := Kd.S_hand HO_152000.out
    have HXAh17 := am hxa_
    have HXBh17 := am hxb_
    clear hxa_ hxb_
    refine start_ (n := 7) (S := fun w' => w'.cell? ⟨gb151, 0, none⟩ = some (.slice Ao15 x152000_1.length co15) ∧ w'.cell? ⟨gb151, 1, none⟩ = some (.slice Ao16 x152001_1.length co16) ∧ w'.cell? (ad153.add ((x9_1).toNat * 8)) = some (.int .i64 ((rd_T75 l1 x9_1).f0)) ∧ w'.cell? ⟨(ad153.add ((x9_1).toNat * 8)).block, (ad153.add ((x9_1).toNat * 8)).off + 1, none⟩ = some (.int .i64 ((rd_T75 l1 x9_1).f1)) ∧ w'.cell? ⟨(ad153.add ((x9_1).toNat * 8)).block, (ad153.add ((x9_1).toNat * 8)).off + 2, none⟩ = some (.int .i64 ((rd_T75 l1 x9_1).f2)) ∧ w'.cell? ⟨(ad153.add ((x9_1).toNat * 8)).block, (ad153.add ((x9_1).toNat * 8)).off + 3, none⟩ = some (.int .i64 ((rd_T75 l1 x9_1).f3)) ∧ w'.cell? ⟨(ad153.add ((x9_1).toNat * 8)).block, (ad153.add ((x9_1).toNat * 8)).off + 4, none⟩ = some (.int .i64 ((rd_T75 l1 x9_1).f4.f0)) ∧ w'.cell? ⟨(ad153.add ((x9_1).toNat * 8)).block, (ad153.add ((x9_1).toNat * 8)).off + 5, none⟩ = some (.int .i64 ((rd_T75 l1 x9_1).f4.f1)) ∧ w'.cell? ⟨(ad153.add ((x9_1).toNat * 8)).block, (ad153.add ((x9_1).toNat * 8)).off + 6, none⟩ = some (.int .i64 ((rd_T75 l1 x9_1).f4.f2)) ∧ w'.cell? ⟨(ad153.add ((x9_1).toNat * 8)).block, (ad153.add ((x9_1).toNat * 8)).off + 7, none⟩ = some (.int .i64 ((rd_T75 l1 x9_1).f4.f3))) (ds := [5, 6]) (bt 7 0) (by kernel_rfl) rfl rfl ⟨(blk_cell BK151.out 0).trans rfl, (blk_cell BK151.out 1).trans rfl, hx153_0, hx153_1, hx153_2, hx153_3, hx153_4, hx153_5, hx153_6, hx153_7⟩ (fun hHeld => ?_)
    generalize wr.drew = w14 at HO_152000 HO_152001 BK151 BK152 HK HB HXAh17 HXBh17 hx153_0 hx153_1 hx153_2 hx153_3 hx153_4 hx153_5 hx153_6 hx153_7 hHeld ⊢
    refine pi_ 1 22 (bt 7 2) rfl rfl (fun _ _ _ h => h) ?_
    refine pi_ 2 23 (bt 7 6) rfl rfl (fun _ _ _ h => h) ?_
    refine pi_ 3 24 (bt 7 14) rfl rfl (fun _ _ _ h => h) ?_
    refine pm_ 0 21 (bt 7 15) rfl rfl (by kernel_rfl) (fun _ _ _ h => h) hHeld ?_
    refine pm_ 4 25 (bt 7 31) rfl rfl (by kernel_rfl) (fun _ _ _ h => h) hHeld ?_
    refine last_ (i := 5) (N := some 26) (bt 7 63) rfl rfl (by kernel_rfl) (by decide) (fun K hK => ?_)
    refine qg Try.func32 #[.agg #[.slice Ao15 x152000_1.length co15, .slice Ao16 x152001_1.length co16], .agg #[.int .i64 ((rd_T75 l1 x9_1).f0), .int .i64 ((rd_T75 l1 x9_1).f1), .int .i64 ((rd_T75 l1 x9_1).f2), .int .i64 ((rd_T75 l1 x9_1).f3), .int .i64 ((rd_T75 l1 x9_1).f4.f0), .int .i64 ((rd_T75 l1 x9_1).f4.f1), .int .i64 ((rd_T75 l1 x9_1).f4.f2), .int .i64 ((rd_T75 l1 x9_1).f4.f3)], .bool false] rfl rfl ?_
    with_reducible refine (spec_l12Do.calls k1 PXh17 (.slice Ao15 x152000_1.length co15) x152000_1 (fun k_ => some k_ = (.slice Ao16 x152001_1.length co16 : Value).ownBlock) (.slice Ao16 x152001_1.length co16) x152001_1 ((rd_T75 l1 x9_1).f0) ((rd_T75 l1 x9_1).f1) ((rd_T75 l1 x9_1).f2) ((rd_T75 l1 x9_1).f3) ((rd_T75 l1 x9_1).f4.f0) ((rd_T75 l1 x9_1).f4.f1) ((rd_T75 l1 x9_1).f4.f2) ((rd_T75 l1 x9_1).f4.f3) false t154 t157 w0 _ ?side1 ?side2 ?side3 A13.out).mono ?_
    (case side1 => exact bg2 HB.out GE151.out GE152.out)
    (case side2 => exact (ps HXAh17.out))
    (case side3 => exact Kd.R_tight rfl HO_152001.out)
    rintro e w18 ⟨v155, v158, rfl, ho0, ho1, hb, hkp⟩
    refine ⟨_, rfl, ?_⟩
    replace BK151 := am (blk_kept (pb BK151.out) hkp (fun hs_ => Or.elim hs_ (fun e_ => (fun e_ => Kd.blk_awayP (fun k_ h_ => (HXBh17.out k_ h_).2.2.2) BK151.out (by decide) e_) e_) (fun e_ => (fun e_ => (Kd.R_ne HO_152001.out BK151.out (by decide)) e_) e_)))
    replace BK152 := am (blk_kept (pb BK152.out) hkp (fun hs_ => Or.elim hs_ (fun e_ => (fun e_ => Kd.blk_awayP (fun k_ h_ => (HXBh17.out k_ h_).2.2.2) BK152.out (by decide) e_) e_) (fun e_ => (fun e_ => (Kd.R_ne HO_152001.out BK152.out (by decide)) e_) e_)))
    have HO156 := am (Kd.S_mono (ok' := fun k_ => ((P0_0_ k_ ∨ P0_1_ k_) ∨ w.heap.size ≤ k_)) ho0 (fun k_ hk_ => Or.elim hk_ (fun hs_ => Or.elim hs_ (fun hs_ => (HXBh17.out k_ hs_).1) (fun hs_ => (HO_152001.out.1 k_ (hs_).symm))) (fun hn_ => (.inr (Nat.le_trans (kg2 HK.out (.inr GW151.out) (.inr GW152.out)).1 hn_)))))
    have HO159 := am (Kd.R_mono (ok' := fun k_ => ((P0_0_ k_ ∨ P0_1_ k_) ∨ w.heap.size ≤ k_)) ho1 (fun k_ hk_ => Or.elim hk_ (fun hs_ => Or.elim hs_ (fun hs_ => (HXBh17.out k_ hs_).1) (fun hs_ => (HO_152001.out.1 k_ (hs_).symm))) (fun hn_ => (.inr (Nat.le_trans (kg2 HK.out (.inr GW151.out) (.inr GW152.out)).1 hn_)))))
    replace HK := am (Kept.then_ (S := (fun k_ => P0_0_ k_ ∨ P0_1_ k_)) (kg2 HK.out (.inr GW151.out) (.inr GW152.out)) hkp (fun k_ hs_ => Or.elim hs_ (fun e_ => (fun e_ => (HXBh17.out k_ e_).1) e_) (fun e_ => (fun e_ => (HO_152001.out.1 k_ e_.symm)) e_)))
    replace HB := am (hb)
    clear HO_152000 HO_152001
    clear hb hkp ho0 ho1
    obtain ⟨Ao19, co19, eo19⟩ := Kd.S_slice HO156.out
    (first | subst eo19 | (injection eo19 with f1_ f2_ f3_; have f4_ := f1_.symm; have f5_ := f3_.symm; clear f1_ f2_ f3_; subst f4_; subst f5_))
    obtain ⟨Ao21, co21, eo21⟩ := Kd.R_slice HO159.out
    (first | subst eo21 | (injection eo21 with f1_ f2_ f3_; have f4_ := f1_.symm; have f5_ := f3_.symm; clear f1_ f2_ f3_; subst f4_; subst f5_))
    refine hK.out _ _ ?_
    clear hK K
    refine qn (some 26) ?_
    refine last_ (i := 6) (N := none) (bt 7 127) rfl rfl (by kernel_rfl) (by decide) (fun K hK => ?_)
    have hs20 : w18.cell? ⟨gb151, 0, none⟩ = some (.slice Ao15 x152000_1.length co15) := (blk_cell BK151.out 0).trans rfl
    have hfs20 := blk_frozen BK151.out 0
    have hns20_1 := NB152_151.out
    have hms20_1 := NB151_152.out
    have hs22 : w18.cell? ⟨gb151, 1, none⟩ = some (.slice Ao16 x152001_1.length co16) := (blk_cell BK151.out 1).trans rfl
    have hfs22 := blk_frozen BK151.out 1
    have hns22_1 := NB152_151.out
    have hms22_1 := NB151_152.out
    refine qs rfl ?_
    refine hK.out _ _ ?_
    clear hK K
    refine done_ (by kernel_rfl) ?_
    try go_wp2
    go_roundg k1
    case measure => have := HK1.out; omega
    case rel => exact ⟨(wrap64 (x9_1 + 1)), (t154), (t157), (.slice Ao19 t154.length co19), (.slice Ao21 t157.length co21), rf, H', ⟨by have := HK1.out; omega⟩, ⟨ps (Kd.S_mono (Kd.S_far (p := ⟨gb151, 1, none⟩) (Kd.S_far (p := ⟨gb151, 0, none⟩) (Kd.S_types HO156.out BK151.out (by decide)) (fun _ hk => hk.2) (.slice Ao19 t154.length co19)) (fun _ hk => hk.2) (.slice Ao21 t157.length co21)) (fun _ hk => hk.1))⟩, ⟨pr (Kd.R_mono (Kd.R_far (p := ⟨gb151, 1, none⟩) (Kd.R_far (p := ⟨gb151, 0, none⟩) (Kd.R_types HO159.out BK151.out (by decide)) (fun _ hk => hk.2) (.slice Ao19 t154.length co19)) (fun _ hk => hk.2) (.slice Ao21 t157.length co21)) (fun _ hk => hk.1))⟩, ⟨bp2 (pb BK151.out)⟩, ⟨bf2 (pb BK152.out) NB152_151.out⟩, ⟨kg2 HK.out (.inr GW151.out) (.inr GW152.out)⟩, ⟨bg2 HB.out GE151.out GE152.out⟩⟩
 case rest =>
  clear HC5
  obtain ⟨kq, x152000_4, x152001_4, u152000, u152001, HA, HJ4, HO_152000, HO_152001, BK151, BK152, HK, HB⟩ := hcut
  cases kq with
  | zero => exact absurd HA.out (by simp [spec_l12To.j1])
  | succ kj4 =>
   have H := HA.out
   clear HA
   simp only [spec_l12To.j1] at H
   by_cases c23 : a3 = true
   rotate_left
   · replace c23 := Bool.eq_false_iff.mpr c23
     subst c23
     rw [if_neg (show ¬ (false = true) by decide)] at H
     simp only [Option.some.injEq, Prod.mk.injEq] at H
     obtain ⟨rfl, rfl⟩ := H
     have hnb46 := NB151_152.out
     have hnc46 := NB152_151.out
     obtain ⟨hcz47_0, hcz47_1⟩ := b2 BK151.out
     obtain ⟨hfz47_0, hfz47_1⟩ := f2 BK151.out
     obtain ⟨Ao48, co48, eo48⟩ := Kd.S_slice HO_152000.out
     subst eo48
     obtain ⟨hcz49_0, hcz49_1⟩ := b2 BK152.out
     obtain ⟨hfz49_0, hfz49_1⟩ := f2 BK152.out
     obtain ⟨Ao50, co50, eo50⟩ := Kd.R_slice HO_152001.out
     subst eo50
     go_wp2
     refine bodyPost_ret (results_cell_row rfl _ _ gb152 51 #[.slice Ao48 x152000_4.length co48, .slice Ao50 x152001_4.length co50] (0, 0) _ rfl (bp2 (pb BK152.out)) Try.underlying51 rfl (by kernel_rfl)) rfl ?_
     exact ⟨_, _, rq ⟨ps (Kd.S_mono (Kd.S_far (p := ⟨gb152, 1, none⟩) (Kd.S_far (p := ⟨gb152, 0, none⟩) (Kd.S_types HO_152000.out BK152.out (by decide)) (fun _ hk => hk.2) (.slice Ao48 x152000_4.length co48)) (fun _ hk => hk.2) (.slice Ao50 x152001_4.length co50)) (fun _ hk => hk.1)), pr (Kd.R_mono (Kd.R_far (p := ⟨gb152, 1, none⟩) (Kd.R_far (p := ⟨gb152, 0, none⟩) (Kd.R_types HO_152001.out BK152.out (by decide)) (fun _ hk => hk.2) (.slice Ao48 x152000_4.length co48)) (fun _ hk => hk.2) (.slice Ao50 x152001_4.length co50)) (fun _ hk => hk.1)), bg2 HB.out GE151.out GE152.out, kg2 HK.out (.inr GW151.out) (.inr GW152.out)⟩⟩
   subst c23
   rw [if_pos rfl] at H
   replace H := Option.bind_eq_some_iff.mp H
   obtain ⟨t160, A240, H⟩ := H
   have A24 := am A240
   clear A240
   by_cases c25 : t160 = true
   rotate_left
   · replace c25 := Bool.eq_false_iff.mpr c25
     subst c25
     rw [if_neg (show ¬ (false = true) by decide)] at H
     simp only [Option.some.injEq, Prod.mk.injEq] at H
     obtain ⟨rfl, rfl⟩ := H
     go_wp2_with (first | (go_at_call 13; (with_reducible refine (spec_l6In.calls a2 0 (wrap64 ((l1.length : Int) - 1)) false _ A24.out).mono ?_); rintro e w' ⟨rfl, ⟨nd, rfl⟩⟩; (try (rw [drewN_self wc]; generalize hq_ : World.drewN wc _ = wc; have n0_ : Aside0 (Kd.S k33 33 wc w0.heap.size (fun k_ => (((P0_0_ k_ ∨ P0_1_ k_) ∨ w.heap.size ≤ k_))) u152000 x152000_4) := ⟨by rw [← hq_]; exact (ps HO_152000.out)⟩; have n1_ : Aside0 (Kd.R (Kd.int .i64) 3 wc w0.heap.size (fun k_ => (((P0_0_ k_ ∨ P0_1_ k_) ∨ w.heap.size ≤ k_))) u152001 x152001_4) := ⟨by rw [← hq_]; exact (pr HO_152001.out)⟩; have n2_ : Aside0 (wc.heap[gb151]? = some (.cells #[u152000, u152001] 51 (0, 0))) := ⟨by rw [← hq_]; exact (pb BK151.out)⟩; have n3_ : Aside0 (wc.heap[gb152]? = some (.cells #[.slice none 0 0, .slice none 0 0] 51 (0, 0))) := ⟨by rw [← hq_]; exact (pb BK152.out)⟩; have n4_ : Aside0 (Kept w wc (fun k_ => P0_0_ k_ ∨ P0_1_ k_)) := ⟨by rw [← hq_]; exact (kg2 HK.out (.inr GW151.out) (.inr GW152.out))⟩; have n5_ : Aside0 (Below w0.heap.size w0 wc) := ⟨by rw [← hq_]; exact (bg2 HB.out GE151.out GE152.out)⟩; clear HO_152000 HO_152001 BK151 BK152 HK HB hq_; have HO_152000 := n0_; have HO_152001 := n1_; have BK151 := n2_; have BK152 := n3_; have HK := n4_; have HB := n5_; clear n0_ n1_ n2_ n3_ n4_ n5_)); have hnb41 := NB151_152.out; have hnc41 := NB152_151.out; obtain ⟨hcz42_0, hcz42_1⟩ := b2 BK151.out; obtain ⟨hfz42_0, hfz42_1⟩ := f2 BK151.out; obtain ⟨Ao43, co43, eo43⟩ := Kd.S_slice HO_152000.out; subst eo43; obtain ⟨hcz44_0, hcz44_1⟩ := b2 BK152.out; obtain ⟨hfz44_0, hfz44_1⟩ := f2 BK152.out; obtain ⟨Ao45, co45, eo45⟩ := Kd.R_slice HO_152001.out; subst eo45))
     refine bodyPost_ret (results_cell_row rfl _ _ gb152 51 #[.slice Ao43 x152000_4.length co43, .slice Ao45 x152001_4.length co45] (0, 0) _ rfl (bp2 (pb BK152.out)) Try.underlying51 rfl (by kernel_rfl)) rfl ?_
     exact ⟨_, _, rq ⟨ps (Kd.S_mono (Kd.S_far (p := ⟨gb152, 1, none⟩) (Kd.S_far (p := ⟨gb152, 0, none⟩) (Kd.S_types HO_152000.out BK152.out (by decide)) (fun _ hk => hk.2) (.slice Ao43 x152000_4.length co43)) (fun _ hk => hk.2) (.slice Ao45 x152001_4.length co45)) (fun _ hk => hk.1)), pr (Kd.R_mono (Kd.R_far (p := ⟨gb152, 1, none⟩) (Kd.R_far (p := ⟨gb152, 0, none⟩) (Kd.R_types HO_152001.out BK152.out (by decide)) (fun _ hk => hk.2) (.slice Ao43 x152000_4.length co43)) (fun _ hk => hk.2) (.slice Ao45 x152001_4.length co45)) (fun _ hk => hk.1)), bg2 HB.out GE151.out GE152.out, kg2 HK.out (.inr GW151.out) (.inr GW152.out)⟩⟩
   subst c25
   rw [if_pos rfl] at H
   obtain ⟨c26b0, H⟩ := ifd H
   obtain ⟨c27b0, H⟩ := ifd H
   replace H := Option.bind_eq_some_iff.mp H
   obtain ⟨⟨t162, t165⟩, A280, H⟩ := H
   have A28 := am A280
   clear A280
   simp only [Option.some.injEq, Prod.mk.injEq] at H
   obtain ⟨rfl, rfl⟩ := H
   try go_wp2_with (first | (go_at_call 13; (with_reducible refine (spec_l6In.calls a2 0 (wrap64 ((l1.length : Int) - 1)) true _ A24.out).mono ?_); rintro e w' ⟨rfl, ⟨nd, rfl⟩⟩; (try (rw [drewN_self wc]; generalize hq_ : World.drewN wc _ = wc; have n0_ : Aside0 (Kd.S k33 33 wc w0.heap.size (fun k_ => (((P0_0_ k_ ∨ P0_1_ k_) ∨ w.heap.size ≤ k_))) u152000 x152000_4) := ⟨by rw [← hq_]; exact (ps HO_152000.out)⟩; have n1_ : Aside0 (Kd.R (Kd.int .i64) 3 wc w0.heap.size (fun k_ => (((P0_0_ k_ ∨ P0_1_ k_) ∨ w.heap.size ≤ k_))) u152001 x152001_4) := ⟨by rw [← hq_]; exact (pr HO_152001.out)⟩; have n2_ : Aside0 (wc.heap[gb151]? = some (.cells #[u152000, u152001] 51 (0, 0))) := ⟨by rw [← hq_]; exact (pb BK151.out)⟩; have n3_ : Aside0 (wc.heap[gb152]? = some (.cells #[.slice none 0 0, .slice none 0 0] 51 (0, 0))) := ⟨by rw [← hq_]; exact (pb BK152.out)⟩; have n4_ : Aside0 (Kept w wc (fun k_ => P0_0_ k_ ∨ P0_1_ k_)) := ⟨by rw [← hq_]; exact (kg2 HK.out (.inr GW151.out) (.inr GW152.out))⟩; have n5_ : Aside0 (Below w0.heap.size w0 wc) := ⟨by rw [← hq_]; exact (bg2 HB.out GE151.out GE152.out)⟩; clear HO_152000 HO_152001 BK151 BK152 HK HB hq_; have HO_152000 := n0_; have HO_152001 := n1_; have BK151 := n2_; have BK152 := n3_; have HK := n4_; have HB := n5_; clear n0_ n1_ n2_ n3_ n4_ n5_))))
   replace HO_152000 := am (Kd.S_drew HO_152000.out)
   replace HO_152001 := am (Kd.R_drew HO_152001.out)
   replace BK151 := am (blk_drew BK151.out)
   replace BK152 := am (blk_drew BK152.out)
   replace HK := am (Kept.drew HK.out)
   replace HB := am (below_drew1 HB.out)
   have p161 : 0 ≤ (a2 : Int) := ofb
   have q161 : a2 < (l1.length : Int) := ofb
   obtain ⟨ad161, e161, hx161_0, hx161_1, hx161_2, hx161_3, hx161_4, hx161_5, hx161_6, hx161_7⟩ := at_T75 (Kd.C_kept_now HR1.out HK.out) a2 p161 q161
   have hw161_7 := hx161_7
   have hw161_6 := hx161_6
   have hw161_5 := hx161_5
   have hw161_4 := hx161_4
   have hw161_3 := hx161_3
   have hw161_2 := hx161_2
   have hw161_1 := hx161_1
   have hw161_0 := hx161_0
   cases e161
   replace p161 := eq_true p161
   replace q161 := eq_true q161
   obtain ⟨Ao30, co30, eo30⟩ := Kd.S_slice HO_152000.out
   (first | subst eo30 | (injection eo30 with f1_ f2_ f3_; have f4_ := f1_.symm; have f5_ := f3_.symm; clear f1_ f2_ f3_; subst f4_; subst f5_))
   obtain ⟨Ao31, co31, eo31⟩ := Kd.R_slice HO_152001.out
   (first | subst eo31 | (injection eo31 with f1_ f2_ f3_; have f4_ := f1_.symm; have f5_ := f3_.symm; clear f1_ f2_ f3_; subst f4_; subst f5_))
   obtain ⟨PXh32, hxa_, hxb_⟩ := Kd.S_hand HO_152000.out
   have HXAh32 := am hxa_
   have HXBh32 := am hxb_
   clear hxa_ hxb_
   refine start_ (n := 7) (S := fun w' => w'.cell? ⟨gb151, 0, none⟩ = some (.slice Ao30 x152000_4.length co30) ∧ w'.cell? ⟨gb151, 1, none⟩ = some (.slice Ao31 x152001_4.length co31) ∧ w'.cell? (ad161.add ((a2).toNat * 8)) = some (.int .i64 ((rd_T75 l1 a2).f0)) ∧ w'.cell? ⟨(ad161.add ((a2).toNat * 8)).block, (ad161.add ((a2).toNat * 8)).off + 1, none⟩ = some (.int .i64 ((rd_T75 l1 a2).f1)) ∧ w'.cell? ⟨(ad161.add ((a2).toNat * 8)).block, (ad161.add ((a2).toNat * 8)).off + 2, none⟩ = some (.int .i64 ((rd_T75 l1 a2).f2)) ∧ w'.cell? ⟨(ad161.add ((a2).toNat * 8)).block, (ad161.add ((a2).toNat * 8)).off + 3, none⟩ = some (.int .i64 ((rd_T75 l1 a2).f3)) ∧ w'.cell? ⟨(ad161.add ((a2).toNat * 8)).block, (ad161.add ((a2).toNat * 8)).off + 4, none⟩ = some (.int .i64 ((rd_T75 l1 a2).f4.f0)) ∧ w'.cell? ⟨(ad161.add ((a2).toNat * 8)).block, (ad161.add ((a2).toNat * 8)).off + 5, none⟩ = some (.int .i64 ((rd_T75 l1 a2).f4.f1)) ∧ w'.cell? ⟨(ad161.add ((a2).toNat * 8)).block, (ad161.add ((a2).toNat * 8)).off + 6, none⟩ = some (.int .i64 ((rd_T75 l1 a2).f4.f2)) ∧ w'.cell? ⟨(ad161.add ((a2).toNat * 8)).block, (ad161.add ((a2).toNat * 8)).off + 7, none⟩ = some (.int .i64 ((rd_T75 l1 a2).f4.f3))) (ds := [5, 6]) (bt 7 0) (by kernel_rfl) rfl rfl ⟨(blk_cell BK151.out 0).trans rfl, (blk_cell BK151.out 1).trans rfl, hx161_0, hx161_1, hx161_2, hx161_3, hx161_4, hx161_5, hx161_6, hx161_7⟩ (fun hHeld => ?_)
   generalize wc.drew = w29 at HO_152000 HO_152001 BK151 BK152 HK HB HXAh32 HXBh32 hx161_0 hx161_1 hx161_2 hx161_3 hx161_4 hx161_5 hx161_6 hx161_7 hHeld ⊢
   refine pi_ 1 36 (bt 7 2) rfl rfl (fun _ _ _ h => h) ?_
   refine pi_ 2 37 (bt 7 6) rfl rfl (fun _ _ _ h => h) ?_
   refine pi_ 3 38 (bt 7 14) rfl rfl (fun _ _ _ h => h) ?_
   refine pm_ 0 35 (bt 7 15) rfl rfl (by kernel_rfl) (fun _ _ _ h => h) hHeld ?_
   refine pm_ 4 39 (bt 7 31) rfl rfl (by kernel_rfl) (fun _ _ _ h => h) hHeld ?_
   refine last_ (i := 5) (N := some 40) (bt 7 63) rfl rfl (by kernel_rfl) (by decide) (fun K hK => ?_)
   refine qg Try.func32 #[.agg #[.slice Ao30 x152000_4.length co30, .slice Ao31 x152001_4.length co31], .agg #[.int .i64 ((rd_T75 l1 a2).f0), .int .i64 ((rd_T75 l1 a2).f1), .int .i64 ((rd_T75 l1 a2).f2), .int .i64 ((rd_T75 l1 a2).f3), .int .i64 ((rd_T75 l1 a2).f4.f0), .int .i64 ((rd_T75 l1 a2).f4.f1), .int .i64 ((rd_T75 l1 a2).f4.f2), .int .i64 ((rd_T75 l1 a2).f4.f3)], .bool true] rfl rfl ?_
   with_reducible refine (spec_l12Do.calls kj4 PXh32 (.slice Ao30 x152000_4.length co30) x152000_4 (fun k_ => some k_ = (.slice Ao31 x152001_4.length co31 : Value).ownBlock) (.slice Ao31 x152001_4.length co31) x152001_4 ((rd_T75 l1 a2).f0) ((rd_T75 l1 a2).f1) ((rd_T75 l1 a2).f2) ((rd_T75 l1 a2).f3) ((rd_T75 l1 a2).f4.f0) ((rd_T75 l1 a2).f4.f1) ((rd_T75 l1 a2).f4.f2) ((rd_T75 l1 a2).f4.f3) true t162 t165 w0 _ ?side1 ?side2 ?side3 A28.out).mono ?_
   (case side1 => exact bg2 HB.out GE151.out GE152.out)
   (case side2 => exact (ps HXAh32.out))
   (case side3 => exact Kd.R_tight rfl HO_152001.out)
   rintro e w33 ⟨v163, v166, rfl, ho0, ho1, hb, hkp⟩
   refine ⟨_, rfl, ?_⟩
   replace BK151 := am (blk_kept (pb BK151.out) hkp (fun hs_ => Or.elim hs_ (fun e_ => (fun e_ => Kd.blk_awayP (fun k_ h_ => (HXBh32.out k_ h_).2.2.2) BK151.out (by decide) e_) e_) (fun e_ => (fun e_ => (Kd.R_ne HO_152001.out BK151.out (by decide)) e_) e_)))
   replace BK152 := am (blk_kept (pb BK152.out) hkp (fun hs_ => Or.elim hs_ (fun e_ => (fun e_ => Kd.blk_awayP (fun k_ h_ => (HXBh32.out k_ h_).2.2.2) BK152.out (by decide) e_) e_) (fun e_ => (fun e_ => (Kd.R_ne HO_152001.out BK152.out (by decide)) e_) e_)))
   have HO164 := am (Kd.S_mono (ok' := fun k_ => ((P0_0_ k_ ∨ P0_1_ k_) ∨ w.heap.size ≤ k_)) ho0 (fun k_ hk_ => Or.elim hk_ (fun hs_ => Or.elim hs_ (fun hs_ => (HXBh32.out k_ hs_).1) (fun hs_ => (HO_152001.out.1 k_ (hs_).symm))) (fun hn_ => (.inr (Nat.le_trans (kg2 HK.out (.inr GW151.out) (.inr GW152.out)).1 hn_)))))
   have HO167 := am (Kd.R_mono (ok' := fun k_ => ((P0_0_ k_ ∨ P0_1_ k_) ∨ w.heap.size ≤ k_)) ho1 (fun k_ hk_ => Or.elim hk_ (fun hs_ => Or.elim hs_ (fun hs_ => (HXBh32.out k_ hs_).1) (fun hs_ => (HO_152001.out.1 k_ (hs_).symm))) (fun hn_ => (.inr (Nat.le_trans (kg2 HK.out (.inr GW151.out) (.inr GW152.out)).1 hn_)))))
   replace HK := am (Kept.then_ (S := (fun k_ => P0_0_ k_ ∨ P0_1_ k_)) (kg2 HK.out (.inr GW151.out) (.inr GW152.out)) hkp (fun k_ hs_ => Or.elim hs_ (fun e_ => (fun e_ => (HXBh32.out k_ e_).1) e_) (fun e_ => (fun e_ => (HO_152001.out.1 k_ e_.symm)) e_)))
   replace HB := am (hb)
   clear HO_152000 HO_152001
   clear hb hkp ho0 ho1
   obtain ⟨Ao34, co34, eo34⟩ := Kd.S_slice HO164.out
   (first | subst eo34 | (injection eo34 with f1_ f2_ f3_; have f4_ := f1_.symm; have f5_ := f3_.symm; clear f1_ f2_ f3_; subst f4_; subst f5_))
   obtain ⟨Ao36, co36, eo36⟩ := Kd.R_slice HO167.out
   (first | subst eo36 | (injection eo36 with f1_ f2_ f3_; have f4_ := f1_.symm; have f5_ := f3_.symm; clear f1_ f2_ f3_; subst f4_; subst f5_))
   refine hK.out _ _ ?_
   clear hK K
   refine qn (some 40) ?_
   refine last_ (i := 6) (N := none) (bt 7 127) rfl rfl (by kernel_rfl) (by decide) (fun K hK => ?_)
   have hs35 : w33.cell? ⟨gb151, 0, none⟩ = some (.slice Ao30 x152000_4.length co30) := (blk_cell BK151.out 0).trans rfl
   have hfs35 := blk_frozen BK151.out 0
   have hns35_1 := NB152_151.out
   have hms35_1 := NB151_152.out
   have hs37 : w33.cell? ⟨gb151, 1, none⟩ = some (.slice Ao31 x152001_4.length co31) := (blk_cell BK151.out 1).trans rfl
   have hfs37 := blk_frozen BK151.out 1
   have hns37_1 := NB152_151.out
   have hms37_1 := NB151_152.out
   refine qs rfl ?_
   refine hK.out _ _ ?_
   clear hK K
   refine done_ (by kernel_rfl) ?_
   have hnb38 := NB151_152.out
   have hnc38 := NB152_151.out
   obtain ⟨hcz39_0, hcz39_1⟩ := b2 BK151.out
   obtain ⟨hfz39_0, hfz39_1⟩ := f2 BK151.out
   obtain ⟨hcz40_0, hcz40_1⟩ := b2 BK152.out
   obtain ⟨hfz40_0, hfz40_1⟩ := f2 BK152.out
   try go_wp2
   refine bodyPost_ret (results_cell_row rfl _ _ gb152 51 #[.slice Ao34 t162.length co34, .slice Ao36 t165.length co36] (0, 0) _ rfl (bp2 (bf2 (pb BK152.out) NB152_151.out)) Try.underlying51 rfl (by kernel_rfl)) rfl ?_
   exact ⟨_, _, rq ⟨ps (Kd.S_mono (Kd.S_far (p := ⟨gb152, 1, none⟩) (Kd.S_far (p := ⟨gb152, 0, none⟩) (Kd.S_far (p := ⟨gb151, 1, none⟩) (Kd.S_far (p := ⟨gb151, 0, none⟩) (Kd.S_types (Kd.S_types HO164.out BK151.out (by decide)) BK152.out (by decide)) (fun _ hk => hk.1.2) (.slice Ao34 t162.length co34)) (fun _ hk => hk.1.2) (.slice Ao36 t165.length co36)) (fun _ hk => hk.2) (.slice Ao34 t162.length co34)) (fun _ hk => hk.2) (.slice Ao36 t165.length co36)) (fun _ hk => hk.1.1)), pr (Kd.R_mono (Kd.R_far (p := ⟨gb152, 1, none⟩) (Kd.R_far (p := ⟨gb152, 0, none⟩) (Kd.R_far (p := ⟨gb151, 1, none⟩) (Kd.R_far (p := ⟨gb151, 0, none⟩) (Kd.R_types (Kd.R_types HO167.out BK151.out (by decide)) BK152.out (by decide)) (fun _ hk => hk.1.2) (.slice Ao34 t162.length co34)) (fun _ hk => hk.1.2) (.slice Ao36 t165.length co36)) (fun _ hk => hk.2) (.slice Ao34 t162.length co34)) (fun _ hk => hk.2) (.slice Ao36 t165.length co36)) (fun _ hk => hk.1.1)), bg2 HB.out GE151.out GE152.out, kg2 HK.out (.inr GW151.out) (.inr GW152.out)⟩⟩
def spec_RecOk.f (a0_0 : Int) (a0_1 : Int) (a0_2 : Int) (a0_3 : Int) : Option (Bool) := (spec_l6In.f a0_0 1 2).bind fun t169 => (if t169 = true then ((spec_l6In.f a0_1 1 600).bind fun t170 => (if t170 = true then ((spec_l6In.f a0_2 1 6).bind fun t171 => (if t171 = true then ((spec_l6In.f a0_3 0 9).bind fun t172 => (some t172)) else (some false))) else (some false))) else (some false))
set_option maxHeartbeats 8000000 in
set_option maxRecDepth 100000 in
theorem spec_RecOk.calls (a0_0 : Int) (a0_1 : Int) (a0_2 : Int) (a0_3 : Int) (r : Bool) (w : World) (h : spec_RecOk.f a0_0 a0_1 a0_2 a0_3 = some r) :
 Calls Try.prog 20 #[.agg #[.int .i64 a0_0, .int .i64 a0_1, .int .i64 a0_2, .int .i64 a0_3]] w fun e w' => e = .returned (.bool r) ∧ Below w.heap.size w w' := by
 have hu28 := Try.underlying28
 have HB := am (Below.refl w.heap.size w)
 have H : ((spec_l6In.f a0_0 1 2).bind fun t169 => (if t169 = true then ((spec_l6In.f a0_1 1 600).bind fun t170 => (if t170 = true then ((spec_l6In.f a0_2 1 6).bind fun t171 => (if t171 = true then ((spec_l6In.f a0_3 0 9).bind fun t172 => (some t172)) else (some false))) else (some false))) else (some false))) = some r := h
 clear h
 replace H := Option.bind_eq_some_iff.mp H
 obtain ⟨t169, A20, H⟩ := H
 have A2 := am A20
 clear A20
 by_cases c3 : t169 = true
 rotate_left
 · replace c3 := Bool.eq_false_iff.mpr c3
   subst c3
   rw [if_neg (show ¬ (false = true) by decide)] at H
   obtain rfl := Option.some.inj H
   go_enter Try.func20, Try.ntmps20
   go_wp2_with (first | (refine bx 1 #[.int .i64 a0_0, .int .i64 a0_1, .int .i64 a0_2, .int .i64 a0_3] 28 rfl ?_; intro gb168 hg w15 hbox hb; have BK168 := am (hbox); have GW168 := am (ge hg (ph HB.out)); have GE168 := GW168; replace HB := am (below_step (ph HB.out) hb); clear hb hbox hg; obtain ⟨hcz16_0, hcz16_1, hcz16_2, hcz16_3⟩ := b4 BK168.out; obtain ⟨hfz16_0, hfz16_1, hfz16_2, hfz16_3⟩ := f4 BK168.out) | (refine gl 5 Try.func13 #[.int .i64 a0_0, .int .i64 1, .int .i64 2] rfl ?_; (with_reducible refine (spec_l6In.calls a0_0 1 2 false _ A2.out).mono ?_); rintro e w' ⟨rfl, ⟨nd, rfl⟩⟩; refine ⟨_, rfl, ?_⟩))
   go_ret
   exact (rq (bg1 HB.out GE168.out))
 subst c3
 rw [if_pos rfl] at H
 replace H := Option.bind_eq_some_iff.mp H
 obtain ⟨t170, A40, H⟩ := H
 have A4 := am A40
 clear A40
 by_cases c5 : t170 = true
 rotate_left
 · replace c5 := Bool.eq_false_iff.mpr c5
   subst c5
   rw [if_neg (show ¬ (false = true) by decide)] at H
   obtain rfl := Option.some.inj H
   go_enter Try.func20, Try.ntmps20
   go_wp2_with (first | (refine bx 1 #[.int .i64 a0_0, .int .i64 a0_1, .int .i64 a0_2, .int .i64 a0_3] 28 rfl ?_; intro gb168 hg w13 hbox hb; have BK168 := am (hbox); have GW168 := am (ge hg (ph HB.out)); have GE168 := GW168; replace HB := am (below_step (ph HB.out) hb); clear hb hbox hg; obtain ⟨hcz14_0, hcz14_1, hcz14_2, hcz14_3⟩ := b4 BK168.out; obtain ⟨hfz14_0, hfz14_1, hfz14_2, hfz14_3⟩ := f4 BK168.out) | (refine gl 5 Try.func13 #[.int .i64 a0_0, .int .i64 1, .int .i64 2] rfl ?_; (with_reducible refine (spec_l6In.calls a0_0 1 2 true _ A2.out).mono ?_); rintro e w' ⟨rfl, ⟨nd, rfl⟩⟩; refine ⟨_, rfl, ?_⟩) | (go_at_call 13; (with_reducible refine (spec_l6In.calls a0_1 1 600 false _ A4.out).mono ?_); rintro e w' ⟨rfl, ⟨nd, rfl⟩⟩))
   go_ret
   exact (rq (bg1 HB.out GE168.out))
 subst c5
 rw [if_pos rfl] at H
 replace H := Option.bind_eq_some_iff.mp H
 obtain ⟨t171, A60, H⟩ := H
 have A6 := am A60
 clear A60
 by_cases c7 : t171 = true
 rotate_left
 · replace c7 := Bool.eq_false_iff.mpr c7
   subst c7
   rw [if_neg (show ¬ (false = true) by decide)] at H
   obtain rfl := Option.some.inj H
   go_enter Try.func20, Try.ntmps20
   go_wp2_with (first | (refine bx 1 #[.int .i64 a0_0, .int .i64 a0_1, .int .i64 a0_2, .int .i64 a0_3] 28 rfl ?_; intro gb168 hg w11 hbox hb; have BK168 := am (hbox); have GW168 := am (ge hg (ph HB.out)); have GE168 := GW168; replace HB := am (below_step (ph HB.out) hb); clear hb hbox hg; obtain ⟨hcz12_0, hcz12_1, hcz12_2, hcz12_3⟩ := b4 BK168.out; obtain ⟨hfz12_0, hfz12_1, hfz12_2, hfz12_3⟩ := f4 BK168.out) | (refine gl 5 Try.func13 #[.int .i64 a0_0, .int .i64 1, .int .i64 2] rfl ?_; (with_reducible refine (spec_l6In.calls a0_0 1 2 true _ A2.out).mono ?_); rintro e w' ⟨rfl, ⟨nd, rfl⟩⟩; refine ⟨_, rfl, ?_⟩) | (go_at_call 13; (with_reducible refine (spec_l6In.calls a0_1 1 600 true _ A4.out).mono ?_); rintro e w' ⟨rfl, ⟨nd, rfl⟩⟩) | (go_at_call 13; (with_reducible refine (spec_l6In.calls a0_2 1 6 false _ A6.out).mono ?_); rintro e w' ⟨rfl, ⟨nd, rfl⟩⟩))
   go_ret
   exact (rq (bg1 HB.out GE168.out))
 subst c7
 rw [if_pos rfl] at H
 replace H := Option.bind_eq_some_iff.mp H
 obtain ⟨t172, A80, H⟩ := H
 have A8 := am A80
 clear A80
 obtain rfl := Option.some.inj H
 go_enter Try.func20, Try.ntmps20
 go_wp2_with (first | (refine bx 1 #[.int .i64 a0_0, .int .i64 a0_1, .int .i64 a0_2, .int .i64 a0_3] 28 rfl ?_; intro gb168 hg w9 hbox hb; have BK168 := am (hbox); have GW168 := am (ge hg (ph HB.out)); have GE168 := GW168; replace HB := am (below_step (ph HB.out) hb); clear hb hbox hg; obtain ⟨hcz10_0, hcz10_1, hcz10_2, hcz10_3⟩ := b4 BK168.out; obtain ⟨hfz10_0, hfz10_1, hfz10_2, hfz10_3⟩ := f4 BK168.out) | (refine gl 5 Try.func13 #[.int .i64 a0_0, .int .i64 1, .int .i64 2] rfl ?_; (with_reducible refine (spec_l6In.calls a0_0 1 2 true _ A2.out).mono ?_); rintro e w' ⟨rfl, ⟨nd, rfl⟩⟩; refine ⟨_, rfl, ?_⟩) | (go_at_call 13; (with_reducible refine (spec_l6In.calls a0_1 1 600 true _ A4.out).mono ?_); rintro e w' ⟨rfl, ⟨nd, rfl⟩⟩) | (go_at_call 13; (with_reducible refine (spec_l6In.calls a0_2 1 6 true _ A6.out).mono ?_); rintro e w' ⟨rfl, ⟨nd, rfl⟩⟩) | (go_at_call 13; (with_reducible refine (spec_l6In.calls a0_3 0 9 t172 _ A8.out).mono ?_); rintro e w' ⟨rfl, ⟨nd, rfl⟩⟩))
 go_ret
 exact (rq (bg1 HB.out GE168.out))
def spec_l3Most.l0 : Nat → Int → Int → List (S30) → Int → Option (Int)
 | 0, _, _, _, _ => none
 | k + 1, x3, x4, x174000, x174001 => if x4 < (x174000.length : Int) then (if 0 ≤ x4 then (spec_l3Most.l0 k (mx x3 ((rd_T30 x174000 x4).f1.f1)) (wrap64 (x4 + 1)) x174000 x174001) else (none)) else (some x3)
def spec_l3Most.f (k : Nat) (l0_0 : List (S30)) (a0_1 : Int) : Option (Int) := spec_l3Most.l0 k 0 0 l0_0 a0_1
theorem spec_l3Most.mono_l : ∀ k, (∀ y0 y1 y2 y3, LeO (spec_l3Most.l0 k y0 y1 y2 y3) (spec_l3Most.l0 (k + 1) y0 y1 y2 y3))
 | 0 => fun _ _ _ _ r h => by simp [spec_l3Most.l0] at h
 | k + 1 => by
  have ih0 := spec_l3Most.mono_l k
  · intro y0 y1 y2 y3
    unfold spec_l3Most.l0
    with_reducible repeat' first | exact ih0 _ _ _ _ | exact LeO.refl _ | exact LeO.none _ | refine LeO.ite ?_ ?_ | refine LeO.bind ?_ (fun _ => ?_)
theorem spec_l3Most.mono : ∀ a0 a1 k, LeO (spec_l3Most.f k a0 a1) (spec_l3Most.f (k + 1) a0 a1) := by
 intro a0 a1 k
 have ih0 := spec_l3Most.mono_l k
 unfold spec_l3Most.f
 with_reducible repeat' first | exact ih0 _ _ _ _ | exact LeO.refl _ | exact LeO.none _ | refine LeO.ite ?_ ?_ | refine LeO.bind ?_ (fun _ => ?_)
set_option maxHeartbeats 8000000 in
set_option maxRecDepth 100000 in
theorem spec_l3Most.calls (k : Nat) (A0_0 : Option Addr) (c0_0 : Nat) (l0_0 : List (S30)) (a0_1 : Int) (r : Int) (w : World) (hr0_0 : Kd.C k30 w A0_0 l0_0.length l0_0) (hc0_0 : l0_0.length ≤ c0_0) (h : spec_l3Most.f k l0_0 a0_1 = some r) :
 Calls Try.prog 44 #[.agg #[.slice A0_0 l0_0.length c0_0, .int .i64 a0_1]] w fun e w' => e = .returned (.int .i64 r) ∧ Below w.heap.size w w' := by
 have hu33 := Try.underlying33
 have HR0_0 := am hr0_0
 have HC0_0 := am hc0_0
 clear hr0_0 hc0_0
 have HB := am (Below.refl w.heap.size w)
 have H : (spec_l3Most.l0 k 0 0 l0_0 a0_1) = some r := h
 clear h
 have H' := am H
 clear H
 go_enter Try.func44, Try.ntmps44
 go_wp2_with (first | (refine bx 1 #[.slice A0_0 l0_0.length c0_0, .int .i64 a0_1] 33 rfl ?_; intro gb173 hg w2 hbox hb; have BK173 := am (hbox); have GW173 := am (ge hg (ph HB.out)); have GE173 := GW173; replace HB := am (below_step (ph HB.out) hb); clear hb hbox hg))
 go_loopg [3, 4] k (fun kq v3 v4 w' => ∃ (x3_1 : Int) (x4_1 : Int), v3 = .int .i64 x3_1 ∧ v4 = .int .i64 x4_1 ∧ Aside0 (spec_l3Most.l0 kq x3_1 x4_1 l0_0 a0_1 = some r) ∧ Aside0 (kq ≤ k) ∧ Aside0 (w'.heap[gb173]? = some (.cells #[(.slice A0_0 l0_0.length c0_0), .int .i64 a0_1] 33 (0, 0))) ∧ Aside0 (Below w.heap.size w w'))
 case atStart => exact ⟨(0), (0), rf, rf, H', ⟨Nat.le_refl _⟩, ⟨pb BK173.out⟩, ⟨bg1 HB.out GE173.out⟩⟩
 case round =>
  clear H'
  obtain ⟨x3_1, x4_1, rfl, rfl, HA, HK1, BK173, HB⟩ := hrel
  cases gk with
  | zero => exact absurd HA.out (by simp [spec_l3Most.l0])
  | succ k1 =>
   have H := HA.out
   clear HA
   simp only [spec_l3Most.l0] at H
   by_cases c3 : x4_1 < (l0_0.length : Int)
   rotate_left
   · rw [if_neg c3] at H
     have c3b0 := decide_eq_false c3
     clear c3
     obtain rfl := Option.some.inj H
     obtain ⟨hcz7_0, hcz7_1⟩ := b2 BK173.out
     obtain ⟨hfz7_0, hfz7_1⟩ := f2 BK173.out
     go_wp2
     go_ret
     exact (rq (bg1 HB.out GE173.out))
   rw [if_pos c3] at H
   have c3b0 := decide_eq_true c3
   clear c3
   obtain ⟨c4b0, H⟩ := ifd H
   obtain ⟨ji5, hji5⟩ : ∃ j_ : Int, (mx x3_1 ((rd_T30 l0_0 x4_1).f1.f1)) = j_ := ⟨_, rfl⟩
   replace H : (spec_l3Most.l0 k1 ji5 (wrap64 (x4_1 + 1)) l0_0 a0_1) = some r := by first | (rw [hji5] at H; exact H) | (simp only [hji5] at H ⊢; exact H)
   have hji5_ : (if x3_1 < ((rd_T30 l0_0 x4_1).f1.f1) then ((rd_T30 l0_0 x4_1).f1.f1) else x3_1) = ji5 := hji5
   have H' := am H
   clear H
   obtain ⟨hcz6_0, hcz6_1⟩ := b2 BK173.out
   obtain ⟨hfz6_0, hfz6_1⟩ := f2 BK173.out
   have p174 : 0 ≤ (x4_1 : Int) := ofb
   have q174 : x4_1 < (l0_0.length : Int) := ofb
   obtain ⟨ad174, e174, hx174_0, hx174_1, hx174_2, hx174_3, hx174_4⟩ := at_T30 HR0_0.out x4_1 p174 q174
   cases e174
   replace hx174_0 := up HB.out hx174_0
   replace hx174_1 := up HB.out hx174_1
   replace hx174_2 := up HB.out hx174_2
   replace hx174_3 := up HB.out hx174_3
   replace hx174_4 := up HB.out hx174_4
   replace p174 := eq_true p174
   replace q174 := eq_true q174
   go_wp2
   go_roundg k1
   case measure => have := HK1.out; omega
   case rel => exact ⟨(ji5), (wrap64 (x4_1 + 1)), (by first | rfl | (simp; done) | (simp only [← hji5] <;> (first | rfl | simp)) | (simp [*]; done)), rf, H', ⟨by have := HK1.out; omega⟩, ⟨pb BK173.out⟩, ⟨bg1 HB.out GE173.out⟩⟩
def spec_l3Next.l0 : Nat → List (S33) → Int → Int → Option (Int)
 | 0, _, _, _ => none
 | k + 1, x0, x3, x4 => if x4 < (x0.length : Int) then (if 0 ≤ x4 then ((spec_l3Most.f k ((rd_T33 x0 x4).f0) ((rd_T33 x0 x4).f1)).bind fun t176 => (spec_l3Next.l0 k x0 (mx x3 t176) (wrap64 (x4 + 1)))) else (none)) else (some (wrap64 (x3 + 1)))
def spec_l3Next.f (k : Nat) (l0 : List (S33)) : Option (Int) := spec_l3Next.l0 k l0 0 0
theorem spec_l3Next.mono_l : ∀ k, (∀ y0 y1 y2, LeO (spec_l3Next.l0 k y0 y1 y2) (spec_l3Next.l0 (k + 1) y0 y1 y2))
 | 0 => fun _ _ _ r h => by simp [spec_l3Next.l0] at h
 | k + 1 => by
  have ih0 := spec_l3Next.mono_l k
  · intro y0 y1 y2
    unfold spec_l3Next.l0
    with_reducible repeat' first | exact ih0 _ _ _ | exact spec_l3Most.mono _ _ _ | exact LeO.refl _ | exact LeO.none _ | refine LeO.ite ?_ ?_ | refine LeO.bind ?_ (fun _ => ?_)
theorem spec_l3Next.mono : ∀ a0 k, LeO (spec_l3Next.f k a0) (spec_l3Next.f (k + 1) a0) := by
 intro a0 k
 have ih0 := spec_l3Next.mono_l k
 unfold spec_l3Next.f
 with_reducible repeat' first | exact ih0 _ _ _ | exact spec_l3Most.mono _ _ _ | exact LeO.refl _ | exact LeO.none _ | refine LeO.ite ?_ ?_ | refine LeO.bind ?_ (fun _ => ?_)
set_option maxHeartbeats 8000000 in
set_option maxRecDepth 100000 in
theorem spec_l3Next.calls (k : Nat) (A0 : Option Addr) (c0 : Nat) (l0 : List (S33)) (r : Int) (w : World) (hr0 : Kd.C k33 w A0 l0.length l0) (hc0 : l0.length ≤ c0) (h : spec_l3Next.f k l0 = some r) :
 Calls Try.prog 39 #[.slice A0 l0.length c0] w fun e w' => e = .returned (.int .i64 r) ∧ Below w.heap.size w w' := by
 have hu33 := Try.underlying33
 have HR0 := am hr0
 have HC0 := am hc0
 clear hr0 hc0
 have HB := am (Below.refl w.heap.size w)
 have H : (spec_l3Next.l0 k l0 0 0) = some r := h
 clear h
 have H' := am H
 clear H
 go_enter Try.func39, Try.ntmps39
 go_wp2
 go_loopg [3, 4] k (fun kq v3 v4 w' => ∃ (x3_1 : Int) (x4_1 : Int), v3 = .int .i64 x3_1 ∧ v4 = .int .i64 x4_1 ∧ Aside0 (spec_l3Next.l0 kq l0 x3_1 x4_1 = some r) ∧ Aside0 (kq ≤ k) ∧ Aside0 (Below w.heap.size w w'))
 case atStart => exact ⟨(0), (0), rf, rf, H', ⟨Nat.le_refl _⟩, ⟨ph HB.out⟩⟩
 case round =>
  clear H'
  obtain ⟨x3_1, x4_1, rfl, rfl, HA, HK1, HB⟩ := hrel
  cases gk with
  | zero => exact absurd HA.out (by simp [spec_l3Next.l0])
  | succ k1 =>
   have H := HA.out
   clear HA
   simp only [spec_l3Next.l0] at H
   by_cases c2 : x4_1 < (l0.length : Int)
   rotate_left
   · rw [if_neg c2] at H
     have c2b0 := decide_eq_false c2
     clear c2
     obtain rfl := Option.some.inj H
     go_wp2
     go_ret
     exact (rq (ph HB.out))
   rw [if_pos c2] at H
   have c2b0 := decide_eq_true c2
   clear c2
   obtain ⟨c3b0, H⟩ := ifd H
   replace H := Option.bind_eq_some_iff.mp H
   obtain ⟨t176, A40, H⟩ := H
   have A4 := am A40
   clear A40
   obtain ⟨ji5, hji5⟩ : ∃ j_ : Int, (mx x3_1 t176) = j_ := ⟨_, rfl⟩
   replace H : (spec_l3Next.l0 k1 l0 ji5 (wrap64 (x4_1 + 1))) = some r := by first | (rw [hji5] at H; exact H) | (simp only [hji5] at H ⊢; exact H)
   (try rw [hji5] at A4)
   have hji5_ : (if x3_1 < t176 then t176 else x3_1) = ji5 := hji5
   have H' := am H
   clear H
   have p175 : 0 ≤ (x4_1 : Int) := ofb
   have q175 : x4_1 < (l0.length : Int) := ofb
   obtain ⟨ad175, A175_0, c175_0, e175, hx175_0, hx175_1, hl175_0, hi175_0⟩ := at_T33 HR0.out x4_1 p175 q175
   cases e175
   replace hx175_0 := up HB.out hx175_0
   replace hx175_1 := up HB.out hx175_1
   have HR175_0 := am hi175_0
   have HC175_0 := am hl175_0
   clear hi175_0 hl175_0
   replace p175 := eq_true p175
   replace q175 := eq_true q175
   go_wp2_with (first | (refine gl 16 Try.func44 #[.agg #[.slice A175_0 ((rd_T33 l0 x4_1).f0).length c175_0, .int .i64 ((rd_T33 l0 x4_1).f1)]] rfl ?_; (with_reducible refine (spec_l3Most.calls k1 _ _ ((rd_T33 l0 x4_1).f0) ((rd_T33 l0 x4_1).f1) t176 _ ?side1 ?side2 A4.out).mono ?_); (case side1 => exact pc (Kd.C_below HR175_0.out HB.out)); (case side2 => exact HC175_0.out); rintro e w6 ⟨rfl, hb⟩; refine ⟨_, rfl, ?_⟩; replace HB := am (below_step (ph HB.out) hb); clear hb))
   go_roundg k1
   case measure => have := HK1.out; omega
   case rel => exact ⟨(ji5), (wrap64 (x4_1 + 1)), (by first | rfl | (simp; done) | (simp only [← hji5] <;> (first | rfl | simp)) | (simp [*]; done)), rf, H', ⟨by have := HK1.out; omega⟩, ⟨ph HB.out⟩⟩
mutual
def spec_l3Open.l0 : Nat → List (S33) → Int → Int → Option (Int × Bool)
 | 0, _, _, _ => none
 | k + 1, x0, x4, x5 => if x5 < (x0.length : Int) then (if 0 ≤ x5 then ((spec_l2Clean.f k ((rd_T33 x0 x5).f0) ((rd_T33 x0 x5).f1)).bind fun t178 => (if t178 > 0 then (spec_l3Open.j1 k x0 x4 x5 t178 (decide (t178 < 4))) else (spec_l3Open.j1 k x0 x4 x5 t178 false))) else (none)) else (some (mx x4 0, decide (x4 ≥ 0)))
def spec_l3Open.j1 : Nat → List (S33) → Int → Int → Int → Bool → Option (Int × Bool)
 | 0, _, _, _, _, _ => none
 | k + 1, x0, x4, x5, x6, x23 => if x23 = true then (some (x5, true)) else (if x6 > 0 then (if x4 < 0 then (spec_l3Open.l0 k x0 x5 (wrap64 (x5 + 1))) else (if 0 ≤ x5 then (if x5 < (x0.length : Int) then (if 0 ≤ x4 then (if x4 < (x0.length : Int) then (if ((rd_T33 x0 x5).f1) < ((rd_T33 x0 x4).f1) then (spec_l3Open.l0 k x0 x5 (wrap64 (x5 + 1))) else (spec_l3Open.l0 k x0 x4 (wrap64 (x5 + 1)))) else (none)) else (none)) else (none)) else (none))) else (spec_l3Open.l0 k x0 x4 (wrap64 (x5 + 1))))
end
def spec_l3Open.f (k : Nat) (l0 : List (S33)) : Option (Int × Bool) := spec_l3Open.l0 k l0 (-1) 0
theorem spec_l3Open.mono_l : ∀ k, (∀ y0 y1 y2, LeO (spec_l3Open.l0 k y0 y1 y2) (spec_l3Open.l0 (k + 1) y0 y1 y2)) ∧ (∀ y0 y1 y2 y3 y4, LeO (spec_l3Open.j1 k y0 y1 y2 y3 y4) (spec_l3Open.j1 (k + 1) y0 y1 y2 y3 y4))
 | 0 => ⟨fun _ _ _ r h => by simp [spec_l3Open.l0] at h, fun _ _ _ _ _ r h => by simp [spec_l3Open.j1] at h⟩
 | k + 1 => by
  obtain ⟨ih0, ih1⟩ := spec_l3Open.mono_l k
  refine ⟨?_, ?_⟩
  · intro y0 y1 y2
    unfold spec_l3Open.l0
    with_reducible repeat' first | exact ih0 _ _ _ | exact ih1 _ _ _ _ _ | exact spec_l2Clean.mono _ _ _ | exact LeO.refl _ | exact LeO.none _ | refine LeO.ite ?_ ?_ | refine LeO.bind ?_ (fun _ => ?_)
  · intro y0 y1 y2 y3 y4
    unfold spec_l3Open.j1
    with_reducible repeat' first | exact ih0 _ _ _ | exact ih1 _ _ _ _ _ | exact spec_l2Clean.mono _ _ _ | exact LeO.refl _ | exact LeO.none _ | refine LeO.ite ?_ ?_ | refine LeO.bind ?_ (fun _ => ?_)
theorem spec_l3Open.mono : ∀ a0 k, LeO (spec_l3Open.f k a0) (spec_l3Open.f (k + 1) a0) := by
 intro a0 k
 obtain ⟨ih0, ih1⟩ := spec_l3Open.mono_l k
 unfold spec_l3Open.f
 with_reducible repeat' first | exact ih0 _ _ _ | exact ih1 _ _ _ _ _ | exact spec_l2Clean.mono _ _ _ | exact LeO.refl _ | exact LeO.none _ | refine LeO.ite ?_ ?_ | refine LeO.bind ?_ (fun _ => ?_)
set_option maxHeartbeats 8000000 in
set_option maxRecDepth 100000 in
theorem spec_l3Open.calls (k : Nat) (A0 : Option Addr) (c0 : Nat) (l0 : List (S33)) (r1 : Int) (r2 : Bool) (w : World) (hr0 : Kd.C k33 w A0 l0.length l0) (hc0 : l0.length ≤ c0) (h : spec_l3Open.f k l0 = some (r1, r2)) :
 Calls Try.prog 45 #[.slice A0 l0.length c0] w fun e w' => e = .returned (.tuple #[.int .i64 r1, .bool r2]) ∧ Below w.heap.size w w' := by
 have hu33 := Try.underlying33
 have HR0 := am hr0
 have HC0 := am hc0
 clear hr0 hc0
 have HB := am (Below.refl w.heap.size w)
 have H : (spec_l3Open.l0 k l0 (-1) 0) = some (r1, r2) := h
 clear h
 have H' := am H
 clear H
 go_enter Try.func45, Try.ntmps45
 go_wp2
 repeat (go_quiet (fail); try go_wp2)
 go_loopg [4, 5] k (fun kq v4 v5 w' => ∃ (x4_1 : Int) (x5_1 : Int), v4 = .int .i64 x4_1 ∧ v5 = .int .i64 x5_1 ∧ Aside0 (spec_l3Open.l0 kq l0 x4_1 x5_1 = some (r1, r2)) ∧ Aside0 (kq ≤ k) ∧ Aside0 (Below w.heap.size w w'))
 case atStart => exact ⟨((-1)), (0), rf, rf, H', ⟨Nat.le_refl _⟩, ⟨ph HB.out⟩⟩
 case round =>
  clear H'
  obtain ⟨x4_1, x5_1, rfl, rfl, HA, HK1, HB⟩ := hrel
  cases gk with
  | zero => exact absurd HA.out (by simp [spec_l3Open.l0])
  | succ k1 =>
   have H := HA.out
   clear HA
   simp only [spec_l3Open.l0] at H
   by_cases c2 : x5_1 < (l0.length : Int)
   rotate_left
   · rw [if_neg c2] at H
     have c2b0 := decide_eq_false c2
     clear c2
     obtain ⟨ji16, hji16⟩ : ∃ j_ : Int, (mx x4_1 0) = j_ := ⟨_, rfl⟩
     replace H : (some (ji16, decide (x4_1 ≥ 0))) = some (r1, r2) := by first | (rw [hji16] at H; exact H) | (simp only [hji16] at H ⊢; exact H)
     have hji16_ : (if x4_1 < 0 then 0 else x4_1) = ji16 := hji16
     simp only [Option.some.injEq, Prod.mk.injEq] at H
     obtain ⟨rfl, rfl⟩ := H
     go_wp2
     repeat (go_quiet (fail); try go_wp2)
     go_ret2
     exact ⟨by first | rfl | (simp [errW_none, errW_some] <;> rfl) | (simp only [← hji16]; first | rfl | (simp [errW_none, errW_some] <;> rfl)) | (simp [*, errW_none, errW_some] <;> rfl), ph HB.out⟩
   rw [if_pos c2] at H
   have c2b0 := decide_eq_true c2
   clear c2
   obtain ⟨c3b0, H⟩ := ifd H
   replace H := Option.bind_eq_some_iff.mp H
   obtain ⟨t178, A40, H⟩ := H
   have A4 := am A40
   clear A40
   have HC5 := am H
   clear H
   have p177 : 0 ≤ (x5_1 : Int) := ofb
   have q177 : x5_1 < (l0.length : Int) := ofb
   obtain ⟨ad177, A177_0, c177_0, e177, hx177_0, hx177_1, hl177_0, hi177_0⟩ := at_T33 HR0.out x5_1 p177 q177
   cases e177
   replace hx177_0 := up HB.out hx177_0
   replace hx177_1 := up HB.out hx177_1
   have HR177_0 := am hi177_0
   have HC177_0 := am hl177_0
   clear hi177_0 hl177_0
   replace p177 := eq_true p177
   replace q177 := eq_true q177
   go_upto_region 6 with (first | (go_at_call 42; (with_reducible refine (spec_l2Clean.calls k1 _ _ ((rd_T33 l0 x5_1).f0) ((rd_T33 l0 x5_1).f1) t178 _ ?side1 ?side2 A4.out).mono ?_); (case side1 => exact pc (Kd.C_below HR177_0.out HB.out)); (case side2 => exact HC177_0.out); rintro e w6 ⟨rfl, hb⟩; replace HB := am (below_step (ph HB.out) hb); clear hb))
   repeat (go_quiet (first | (go_at_call 42; (with_reducible refine (spec_l2Clean.calls k1 _ _ ((rd_T33 l0 x5_1).f0) ((rd_T33 l0 x5_1).f1) t178 _ ?side1 ?side2 A4.out).mono ?_); (case side1 => exact pc (Kd.C_below HR177_0.out HB.out)); (case side2 => exact HC177_0.out); rintro e w6 ⟨rfl, hb⟩; replace HB := am (below_step (ph HB.out) hb); clear hb)); go_upto_region 6 with (first | (go_at_call 42; (with_reducible refine (spec_l2Clean.calls k1 _ _ ((rd_T33 l0 x5_1).f0) ((rd_T33 l0 x5_1).f1) t178 _ ?side1 ?side2 A4.out).mono ?_); (case side1 => exact pc (Kd.C_below HR177_0.out HB.out)); (case side2 => exact HC177_0.out); rintro e w6 ⟨rfl, hb⟩; replace HB := am (below_step (ph HB.out) hb); clear hb)))
   (try simp only [Act.put, List.setIfInBounds_toArray, List.set_cons_zero, List.set_cons_succ])
   go_cut [23] (fun v23 wc => ∃ (kq : Nat) (x23_4 : Bool), v23 = .bool x23_4 ∧ Aside0 (spec_l3Open.j1 kq l0 x4_1 x5_1 t178 x23_4 = some (r1, r2)) ∧ Aside0 (kq ≤ k1) ∧ Aside0 (Below w.heap.size w wc))
   case first =>
    have H := HC5.out
    clear HC5
    by_cases c7 : t178 > 0
    rotate_left
    · rw [if_neg c7] at H
      have c7b0 := decide_eq_false c7
      clear c7
      (first | rw [c7b0] | (simp only [i64_w, i32_w]; rw [c7b0]) | skip)
      have H' := am H
      clear H
      go_wp2
      repeat (go_quiet (fail); try go_wp2)
      go_meet
      case rel => exact ⟨_, (false), rf, H', ⟨by have := HK1.out; first | omega | exact Nat.le_refl _⟩, ⟨ph HB.out⟩⟩
    rw [if_pos c7] at H
    have c7b0 := decide_eq_true c7
    clear c7
    (first | rw [c7b0] | (simp only [i64_w, i32_w]; rw [c7b0]) | skip)
    have H' := am H
    clear H
    go_wp2
    repeat (go_quiet (fail); try go_wp2)
    go_meet
    case rel => exact ⟨_, (decide (t178 < 4)), rf, H', ⟨by have := HK1.out; first | omega | exact Nat.le_refl _⟩, ⟨ph HB.out⟩⟩
   case rest =>
    clear HC5
    obtain ⟨kq, x23_4, rfl, HA, HJ4, HB⟩ := hcut
    cases kq with
    | zero => exact absurd HA.out (by simp [spec_l3Open.j1])
    | succ kj4 =>
     have H := HA.out
     clear HA
     simp only [spec_l3Open.j1] at H
     by_cases c8 : x23_4 = true
     · subst c8
       rw [if_pos rfl] at H
       simp only [Option.some.injEq, Prod.mk.injEq] at H
       obtain ⟨rfl, rfl⟩ := H
       go_wp2
       repeat (go_quiet (fail); try go_wp2)
       go_ret2
       exact (rq (ph HB.out))
     replace c8 := Bool.eq_false_iff.mpr c8
     subst c8
     rw [if_neg (show ¬ (false = true) by decide)] at H
     by_cases c9 : t178 > 0
     rotate_left
     · rw [if_neg c9] at H
       have c9b0 := decide_eq_false c9
       clear c9
       have H' := am H
       clear H
       go_wp2
       repeat (go_quiet (fail); try go_wp2)
       go_roundg kj4
       case measure => have := HK1.out; have := HJ4.out; omega
       case rel => exact ⟨(x4_1), (wrap64 (x5_1 + 1)), rf, rf, H', ⟨by have := HK1.out; have := HJ4.out; omega⟩, ⟨ph HB.out⟩⟩
     rw [if_pos c9] at H
     have c9b0 := decide_eq_true c9
     clear c9
     by_cases c10 : x4_1 < 0
     · rw [if_pos c10] at H
       have c10b0 := decide_eq_true c10
       clear c10
       have H' := am H
       clear H
       go_wp2
       repeat (go_quiet (fail); try go_wp2)
       go_roundg kj4
       case measure => have := HK1.out; have := HJ4.out; omega
       case rel => exact ⟨(x5_1), (wrap64 (x5_1 + 1)), rf, rf, H', ⟨by have := HK1.out; have := HJ4.out; omega⟩, ⟨ph HB.out⟩⟩
     rw [if_neg c10] at H
     have c10b0 := decide_eq_false c10
     clear c10
     obtain ⟨c11b0, H⟩ := ifd H
     obtain ⟨c12b0, H⟩ := ifd H
     obtain ⟨c13b0, H⟩ := ifd H
     obtain ⟨c14b0, H⟩ := ifd H
     by_cases c15 : ((rd_T33 l0 x5_1).f1) < ((rd_T33 l0 x4_1).f1)
     · rw [if_pos c15] at H
       have c15b0 := decide_eq_true c15
       clear c15
       have H' := am H
       clear H
       have p179 : 0 ≤ (x5_1 : Int) := ofb
       have q179 : x5_1 < (l0.length : Int) := ofb
       obtain ⟨ad179, A179_0, c179_0, e179, hx179_0, hx179_1, hl179_0, hi179_0⟩ := at_T33 HR0.out x5_1 p179 q179
       obtain rfl : ad177 = ad179 := (by injection e179)
       replace hx179_0 := up HB.out hx179_0
       replace hx179_1 := up HB.out hx179_1
       have HR179_0 := am hi179_0
       have HC179_0 := am hl179_0
       clear hi179_0 hl179_0
       replace p179 := eq_true p179
       replace q179 := eq_true q179
       have p180 : 0 ≤ (x4_1 : Int) := ofb
       have q180 : x4_1 < (l0.length : Int) := ofb
       obtain ⟨ad180, A180_0, c180_0, e180, hx180_0, hx180_1, hl180_0, hi180_0⟩ := at_T33 HR0.out x4_1 p180 q180
       obtain rfl : ad177 = ad180 := (by injection e180)
       replace hx180_0 := up HB.out hx180_0
       replace hx180_1 := up HB.out hx180_1
       have HR180_0 := am hi180_0
       have HC180_0 := am hl180_0
       clear hi180_0 hl180_0
       replace p180 := eq_true p180
       replace q180 := eq_true q180
       go_wp2
       repeat (go_quiet (fail); try go_wp2)
       go_roundg kj4
       case measure => have := HK1.out; have := HJ4.out; omega
       case rel => exact ⟨(x5_1), (wrap64 (x5_1 + 1)), rf, rf, H', ⟨by have := HK1.out; have := HJ4.out; omega⟩, ⟨ph HB.out⟩⟩
     rw [if_neg c15] at H
     have c15b0 := decide_eq_false c15
     clear c15
     have H' := am H
     clear H
     have p179 : 0 ≤ (x5_1 : Int) := ofb
     have q179 : x5_1 < (l0.length : Int) := ofb
     obtain ⟨ad179, A179_0, c179_0, e179, hx179_0, hx179_1, hl179_0, hi179_0⟩ := at_T33 HR0.out x5_1 p179 q179
     obtain rfl : ad177 = ad179 := (by injection e179)
     replace hx179_0 := up HB.out hx179_0
     replace hx179_1 := up HB.out hx179_1
     have HR179_0 := am hi179_0
     have HC179_0 := am hl179_0
     clear hi179_0 hl179_0
     replace p179 := eq_true p179
     replace q179 := eq_true q179
     have p180 : 0 ≤ (x4_1 : Int) := ofb
     have q180 : x4_1 < (l0.length : Int) := ofb
     obtain ⟨ad180, A180_0, c180_0, e180, hx180_0, hx180_1, hl180_0, hi180_0⟩ := at_T33 HR0.out x4_1 p180 q180
     obtain rfl : ad177 = ad180 := (by injection e180)
     replace hx180_0 := up HB.out hx180_0
     replace hx180_1 := up HB.out hx180_1
     have HR180_0 := am hi180_0
     have HC180_0 := am hl180_0
     clear hi180_0 hl180_0
     replace p180 := eq_true p180
     replace q180 := eq_true q180
     go_wp2
     repeat (go_quiet (fail); try go_wp2)
     go_roundg kj4
     case measure => have := HK1.out; have := HJ4.out; omega
     case rel => exact ⟨(x4_1), (wrap64 (x5_1 + 1)), rf, rf, H', ⟨by have := HK1.out; have := HJ4.out; omega⟩, ⟨ph HB.out⟩⟩
def spec_l3Old.l0 : Nat → List (S33) → Int → Int → Option (Int)
 | 0, _, _, _ => none
 | k + 1, x0, x3, x4 => if x4 < (x0.length : Int) then (if 0 ≤ x4 then ((spec_l3Most.f k ((rd_T33 x0 x4).f0) ((rd_T33 x0 x4).f1)).bind fun t182 => (if 0 ≤ x3 then (if x3 < (x0.length : Int) then ((spec_l3Most.f k ((rd_T33 x0 x3).f0) ((rd_T33 x0 x3).f1)).bind fun t184 => (if t182 < t184 then (spec_l3Old.l0 k x0 x4 (wrap64 (x4 + 1))) else (spec_l3Old.l0 k x0 x3 (wrap64 (x4 + 1))))) else (none)) else (none))) else (none)) else (some x3)
def spec_l3Old.f (k : Nat) (l0 : List (S33)) : Option (Int) := spec_l3Old.l0 k l0 0 1
theorem spec_l3Old.mono_l : ∀ k, (∀ y0 y1 y2, LeO (spec_l3Old.l0 k y0 y1 y2) (spec_l3Old.l0 (k + 1) y0 y1 y2))
 | 0 => fun _ _ _ r h => by simp [spec_l3Old.l0] at h
 | k + 1 => by
  have ih0 := spec_l3Old.mono_l k
  · intro y0 y1 y2
    unfold spec_l3Old.l0
    with_reducible repeat' first | exact ih0 _ _ _ | exact spec_l3Most.mono _ _ _ | exact LeO.refl _ | exact LeO.none _ | refine LeO.ite ?_ ?_ | refine LeO.bind ?_ (fun _ => ?_)
theorem spec_l3Old.mono : ∀ a0 k, LeO (spec_l3Old.f k a0) (spec_l3Old.f (k + 1) a0) := by
 intro a0 k
 have ih0 := spec_l3Old.mono_l k
 unfold spec_l3Old.f
 with_reducible repeat' first | exact ih0 _ _ _ | exact spec_l3Most.mono _ _ _ | exact LeO.refl _ | exact LeO.none _ | refine LeO.ite ?_ ?_ | refine LeO.bind ?_ (fun _ => ?_)
def spec_l3Old.T5 : Bool × List (List Nat × List Nat) := (true, [([], []), ([], []), ([0, 1], [0, 1]), ([2], [2]), ([3], [3]), ([], []), ([], []), ([5, 6], [5, 6]), ([7], [7]), ([8, 4], [8]), ([4, 9], [4, 9])])
def spec_l3Old.B5 : List Nat := [0, 0, 3, 7, 15, 0, 0, 96, 224, 511, 1023]
theorem spec_l3Old.tab5 : rtab .any (opsOf Try.f46 5) = spec_l3Old.T5 := by kernel_rfl
theorem spec_l3Old.bits5 : waitsOk spec_l3Old.T5.2 spec_l3Old.B5 = true := by kernel_rfl
set_option maxHeartbeats 8000000 in
set_option maxRecDepth 100000 in
theorem spec_l3Old.calls (k : Nat) (A0 : Option Addr) (c0 : Nat) (l0 : List (S33)) (r : Int) (w : World) (hr0 : Kd.C k33 w A0 l0.length l0) (hc0 : l0.length ≤ c0) (h : spec_l3Old.f k l0 = some r) :
 Calls Try.prog 46 #[.slice A0 l0.length c0] w fun e w' => e = .returned (.int .i64 r) ∧ Below w.heap.size w w' := by
 have hu33 := Try.underlying33
 have HR0 := am hr0
 have HC0 := am hc0
 clear hr0 hc0
 have HB := am (Below.refl w.heap.size w)
 have H : (spec_l3Old.l0 k l0 0 1) = some r := h
 clear h
 have H' := am H
 clear H
 go_enter Try.func46, Try.ntmps46
 go_wp2
 go_loopg [3, 4] k (fun kq v3 v4 w' => ∃ (x3_1 : Int) (x4_1 : Int), v3 = .int .i64 x3_1 ∧ v4 = .int .i64 x4_1 ∧ Aside0 (spec_l3Old.l0 kq l0 x3_1 x4_1 = some r) ∧ Aside0 (kq ≤ k) ∧ Aside0 (Below w.heap.size w w'))
 case atStart => exact ⟨(0), (1), rf, rf, H', ⟨Nat.le_refl _⟩, ⟨ph HB.out⟩⟩
 case round =>
  clear H'
  obtain ⟨x3_1, x4_1, rfl, rfl, HA, HK1, HB⟩ := hrel
  cases gk with
  | zero => exact absurd HA.out (by simp [spec_l3Old.l0])
  | succ k1 =>
   have H := HA.out
   clear HA
   simp only [spec_l3Old.l0] at H
   by_cases c2 : x4_1 < (l0.length : Int)
   rotate_left
   · rw [if_neg c2] at H
     have c2b0 := decide_eq_false c2
     clear c2
     obtain rfl := Option.some.inj H
     go_wp2
     go_ret
     exact (rq (ph HB.out))
   rw [if_pos c2] at H
   have c2b0 := decide_eq_true c2
   clear c2
   obtain ⟨c3b0, H⟩ := ifd H
   replace H := Option.bind_eq_some_iff.mp H
   obtain ⟨t182, A40, H⟩ := H
   have A4 := am A40
   clear A40
   obtain ⟨c5b0, H⟩ := ifd H
   obtain ⟨c6b0, H⟩ := ifd H
   replace H := Option.bind_eq_some_iff.mp H
   obtain ⟨t184, A70, H⟩ := H
   have A7 := am A70
   clear A70
   by_cases c8 : t182 < t184
   · rw [if_pos c8] at H
     have c8b0 := decide_eq_true c8
     clear c8
     have H' := am H
     clear H
     try go_wp2
     replace HB := am (below_drew1 HB.out)
     have p181 : 0 ≤ (x4_1 : Int) := ofb
     have q181 : x4_1 < (l0.length : Int) := ofb
     obtain ⟨ad181, A181_0, c181_0, e181, hx181_0, hx181_1, hl181_0, hi181_0⟩ := at_T33 HR0.out x4_1 p181 q181
     have hw181_1 := hx181_1
     have hw181_0 := hx181_0
     cases e181
     replace hx181_0 := up HB.out hx181_0
     replace hx181_1 := up HB.out hx181_1
     have HR181_0 := am hi181_0
     have HC181_0 := am hl181_0
     clear hi181_0 hl181_0
     replace p181 := eq_true p181
     replace q181 := eq_true q181
     have p183 : 0 ≤ (x3_1 : Int) := ofb
     have q183 : x3_1 < (l0.length : Int) := ofb
     obtain ⟨ad183, A183_0, c183_0, e183, hx183_0, hx183_1, hl183_0, hi183_0⟩ := at_T33 HR0.out x3_1 p183 q183
     have hw183_1 := hx183_1
     have hw183_0 := hx183_0
     obtain rfl : ad181 = ad183 := (by injection e183)
     replace hx183_0 := up HB.out hx183_0
     replace hx183_1 := up HB.out hx183_1
     have HR183_0 := am hi183_0
     have HC183_0 := am hl183_0
     clear hi183_0 hl183_0
     replace p183 := eq_true p183
     replace q183 := eq_true q183
     refine start_ (n := 11) (S := fun w' => w'.cell? (ad181.add ((x4_1).toNat * 2)) = some (.slice A181_0 ((rd_T33 l0 x4_1).f0).length c181_0) ∧ w'.cell? ⟨(ad181.add ((x4_1).toNat * 2)).block, (ad181.add ((x4_1).toNat * 2)).off + 1, none⟩ = some (.int .i64 ((rd_T33 l0 x4_1).f1)) ∧ w'.cell? (ad181.add ((x3_1).toNat * 2)) = some (.slice A183_0 ((rd_T33 l0 x3_1).f0).length c183_0) ∧ w'.cell? ⟨(ad181.add ((x3_1).toNat * 2)).block, (ad181.add ((x3_1).toNat * 2)).off + 1, none⟩ = some (.int .i64 ((rd_T33 l0 x3_1).f1))) (ds := []) (bt 11 0) (by kernel_rfl) rfl rfl ⟨((HB.out.cell (World.block_lt_of_cell? w _ hw181_0)).trans hw181_0), ((HB.out.cell (World.block_lt_of_cell? w _ hw181_1)).trans hw181_1), ((HB.out.cell (World.block_lt_of_cell? w _ hw183_0)).trans hw183_0), ((HB.out.cell (World.block_lt_of_cell? w _ hw183_1)).trans hw183_1)⟩ (fun hHeld => ?_); refine with_tabW spec_l3Old.tab5 spec_l3Old.bits5 (fun HT_ HW_ => ?_)
     generalize wr.drew = w9 at HB HR181_0 HR183_0 hx181_0 hx181_1 hx183_0 hx183_1 hHeld ⊢
     refine qj 0 11 (bt 11 1) rfl rfl HT_.out ?_
     refine qj 1 12 (bt 11 3) rfl rfl HT_.out ?_
     refine qj 2 13 (bt 11 7) rfl rfl HT_.out ?_
     refine qj 5 16 (bt 11 39) rfl rfl HT_.out ?_
     refine qj 6 17 (bt 11 103) rfl rfl HT_.out ?_
     refine qj 7 18 (bt 11 231) rfl rfl HT_.out ?_
     refine qm 3 14 (bt 11 239) rfl rfl HT_.out HW_.out hHeld ?_
     refine qm 8 19 (bt 11 495) rfl rfl HT_.out HW_.out hHeld ?_
     refine qo 4 (some 15) (bt 11 511) rfl rfl HT_.out fun K hK => ?_
     refine qg Try.func44 #[.agg #[.slice A181_0 ((rd_T33 l0 x4_1).f0).length c181_0, .int .i64 ((rd_T33 l0 x4_1).f1)]] rfl rfl ?_
     with_reducible refine (spec_l3Most.calls k1 _ _ ((rd_T33 l0 x4_1).f0) ((rd_T33 l0 x4_1).f1) t182 _ ?side1 ?side2 A4.out).mono ?_
     (case side1 => exact pc (Kd.C_below HR181_0.out HB.out))
     (case side2 => exact HC181_0.out)
     rintro e w10 ⟨rfl, hb⟩
     refine ⟨_, rfl, ?_⟩
     replace HB := am (below_step (ph HB.out) hb)
     clear hb
     refine hK.out _ _ ⟨((HB.out.cell (World.block_lt_of_cell? w _ hw181_0)).trans hw181_0), ((HB.out.cell (World.block_lt_of_cell? w _ hw181_1)).trans hw181_1), ((HB.out.cell (World.block_lt_of_cell? w _ hw183_0)).trans hw183_0), ((HB.out.cell (World.block_lt_of_cell? w _ hw183_1)).trans hw183_1)⟩ (fun hHeld => ?_)
     clear hK K
     refine qn (some 15) ?_
     refine qo 9 (some 20) (bt 11 1023) rfl rfl HT_.out fun K hK => ?_
     refine qg Try.func44 #[.agg #[.slice A183_0 ((rd_T33 l0 x3_1).f0).length c183_0, .int .i64 ((rd_T33 l0 x3_1).f1)]] rfl rfl ?_
     with_reducible refine (spec_l3Most.calls k1 _ _ ((rd_T33 l0 x3_1).f0) ((rd_T33 l0 x3_1).f1) t184 _ ?side1 ?side2 A7.out).mono ?_
     (case side1 => exact pc (Kd.C_below HR183_0.out HB.out))
     (case side2 => exact HC183_0.out)
     rintro e w11 ⟨rfl, hb⟩
     refine ⟨_, rfl, ?_⟩
     replace HB := am (below_step (ph HB.out) hb)
     clear hb
     refine hK.out _ _ ⟨((HB.out.cell (World.block_lt_of_cell? w _ hw181_0)).trans hw181_0), ((HB.out.cell (World.block_lt_of_cell? w _ hw181_1)).trans hw181_1), ((HB.out.cell (World.block_lt_of_cell? w _ hw183_0)).trans hw183_0), ((HB.out.cell (World.block_lt_of_cell? w _ hw183_1)).trans hw183_1)⟩ (fun hHeld => ?_)
     clear hK K
     refine qn (some 20) ?_
     refine qj 10 21 (bt 11 2047) rfl rfl HT_.out ?_
     refine done_ (done_of HT_.out (by kernel_rfl)) ?_
     try go_wp2
     go_roundg k1
     case measure => have := HK1.out; omega
     case rel => exact ⟨(x4_1), (wrap64 (x4_1 + 1)), rf, rf, H', ⟨by have := HK1.out; omega⟩, ⟨ph HB.out⟩⟩
   rw [if_neg c8] at H
   have c8b0 := decide_eq_false c8
   clear c8
   have H' := am H
   clear H
   try go_wp2
   replace HB := am (below_drew1 HB.out)
   have p181 : 0 ≤ (x4_1 : Int) := ofb
   have q181 : x4_1 < (l0.length : Int) := ofb
   obtain ⟨ad181, A181_0, c181_0, e181, hx181_0, hx181_1, hl181_0, hi181_0⟩ := at_T33 HR0.out x4_1 p181 q181
   have hw181_1 := hx181_1
   have hw181_0 := hx181_0
   cases e181
   replace hx181_0 := up HB.out hx181_0
   replace hx181_1 := up HB.out hx181_1
   have HR181_0 := am hi181_0
   have HC181_0 := am hl181_0
   clear hi181_0 hl181_0
   replace p181 := eq_true p181
   replace q181 := eq_true q181
   have p183 : 0 ≤ (x3_1 : Int) := ofb
   have q183 : x3_1 < (l0.length : Int) := ofb
   obtain ⟨ad183, A183_0, c183_0, e183, hx183_0, hx183_1, hl183_0, hi183_0⟩ := at_T33 HR0.out x3_1 p183 q183
   have hw183_1 := hx183_1
   have hw183_0 := hx183_0
   obtain rfl : ad181 = ad183 := (by injection e183)
   replace hx183_0 := up HB.out hx183_0
   replace hx183_1 := up HB.out hx183_1
   have HR183_0 := am hi183_0
   have HC183_0 := am hl183_0
   clear hi183_0 hl183_0
   replace p183 := eq_true p183
   replace q183 := eq_true q183
   refine start_ (n := 11) (S := fun w' => w'.cell? (ad181.add ((x4_1).toNat * 2)) = some (.slice A181_0 ((rd_T33 l0 x4_1).f0).length c181_0) ∧ w'.cell? ⟨(ad181.add ((x4_1).toNat * 2)).block, (ad181.add ((x4_1).toNat * 2)).off + 1, none⟩ = some (.int .i64 ((rd_T33 l0 x4_1).f1)) ∧ w'.cell? (ad181.add ((x3_1).toNat * 2)) = some (.slice A183_0 ((rd_T33 l0 x3_1).f0).length c183_0) ∧ w'.cell? ⟨(ad181.add ((x3_1).toNat * 2)).block, (ad181.add ((x3_1).toNat * 2)).off + 1, none⟩ = some (.int .i64 ((rd_T33 l0 x3_1).f1))) (ds := []) (bt 11 0) (by kernel_rfl) rfl rfl ⟨((HB.out.cell (World.block_lt_of_cell? w _ hw181_0)).trans hw181_0), ((HB.out.cell (World.block_lt_of_cell? w _ hw181_1)).trans hw181_1), ((HB.out.cell (World.block_lt_of_cell? w _ hw183_0)).trans hw183_0), ((HB.out.cell (World.block_lt_of_cell? w _ hw183_1)).trans hw183_1)⟩ (fun hHeld => ?_); refine with_tabW spec_l3Old.tab5 spec_l3Old.bits5 (fun HT_ HW_ => ?_)
   generalize wr.drew = w12 at HB HR181_0 HR183_0 hx181_0 hx181_1 hx183_0 hx183_1 hHeld ⊢
   refine qj 0 11 (bt 11 1) rfl rfl HT_.out ?_
   refine qj 1 12 (bt 11 3) rfl rfl HT_.out ?_
   refine qj 2 13 (bt 11 7) rfl rfl HT_.out ?_
   refine qj 5 16 (bt 11 39) rfl rfl HT_.out ?_
   refine qj 6 17 (bt 11 103) rfl rfl HT_.out ?_
   refine qj 7 18 (bt 11 231) rfl rfl HT_.out ?_
   refine qm 3 14 (bt 11 239) rfl rfl HT_.out HW_.out hHeld ?_
   refine qm 8 19 (bt 11 495) rfl rfl HT_.out HW_.out hHeld ?_
   refine qo 4 (some 15) (bt 11 511) rfl rfl HT_.out fun K hK => ?_
   refine qg Try.func44 #[.agg #[.slice A181_0 ((rd_T33 l0 x4_1).f0).length c181_0, .int .i64 ((rd_T33 l0 x4_1).f1)]] rfl rfl ?_
   with_reducible refine (spec_l3Most.calls k1 _ _ ((rd_T33 l0 x4_1).f0) ((rd_T33 l0 x4_1).f1) t182 _ ?side1 ?side2 A4.out).mono ?_
   (case side1 => exact pc (Kd.C_below HR181_0.out HB.out))
   (case side2 => exact HC181_0.out)
   rintro e w13 ⟨rfl, hb⟩
   refine ⟨_, rfl, ?_⟩
   replace HB := am (below_step (ph HB.out) hb)
   clear hb
   refine hK.out _ _ ⟨((HB.out.cell (World.block_lt_of_cell? w _ hw181_0)).trans hw181_0), ((HB.out.cell (World.block_lt_of_cell? w _ hw181_1)).trans hw181_1), ((HB.out.cell (World.block_lt_of_cell? w _ hw183_0)).trans hw183_0), ((HB.out.cell (World.block_lt_of_cell? w _ hw183_1)).trans hw183_1)⟩ (fun hHeld => ?_)
   clear hK K
   refine qn (some 15) ?_
   refine qo 9 (some 20) (bt 11 1023) rfl rfl HT_.out fun K hK => ?_
   refine qg Try.func44 #[.agg #[.slice A183_0 ((rd_T33 l0 x3_1).f0).length c183_0, .int .i64 ((rd_T33 l0 x3_1).f1)]] rfl rfl ?_
   with_reducible refine (spec_l3Most.calls k1 _ _ ((rd_T33 l0 x3_1).f0) ((rd_T33 l0 x3_1).f1) t184 _ ?side1 ?side2 A7.out).mono ?_
   (case side1 => exact pc (Kd.C_below HR183_0.out HB.out))
   (case side2 => exact HC183_0.out)
   rintro e w14 ⟨rfl, hb⟩
   refine ⟨_, rfl, ?_⟩
   replace HB := am (below_step (ph HB.out) hb)
   clear hb
   refine hK.out _ _ ⟨((HB.out.cell (World.block_lt_of_cell? w _ hw181_0)).trans hw181_0), ((HB.out.cell (World.block_lt_of_cell? w _ hw181_1)).trans hw181_1), ((HB.out.cell (World.block_lt_of_cell? w _ hw183_0)).trans hw183_0), ((HB.out.cell (World.block_lt_of_cell? w _ hw183_1)).trans hw183_1)⟩ (fun hHeld => ?_)
   clear hK K
   refine qn (some 20) ?_
   refine qj 10 21 (bt 11 2047) rfl rfl HT_.out ?_
   refine done_ (done_of HT_.out (by kernel_rfl)) ?_
   try go_wp2
   go_roundg k1
   case measure => have := HK1.out; omega
   case rel => exact ⟨(x3_1), (wrap64 (x4_1 + 1)), rf, rf, H', ⟨by have := HK1.out; omega⟩, ⟨ph HB.out⟩⟩
end Go.Proofs.Ytfijfkbdedcnfaa.R4
