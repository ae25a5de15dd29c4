-- printed by wip/pp/pp.py
import Derived.Test.YtjlmndgpmhbdlaaRz0
import Derived.Test.YtjlmndgpmhbdlaaRz1
import Derived.Test.YtjlmndgpmhbdlaaRz2
namespace Go.Proofs.Ytjlmndgpmhbdlaa.Rz
open Go.RowKit Go.Proofs.YtjlmndgpmhbdlaaW.PrintWords Go.Proofs.YtjlmndgpmhbdlaaW.PrintLast Go.Proofs.YtjlmndgpmhbdlaaW.PrintMore
attribute [local go_sem] max2_int min2_int max_two min_two max_three min_three max_four min_four
set_option linter.unusedVariables false
set_option linter.unusedSimpArgs false
mutual
def spec_l12To.j1 : Nat → List (S93) → Int → Bool → List (S62) → List Int → Option ((List (S62)) × List Int)
 | 0, _, _, _, _, _ => none
 | k + 1, x1, x2, x3, x149000, x149001 => if x3 = true then ((spec_l6In.f x2 0 (wrap64 ((x1.length : Int) - 1))).bind fun t157 => (if t157 = true then (if 0 ≤ x2 then (if x2 < (x1.length : Int) then ((spec_l12Do.f k x149000 x149001 ((rd_T93 x1 x2).f0) ((rd_T93 x1 x2).f1) ((rd_T93 x1 x2).f2) ((rd_T93 x1 x2).f3) ((rd_T93 x1 x2).f4.f0) ((rd_T93 x1 x2).f4.f1) ((rd_T93 x1 x2).f4.f2) ((rd_T93 x1 x2).f4.f3) true).bind fun bt159 => (some (bt159.1, bt159.2))) else (none)) else (none)) else (some (x149000, x149001)))) else (some (x149000, x149001))
def spec_l12To.l0 : Nat → List (S93) → Int → Bool → Int → List (S62) → List Int → Option ((List (S62)) × List Int)
 | 0, _, _, _, _, _, _ => none
 | k + 1, x1, x2, x3, x9, x149000, x149001 => if x9 < (x1.length : Int) then (if x9 < x2 then (if 0 ≤ x9 then ((spec_l12Do.f k x149000 x149001 ((rd_T93 x1 x9).f0) ((rd_T93 x1 x9).f1) ((rd_T93 x1 x9).f2) ((rd_T93 x1 x9).f3) ((rd_T93 x1 x9).f4.f0) ((rd_T93 x1 x9).f4.f1) ((rd_T93 x1 x9).f4.f2) ((rd_T93 x1 x9).f4.f3) false).bind fun bt151 => (spec_l12To.l0 k x1 x2 x3 (wrap64 (x9 + 1)) bt151.1 bt151.2)) else (none)) else (spec_l12To.j1 k x1 x2 x3 x149000 x149001)) else (spec_l12To.j1 k x1 x2 x3 x149000 x149001)
end
def spec_l12To.f (k : Nat) (l0_0 : List (S62)) (l0_1 : List Int) (l1 : List (S93)) (a2 : Int) (a3 : Bool) : Option ((List (S62)) × List Int) := spec_l12To.l0 k l1 a2 a3 0 l0_0 l0_1
theorem spec_l12To.mono_l : ∀ k, (∀ y0 y1 y2 y3 y4, LeO (spec_l12To.j1 k y0 y1 y2 y3 y4) (spec_l12To.j1 (k + 1) y0 y1 y2 y3 y4)) ∧ (∀ y0 y1 y2 y3 y4 y5, LeO (spec_l12To.l0 k y0 y1 y2 y3 y4 y5) (spec_l12To.l0 (k + 1) y0 y1 y2 y3 y4 y5))
 | 0 => ⟨fun _ _ _ _ _ r h => by simp [spec_l12To.j1] at h, fun _ _ _ _ _ _ r h => by simp [spec_l12To.l0] at h⟩
 | k + 1 => by
  obtain ⟨ih0, ih1⟩ := spec_l12To.mono_l k
  refine ⟨?_, ?_⟩
  · intro y0 y1 y2 y3 y4
    unfold spec_l12To.j1
    with_reducible repeat' first | exact ih0 _ _ _ _ _ | exact ih1 _ _ _ _ _ _ | exact spec_l12Do.mono _ _ _ _ _ _ _ _ _ _ _ _ | exact LeO.refl _ | exact LeO.none _ | refine LeO.ite ?_ ?_ | refine LeO.bind ?_ (fun _ => ?_)
  · intro y0 y1 y2 y3 y4 y5
    unfold spec_l12To.l0
    with_reducible repeat' first | exact ih0 _ _ _ _ _ | exact ih1 _ _ _ _ _ _ | exact spec_l12Do.mono _ _ _ _ _ _ _ _ _ _ _ _ | exact LeO.refl _ | exact LeO.none _ | refine LeO.ite ?_ ?_ | refine LeO.bind ?_ (fun _ => ?_)
theorem spec_l12To.mono : ∀ a0 a1 a2 a3 a4 k, LeO (spec_l12To.f k a0 a1 a2 a3 a4) (spec_l12To.f (k + 1) a0 a1 a2 a3 a4) := by
 intro a0 a1 a2 a3 a4 k
 obtain ⟨ih0, ih1⟩ := spec_l12To.mono_l k
 unfold spec_l12To.f
 with_reducible repeat' first | exact ih0 _ _ _ _ _ | exact ih1 _ _ _ _ _ _ | exact spec_l12Do.mono _ _ _ _ _ _ _ _ _ _ _ _ | exact LeO.refl _ | exact LeO.none _ | refine LeO.ite ?_ ?_ | refine LeO.bind ?_ (fun _ => ?_)
set_option maxHeartbeats 8000000 in
set_option maxRecDepth 100000 in
theorem spec_l12To.calls (k : Nat) (P0_0_ : Nat → Prop) (u9000_ : Value) (l0_0 : List (S62)) (P0_1_ : Nat → Prop) (u9001_ : Value) (l0_1 : List Int) (A1 : Option Addr) (c1 : Nat) (l1 : List (S93)) (a2 : Int) (a3 : Bool) (r1 : List (S62)) (r2 : List Int) (w0 w : World) (hB : Below w0.heap.size w0 w) (ho0_0 : Kd.S k62 62 w w0.heap.size P0_0_ u9000_ l0_0) (ho0_1 : Kd.R (Kd.int .i64) 3 w w0.heap.size P0_1_ u9001_ l0_1) (hr1 : ∀ W_, Kept w W_ (fun k_ => P0_0_ k_ ∨ P0_1_ k_) → Kd.C k93 W_ A1 l1.length l1) (hc1 : l1.length ≤ c1) (h : spec_l12To.f k l0_0 l0_1 l1 a2 a3 = some (r1, r2)) :
 Calls Try.prog 45 #[.agg #[u9000_, u9001_], .slice A1 l1.length c1, .int .i64 a2, .bool a3] w fun e w' => ∃ v0_ v1_ : Value, e = .returned (.agg #[v0_, v1_]) ∧ Kd.S k62 62 w' w0.heap.size (fun k_ => ((P0_0_ k_ ∨ P0_1_ k_) ∨ w.heap.size ≤ k_)) v0_ r1 ∧ Kd.R (Kd.int .i64) 3 w' w0.heap.size (fun k_ => ((P0_0_ k_ ∨ P0_1_ k_) ∨ w.heap.size ≤ k_)) v1_ r2 ∧ Below w0.heap.size w0 w' ∧ Kept w w' (fun k_ => P0_0_ k_ ∨ P0_1_ k_) := by
 have hu26 := Try.underlying26
 have hu93 := Try.underlying93
 have HO0_0 := am (show Kd.S k62 62 w w0.heap.size (fun k_ => ((P0_0_ k_ ∨ P0_1_ k_) ∨ w.heap.size ≤ k_)) u9000_ l0_0 from Kd.S_mono ho0_0 (fun k_ hk => (.inl (.inl hk))))
 have HO0_1 := am (show Kd.R (Kd.int .i64) 3 w w0.heap.size (fun k_ => ((P0_0_ k_ ∨ P0_1_ k_) ∨ w.heap.size ≤ k_)) u9001_ l0_1 from Kd.R_mono ho0_1 (fun k_ hk => (.inl (.inr hk))))
 have HR1 := am hr1
 have HC1 := am hc1
 clear hr1 hc1
 have HK := am (Kept.refl w (fun k_ => P0_0_ k_ ∨ P0_1_ k_))
 have HW0 := am hB.size
 have HB := am hB
 clear hB
 have H : (spec_l12To.l0 k l1 a2 a3 0 l0_0 l0_1) = some (r1, r2) := h
 clear h
 have HC5 := am H
 clear H
 obtain ⟨Ao6, co6, eo6⟩ := Kd.S_slice HO0_0.out
 subst eo6
 obtain ⟨Ao7, co7, eo7⟩ := Kd.R_slice HO0_1.out
 subst eo7
 go_enter Try.func45, Try.ntmps45
 go_upto_block 0 with (first | ((with_reducible refine gate_dst (N := 4) rfl ?_); (try (refine gate_guard (by rfl) ?_; dsimp only)); refine box_event ?hg (N := 4) ?hd (cs := #[.slice Ao6 l0_0.length co6, .slice Ao7 l0_1.length co7]) (t := 26) ?hr ?_; (case hd => rfl); (case hg => rfl); (case hr => first | (go_simp; done) | (go_simp; rfl)); intro gb148 hg w8 hbox hb; replace HO0_0 := am (Kd.S_below (ps HO0_0.out) hb); replace HO0_1 := am (Kd.R_below (pr HO0_1.out) hb); have BK148 := am (hbox); have GW148 := am (gw hg (pk HK.out)); replace HK := am (Kept.below (pk HK.out) hb); have GE148 := am (ge hg (ph HB.out)); replace HB := am (below_step (ph HB.out) hb); clear hb hbox hg) | ((with_reducible refine gate_dst (N := 8) rfl ?_); (try (refine gate_guard (by rfl) ?_; dsimp only)); refine box_event ?hg (N := 8) ?hd (cs := #[.slice none 0 0, .slice none 0 0]) (t := 26) ?hr ?_; (case hd => rfl); (case hg => rfl); (case hr => first | (go_simp; done) | (go_simp; rfl)); intro gb149 hg w9 hbox hb; replace HO0_0 := am (Kd.S_below (ps HO0_0.out) hb); replace HO0_1 := am (Kd.R_below (pr HO0_1.out) hb); have BK149 := am (hbox); have GW149 := am (gw hg (kg1 HK.out (.inr GW148.out))); replace HK := am (Kept.below (kg1 HK.out (.inr GW148.out)) hb); have GE149 := am (ge hg (bg1 HB.out GE148.out)); replace HB := am (below_step (bg1 HB.out GE148.out) hb); have NB148_149 := am (nb hg (pb BK148.out)); have NB149_148 := am (Ne.symm NB148_149.out); replace BK148 := am (blk_below (pb BK148.out) hb); clear hb hbox hg))
 (try simp only [Act.put, List.setIfInBounds_toArray, List.set_cons_zero, List.set_cons_succ])
 go_cut [] (fun wc => ∃ (kq : Nat) (x149000_4 : List (S62)) (x149001_4 : List Int) (u149000 : Value) (u149001 : Value), Aside0 (spec_l12To.j1 kq l1 a2 a3 x149000_4 x149001_4 = some (r1, r2)) ∧ Aside0 (kq ≤ k) ∧ Aside0 (Kd.S k62 62 wc w0.heap.size (fun k_ => ((P0_0_ k_ ∨ P0_1_ k_) ∨ w.heap.size ≤ k_)) u149000 x149000_4) ∧ Aside0 (Kd.R (Kd.int .i64) 3 wc w0.heap.size (fun k_ => ((P0_0_ k_ ∨ P0_1_ k_) ∨ w.heap.size ≤ k_)) u149001 x149001_4) ∧ Aside0 (wc.heap[gb148]? = some (.cells #[u149000, u149001] 26 (0, 0))) ∧ Aside0 (wc.heap[gb149]? = some (.cells #[(.slice none 0 0), (.slice none 0 0)] 26 (0, 0))) ∧ Aside0 (Kept w wc (fun k_ => P0_0_ k_ ∨ P0_1_ k_)) ∧ Aside0 (Below w0.heap.size w0 wc))
 case first =>
  have H := HC5.out
  clear HC5
  have H' := am H
  clear H
  go_wp2
  go_loopg [9] k (fun kq v9 w' => ∃ (x9_1 : Int) (x149000_1 : List (S62)) (x149001_1 : List Int) (u149000 : Value) (u149001 : Value), v9 = .int .i64 x9_1 ∧ Aside0 (spec_l12To.l0 kq l1 a2 a3 x9_1 x149000_1 x149001_1 = some (r1, r2)) ∧ Aside0 (kq ≤ k) ∧ Aside0 (Kd.S k62 62 w' w0.heap.size (fun k_ => ((P0_0_ k_ ∨ P0_1_ k_) ∨ w.heap.size ≤ k_)) u149000 x149000_1) ∧ Aside0 (Kd.R (Kd.int .i64) 3 w' w0.heap.size (fun k_ => ((P0_0_ k_ ∨ P0_1_ k_) ∨ w.heap.size ≤ k_)) u149001 x149001_1) ∧ Aside0 (w'.heap[gb148]? = some (.cells #[u149000, u149001] 26 (0, 0))) ∧ Aside0 (w'.heap[gb149]? = some (.cells #[(.slice none 0 0), (.slice none 0 0)] 26 (0, 0))) ∧ Aside0 (Kept w w' (fun k_ => P0_0_ k_ ∨ P0_1_ k_)) ∧ Aside0 (Below w0.heap.size w0 w'))
  case atStart => exact ⟨(0), (l0_0), (l0_1), (.slice Ao6 l0_0.length co6), (.slice Ao7 l0_1.length co7), rf, H', ⟨Nat.le_refl _⟩, ⟨ps HO0_0.out⟩, ⟨pr HO0_1.out⟩, ⟨pb BK148.out⟩, ⟨pb BK149.out⟩, ⟨kg2 HK.out (.inr GW148.out) (.inr GW149.out)⟩, ⟨bg2 HB.out GE148.out GE149.out⟩⟩
  case round =>
   clear H'
   obtain ⟨x9_1, x149000_1, x149001_1, u149000, u149001, rfl, HA, HK1, HO_149000, HO_149001, BK148, BK149, HK, HB⟩ := hrel
   cases gk with
   | zero => exact absurd HA.out (by simp [spec_l12To.l0])
   | succ k1 =>
    have H := HA.out
    clear HA
    simp only [spec_l12To.l0] at H
    by_cases c10 : x9_1 < (l1.length : Int)
    rotate_left
    · rw [if_neg c10] at H
      have c10b0 := decide_eq_false c10
      clear c10
      (first | rw [c10b0] | (simp only [i64_w, i32_w]; rw [c10b0]) | skip)
      have H' := am H
      clear H
      go_wp2
      go_meet
      case rel => exact ⟨_, (x149000_1), (x149001_1), (u149000), (u149001), H', ⟨by have := HK1.out; first | omega | exact Nat.le_refl _⟩, ⟨ps HO_149000.out⟩, ⟨pr HO_149001.out⟩, ⟨pb BK148.out⟩, ⟨pb BK149.out⟩, ⟨kg2 HK.out (.inr GW148.out) (.inr GW149.out)⟩, ⟨bg2 HB.out GE148.out GE149.out⟩⟩
    rw [if_pos c10] at H
    have c10b0 := decide_eq_true c10
    clear c10
    (first | rw [c10b0] | (simp only [i64_w, i32_w]; rw [c10b0]) | skip)
    by_cases c11 : x9_1 < a2
    rotate_left
    · rw [if_neg c11] at H
      have c11b0 := decide_eq_false c11
      clear c11
      have H' := am H
      clear H
      go_wp2
      go_meet
      case rel => exact ⟨_, (x149000_1), (x149001_1), (u149000), (u149001), H', ⟨by have := HK1.out; first | omega | exact Nat.le_refl _⟩, ⟨ps HO_149000.out⟩, ⟨pr HO_149001.out⟩, ⟨pb BK148.out⟩, ⟨pb BK149.out⟩, ⟨kg2 HK.out (.inr GW148.out) (.inr GW149.out)⟩, ⟨bg2 HB.out GE148.out GE149.out⟩⟩
    rw [if_pos c11] at H
    have c11b0 := decide_eq_true c11
    clear c11
    by_cases c12 : 0 ≤ x9_1
    rotate_left
    · rw [if_neg c12] at H
      exact absurd H (by simp)
    rw [if_pos c12] at H
    have c12b0 := decide_eq_true c12
    clear c12
    replace H := Option.bind_eq_some_iff.mp H
    obtain ⟨⟨t151, t154⟩, A130, H⟩ := H
    have A13 := am A130
    clear A130
    have H' := am H
    clear H
    try go_wp2
    replace HO_149000 := am (Kd.S_drew HO_149000.out)
    replace HO_149001 := am (Kd.R_drew HO_149001.out)
    replace BK148 := am (blk_drew BK148.out)
    replace BK149 := am (blk_drew BK149.out)
    replace HK := am (Kept.drew HK.out)
    replace HB := am (below_drew1 HB.out)
    have p150 : 0 ≤ (x9_1 : Int) := ofb
    have q150 : x9_1 < (l1.length : Int) := ofb
    obtain ⟨ad150, e150, hx150_0, hx150_1, hx150_2, hx150_3, hx150_4, hx150_5, hx150_6, hx150_7⟩ := at_T93 (Kd.C_kept_now HR1.out HK.out) x9_1 p150 q150
    have hw150_7 := hx150_7
    have hw150_6 := hx150_6
    have hw150_5 := hx150_5
    have hw150_4 := hx150_4
    have hw150_3 := hx150_3
    have hw150_2 := hx150_2
    have hw150_1 := hx150_1
    have hw150_0 := hx150_0
    cases e150
    replace p150 := eq_true p150
    replace q150 := eq_true q150
    obtain ⟨Ao15, co15, eo15⟩ := Kd.S_slice HO_149000.out
    (first | subst eo15 | (injection eo15 with f1_ f2_ f3_; have f4_ := f1_.symm; have f5_ := f3_.symm; clear f1_ f2_ f3_; subst f4_; subst f5_))
    obtain ⟨Ao16, co16, eo16⟩ := Kd.R_slice HO_149001.out
    (first | subst eo16 | (injection eo16 with f1_ f2_ f3_; have f4_ := f1_.symm; have f5_ := f3_.symm; clear f1_ f2_ f3_; subst f4_; subst f5_))
    obtain ⟨PXh17, hxa_, hxb_⟩ := Kd.S_hand HO_149000.out
    have HXAh17 := am hxa_
    have HXBh17 := am hxb_
    clear hxa_ hxb_
    refine start_ (n := 7) (S := fun w' => w'.cell? ⟨gb148, 0, none⟩ = some (.slice Ao15 x149000_1.length co15) ∧ w'.cell? ⟨gb148, 1, none⟩ = some (.slice Ao16 x149001_1.length co16) ∧ w'.cell? (ad150.add ((x9_1).toNat * 8)) = some (.int .i64 ((rd_T93 l1 x9_1).f0)) ∧ w'.cell? ⟨(ad150.add ((x9_1).toNat * 8)).block, (ad150.add ((x9_1).toNat * 8)).off + 1, none⟩ = some (.int .i64 ((rd_T93 l1 x9_1).f1)) ∧ w'.cell? ⟨(ad150.add ((x9_1).toNat * 8)).block, (ad150.add ((x9_1).toNat * 8)).off + 2, none⟩ = some (.int .i64 ((rd_T93 l1 x9_1).f2)) ∧ w'.cell? ⟨(ad150.add ((x9_1).toNat * 8)).block, (ad150.add ((x9_1).toNat * 8)).off + 3, none⟩ = some (.int .i64 ((rd_T93 l1 x9_1).f3)) ∧ w'.cell? ⟨(ad150.add ((x9_1).toNat * 8)).block, (ad150.add ((x9_1).toNat * 8)).off + 4, none⟩ = some (.int .i64 ((rd_T93 l1 x9_1).f4.f0)) ∧ w'.cell? ⟨(ad150.add ((x9_1).toNat * 8)).block, (ad150.add ((x9_1).toNat * 8)).off + 5, none⟩ = some (.int .i64 ((rd_T93 l1 x9_1).f4.f1)) ∧ w'.cell? ⟨(ad150.add ((x9_1).toNat * 8)).block, (ad150.add ((x9_1).toNat * 8)).off + 6, none⟩ = some (.int .i64 ((rd_T93 l1 x9_1).f4.f2)) ∧ w'.cell? ⟨(ad150.add ((x9_1).toNat * 8)).block, (ad150.add ((x9_1).toNat * 8)).off + 7, none⟩ = some (.int .i64 ((rd_T93 l1 x9_1).f4.f3))) (ds := [5, 6]) (bt 7 0) (by kernel_rfl) rfl rfl ⟨(blk_cell BK148.out 0).trans rfl, (blk_cell BK148.out 1).trans rfl, hx150_0, hx150_1, hx150_2, hx150_3, hx150_4, hx150_5, hx150_6, hx150_7⟩ (fun hHeld => ?_)
    generalize wr.drew = w14 at HO_149000 HO_149001 BK148 BK149 HK HB HXAh17 HXBh17 hx150_0 hx150_1 hx150_2 hx150_3 hx150_4 hx150_5 hx150_6 hx150_7 hHeld ⊢
    refine pi_ 1 22 (bt 7 2) rfl rfl (fun _ _ _ h => h) ?_
    refine pi_ 2 23 (bt 7 6) rfl rfl (fun _ _ _ h => h) ?_
    refine pi_ 3 24 (bt 7 14) rfl rfl (fun _ _ _ h => h) ?_
    refine pm_ 0 21 (bt 7 15) rfl rfl (by kernel_rfl) (fun _ _ _ h => h) hHeld ?_
    refine pm_ 4 25 (bt 7 31) rfl rfl (by kernel_rfl) (fun _ _ _ h => h) hHeld ?_
    refine last_ (i := 5) (N := some 26) (bt 7 63) rfl rfl (by kernel_rfl) (by decide) (fun K hK => ?_)
    refine qg Try.func51 #[.agg #[.slice Ao15 x149000_1.length co15, .slice Ao16 x149001_1.length co16], .agg #[.int .i64 ((rd_T93 l1 x9_1).f0), .int .i64 ((rd_T93 l1 x9_1).f1), .int .i64 ((rd_T93 l1 x9_1).f2), .int .i64 ((rd_T93 l1 x9_1).f3), .int .i64 ((rd_T93 l1 x9_1).f4.f0), .int .i64 ((rd_T93 l1 x9_1).f4.f1), .int .i64 ((rd_T93 l1 x9_1).f4.f2), .int .i64 ((rd_T93 l1 x9_1).f4.f3)], .bool false] rfl rfl ?_
    with_reducible refine (spec_l12Do.calls k1 PXh17 (.slice Ao15 x149000_1.length co15) x149000_1 (fun k_ => some k_ = (.slice Ao16 x149001_1.length co16 : Value).ownBlock) (.slice Ao16 x149001_1.length co16) x149001_1 ((rd_T93 l1 x9_1).f0) ((rd_T93 l1 x9_1).f1) ((rd_T93 l1 x9_1).f2) ((rd_T93 l1 x9_1).f3) ((rd_T93 l1 x9_1).f4.f0) ((rd_T93 l1 x9_1).f4.f1) ((rd_T93 l1 x9_1).f4.f2) ((rd_T93 l1 x9_1).f4.f3) false t151 t154 w0 _ ?side1 ?side2 ?side3 A13.out).mono ?_
    (case side1 => repeat (first | (with_reducible first | exact HB.out | apply below_alloc | apply pw_below_drewN | apply below_drew1 | refine below_set ?_ GE148.out | refine below_set ?_ GE149.out) | exact HB.out))
    (case side2 => exact (ps HXAh17.out))
    (case side3 => exact Kd.R_tight rfl HO_149001.out)
    rintro e w18 ⟨v152, v155, rfl, ho0, ho1, hb, hkp⟩
    refine ⟨_, rfl, ?_⟩
    replace BK148 := am (blk_kept (pb BK148.out) hkp (fun hs_ => Or.elim hs_ (fun e_ => (fun e_ => Kd.blk_awayP (fun k_ h_ => (HXBh17.out k_ h_).2.2.2) BK148.out (by decide) e_) e_) (fun e_ => (fun e_ => (Kd.R_ne HO_149001.out BK148.out (by decide)) e_) e_)))
    replace BK149 := am (blk_kept (pb BK149.out) hkp (fun hs_ => Or.elim hs_ (fun e_ => (fun e_ => Kd.blk_awayP (fun k_ h_ => (HXBh17.out k_ h_).2.2.2) BK149.out (by decide) e_) e_) (fun e_ => (fun e_ => (Kd.R_ne HO_149001.out BK149.out (by decide)) e_) e_)))
    have HO153 := am (Kd.S_mono (ok' := fun k_ => ((P0_0_ k_ ∨ P0_1_ k_) ∨ w.heap.size ≤ k_)) ho0 (fun k_ hk_ => Or.elim hk_ (fun hs_ => Or.elim hs_ (fun hs_ => (HXBh17.out k_ hs_).1) (fun hs_ => (HO_149001.out.1 k_ (hs_).symm))) (fun hn_ => (.inr (Nat.le_trans (kg2 HK.out (.inr GW148.out) (.inr GW149.out)).1 hn_)))))
    have HO156 := am (Kd.R_mono (ok' := fun k_ => ((P0_0_ k_ ∨ P0_1_ k_) ∨ w.heap.size ≤ k_)) ho1 (fun k_ hk_ => Or.elim hk_ (fun hs_ => Or.elim hs_ (fun hs_ => (HXBh17.out k_ hs_).1) (fun hs_ => (HO_149001.out.1 k_ (hs_).symm))) (fun hn_ => (.inr (Nat.le_trans (kg2 HK.out (.inr GW148.out) (.inr GW149.out)).1 hn_)))))
    replace HK := am (Kept.then_ (S := (fun k_ => P0_0_ k_ ∨ P0_1_ k_)) (kg2 HK.out (.inr GW148.out) (.inr GW149.out)) hkp (fun k_ hs_ => Or.elim hs_ (fun e_ => (fun e_ => (HXBh17.out k_ e_).1) e_) (fun e_ => (fun e_ => (HO_149001.out.1 k_ e_.symm)) e_)))
    replace HB := am (hb)
    clear HO_149000 HO_149001
    (try clear hb)
    (try clear hkp)
    (try clear ho0)
    (try clear ho1)
    obtain ⟨Ao19, co19, eo19⟩ := Kd.S_slice HO153.out
    (first | subst eo19 | (injection eo19 with f1_ f2_ f3_; have f4_ := f1_.symm; have f5_ := f3_.symm; clear f1_ f2_ f3_; subst f4_; subst f5_))
    obtain ⟨Ao21, co21, eo21⟩ := Kd.R_slice HO156.out
    (first | subst eo21 | (injection eo21 with f1_ f2_ f3_; have f4_ := f1_.symm; have f5_ := f3_.symm; clear f1_ f2_ f3_; subst f4_; subst f5_))
    refine hK.out _ _ ?_
    clear hK K
    refine qn (some 26) ?_
    refine last_ (i := 6) (N := none) (bt 7 127) rfl rfl (by kernel_rfl) (by decide) (fun K hK => ?_)
    have hs20 : w18.cell? ⟨gb148, 0, none⟩ = some (.slice Ao15 x149000_1.length co15) := (blk_cell BK148.out 0).trans rfl
    have hfs20 := blk_frozen BK148.out 0
    have hns20_1 := NB149_148.out
    have hms20_1 := NB148_149.out
    have hs22 : w18.cell? ⟨gb148, 1, none⟩ = some (.slice Ao16 x149001_1.length co16) := (blk_cell BK148.out 1).trans rfl
    have hfs22 := blk_frozen BK148.out 1
    have hns22_1 := NB149_148.out
    have hms22_1 := NB148_149.out
    refine qs rfl ?_
    refine hK.out _ _ ?_
    clear hK K
    refine done_ (by kernel_rfl) ?_
    try go_wp2
    go_roundg k1
    case measure => have := HK1.out; omega
    case rel => exact ⟨(wrap64 (x9_1 + 1)), (t151), (t154), (.slice Ao19 t151.length co19), (.slice Ao21 t154.length co21), rf, H', ⟨by have := HK1.out; omega⟩, ⟨by (with_reducible repeat (first | apply Kd.S_alloc | apply Kd.S_drewN | apply Kd.S_drew)); exact Kd.S_mono (Kd.S_far (p := ⟨gb148, 1, none⟩) (Kd.S_far (p := ⟨gb148, 0, none⟩) (Kd.S_types HO153.out BK148.out (by decide)) (fun _ hk => hk.2) (.slice Ao19 t151.length co19)) (fun _ hk => hk.2) (.slice Ao21 t154.length co21)) (fun _ hk => hk.1)⟩, ⟨by (with_reducible repeat (first | apply Kd.R_alloc | apply Kd.R_drewN | apply Kd.R_drew)); exact Kd.R_mono (Kd.R_far (p := ⟨gb148, 1, none⟩) (Kd.R_far (p := ⟨gb148, 0, none⟩) (Kd.R_types HO156.out BK148.out (by decide)) (fun _ hk => hk.2) (.slice Ao19 t151.length co19)) (fun _ hk => hk.2) (.slice Ao21 t154.length co21)) (fun _ hk => hk.1)⟩, ⟨bp2 (pb BK148.out)⟩, ⟨bf2 (pb BK149.out) NB149_148.out⟩, ⟨kg2 HK.out (.inr GW148.out) (.inr GW149.out)⟩, ⟨bg2 HB.out GE148.out GE149.out⟩⟩
 case rest =>
  clear HC5
  obtain ⟨kq, x149000_4, x149001_4, u149000, u149001, HA, HJ4, HO_149000, HO_149001, BK148, BK149, HK, HB⟩ := hcut
  cases kq with
  | zero => exact absurd HA.out (by simp [spec_l12To.j1])
  | succ kj4 =>
   have H := HA.out
   clear HA
   simp only [spec_l12To.j1] at H
   by_cases c23 : a3 = true
   rotate_left
   · replace c23 := Bool.eq_false_iff.mpr c23
     subst c23
     rw [if_neg (show ¬ (false = true) by decide)] at H
     simp only [Option.some.injEq, Prod.mk.injEq] at H
     obtain ⟨rfl, rfl⟩ := H
     have hnb46 := NB148_149.out
     have hnc46 := NB149_148.out
     obtain ⟨hcz47_0, hcz47_1⟩ := b2 BK148.out
     obtain ⟨hfz47_0, hfz47_1⟩ := f2 BK148.out
     obtain ⟨Ao48, co48, eo48⟩ := Kd.S_slice HO_149000.out
     subst eo48
     obtain ⟨hcz49_0, hcz49_1⟩ := b2 BK149.out
     obtain ⟨hfz49_0, hfz49_1⟩ := f2 BK149.out
     obtain ⟨Ao50, co50, eo50⟩ := Kd.R_slice HO_149001.out
     subst eo50
     go_wp2
     refine bodyPost_ret (results_cell_row rfl _ _ gb149 26 #[.slice Ao48 x149000_4.length co48, .slice Ao50 x149001_4.length co50] (0, 0) _ rfl (bp2 (pb BK149.out)) Try.underlying26 rfl (by kernel_rfl)) rfl ?_
     exact ⟨_, _, rq ⟨by (with_reducible repeat (first | apply Kd.S_alloc | apply Kd.S_drewN | apply Kd.S_drew)); exact Kd.S_mono (Kd.S_far (p := ⟨gb149, 1, none⟩) (Kd.S_far (p := ⟨gb149, 0, none⟩) (Kd.S_types HO_149000.out BK149.out (by decide)) (fun _ hk => hk.2) (.slice Ao48 x149000_4.length co48)) (fun _ hk => hk.2) (.slice Ao50 x149001_4.length co50)) (fun _ hk => hk.1), by (with_reducible repeat (first | apply Kd.R_alloc | apply Kd.R_drewN | apply Kd.R_drew)); exact Kd.R_mono (Kd.R_far (p := ⟨gb149, 1, none⟩) (Kd.R_far (p := ⟨gb149, 0, none⟩) (Kd.R_types HO_149001.out BK149.out (by decide)) (fun _ hk => hk.2) (.slice Ao48 x149000_4.length co48)) (fun _ hk => hk.2) (.slice Ao50 x149001_4.length co50)) (fun _ hk => hk.1), bg2 HB.out GE148.out GE149.out, kg2 HK.out (.inr GW148.out) (.inr GW149.out)⟩⟩
   subst c23
   rw [if_pos rfl] at H
   replace H := Option.bind_eq_some_iff.mp H
   obtain ⟨t157, A240, H⟩ := H
   have A24 := am A240
   clear A240
   by_cases c25 : t157 = true
   rotate_left
   · replace c25 := Bool.eq_false_iff.mpr c25
     subst c25
     rw [if_neg (show ¬ (false = true) by decide)] at H
     simp only [Option.some.injEq, Prod.mk.injEq] at H
     obtain ⟨rfl, rfl⟩ := H
     go_wp2_with (first | (go_at_call 19; (with_reducible refine (spec_l6In.calls a2 0 (wrap64 ((l1.length : Int) - 1)) false _ A24.out).mono ?_); rintro e w' ⟨rfl, ⟨nd, rfl⟩⟩; (try (rw [drewN_self wc]; generalize hq_ : World.drewN wc _ = wc; have n0_ : Aside0 (Kd.S k62 62 wc w0.heap.size (fun k_ => (((P0_0_ k_ ∨ P0_1_ k_) ∨ w.heap.size ≤ k_))) u149000 x149000_4) := ⟨by rw [← hq_]; exact (ps HO_149000.out)⟩; have n1_ : Aside0 (Kd.R (Kd.int .i64) 3 wc w0.heap.size (fun k_ => (((P0_0_ k_ ∨ P0_1_ k_) ∨ w.heap.size ≤ k_))) u149001 x149001_4) := ⟨by rw [← hq_]; exact (pr HO_149001.out)⟩; have n2_ : Aside0 (wc.heap[gb148]? = some (.cells #[u149000, u149001] 26 (0, 0))) := ⟨by rw [← hq_]; exact (pb BK148.out)⟩; have n3_ : Aside0 (wc.heap[gb149]? = some (.cells #[.slice none 0 0, .slice none 0 0] 26 (0, 0))) := ⟨by rw [← hq_]; exact (pb BK149.out)⟩; have n4_ : Aside0 (Kept w wc (fun k_ => P0_0_ k_ ∨ P0_1_ k_)) := ⟨by rw [← hq_]; exact (kg2 HK.out (.inr GW148.out) (.inr GW149.out))⟩; have n5_ : Aside0 (Below w0.heap.size w0 wc) := ⟨by rw [← hq_]; exact (bg2 HB.out GE148.out GE149.out)⟩; clear HO_149000 HO_149001 BK148 BK149 HK HB hq_; have HO_149000 := n0_; have HO_149001 := n1_; have BK148 := n2_; have BK149 := n3_; have HK := n4_; have HB := n5_; clear n0_ n1_ n2_ n3_ n4_ n5_)); have hnb41 := NB148_149.out; have hnc41 := NB149_148.out; obtain ⟨hcz42_0, hcz42_1⟩ := b2 BK148.out; obtain ⟨hfz42_0, hfz42_1⟩ := f2 BK148.out; obtain ⟨Ao43, co43, eo43⟩ := Kd.S_slice HO_149000.out; subst eo43; obtain ⟨hcz44_0, hcz44_1⟩ := b2 BK149.out; obtain ⟨hfz44_0, hfz44_1⟩ := f2 BK149.out; obtain ⟨Ao45, co45, eo45⟩ := Kd.R_slice HO_149001.out; subst eo45))
     refine bodyPost_ret (results_cell_row rfl _ _ gb149 26 #[.slice Ao43 x149000_4.length co43, .slice Ao45 x149001_4.length co45] (0, 0) _ rfl (bp2 (pb BK149.out)) Try.underlying26 rfl (by kernel_rfl)) rfl ?_
     exact ⟨_, _, rq ⟨by (with_reducible repeat (first | apply Kd.S_alloc | apply Kd.S_drewN | apply Kd.S_drew)); exact Kd.S_mono (Kd.S_far (p := ⟨gb149, 1, none⟩) (Kd.S_far (p := ⟨gb149, 0, none⟩) (Kd.S_types HO_149000.out BK149.out (by decide)) (fun _ hk => hk.2) (.slice Ao43 x149000_4.length co43)) (fun _ hk => hk.2) (.slice Ao45 x149001_4.length co45)) (fun _ hk => hk.1), by (with_reducible repeat (first | apply Kd.R_alloc | apply Kd.R_drewN | apply Kd.R_drew)); exact Kd.R_mono (Kd.R_far (p := ⟨gb149, 1, none⟩) (Kd.R_far (p := ⟨gb149, 0, none⟩) (Kd.R_types HO_149001.out BK149.out (by decide)) (fun _ hk => hk.2) (.slice Ao43 x149000_4.length co43)) (fun _ hk => hk.2) (.slice Ao45 x149001_4.length co45)) (fun _ hk => hk.1), bg2 HB.out GE148.out GE149.out, kg2 HK.out (.inr GW148.out) (.inr GW149.out)⟩⟩
   subst c25
   rw [if_pos rfl] at H
   by_cases c26 : 0 ≤ a2
   rotate_left
   · rw [if_neg c26] at H
     exact absurd H (by simp)
   rw [if_pos c26] at H
   have c26b0 := decide_eq_true c26
   clear c26
   by_cases c27 : a2 < (l1.length : Int)
   rotate_left
   · rw [if_neg c27] at H
     exact absurd H (by simp)
   rw [if_pos c27] at H
   have c27b0 := decide_eq_true c27
   clear c27
   replace H := Option.bind_eq_some_iff.mp H
   obtain ⟨⟨t159, t162⟩, A280, H⟩ := H
   have A28 := am A280
   clear A280
   simp only [Option.some.injEq, Prod.mk.injEq] at H
   obtain ⟨rfl, rfl⟩ := H
   try go_wp2_with (first | (go_at_call 19; (with_reducible refine (spec_l6In.calls a2 0 (wrap64 ((l1.length : Int) - 1)) true _ A24.out).mono ?_); rintro e w' ⟨rfl, ⟨nd, rfl⟩⟩; (try (rw [drewN_self wc]; generalize hq_ : World.drewN wc _ = wc; have n0_ : Aside0 (Kd.S k62 62 wc w0.heap.size (fun k_ => (((P0_0_ k_ ∨ P0_1_ k_) ∨ w.heap.size ≤ k_))) u149000 x149000_4) := ⟨by rw [← hq_]; exact (ps HO_149000.out)⟩; have n1_ : Aside0 (Kd.R (Kd.int .i64) 3 wc w0.heap.size (fun k_ => (((P0_0_ k_ ∨ P0_1_ k_) ∨ w.heap.size ≤ k_))) u149001 x149001_4) := ⟨by rw [← hq_]; exact (pr HO_149001.out)⟩; have n2_ : Aside0 (wc.heap[gb148]? = some (.cells #[u149000, u149001] 26 (0, 0))) := ⟨by rw [← hq_]; exact (pb BK148.out)⟩; have n3_ : Aside0 (wc.heap[gb149]? = some (.cells #[.slice none 0 0, .slice none 0 0] 26 (0, 0))) := ⟨by rw [← hq_]; exact (pb BK149.out)⟩; have n4_ : Aside0 (Kept w wc (fun k_ => P0_0_ k_ ∨ P0_1_ k_)) := ⟨by rw [← hq_]; exact (kg2 HK.out (.inr GW148.out) (.inr GW149.out))⟩; have n5_ : Aside0 (Below w0.heap.size w0 wc) := ⟨by rw [← hq_]; exact (bg2 HB.out GE148.out GE149.out)⟩; clear HO_149000 HO_149001 BK148 BK149 HK HB hq_; have HO_149000 := n0_; have HO_149001 := n1_; have BK148 := n2_; have BK149 := n3_; have HK := n4_; have HB := n5_; clear n0_ n1_ n2_ n3_ n4_ n5_))))
   replace HO_149000 := am (Kd.S_drew HO_149000.out)
   replace HO_149001 := am (Kd.R_drew HO_149001.out)
   replace BK148 := am (blk_drew BK148.out)
   replace BK149 := am (blk_drew BK149.out)
   replace HK := am (Kept.drew HK.out)
   replace HB := am (below_drew1 HB.out)
   have p158 : 0 ≤ (a2 : Int) := ofb
   have q158 : a2 < (l1.length : Int) := ofb
   obtain ⟨ad158, e158, hx158_0, hx158_1, hx158_2, hx158_3, hx158_4, hx158_5, hx158_6, hx158_7⟩ := at_T93 (Kd.C_kept_now HR1.out HK.out) a2 p158 q158
   have hw158_7 := hx158_7
   have hw158_6 := hx158_6
   have hw158_5 := hx158_5
   have hw158_4 := hx158_4
   have hw158_3 := hx158_3
   have hw158_2 := hx158_2
   have hw158_1 := hx158_1
   have hw158_0 := hx158_0
   cases e158
   replace p158 := eq_true p158
   replace q158 := eq_true q158
   obtain ⟨Ao30, co30, eo30⟩ := Kd.S_slice HO_149000.out
   (first | subst eo30 | (injection eo30 with f1_ f2_ f3_; have f4_ := f1_.symm; have f5_ := f3_.symm; clear f1_ f2_ f3_; subst f4_; subst f5_))
   obtain ⟨Ao31, co31, eo31⟩ := Kd.R_slice HO_149001.out
   (first | subst eo31 | (injection eo31 with f1_ f2_ f3_; have f4_ := f1_.symm; have f5_ := f3_.symm; clear f1_ f2_ f3_; subst f4_; subst f5_))
   obtain ⟨PXh32, hxa_, hxb_⟩ := Kd.S_hand HO_149000.out
   have HXAh32 := am hxa_
   have HXBh32 := am hxb_
   clear hxa_ hxb_
   refine start_ (n := 7) (S := fun w' => w'.cell? ⟨gb148, 0, none⟩ = some (.slice Ao30 x149000_4.length co30) ∧ w'.cell? ⟨gb148, 1, none⟩ = some (.slice Ao31 x149001_4.length co31) ∧ w'.cell? (ad158.add ((a2).toNat * 8)) = some (.int .i64 ((rd_T93 l1 a2).f0)) ∧ w'.cell? ⟨(ad158.add ((a2).toNat * 8)).block, (ad158.add ((a2).toNat * 8)).off + 1, none⟩ = some (.int .i64 ((rd_T93 l1 a2).f1)) ∧ w'.cell? ⟨(ad158.add ((a2).toNat * 8)).block, (ad158.add ((a2).toNat * 8)).off + 2, none⟩ = some (.int .i64 ((rd_T93 l1 a2).f2)) ∧ w'.cell? ⟨(ad158.add ((a2).toNat * 8)).block, (ad158.add ((a2).toNat * 8)).off + 3, none⟩ = some (.int .i64 ((rd_T93 l1 a2).f3)) ∧ w'.cell? ⟨(ad158.add ((a2).toNat * 8)).block, (ad158.add ((a2).toNat * 8)).off + 4, none⟩ = some (.int .i64 ((rd_T93 l1 a2).f4.f0)) ∧ w'.cell? ⟨(ad158.add ((a2).toNat * 8)).block, (ad158.add ((a2).toNat * 8)).off + 5, none⟩ = some (.int .i64 ((rd_T93 l1 a2).f4.f1)) ∧ w'.cell? ⟨(ad158.add ((a2).toNat * 8)).block, (ad158.add ((a2).toNat * 8)).off + 6, none⟩ = some (.int .i64 ((rd_T93 l1 a2).f4.f2)) ∧ w'.cell? ⟨(ad158.add ((a2).toNat * 8)).block, (ad158.add ((a2).toNat * 8)).off + 7, none⟩ = some (.int .i64 ((rd_T93 l1 a2).f4.f3))) (ds := [5, 6]) (bt 7 0) (by kernel_rfl) rfl rfl ⟨(blk_cell BK148.out 0).trans rfl, (blk_cell BK148.out 1).trans rfl, hx158_0, hx158_1, hx158_2, hx158_3, hx158_4, hx158_5, hx158_6, hx158_7⟩ (fun hHeld => ?_)
   generalize wc.drew = w29 at HO_149000 HO_149001 BK148 BK149 HK HB HXAh32 HXBh32 hx158_0 hx158_1 hx158_2 hx158_3 hx158_4 hx158_5 hx158_6 hx158_7 hHeld ⊢
   refine pi_ 1 36 (bt 7 2) rfl rfl (fun _ _ _ h => h) ?_
   refine pi_ 2 37 (bt 7 6) rfl rfl (fun _ _ _ h => h) ?_
   refine pi_ 3 38 (bt 7 14) rfl rfl (fun _ _ _ h => h) ?_
   refine pm_ 0 35 (bt 7 15) rfl rfl (by kernel_rfl) (fun _ _ _ h => h) hHeld ?_
   refine pm_ 4 39 (bt 7 31) rfl rfl (by kernel_rfl) (fun _ _ _ h => h) hHeld ?_
   refine last_ (i := 5) (N := some 40) (bt 7 63) rfl rfl (by kernel_rfl) (by decide) (fun K hK => ?_)
   refine qg Try.func51 #[.agg #[.slice Ao30 x149000_4.length co30, .slice Ao31 x149001_4.length co31], .agg #[.int .i64 ((rd_T93 l1 a2).f0), .int .i64 ((rd_T93 l1 a2).f1), .int .i64 ((rd_T93 l1 a2).f2), .int .i64 ((rd_T93 l1 a2).f3), .int .i64 ((rd_T93 l1 a2).f4.f0), .int .i64 ((rd_T93 l1 a2).f4.f1), .int .i64 ((rd_T93 l1 a2).f4.f2), .int .i64 ((rd_T93 l1 a2).f4.f3)], .bool true] rfl rfl ?_
   with_reducible refine (spec_l12Do.calls kj4 PXh32 (.slice Ao30 x149000_4.length co30) x149000_4 (fun k_ => some k_ = (.slice Ao31 x149001_4.length co31 : Value).ownBlock) (.slice Ao31 x149001_4.length co31) x149001_4 ((rd_T93 l1 a2).f0) ((rd_T93 l1 a2).f1) ((rd_T93 l1 a2).f2) ((rd_T93 l1 a2).f3) ((rd_T93 l1 a2).f4.f0) ((rd_T93 l1 a2).f4.f1) ((rd_T93 l1 a2).f4.f2) ((rd_T93 l1 a2).f4.f3) true t159 t162 w0 _ ?side1 ?side2 ?side3 A28.out).mono ?_
   (case side1 => repeat (first | (with_reducible first | exact HB.out | apply below_alloc | apply pw_below_drewN | apply below_drew1 | refine below_set ?_ GE148.out | refine below_set ?_ GE149.out) | exact HB.out))
   (case side2 => exact (ps HXAh32.out))
   (case side3 => exact Kd.R_tight rfl HO_149001.out)
   rintro e w33 ⟨v160, v163, rfl, ho0, ho1, hb, hkp⟩
   refine ⟨_, rfl, ?_⟩
   replace BK148 := am (blk_kept (pb BK148.out) hkp (fun hs_ => Or.elim hs_ (fun e_ => (fun e_ => Kd.blk_awayP (fun k_ h_ => (HXBh32.out k_ h_).2.2.2) BK148.out (by decide) e_) e_) (fun e_ => (fun e_ => (Kd.R_ne HO_149001.out BK148.out (by decide)) e_) e_)))
   replace BK149 := am (blk_kept (pb BK149.out) hkp (fun hs_ => Or.elim hs_ (fun e_ => (fun e_ => Kd.blk_awayP (fun k_ h_ => (HXBh32.out k_ h_).2.2.2) BK149.out (by decide) e_) e_) (fun e_ => (fun e_ => (Kd.R_ne HO_149001.out BK149.out (by decide)) e_) e_)))
   have HO161 := am (Kd.S_mono (ok' := fun k_ => ((P0_0_ k_ ∨ P0_1_ k_) ∨ w.heap.size ≤ k_)) ho0 (fun k_ hk_ => Or.elim hk_ (fun hs_ => Or.elim hs_ (fun hs_ => (HXBh32.out k_ hs_).1) (fun hs_ => (HO_149001.out.1 k_ (hs_).symm))) (fun hn_ => (.inr (Nat.le_trans (kg2 HK.out (.inr GW148.out) (.inr GW149.out)).1 hn_)))))
   have HO164 := am (Kd.R_mono (ok' := fun k_ => ((P0_0_ k_ ∨ P0_1_ k_) ∨ w.heap.size ≤ k_)) ho1 (fun k_ hk_ => Or.elim hk_ (fun hs_ => Or.elim hs_ (fun hs_ => (HXBh32.out k_ hs_).1) (fun hs_ => (HO_149001.out.1 k_ (hs_).symm))) (fun hn_ => (.inr (Nat.le_trans (kg2 HK.out (.inr GW148.out) (.inr GW149.out)).1 hn_)))))
   replace HK := am (Kept.then_ (S := (fun k_ => P0_0_ k_ ∨ P0_1_ k_)) (kg2 HK.out (.inr GW148.out) (.inr GW149.out)) hkp (fun k_ hs_ => Or.elim hs_ (fun e_ => (fun e_ => (HXBh32.out k_ e_).1) e_) (fun e_ => (fun e_ => (HO_149001.out.1 k_ e_.symm)) e_)))
   replace HB := am (hb)
   clear HO_149000 HO_149001
   (try clear hb)
   (try clear hkp)
   (try clear ho0)
   (try clear ho1)
   obtain ⟨Ao34, co34, eo34⟩ := Kd.S_slice HO161.out
   (first | subst eo34 | (injection eo34 with f1_ f2_ f3_; have f4_ := f1_.symm; have f5_ := f3_.symm; clear f1_ f2_ f3_; subst f4_; subst f5_))
   obtain ⟨Ao36, co36, eo36⟩ := Kd.R_slice HO164.out
   (first | subst eo36 | (injection eo36 with f1_ f2_ f3_; have f4_ := f1_.symm; have f5_ := f3_.symm; clear f1_ f2_ f3_; subst f4_; subst f5_))
   refine hK.out _ _ ?_
   clear hK K
   refine qn (some 40) ?_
   refine last_ (i := 6) (N := none) (bt 7 127) rfl rfl (by kernel_rfl) (by decide) (fun K hK => ?_)
   have hs35 : w33.cell? ⟨gb148, 0, none⟩ = some (.slice Ao30 x149000_4.length co30) := (blk_cell BK148.out 0).trans rfl
   have hfs35 := blk_frozen BK148.out 0
   have hns35_1 := NB149_148.out
   have hms35_1 := NB148_149.out
   have hs37 : w33.cell? ⟨gb148, 1, none⟩ = some (.slice Ao31 x149001_4.length co31) := (blk_cell BK148.out 1).trans rfl
   have hfs37 := blk_frozen BK148.out 1
   have hns37_1 := NB149_148.out
   have hms37_1 := NB148_149.out
   refine qs rfl ?_
   refine hK.out _ _ ?_
   clear hK K
   refine done_ (by kernel_rfl) ?_
   have hnb38 := NB148_149.out
   have hnc38 := NB149_148.out
   obtain ⟨hcz39_0, hcz39_1⟩ := b2 BK148.out
   obtain ⟨hfz39_0, hfz39_1⟩ := f2 BK148.out
   obtain ⟨hcz40_0, hcz40_1⟩ := b2 BK149.out
   obtain ⟨hfz40_0, hfz40_1⟩ := f2 BK149.out
   try go_wp2
   refine bodyPost_ret (results_cell_row rfl _ _ gb149 26 #[.slice Ao34 t159.length co34, .slice Ao36 t162.length co36] (0, 0) _ rfl (bp2 (bf2 (pb BK149.out) NB149_148.out)) Try.underlying26 rfl (by kernel_rfl)) rfl ?_
   exact ⟨_, _, rq ⟨by (with_reducible repeat (first | apply Kd.S_alloc | apply Kd.S_drewN | apply Kd.S_drew)); exact Kd.S_mono (Kd.S_far (p := ⟨gb149, 1, none⟩) (Kd.S_far (p := ⟨gb149, 0, none⟩) (Kd.S_far (p := ⟨gb148, 1, none⟩) (Kd.S_far (p := ⟨gb148, 0, none⟩) (Kd.S_types (Kd.S_types HO161.out BK148.out (by decide)) BK149.out (by decide)) (fun _ hk => hk.1.2) (.slice Ao34 t159.length co34)) (fun _ hk => hk.1.2) (.slice Ao36 t162.length co36)) (fun _ hk => hk.2) (.slice Ao34 t159.length co34)) (fun _ hk => hk.2) (.slice Ao36 t162.length co36)) (fun _ hk => hk.1.1), by (with_reducible repeat (first | apply Kd.R_alloc | apply Kd.R_drewN | apply Kd.R_drew)); exact Kd.R_mono (Kd.R_far (p := ⟨gb149, 1, none⟩) (Kd.R_far (p := ⟨gb149, 0, none⟩) (Kd.R_far (p := ⟨gb148, 1, none⟩) (Kd.R_far (p := ⟨gb148, 0, none⟩) (Kd.R_types (Kd.R_types HO164.out BK148.out (by decide)) BK149.out (by decide)) (fun _ hk => hk.1.2) (.slice Ao34 t159.length co34)) (fun _ hk => hk.1.2) (.slice Ao36 t162.length co36)) (fun _ hk => hk.2) (.slice Ao34 t159.length co34)) (fun _ hk => hk.2) (.slice Ao36 t162.length co36)) (fun _ hk => hk.1.1), bg2 HB.out GE148.out GE149.out, kg2 HK.out (.inr GW148.out) (.inr GW149.out)⟩⟩
mutual
def spec_l3Last.l0 : Nat → List (S62) → Int → Int → Int → Int → Int → Int → Option (Int × Int × Int × Int × Bool)
 | 0, _, _, _, _, _, _, _ => none
 | k + 1, x0, x1, x7, x167000, x167001, x167002, x167003 => if x7 < (x0.length : Int) then (spec_l3Last.l1 k x0 x1 x7 0 x167000 x167001 x167002 x167003) else (some (x167000, x167001, x167002, x167003, decide (x167001 > 0)))
def spec_l3Last.l1 : Nat → List (S62) → Int → Int → Int → Int → Int → Int → Int → Option (Int × Int × Int × Int × Bool)
 | 0, _, _, _, _, _, _, _, _ => none
 | k + 1, x0, x1, x7, x8, x167000, x167001, x167002, x167003 => if 0 ≤ x7 then (if x7 < (x0.length : Int) then (if x8 < (((rd_T62 x0 x7).f0).length : Int) then (if 0 ≤ x8 then (if ((rd_T54 ((rd_T62 x0 x7).f0) x8).f0) = 1 then (if ((rd_T54 ((rd_T62 x0 x7).f0) x8).f1.f2) = x1 then (if ((rd_T54 ((rd_T62 x0 x7).f0) x8).f1.f1) > x167001 then (spec_l3Last.l1 k x0 x1 x7 (wrap64 (x8 + 1)) ((rd_T54 ((rd_T62 x0 x7).f0) x8).f1.f0) ((rd_T54 ((rd_T62 x0 x7).f0) x8).f1.f1) ((rd_T54 ((rd_T62 x0 x7).f0) x8).f1.f2) ((rd_T54 ((rd_T62 x0 x7).f0) x8).f1.f3)) else (spec_l3Last.l1 k x0 x1 x7 (wrap64 (x8 + 1)) x167000 x167001 x167002 x167003)) else (spec_l3Last.l1 k x0 x1 x7 (wrap64 (x8 + 1)) x167000 x167001 x167002 x167003)) else (spec_l3Last.l1 k x0 x1 x7 (wrap64 (x8 + 1)) x167000 x167001 x167002 x167003)) else (none)) else (spec_l3Last.l0 k x0 x1 (wrap64 (x7 + 1)) x167000 x167001 x167002 x167003)) else (none)) else (none)
end
def spec_l3Last.f (k : Nat) (l0 : List (S62)) (a1 : Int) : Option (Int × Int × Int × Int × Bool) := spec_l3Last.l0 k l0 a1 0 0 0 0 0
theorem spec_l3Last.mono_l : ∀ k, (∀ y0 y1 y2 y3 y4 y5 y6, LeO (spec_l3Last.l0 k y0 y1 y2 y3 y4 y5 y6) (spec_l3Last.l0 (k + 1) y0 y1 y2 y3 y4 y5 y6)) ∧ (∀ y0 y1 y2 y3 y4 y5 y6 y7, LeO (spec_l3Last.l1 k y0 y1 y2 y3 y4 y5 y6 y7) (spec_l3Last.l1 (k + 1) y0 y1 y2 y3 y4 y5 y6 y7))
 | 0 => ⟨fun _ _ _ _ _ _ _ r h => by simp [spec_l3Last.l0] at h, fun _ _ _ _ _ _ _ _ r h => by simp [spec_l3Last.l1] at h⟩
 | k + 1 => by
  obtain ⟨ih0, ih1⟩ := spec_l3Last.mono_l k
  refine ⟨?_, ?_⟩
  · intro y0 y1 y2 y3 y4 y5 y6
    unfold spec_l3Last.l0
    with_reducible repeat' first | exact ih0 _ _ _ _ _ _ _ | exact ih1 _ _ _ _ _ _ _ _ | exact LeO.refl _ | exact LeO.none _ | refine LeO.ite ?_ ?_ | refine LeO.bind ?_ (fun _ => ?_)
  · intro y0 y1 y2 y3 y4 y5 y6 y7
    unfold spec_l3Last.l1
    with_reducible repeat' first | exact ih0 _ _ _ _ _ _ _ | exact ih1 _ _ _ _ _ _ _ _ | exact LeO.refl _ | exact LeO.none _ | refine LeO.ite ?_ ?_ | refine LeO.bind ?_ (fun _ => ?_)
theorem spec_l3Last.mono : ∀ a0 a1 k, LeO (spec_l3Last.f k a0 a1) (spec_l3Last.f (k + 1) a0 a1) := by
 intro a0 a1 k
 obtain ⟨ih0, ih1⟩ := spec_l3Last.mono_l k
 unfold spec_l3Last.f
 with_reducible repeat' first | exact ih0 _ _ _ _ _ _ _ | exact ih1 _ _ _ _ _ _ _ _ | exact LeO.refl _ | exact LeO.none _ | refine LeO.ite ?_ ?_ | refine LeO.bind ?_ (fun _ => ?_)
set_option maxHeartbeats 8000000 in
set_option maxRecDepth 100000 in
theorem spec_l3Last.calls (k : Nat) (A0 : Option Addr) (c0 : Nat) (l0 : List (S62)) (a1 : Int) (r1 : Int) (r2 : Int) (r3 : Int) (r4 : Int) (r5 : Bool) (w : World) (hr0 : Kd.C k62 w A0 l0.length l0) (hc0 : l0.length ≤ c0) (h : spec_l3Last.f k l0 a1 = some (r1, r2, r3, r4, r5)) :
 Calls Try.prog 18 #[.slice A0 l0.length c0, .int .i64 a1] w fun e w' => e = .returned (.tuple #[.agg #[.int .i64 r1, .int .i64 r2, .int .i64 r3, .int .i64 r4], .bool r5]) ∧ Below w.heap.size w w' := by
 have hu32 := Try.underlying32
 have hu54 := Try.underlying54
 have HR0 := am hr0
 have HC0 := am hc0
 clear hr0 hc0
 have HB := am (Below.refl w.heap.size w)
 have H : (spec_l3Last.l0 k l0 a1 0 0 0 0 0) = some (r1, r2, r3, r4, r5) := h
 clear h
 have H' := am H
 clear H
 go_enter Try.func18, Try.ntmps18
 go_wp2_with (first | (refine bx 4 #[.int .i64 0, .int .i64 0, .int .i64 0, .int .i64 0] 32 rfl ?_; intro gb165 hg w3 hbox hb; have BK165 := am (hbox); have GW165 := am (ge hg (ph HB.out)); have GE165 := GW165; replace HB := am (below_step (ph HB.out) hb); clear hb hbox hg) | (refine bx 6 #[.int .i64 0, .int .i64 0, .int .i64 0, .int .i64 0] 32 rfl ?_; intro gb166 hg w4 hbox hb; have BK166 := am (hbox); have GW166 := am (ge hg (bg1 HB.out GE165.out)); have GE166 := GW166; replace HB := am (below_step (bg1 HB.out GE165.out) hb); have NB165_166 := am (nb hg (pb BK165.out)); have NB166_165 := am (Ne.symm NB165_166.out); replace BK165 := am (blk_below (pb BK165.out) hb); clear hb hbox hg; have hnb5 := NB166_165.out; have hnc5 := NB165_166.out; obtain ⟨hcz6_0, hcz6_1, hcz6_2, hcz6_3⟩ := b4 BK166.out; obtain ⟨hfz6_0, hfz6_1, hfz6_2, hfz6_3⟩ := f4 BK166.out))
 go_loopg [7] k (fun kq v7 w' => ∃ (x7_1 : Int) (x167000_1 : Int) (x167001_1 : Int) (x167002_1 : Int) (x167003_1 : Int), v7 = .int .i64 x7_1 ∧ Aside0 (spec_l3Last.l0 kq l0 a1 x7_1 x167000_1 x167001_1 x167002_1 x167003_1 = some (r1, r2, r3, r4, r5)) ∧ Aside0 (kq ≤ k) ∧ Aside0 (w'.heap[gb165]? = some (.cells #[.int .i64 0, .int .i64 0, .int .i64 0, .int .i64 0] 32 (0, 0))) ∧ Aside0 (w'.heap[gb166]? = some (.cells #[.int .i64 x167000_1, .int .i64 x167001_1, .int .i64 x167002_1, .int .i64 x167003_1] 32 (0, 0))) ∧ Aside0 (Below w.heap.size w w'))
 case atStart => exact ⟨(0), (0), (0), (0), (0), rf, H', ⟨Nat.le_refl _⟩, ⟨bf4 (pb BK165.out) NB165_166.out⟩, ⟨bp4 (pb BK166.out)⟩, ⟨bg2 HB.out GE165.out GE166.out⟩⟩
 case round =>
  clear H'
  obtain ⟨x7_1, x167000_1, x167001_1, x167002_1, x167003_1, rfl, HA, HK1, BK165, BK166, HB⟩ := hrel
  cases gk with
  | zero => exact absurd HA.out (by simp [spec_l3Last.l0])
  | succ k1 =>
   have H := HA.out
   clear HA
   simp only [spec_l3Last.l0] at H
   by_cases c7 : x7_1 < (l0.length : Int)
   rotate_left
   · rw [if_neg c7] at H
     have c7b0 := decide_eq_false c7
     clear c7
     simp only [Option.some.injEq, Prod.mk.injEq] at H
     obtain ⟨rfl, rfl, rfl, rfl, rfl⟩ := H
     try go_wp2
     replace BK165 := am (blk_drew BK165.out)
     replace BK166 := am (blk_drew BK166.out)
     replace HB := am (below_drew1 HB.out)
     refine start_ (n := 6) (S := fun w' => w'.cell? ⟨gb166, 0, none⟩ = some (.int .i64 x167000_1) ∧ w'.cell? ⟨gb166, 1, none⟩ = some (.int .i64 x167001_1) ∧ w'.cell? ⟨gb166, 2, none⟩ = some (.int .i64 x167002_1) ∧ w'.cell? ⟨gb166, 3, none⟩ = some (.int .i64 x167003_1)) (ds := []) (bt 6 0) (by kernel_rfl) rfl rfl ⟨(blk_cell BK166.out 0).trans rfl, (blk_cell BK166.out 1).trans rfl, (blk_cell BK166.out 2).trans rfl, (blk_cell BK166.out 3).trans rfl⟩ (fun hHeld => ?_)
     generalize wr.drew = w35 at BK165 BK166 HB hHeld ⊢
     refine pi_ 1 56 (bt 6 2) rfl rfl (fun _ _ _ h => h) ?_
     refine pm_ 0 55 (bt 6 3) rfl rfl (by kernel_rfl) (fun _ _ _ h => h) hHeld ?_
     refine pm_ 2 57 (bt 6 7) rfl rfl (by kernel_rfl) (fun _ _ _ h => h) hHeld ?_
     refine pi_ 3 58 (bt 6 15) rfl rfl (fun _ _ _ h => h) ?_
     refine one_ (i := 4) (N := none) (bt 6 31) rfl rfl (by kernel_rfl) (by decide) (fun K hK => ?_)
     have hs36 : w35.cell? ⟨gb165, 0, none⟩ = some (.int .i64 0) := (blk_cell BK165.out 0).trans rfl
     have hfs36 := blk_frozen BK165.out 0
     have hns36_1 := NB166_165.out
     have hms36_1 := NB165_166.out
     have hs37 : w35.cell? ⟨gb165, 1, none⟩ = some (.int .i64 0) := (blk_cell BK165.out 1).trans rfl
     have hfs37 := blk_frozen BK165.out 1
     have hns37_1 := NB166_165.out
     have hms37_1 := NB165_166.out
     have hs38 : w35.cell? ⟨gb165, 2, none⟩ = some (.int .i64 0) := (blk_cell BK165.out 2).trans rfl
     have hfs38 := blk_frozen BK165.out 2
     have hns38_1 := NB166_165.out
     have hms38_1 := NB165_166.out
     have hs39 : w35.cell? ⟨gb165, 3, none⟩ = some (.int .i64 0) := (blk_cell BK165.out 3).trans rfl
     have hfs39 := blk_frozen BK165.out 3
     have hns39_1 := NB166_165.out
     have hms39_1 := NB165_166.out
     refine qs rfl ?_
     refine hK.out _ _ ⟨((cell_far (p := ⟨gb165, _, none⟩) NB166_165.out _).trans (((cell_far (p := ⟨gb165, _, none⟩) NB166_165.out _).trans (((cell_far (p := ⟨gb165, _, none⟩) NB166_165.out _).trans (((cell_far (p := ⟨gb165, _, none⟩) NB166_165.out _).trans (hHeld.1)))))))), ((cell_far (p := ⟨gb165, _, none⟩) NB166_165.out _).trans (((cell_far (p := ⟨gb165, _, none⟩) NB166_165.out _).trans (((cell_far (p := ⟨gb165, _, none⟩) NB166_165.out _).trans (((cell_far (p := ⟨gb165, _, none⟩) NB166_165.out _).trans (hHeld.2.1)))))))), ((cell_far (p := ⟨gb165, _, none⟩) NB166_165.out _).trans (((cell_far (p := ⟨gb165, _, none⟩) NB166_165.out _).trans (((cell_far (p := ⟨gb165, _, none⟩) NB166_165.out _).trans (((cell_far (p := ⟨gb165, _, none⟩) NB166_165.out _).trans (hHeld.2.2.1)))))))), ((cell_far (p := ⟨gb165, _, none⟩) NB166_165.out _).trans (((cell_far (p := ⟨gb165, _, none⟩) NB166_165.out _).trans (((cell_far (p := ⟨gb165, _, none⟩) NB166_165.out _).trans (((cell_far (p := ⟨gb165, _, none⟩) NB166_165.out _).trans (hHeld.2.2.2))))))))⟩ (fun hHeld => ?_)
     clear hK K
     refine pi_ 5 5 (bt 6 63) rfl rfl (fun _ _ _ h => h) ?_
     refine done_ (by kernel_rfl) ?_
     try go_wp2
     refine bodyPost_ret (results_ct rfl _ _ gb165 32 #[.int .i64 x167000_1, .int .i64 x167001_1, .int .i64 x167002_1, .int .i64 x167003_1] (0, 0) _ rfl (bp4 (pb BK165.out)) Try.underlying32 rfl (by kernel_rfl)) rfl ?_
     exact (rq (bg2 HB.out GE165.out GE166.out))
   rw [if_pos c7] at H
   have c7b0 := decide_eq_true c7
   clear c7
   have H' := am H
   clear H
   go_wp2
   go_loopg [8] k1 (fun kq v8 w' => ∃ (x8_2 : Int) (x167000_2 : Int) (x167001_2 : Int) (x167002_2 : Int) (x167003_2 : Int), v8 = .int .i64 x8_2 ∧ Aside0 (spec_l3Last.l1 kq l0 a1 x7_1 x8_2 x167000_2 x167001_2 x167002_2 x167003_2 = some (r1, r2, r3, r4, r5)) ∧ Aside0 (kq ≤ k1) ∧ Aside0 (w'.heap[gb165]? = some (.cells #[.int .i64 0, .int .i64 0, .int .i64 0, .int .i64 0] 32 (0, 0))) ∧ Aside0 (w'.heap[gb166]? = some (.cells #[.int .i64 x167000_2, .int .i64 x167001_2, .int .i64 x167002_2, .int .i64 x167003_2] 32 (0, 0))) ∧ Aside0 (Below w.heap.size w w'))
   case atStart => exact ⟨(0), (x167000_1), (x167001_1), (x167002_1), (x167003_1), rf, H', ⟨Nat.le_refl _⟩, ⟨pb BK165.out⟩, ⟨pb BK166.out⟩, ⟨bg2 HB.out GE165.out GE166.out⟩⟩
   case round =>
    clear H'
    obtain ⟨x8_2, x167000_2, x167001_2, x167002_2, x167003_2, rfl, HA, HK2, BK165, BK166, HB⟩ := hrel
    cases gk with
    | zero => exact absurd HA.out (by simp [spec_l3Last.l1])
    | succ k2 =>
     have H := HA.out
     clear HA
     simp only [spec_l3Last.l1] at H
     by_cases c8 : 0 ≤ x7_1
     rotate_left
     · rw [if_neg c8] at H
       exact absurd H (by simp)
     rw [if_pos c8] at H
     have c8b0 := decide_eq_true c8
     clear c8
     by_cases c9 : x7_1 < (l0.length : Int)
     rotate_left
     · rw [if_neg c9] at H
       exact absurd H (by simp)
     rw [if_pos c9] at H
     have c9b0 := decide_eq_true c9
     clear c9
     by_cases c10 : x8_2 < (((rd_T62 l0 x7_1).f0).length : Int)
     rotate_left
     · rw [if_neg c10] at H
       have c10b0 := decide_eq_false c10
       clear c10
       have H' := am H
       clear H
       have p167 : 0 ≤ (x7_1 : Int) := ofb
       have q167 : x7_1 < (l0.length : Int) := ofb
       obtain ⟨ad167, A167_0, c167_0, e167, hx167_0, hx167_1, hl167_0, hi167_0⟩ := at_T62 HR0.out x7_1 p167 q167
       cases e167
       replace hx167_0 := up HB.out hx167_0
       replace hx167_1 := up HB.out hx167_1
       have HR167_0 := am hi167_0
       have HC167_0 := am hl167_0
       clear hi167_0 hl167_0
       replace p167 := eq_true p167
       replace q167 := eq_true q167
       go_wp2
       go_roundg k2
       case measure => have := HK1.out; have := HK2.out; omega
       case rel => exact ⟨(wrap64 (x7_1 + 1)), (x167000_2), (x167001_2), (x167002_2), (x167003_2), rf, H', ⟨by have := HK1.out; have := HK2.out; omega⟩, ⟨pb BK165.out⟩, ⟨pb BK166.out⟩, ⟨bg2 HB.out GE165.out GE166.out⟩⟩
     rw [if_pos c10] at H
     have c10b0 := decide_eq_true c10
     clear c10
     by_cases c11 : 0 ≤ x8_2
     rotate_left
     · rw [if_neg c11] at H
       exact absurd H (by simp)
     rw [if_pos c11] at H
     have c11b0 := decide_eq_true c11
     clear c11
     by_cases c12 : ((rd_T54 ((rd_T62 l0 x7_1).f0) x8_2).f0) = 1
     rotate_left
     · rw [if_neg c12] at H
       have c12b0 : (((rd_T54 ((rd_T62 l0 x7_1).f0) x8_2).f0) == 1) = false := beq_eq_false_iff_ne.mpr c12
       have c12b1 : (((rd_T54 ((rd_T62 l0 x7_1).f0) x8_2).f0) != 1) = true := bne_iff_ne.mpr c12
       have H' := am H
       clear H
       have p167 : 0 ≤ (x7_1 : Int) := ofb
       have q167 : x7_1 < (l0.length : Int) := ofb
       obtain ⟨ad167, A167_0, c167_0, e167, hx167_0, hx167_1, hl167_0, hi167_0⟩ := at_T62 HR0.out x7_1 p167 q167
       cases e167
       replace hx167_0 := up HB.out hx167_0
       replace hx167_1 := up HB.out hx167_1
       have HR167_0 := am hi167_0
       have HC167_0 := am hl167_0
       clear hi167_0 hl167_0
       replace p167 := eq_true p167
       replace q167 := eq_true q167
       have p168 : 0 ≤ (x7_1 : Int) := ofb
       have q168 : x7_1 < (l0.length : Int) := ofb
       obtain ⟨ad168, A168_0, c168_0, e168, hx168_0, hx168_1, hl168_0, hi168_0⟩ := at_T62 HR0.out x7_1 p168 q168
       obtain rfl : ad167 = ad168 := (by injection e168)
       replace hx168_0 := up HB.out hx168_0
       replace hx168_1 := up HB.out hx168_1
       have HR168_0 := am hi168_0
       have HC168_0 := am hl168_0
       clear hi168_0 hl168_0
       replace p168 := eq_true p168
       replace q168 := eq_true q168
       have ea_ := Option.some.inj (hx167_0.symm.trans hx168_0)
       injection ea_ with ea_ en_ ec_
       subst ea_
       subst ec_
       clear en_
       have p169 : 0 ≤ (x8_2 : Int) := ofb
       have q169 : x8_2 < (((rd_T62 l0 x7_1).f0).length : Int) := ofb
       obtain ⟨ad169, e169, hx169_0, hx169_1, hx169_2, hx169_3, hx169_4⟩ := at_T54 HR168_0.out x8_2 p169 q169
       cases e169
       replace hx169_0 := up HB.out hx169_0
       replace hx169_1 := up HB.out hx169_1
       replace hx169_2 := up HB.out hx169_2
       replace hx169_3 := up HB.out hx169_3
       replace hx169_4 := up HB.out hx169_4
       replace p169 := eq_true p169
       replace q169 := eq_true q169
       go_wp2_with (first | (refine bx 9 #[.int .i64 0, .int .i64 0, .int .i64 0, .int .i64 0, .int .i64 0] 54 rfl ?_; intro gb170 hg w31 hbox hb; have BK170 := am (hbox); have GW170 := am (ge hg (bg2 HB.out GE165.out GE166.out)); have GE170 := GW170; replace HB := am (below_step (bg2 HB.out GE165.out GE166.out) hb); have NB165_170 := am (nb hg (pb BK165.out)); have NB170_165 := am (Ne.symm NB165_170.out); replace BK165 := am (blk_below (pb BK165.out) hb); have NB166_170 := am (nb hg (pb BK166.out)); have NB170_166 := am (Ne.symm NB166_170.out); replace BK166 := am (blk_below (pb BK166.out) hb); clear hb hbox hg; have hnb32 := NB170_165.out; have hnc32 := NB165_170.out; have hnb33 := NB170_166.out; have hnc33 := NB166_170.out; obtain ⟨hcz34_0, hcz34_1, hcz34_2, hcz34_3, hcz34_4⟩ := b5 BK170.out; obtain ⟨hfz34_0, hfz34_1, hfz34_2, hfz34_3, hfz34_4⟩ := f5 BK170.out))
       go_roundg k2
       case measure => have := HK1.out; have := HK2.out; omega
       case rel => exact ⟨(wrap64 (x8_2 + 1)), (x167000_2), (x167001_2), (x167002_2), (x167003_2), rf, H', ⟨by have := HK1.out; have := HK2.out; omega⟩, ⟨bf5 (pb BK165.out) NB165_170.out⟩, ⟨bf5 (pb BK166.out) NB166_170.out⟩, ⟨bg3 HB.out GE165.out GE166.out GE170.out⟩⟩
     rw [if_pos c12] at H
     have c12b0 : (((rd_T54 ((rd_T62 l0 x7_1).f0) x8_2).f0) == 1) = true := beq_iff_eq.mpr c12
     have c12b1 : (((rd_T54 ((rd_T62 l0 x7_1).f0) x8_2).f0) != 1) = false := bne_eq_false_iff_eq.mpr c12
     clear c12
     by_cases c13 : ((rd_T54 ((rd_T62 l0 x7_1).f0) x8_2).f1.f2) = a1
     rotate_left
     · rw [if_neg c13] at H
       have c13b0 : (((rd_T54 ((rd_T62 l0 x7_1).f0) x8_2).f1.f2) == a1) = false := beq_eq_false_iff_ne.mpr c13
       have c13b1 : (((rd_T54 ((rd_T62 l0 x7_1).f0) x8_2).f1.f2) != a1) = true := bne_iff_ne.mpr c13
       have H' := am H
       clear H
       have p167 : 0 ≤ (x7_1 : Int) := ofb
       have q167 : x7_1 < (l0.length : Int) := ofb
       obtain ⟨ad167, A167_0, c167_0, e167, hx167_0, hx167_1, hl167_0, hi167_0⟩ := at_T62 HR0.out x7_1 p167 q167
       cases e167
       replace hx167_0 := up HB.out hx167_0
       replace hx167_1 := up HB.out hx167_1
       have HR167_0 := am hi167_0
       have HC167_0 := am hl167_0
       clear hi167_0 hl167_0
       replace p167 := eq_true p167
       replace q167 := eq_true q167
       have p168 : 0 ≤ (x7_1 : Int) := ofb
       have q168 : x7_1 < (l0.length : Int) := ofb
       obtain ⟨ad168, A168_0, c168_0, e168, hx168_0, hx168_1, hl168_0, hi168_0⟩ := at_T62 HR0.out x7_1 p168 q168
       obtain rfl : ad167 = ad168 := (by injection e168)
       replace hx168_0 := up HB.out hx168_0
       replace hx168_1 := up HB.out hx168_1
       have HR168_0 := am hi168_0
       have HC168_0 := am hl168_0
       clear hi168_0 hl168_0
       replace p168 := eq_true p168
       replace q168 := eq_true q168
       have ea_ := Option.some.inj (hx167_0.symm.trans hx168_0)
       injection ea_ with ea_ en_ ec_
       subst ea_
       subst ec_
       clear en_
       have p169 : 0 ≤ (x8_2 : Int) := ofb
       have q169 : x8_2 < (((rd_T62 l0 x7_1).f0).length : Int) := ofb
       obtain ⟨ad169, e169, hx169_0, hx169_1, hx169_2, hx169_3, hx169_4⟩ := at_T54 HR168_0.out x8_2 p169 q169
       cases e169
       replace hx169_0 := up HB.out hx169_0
       replace hx169_1 := up HB.out hx169_1
       replace hx169_2 := up HB.out hx169_2
       replace hx169_3 := up HB.out hx169_3
       replace hx169_4 := up HB.out hx169_4
       replace p169 := eq_true p169
       replace q169 := eq_true q169
       go_wp2_with (first | (refine bx 9 #[.int .i64 0, .int .i64 0, .int .i64 0, .int .i64 0, .int .i64 0] 54 rfl ?_; intro gb170 hg w27 hbox hb; have BK170 := am (hbox); have GW170 := am (ge hg (bg2 HB.out GE165.out GE166.out)); have GE170 := GW170; replace HB := am (below_step (bg2 HB.out GE165.out GE166.out) hb); have NB165_170 := am (nb hg (pb BK165.out)); have NB170_165 := am (Ne.symm NB165_170.out); replace BK165 := am (blk_below (pb BK165.out) hb); have NB166_170 := am (nb hg (pb BK166.out)); have NB170_166 := am (Ne.symm NB166_170.out); replace BK166 := am (blk_below (pb BK166.out) hb); clear hb hbox hg; have hnb28 := NB170_165.out; have hnc28 := NB165_170.out; have hnb29 := NB170_166.out; have hnc29 := NB166_170.out; obtain ⟨hcz30_0, hcz30_1, hcz30_2, hcz30_3, hcz30_4⟩ := b5 BK170.out; obtain ⟨hfz30_0, hfz30_1, hfz30_2, hfz30_3, hfz30_4⟩ := f5 BK170.out))
       go_roundg k2
       case measure => have := HK1.out; have := HK2.out; omega
       case rel => exact ⟨(wrap64 (x8_2 + 1)), (x167000_2), (x167001_2), (x167002_2), (x167003_2), rf, H', ⟨by have := HK1.out; have := HK2.out; omega⟩, ⟨bf5 (pb BK165.out) NB165_170.out⟩, ⟨bf5 (pb BK166.out) NB166_170.out⟩, ⟨bg3 HB.out GE165.out GE166.out GE170.out⟩⟩
     rw [if_pos c13] at H
     have c13b0 : (((rd_T54 ((rd_T62 l0 x7_1).f0) x8_2).f1.f2) == a1) = true := beq_iff_eq.mpr c13
     have c13b1 : (((rd_T54 ((rd_T62 l0 x7_1).f0) x8_2).f1.f2) != a1) = false := bne_eq_false_iff_eq.mpr c13
     clear c13
     by_cases c14 : ((rd_T54 ((rd_T62 l0 x7_1).f0) x8_2).f1.f1) > x167001_2
     rotate_left
     · rw [if_neg c14] at H
       have c14b0 := decide_eq_false c14
       clear c14
       have H' := am H
       clear H
       have p167 : 0 ≤ (x7_1 : Int) := ofb
       have q167 : x7_1 < (l0.length : Int) := ofb
       obtain ⟨ad167, A167_0, c167_0, e167, hx167_0, hx167_1, hl167_0, hi167_0⟩ := at_T62 HR0.out x7_1 p167 q167
       cases e167
       replace hx167_0 := up HB.out hx167_0
       replace hx167_1 := up HB.out hx167_1
       have HR167_0 := am hi167_0
       have HC167_0 := am hl167_0
       clear hi167_0 hl167_0
       replace p167 := eq_true p167
       replace q167 := eq_true q167
       have p168 : 0 ≤ (x7_1 : Int) := ofb
       have q168 : x7_1 < (l0.length : Int) := ofb
       obtain ⟨ad168, A168_0, c168_0, e168, hx168_0, hx168_1, hl168_0, hi168_0⟩ := at_T62 HR0.out x7_1 p168 q168
       obtain rfl : ad167 = ad168 := (by injection e168)
       replace hx168_0 := up HB.out hx168_0
       replace hx168_1 := up HB.out hx168_1
       have HR168_0 := am hi168_0
       have HC168_0 := am hl168_0
       clear hi168_0 hl168_0
       replace p168 := eq_true p168
       replace q168 := eq_true q168
       have ea_ := Option.some.inj (hx167_0.symm.trans hx168_0)
       injection ea_ with ea_ en_ ec_
       subst ea_
       subst ec_
       clear en_
       have p169 : 0 ≤ (x8_2 : Int) := ofb
       have q169 : x8_2 < (((rd_T62 l0 x7_1).f0).length : Int) := ofb
       obtain ⟨ad169, e169, hx169_0, hx169_1, hx169_2, hx169_3, hx169_4⟩ := at_T54 HR168_0.out x8_2 p169 q169
       cases e169
       replace hx169_0 := up HB.out hx169_0
       replace hx169_1 := up HB.out hx169_1
       replace hx169_2 := up HB.out hx169_2
       replace hx169_3 := up HB.out hx169_3
       replace hx169_4 := up HB.out hx169_4
       replace p169 := eq_true p169
       replace q169 := eq_true q169
       go_wp2_with (first | (refine bx 9 #[.int .i64 0, .int .i64 0, .int .i64 0, .int .i64 0, .int .i64 0] 54 rfl ?_; intro gb170 hg w21 hbox hb; have BK170 := am (hbox); have GW170 := am (ge hg (bg2 HB.out GE165.out GE166.out)); have GE170 := GW170; replace HB := am (below_step (bg2 HB.out GE165.out GE166.out) hb); have NB165_170 := am (nb hg (pb BK165.out)); have NB170_165 := am (Ne.symm NB165_170.out); replace BK165 := am (blk_below (pb BK165.out) hb); have NB166_170 := am (nb hg (pb BK166.out)); have NB170_166 := am (Ne.symm NB166_170.out); replace BK166 := am (blk_below (pb BK166.out) hb); clear hb hbox hg; have hnb22 := NB170_165.out; have hnc22 := NB165_170.out; have hnb23 := NB170_166.out; have hnc23 := NB166_170.out; obtain ⟨hcz24_0, hcz24_1, hcz24_2, hcz24_3, hcz24_4⟩ := b5 BK170.out; obtain ⟨hfz24_0, hfz24_1, hfz24_2, hfz24_3, hfz24_4⟩ := f5 BK170.out; have hnb25 := NB166_165.out; have hnc25 := NB165_166.out; obtain ⟨hcz26_0, hcz26_1, hcz26_2, hcz26_3⟩ := b4 BK166.out; obtain ⟨hfz26_0, hfz26_1, hfz26_2, hfz26_3⟩ := f4 BK166.out))
       go_roundg k2
       case measure => have := HK1.out; have := HK2.out; omega
       case rel => exact ⟨(wrap64 (x8_2 + 1)), (x167000_2), (x167001_2), (x167002_2), (x167003_2), rf, H', ⟨by have := HK1.out; have := HK2.out; omega⟩, ⟨bf5 (pb BK165.out) NB165_170.out⟩, ⟨bf5 (pb BK166.out) NB166_170.out⟩, ⟨bg3 HB.out GE165.out GE166.out GE170.out⟩⟩
     rw [if_pos c14] at H
     have c14b0 := decide_eq_true c14
     clear c14
     have H' := am H
     clear H
     have p167 : 0 ≤ (x7_1 : Int) := ofb
     have q167 : x7_1 < (l0.length : Int) := ofb
     obtain ⟨ad167, A167_0, c167_0, e167, hx167_0, hx167_1, hl167_0, hi167_0⟩ := at_T62 HR0.out x7_1 p167 q167
     cases e167
     replace hx167_0 := up HB.out hx167_0
     replace hx167_1 := up HB.out hx167_1
     have HR167_0 := am hi167_0
     have HC167_0 := am hl167_0
     clear hi167_0 hl167_0
     replace p167 := eq_true p167
     replace q167 := eq_true q167
     have p168 : 0 ≤ (x7_1 : Int) := ofb
     have q168 : x7_1 < (l0.length : Int) := ofb
     obtain ⟨ad168, A168_0, c168_0, e168, hx168_0, hx168_1, hl168_0, hi168_0⟩ := at_T62 HR0.out x7_1 p168 q168
     obtain rfl : ad167 = ad168 := (by injection e168)
     replace hx168_0 := up HB.out hx168_0
     replace hx168_1 := up HB.out hx168_1
     have HR168_0 := am hi168_0
     have HC168_0 := am hl168_0
     clear hi168_0 hl168_0
     replace p168 := eq_true p168
     replace q168 := eq_true q168
     have ea_ := Option.some.inj (hx167_0.symm.trans hx168_0)
     injection ea_ with ea_ en_ ec_
     subst ea_
     subst ec_
     clear en_
     have p169 : 0 ≤ (x8_2 : Int) := ofb
     have q169 : x8_2 < (((rd_T62 l0 x7_1).f0).length : Int) := ofb
     obtain ⟨ad169, e169, hx169_0, hx169_1, hx169_2, hx169_3, hx169_4⟩ := at_T54 HR168_0.out x8_2 p169 q169
     cases e169
     replace hx169_0 := up HB.out hx169_0
     replace hx169_1 := up HB.out hx169_1
     replace hx169_2 := up HB.out hx169_2
     replace hx169_3 := up HB.out hx169_3
     replace hx169_4 := up HB.out hx169_4
     replace p169 := eq_true p169
     replace q169 := eq_true q169
     go_wp2_with (first | (refine bx 9 #[.int .i64 0, .int .i64 0, .int .i64 0, .int .i64 0, .int .i64 0] 54 rfl ?_; intro gb170 hg w15 hbox hb; have BK170 := am (hbox); have GW170 := am (ge hg (bg2 HB.out GE165.out GE166.out)); have GE170 := GW170; replace HB := am (below_step (bg2 HB.out GE165.out GE166.out) hb); have NB165_170 := am (nb hg (pb BK165.out)); have NB170_165 := am (Ne.symm NB165_170.out); replace BK165 := am (blk_below (pb BK165.out) hb); have NB166_170 := am (nb hg (pb BK166.out)); have NB170_166 := am (Ne.symm NB166_170.out); replace BK166 := am (blk_below (pb BK166.out) hb); clear hb hbox hg; have hnb16 := NB170_165.out; have hnc16 := NB165_170.out; have hnb17 := NB170_166.out; have hnc17 := NB166_170.out; obtain ⟨hcz18_0, hcz18_1, hcz18_2, hcz18_3, hcz18_4⟩ := b5 BK170.out; obtain ⟨hfz18_0, hfz18_1, hfz18_2, hfz18_3, hfz18_4⟩ := f5 BK170.out; have hnb19 := NB166_165.out; have hnc19 := NB165_166.out; obtain ⟨hcz20_0, hcz20_1, hcz20_2, hcz20_3⟩ := b4 BK166.out; obtain ⟨hfz20_0, hfz20_1, hfz20_2, hfz20_3⟩ := f4 BK166.out))
     go_roundg k2
     case measure => have := HK1.out; have := HK2.out; omega
     case rel => exact ⟨(wrap64 (x8_2 + 1)), ((rd_T54 ((rd_T62 l0 x7_1).f0) x8_2).f1.f0), ((rd_T54 ((rd_T62 l0 x7_1).f0) x8_2).f1.f1), ((rd_T54 ((rd_T62 l0 x7_1).f0) x8_2).f1.f2), ((rd_T54 ((rd_T62 l0 x7_1).f0) x8_2).f1.f3), rf, H', ⟨by have := HK1.out; have := HK2.out; omega⟩, ⟨bf4 (bf5 (pb BK165.out) NB165_170.out) NB165_166.out⟩, ⟨bp4 (bf5 (pb BK166.out) NB166_170.out)⟩, ⟨bg3 HB.out GE165.out GE166.out GE170.out⟩⟩
end Go.Proofs.Ytjlmndgpmhbdlaa.Rz
