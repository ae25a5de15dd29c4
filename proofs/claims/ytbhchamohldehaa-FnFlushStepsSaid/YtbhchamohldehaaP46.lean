-- printed by wip/pp/pp.py
import Derived.Test.YtbhchamohldehaaP40
import Derived.Test.YtbhchamohldehaaP45
namespace Go.Proofs.Ytbhchamohldehaa.P4
set_option maxHeartbeats 8000000
set_option maxRecDepth 100000
open Go.RowKit Go.Proofs.YtbhchamohldehaaW.PrintWords Go.Proofs.YtbhchamohldehaaW.PrintLast Go.Proofs.YtbhchamohldehaaW.PrintMore
attribute [local go_sem] max2_int min2_int max_two min_two max_three min_three max_four min_four
set_option linter.unusedVariables false
set_option linter.unusedSimpArgs false
def spec_l12Do.f (k : Nat) (l0_0 : List (S73)) (l0_1 : List Int) (a1_0 : Int) (a1_1 : Int) (a1_2 : Int) (a1_3 : Int) (a1_4 : Int) (a1_5 : Int) (a1_6 : Int) (a1_7 : Int) (a2 : Bool) : Option ((List (S73)) × List Int) := if a1_0 = 1 then (if a2 = true then (some (l0_0, l0_1)) else (if 0 ≤ (wrap64 (a1_1 - 1)) then (if (wrap64 (a1_1 - 1)) < (l0_1.length : Int) then (some (l0_0, (l0_1.set ((wrap64 (a1_1 - 1)) : Int).toNat a1_2))) else (none)) else (none))) else (if a1_0 = 2 then ((spec_l2Wipe.f k l0_0 a1_3 a2).bind fun bt171 => (some (bt171.1, l0_1))) else (if a1_0 = 3 then ((spec_l2Write.f k l0_0 a1_3 a1_4 a1_5 a1_6 a1_7 a2).bind fun bt175 => (some (bt175.1, l0_1))) else (some (l0_0, l0_1))))
theorem stParts {w0 w : World} {P0 P1 : Nat → Prop} {u v : Value} {fl : List S73} {d : List Int} (h0 : Kd.S k73 73 w w0.heap.size P0 u fl) (h1 : Kd.R (Kd.int .i64) 3 w w0.heap.size P1 v d) :
 ∃ (P Q : Nat → Prop) (A1 : Option Addr) (c1 : Nat) (A2 : Option Addr) (c2 : Nat), u = .slice A1 fl.length c1 ∧ v = .slice A2 d.length c2 ∧ Kd.S k73 73 w w0.heap.size P (.slice A1 fl.length c1) fl ∧ Kd.R (Kd.int .i64) 3 w w0.heap.size Q (.slice A2 d.length c2) d ∧ (∀ k, P k → P0 k ∧ k < w.heap.size) ∧ (∀ k, Q k → P1 k ∧ k < w.heap.size) ∧ ∀ k, P k → ¬ Q k := by
 have hS := Kd.S_bound h0
 have hR := Kd.R_bound h1
 obtain ⟨A1, c1, rfl⟩ := Kd.S_slice hS
 obtain ⟨A2, c2, rfl⟩ := Kd.R_slice hR
 refine ⟨_, _, A1, c1, A2, c2, rfl, rfl, hS, hR, fun k hk => ⟨hk.1, hk.2.2.1⟩, fun k hk => ⟨hk.1, hk.2.2.1⟩, fun k hk hq => ?_⟩
 obtain ⟨_, _, _, q, hq1, cs, hq2⟩ := hk
 obtain ⟨_, _, _, q', hq1', cs', hq2'⟩ := hq
 rw [hq2] at hq2'
 injection hq2' with e1
 injection e1 with e2 e3
 rw [e3] at hq1
 have hf : ∀ x : Nat, x ∈ 3 :: (Kd.int .i64).E → x ∈ 73 :: (k73).E → False := by
  intro x h1 h2
  have h1 : x ∈ [3] := h1
  have h2 : x ∈ [73, 69] := h2
  rw [List.mem_singleton] at h1
  rw [h1] at h2
  revert h2
  decide
 exact hf _ hq1' hq1
theorem stSize (w : World) (o : Obj) : (w.alloc o).heap.size = w.heap.size + 1 := Array.size_push o
theorem stCell {w0 w W : World} {P Q M : Nat → Prop} {u v : Value} {fl : List S73} {d : List Int} (h : Kd.S k73 73 W w0.heap.size P u fl ∧ Kd.R (Kd.int .i64) 3 W w0.heap.size Q v d ∧ Below w0.heap.size w0 W ∧ Kept w W M) {b : Nat} (hb : w.heap.size ≤ b) (hw : w0.heap.size ≤ w.heap.size) (hP : ∀ k, P k → k ≠ b) (hQ : ∀ k, Q k → k ≠ b) (i : Nat) (a : Value) :
 Kd.S k73 73 (W.setCell ⟨b, i, none⟩ a) w0.heap.size P u fl ∧ Kd.R (Kd.int .i64) 3 (W.setCell ⟨b, i, none⟩ a) w0.heap.size Q v d ∧ Below w0.heap.size w0 (W.setCell ⟨b, i, none⟩ a) ∧ Kept w (W.setCell ⟨b, i, none⟩ a) M :=
 ⟨Kd.S_far (p := ⟨b, i, none⟩) h.1 hP a, Kd.R_far (p := ⟨b, i, none⟩) h.2.1 hQ a, h.2.2.1.setCell (p := ⟨b, i, none⟩) (Nat.le_trans hw hb) _, Kept.setCell (p := ⟨b, i, none⟩) h.2.2.2 (.inr hb) _⟩
theorem stAlloc {w0 w W : World} {P Q M : Nat → Prop} {u v : Value} {fl : List S73} {d : List Int} (h : Kd.S k73 73 W w0.heap.size P u fl ∧ Kd.R (Kd.int .i64) 3 W w0.heap.size Q v d ∧ Below w0.heap.size w0 W ∧ Kept w W M) (o : Obj) :
 Kd.S k73 73 (W.alloc o) w0.heap.size P u fl ∧ Kd.R (Kd.int .i64) 3 (W.alloc o) w0.heap.size Q v d ∧ Below w0.heap.size w0 (W.alloc o) ∧ Kept w (W.alloc o) M := ⟨Kd.S_alloc h.1 o, Kd.R_alloc h.2.1 o, below_alloc h.2.2.1 o, Kept.alloc h.2.2.2 o⟩
theorem stPut2 {w : World} {g : Nat} {t : TypeId} {z0 z1 : Value} (h : w.heap[g]? = some (.cells #[z0, z1] t (0, 0))) (a b : Value) : ((w.setCell ⟨g, 0, none⟩ a).setCell ⟨g, 1, none⟩ b).heap[g]? = some (.cells #[a, b] t (0, 0)) := blk_put (cs := #[a, z1]) (blk_put (cs := #[z0, z1]) h 0 _ rfl) 1 _ rfl
theorem doSome {α : Type} {c d : Prop} [Decidable c] [Decidable d] {x y : α} (h : (if c then (if d then some x else none) else none) = some y) : c ∧ d ∧ x = y := by
 by_cases hc : c
 rotate_left
 · rw [if_neg hc] at h
   cases h
 rw [if_pos hc] at h
 by_cases hd : d
 rotate_left
 · rw [if_neg hd] at h
   cases h
 rw [if_pos hd] at h
 exact ⟨hc, hd, Option.some.inj h⟩
theorem stDisk {w0 w W : World} {P Q M : Nat → Prop} {u : Value} {fl : List S73} {d : List Int} {gd n c : Nat} (h : Kd.S k73 73 W w0.heap.size P u fl ∧ Kd.R (Kd.int .i64) 3 W w0.heap.size Q (.slice (some ⟨gd, 0, none⟩) n c) d ∧ Below w0.heap.size w0 W ∧ Kept w W M) (i x : Int) (hM : M gd ∨ w.heap.size ≤ gd) (hbd : w0.heap.size ≤ gd) (hP : ∀ k, P k → k ≠ gd) :
 Kd.S k73 73 (W.setCell ⟨gd, i.toNat, none⟩ (.int .i64 x)) w0.heap.size P u fl ∧ Kd.R (Kd.int .i64) 3 (W.setCell ⟨gd, i.toNat, none⟩ (.int .i64 x)) w0.heap.size Q (.slice (some ⟨gd, 0, none⟩) n c) (d.set i.toNat x) ∧ Below w0.heap.size w0 (W.setCell ⟨gd, i.toNat, none⟩ (.int .i64 x)) ∧ Kept w (W.setCell ⟨gd, i.toNat, none⟩ (.int .i64 x)) M :=
 ⟨Kd.S_far (p := ⟨gd, i.toNat, none⟩) h.1 hP _, Kd.R_putn h.2.1 i x, h.2.2.1.setCell (p := ⟨gd, i.toNat, none⟩) hbd _, Kept.setCell (p := ⟨gd, i.toNat, none⟩) h.2.2.2 hM _⟩
theorem spec_l12Do.calls (k : Nat) (P0_0_ : Nat → Prop) (u9000_ : Value) (l0_0 : List (S73)) (P0_1_ : Nat → Prop) (u9001_ : Value) (l0_1 : List Int) (a1_0 : Int) (a1_1 : Int) (a1_2 : Int) (a1_3 : Int) (a1_4 : Int) (a1_5 : Int) (a1_6 : Int) (a1_7 : Int) (a2 : Bool) (r1 : List (S73)) (r2 : List Int) (w0 w : World) (hB : Below w0.heap.size w0 w) (ho0_0 : Kd.S k73 73 w w0.heap.size P0_0_ u9000_ l0_0) (ho0_1 : Kd.R (Kd.int .i64) 3 w w0.heap.size P0_1_ u9001_ l0_1) (h : spec_l12Do.f k l0_0 l0_1 a1_0 a1_1 a1_2 a1_3 a1_4 a1_5 a1_6 a1_7 a2 = some (r1, r2)) :
 Calls Try.prog 65 #[.agg #[u9000_, u9001_], .agg #[.int .i64 a1_0, .int .i64 a1_1, .int .i64 a1_2, .int .i64 a1_3, .int .i64 a1_4, .int .i64 a1_5, .int .i64 a1_6, .int .i64 a1_7], .bool a2] w fun e w' => ∃ v0_ v1_ : Value, e = .returned (.agg #[v0_, v1_]) ∧ Kd.S k73 73 w' w0.heap.size (fun k_ => ((P0_0_ k_ ∨ P0_1_ k_) ∨ w.heap.size ≤ k_)) v0_ r1 ∧ Kd.R (Kd.int .i64) 3 w' w0.heap.size (fun k_ => ((P0_0_ k_ ∨ P0_1_ k_) ∨ w.heap.size ≤ k_)) v1_ r2 ∧ Below w0.heap.size w0 w' ∧ Kept w w' (fun k_ => P0_0_ k_ ∨ P0_1_ k_) := by
 obtain ⟨P, Q, A1, c1, A2, c2, rfl, rfl, hS, hR, hP, hQ, hPQ⟩ := stParts ho0_0 ho0_1
 clear ho0_0 ho0_1
 have hu70 := Try.underlying26
 have hu98 := Try.underlying38
 have hu30 := Try.underlying36
 have hL := hB.size
 have HH := am h
 have b0 := blk_alloc (blk_alloc (blk_new w (.cells #[.slice A1 l0_0.length c1, .slice A2 l0_1.length c2] 26)) (.cells #[.int .i64 a1_0, .int .i64 a1_1, .int .i64 a1_2, .int .i64 a1_3, .int .i64 a1_4, .int .i64 a1_5, .int .i64 a1_6, .int .i64 a1_7] 38)) (.cells #[.slice none 0 0, .slice none 0 0] 26)
 have b1 := blk_alloc (blk_new (w.alloc (.cells #[.slice A1 l0_0.length c1, .slice A2 l0_1.length c2] 26)) (.cells #[.int .i64 a1_0, .int .i64 a1_1, .int .i64 a1_2, .int .i64 a1_3, .int .i64 a1_4, .int .i64 a1_5, .int .i64 a1_6, .int .i64 a1_7] 38)) (.cells #[.slice none 0 0, .slice none 0 0] 26)
 have b2 := blk_new ((w.alloc (.cells #[.slice A1 l0_0.length c1, .slice A2 l0_1.length c2] 26)).alloc (.cells #[.int .i64 a1_0, .int .i64 a1_1, .int .i64 a1_2, .int .i64 a1_3, .int .i64 a1_4, .int .i64 a1_5, .int .i64 a1_6, .int .i64 a1_7] 38)) (.cells #[.slice none 0 0, .slice none 0 0] 26)
 have HM := am (stAlloc (stAlloc (stAlloc (M := fun k_ => P0_0_ k_ ∨ P0_1_ k_) ⟨hS, hR, hB, Kept.refl w _⟩ (.cells #[.slice A1 l0_0.length c1, .slice A2 l0_1.length c2] 26)) (.cells #[.int .i64 a1_0, .int .i64 a1_1, .int .i64 a1_2, .int .i64 a1_3, .int .i64 a1_4, .int .i64 a1_5, .int .i64 a1_6, .int .i64 a1_7] 38)) (.cells #[.slice none 0 0, .slice none 0 0] 26))
 have e1 : (w.alloc (.cells #[.slice A1 l0_0.length c1, .slice A2 l0_1.length c2] 26)).heap.size = w.heap.size + 1 := stSize _ _
 have e2 : ((w.alloc (.cells #[.slice A1 l0_0.length c1, .slice A2 l0_1.length c2] 26)).alloc (.cells #[.int .i64 a1_0, .int .i64 a1_1, .int .i64 a1_2, .int .i64 a1_3, .int .i64 a1_4, .int .i64 a1_5, .int .i64 a1_6, .int .i64 a1_7] 38)).heap.size = w.heap.size + 1 + 1 := by rw [stSize, stSize]
 have e3 : (((w.alloc (.cells #[.slice A1 l0_0.length c1, .slice A2 l0_1.length c2] 26)).alloc (.cells #[.int .i64 a1_0, .int .i64 a1_1, .int .i64 a1_2, .int .i64 a1_3, .int .i64 a1_4, .int .i64 a1_5, .int .i64 a1_6, .int .i64 a1_7] 38)).alloc (.cells #[.slice none 0 0, .slice none 0 0] 26)).heap.size = w.heap.size + 1 + 1 + 1 := by rw [stSize, stSize, stSize]
 rw [e1] at b1
 rw [e2] at b2
 clear h hS hR hB e1 e2
 go_enter Try.func65, Try.ntmps65
 go_upto_region 1 with (fail)
 generalize ((w.alloc (.cells #[.slice A1 l0_0.length c1, .slice A2 l0_1.length c2] 26)).alloc (.cells #[.int .i64 a1_0, .int .i64 a1_1, .int .i64 a1_2, .int .i64 a1_3, .int .i64 a1_4, .int .i64 a1_5, .int .i64 a1_6, .int .i64 a1_7] 38)).alloc (.cells #[.slice none 0 0, .slice none 0 0] 26) = W at b0 b1 b2 HM e3 ⊢
 have s0 := (blk_cell b0 0).trans rfl
 have s1 := (blk_cell b0 1).trans rfl
 have f0 := blk_frozen b0 0
 have x0 := (blk_cell b1 0).trans rfl
 have x1 := (blk_cell b1 1).trans rfl
 have x2 := (blk_cell b1 2).trans rfl
 have x3 := (blk_cell b1 3).trans rfl
 have x4 := (blk_cell b1 4).trans rfl
 have x5 := (blk_cell b1 5).trans rfl
 have x6 := (blk_cell b1 6).trans rfl
 have x7 := (blk_cell b1 7).trans rfl
 have z0 := (blk_cell b2 0).trans rfl
 have z1 := (blk_cell b2 1).trans rfl
 have g0 := blk_frozen b2 0
 have g1 := blk_frozen b2 1
 have HB0 := am b0
 have HB2 := am b2
 have HP := am (And.intro hP (And.intro hQ hPQ))
 have HE3 := am e3
 have hne : w.heap.size ≠ w.heap.size + 1 + 1 := by omega
 have hne2 : w.heap.size + 1 + 1 ≠ w.heap.size := by omega
 clear b0 b1 b2 hP hQ hPQ e3
 have h := HH.out
 clear HH
 unfold spec_l12Do.f at h
 by_cases k1 : a1_0 = 1
 · rw [if_pos k1] at h
   subst k1
   cases a2 with
   | true =>
    rw [if_pos rfl] at h
    simp only [Option.some.injEq, Prod.mk.injEq] at h
    obtain ⟨rfl, rfl⟩ := h
    clear x1 x2 x3 x4 x5 x6 x7 f0
    go_wp2
    refine bodyPost_ret (results_cell_row rfl _ _ (w.heap.size + 1 + 1) 26 #[.slice A1 l0_0.length c1, .slice A2 l0_1.length c2] (0, 0) _ rfl (stPut2 HB2.out _ _) Try.underlying26 rfl (by kernel_rfl)) rfl ?_
    have q := stCell (stCell HM.out (show w.heap.size ≤ w.heap.size + 1 + 1 by omega) hL (fun k_ hk => by have := (HP.out.1 k_ hk).2; omega) (fun k_ hk => by have := (HP.out.2.1 k_ hk).2; omega) 0 (.slice A1 l0_0.length c1)) (show w.heap.size ≤ w.heap.size + 1 + 1 by omega) hL (fun k_ hk => by have := (HP.out.1 k_ hk).2; omega) (fun k_ hk => by have := (HP.out.2.1 k_ hk).2; omega) 1 (.slice A2 l0_1.length c2)
    exact ⟨_, _, rfl, Kd.S_mono q.1 (fun k_ hk => .inl (.inl (HP.out.1 k_ hk).1)), Kd.R_mono (by simpa using q.2.1) (fun k_ hk => .inl (.inr (HP.out.2.1 k_ hk).1)), q.2.2.1, q.2.2.2⟩
   | false =>
    rw [if_neg (by simp)] at h
    obtain ⟨hd0, hd1, h⟩ := doSome h
    simp only [Prod.mk.injEq] at h
    obtain ⟨rfl, rfl⟩ := h
    obtain ⟨gd, cd, hA2, hdb, hdl, cellsd, hcd⟩ := Kd.R_form HM.out.2.1 (by omega)
    have ea := (Value.slice.inj hA2).1
    have ec := (Value.slice.inj hA2).2.2
    subst ea
    subst ec
    have hQd := HM.out.2.1.1 gd rfl
    have hQl := (HP.out.2.1 gd hQd).2
    obtain ⟨ce, hce, hMe, hcce, hfre⟩ := Kd.R_elem HM.out.2.1 0 (wrap64 (a1_1 - 1)) hd0 hd1
    have d0 := hcce 0 _ (by rw [show ce = [.int .i64 (rd l0_1 (wrap64 (a1_1 - 1)))] from hMe]; rfl)
    have df := hfre 0
    rw [show (Kd.int .i64).sz = 1 from rfl, Nat.mul_one, Nat.add_zero] at d0 df
    have hdb' := decide_eq_true hd1
    have hdq : (wrap64 (a1_1 - 1) < (l0_1.length : Int)) = True := eq_true hd1
    have hst := stDisk (HM.out) (wrap64 (a1_1 - 1)) a1_2 (.inl (.inr (HP.out.2.1 gd hQd).1)) hdb (fun k_ hk he => HP.out.2.2 k_ hk (he ▸ hQd))
    have HST := am hst
    have hgz : gd ≠ w.heap.size + 1 + 1 := by omega
    have hgs : gd ≠ w.heap.size := by omega
    have hgz2 : w.heap.size + 1 + 1 ≠ gd := by omega
    have hgs2 : w.heap.size ≠ gd := by omega
    clear hce hMe hcce hfre hA2 hcd hdl hdb hst hQd hQl x3 x4 x5 x6 x7 f0
    go_wp2
    refine bodyPost_ret (results_cell_row rfl _ _ (w.heap.size + 1 + 1) 26 #[.slice A1 l0_0.length c1, .slice (some ⟨gd, 0, none⟩) l0_1.length c2] (0, 0) _ rfl (stPut2 (blk_far HB2.out hgz2 _) _ _) Try.underlying26 rfl (by kernel_rfl)) rfl ?_
    have q := stCell (stCell HST.out (show w.heap.size ≤ w.heap.size + 1 + 1 by omega) hL (fun k_ hk => by have := (HP.out.1 k_ hk).2; omega) (fun k_ hk => by have := (HP.out.2.1 k_ hk).2; omega) 0 (.slice A1 l0_0.length c1)) (show w.heap.size ≤ w.heap.size + 1 + 1 by omega) hL (fun k_ hk => by have := (HP.out.1 k_ hk).2; omega) (fun k_ hk => by have := (HP.out.2.1 k_ hk).2; omega) 1 (.slice (some ⟨gd, 0, none⟩) l0_1.length c2)
    exact ⟨_, _, rfl, Kd.S_mono q.1 (fun k_ hk => .inl (.inl (HP.out.1 k_ hk).1)), Kd.R_mono (by simpa using q.2.1) (fun k_ hk => .inl (.inr (HP.out.2.1 k_ hk).1)), q.2.2.1, q.2.2.2⟩
 rw [if_neg k1] at h
 by_cases k2 : a1_0 = 2
 · rw [if_pos k2] at h
   subst k2
   clear k1
   obtain ⟨⟨rf, rb⟩, h6, h⟩ := Option.bind_eq_some_iff.1 h
   simp only [Option.some.injEq, Prod.mk.injEq] at h
   obtain ⟨rfl, rfl⟩ := h
   have HW := am (show w.heap.size + 1 + 1 < W.heap.size by have := HE3.out; omega)
   clear z0 z1 g0 g1
   go_wp2_with fail
   refine (spec_l2Wipe.calls k P (.slice A1 l0_0.length c1) l0_0 a1_3 a2 rf rb w0 W HM.out.2.2.1 HM.out.1 h6).mono ?_
   rintro e w1 ⟨v, rfl, hS1, hB1, hK1⟩
   obtain ⟨A3, c3, rfl⟩ := Kd.S_slice hS1
   have b0 := blk_kept HB0.out hK1 (fun hq => by have := (HP.out.1 _ hq).2; omega)
   have b2 := blk_kept HB2.out hK1 (fun hq => by have := (HP.out.1 _ hq).2; omega)
   have hM1 := And.intro hS1 (And.intro (Kd.R_kept HM.out.2.1 hK1 (fun k_ hq hp => HP.out.2.2 k_ hp hq)) (And.intro hB1 (Kept.then_ HM.out.2.2.2 hK1 (fun k_ hk => .inl (.inl (HP.out.1 k_ hk).1)))))
   have hq := stCell hM1 (Nat.le_refl w.heap.size) hL (fun k_ hk => by have := HW.out; rcases hk with hk | hk; (have := (HP.out.1 k_ hk).2; omega); omega) (fun k_ hk => by have := (HP.out.2.1 k_ hk).2; omega) 0 (.slice A3 rf.length c3)
   have HQ := am hq
   have HB2' := am (blk_far b2 (p := ⟨w.heap.size, 0, none⟩) hne2 (.slice A3 rf.length c3))
   clear hS1 hB1 hK1 hM1 hq x0 x1 x2 x3 x4 x5 x6 x7 s0 s1 f0 h6
   have s0 := (blk_cell b0 0).trans rfl
   have s1 := (blk_cell b0 1).trans rfl
   have f0 := blk_frozen b0 0
   have z0 := (blk_cell b2 0).trans rfl
   have z1 := (blk_cell b2 1).trans rfl
   have g0 := blk_frozen b2 0
   have g1 := blk_frozen b2 1
   clear b0 b2
   go_wp2
   refine bodyPost_ret (results_cell_row rfl _ _ (w.heap.size + 1 + 1) 26 #[.slice A3 rf.length c3, .slice A2 l0_1.length c2] (0, 0) _ rfl (stPut2 HB2'.out _ _) Try.underlying26 rfl (by kernel_rfl)) rfl ?_
   have fP : ∀ k_, (P k_ ∨ W.heap.size ≤ k_) → k_ ≠ w.heap.size + 1 + 1 := fun k_ hk => by have := HW.out; rcases hk with hk | hk; (have := (HP.out.1 k_ hk).2; omega); omega
   have fQ : ∀ k_, Q k_ → k_ ≠ w.heap.size + 1 + 1 := fun k_ hk => by have := (HP.out.2.1 k_ hk).2; omega
   have q := stCell (stCell HQ.out (show w.heap.size ≤ w.heap.size + 1 + 1 by omega) hL fP fQ 0 (.slice A3 rf.length c3)) (show w.heap.size ≤ w.heap.size + 1 + 1 by omega) hL fP fQ 1 (.slice A2 l0_1.length c2)
   exact ⟨_, _, rfl, Kd.S_mono q.1 (fun k_ hk => hk.elim (fun hk => .inl (.inl (HP.out.1 k_ hk).1)) (fun hk => .inr (by have := HW.out; omega))), Kd.R_mono q.2.1 (fun k_ hk => .inl (.inr (HP.out.2.1 k_ hk).1)), q.2.2.1, q.2.2.2⟩
 rw [if_neg k2] at h
 by_cases k3 : a1_0 = 3
 · rw [if_pos k3] at h
   subst k3
   clear k1 k2
   obtain ⟨⟨rf, rb⟩, h6, h⟩ := Option.bind_eq_some_iff.1 h
   simp only [Option.some.injEq, Prod.mk.injEq] at h
   obtain ⟨rfl, rfl⟩ := h
   have HW := am (show w.heap.size + 1 + 1 < W.heap.size by have := HE3.out; omega)
   clear z0 z1 g0 g1
   go_wp2_with fail
   refine (spec_l2Write.calls k P (.slice A1 l0_0.length c1) l0_0 a1_3 a1_4 a1_5 a1_6 a1_7 a2 rf rb w0 W HM.out.2.2.1 HM.out.1 h6).mono ?_
   rintro e w1 ⟨v, rfl, hS1, hB1, hK1⟩
   obtain ⟨A3, c3, rfl⟩ := Kd.S_slice hS1
   have b0 := blk_kept HB0.out hK1 (fun hq => by have := (HP.out.1 _ hq).2; omega)
   have b2 := blk_kept HB2.out hK1 (fun hq => by have := (HP.out.1 _ hq).2; omega)
   have hM1 := And.intro hS1 (And.intro (Kd.R_kept HM.out.2.1 hK1 (fun k_ hq hp => HP.out.2.2 k_ hp hq)) (And.intro hB1 (Kept.then_ HM.out.2.2.2 hK1 (fun k_ hk => .inl (.inl (HP.out.1 k_ hk).1)))))
   have hq := stCell hM1 (Nat.le_refl w.heap.size) hL (fun k_ hk => by have := HW.out; rcases hk with hk | hk; (have := (HP.out.1 k_ hk).2; omega); omega) (fun k_ hk => by have := (HP.out.2.1 k_ hk).2; omega) 0 (.slice A3 rf.length c3)
   have HQ := am hq
   have HB2' := am (blk_far b2 (p := ⟨w.heap.size, 0, none⟩) hne2 (.slice A3 rf.length c3))
   clear hS1 hB1 hK1 hM1 hq x0 x1 x2 x3 x4 x5 x6 x7 s0 s1 f0 h6
   have s0 := (blk_cell b0 0).trans rfl
   have s1 := (blk_cell b0 1).trans rfl
   have f0 := blk_frozen b0 0
   have z0 := (blk_cell b2 0).trans rfl
   have z1 := (blk_cell b2 1).trans rfl
   have g0 := blk_frozen b2 0
   have g1 := blk_frozen b2 1
   clear b0 b2
   go_wp2
   refine bodyPost_ret (results_cell_row rfl _ _ (w.heap.size + 1 + 1) 26 #[.slice A3 rf.length c3, .slice A2 l0_1.length c2] (0, 0) _ rfl (stPut2 HB2'.out _ _) Try.underlying26 rfl (by kernel_rfl)) rfl ?_
   have fP : ∀ k_, (P k_ ∨ W.heap.size ≤ k_) → k_ ≠ w.heap.size + 1 + 1 := fun k_ hk => by have := HW.out; rcases hk with hk | hk; (have := (HP.out.1 k_ hk).2; omega); omega
   have fQ : ∀ k_, Q k_ → k_ ≠ w.heap.size + 1 + 1 := fun k_ hk => by have := (HP.out.2.1 k_ hk).2; omega
   have q := stCell (stCell HQ.out (show w.heap.size ≤ w.heap.size + 1 + 1 by omega) hL fP fQ 0 (.slice A3 rf.length c3)) (show w.heap.size ≤ w.heap.size + 1 + 1 by omega) hL fP fQ 1 (.slice A2 l0_1.length c2)
   exact ⟨_, _, rfl, Kd.S_mono q.1 (fun k_ hk => hk.elim (fun hk => .inl (.inl (HP.out.1 k_ hk).1)) (fun hk => .inr (by have := HW.out; omega))), Kd.R_mono q.2.1 (fun k_ hk => .inl (.inr (HP.out.2.1 k_ hk).1)), q.2.2.1, q.2.2.2⟩
 rw [if_neg k3] at h
 simp only [Option.some.injEq, Prod.mk.injEq] at h
 obtain ⟨rfl, rfl⟩ := h
 have e1 : (a1_0 == 1) = false := beq_eq_false_iff_ne.mpr k1
 have e2 : (a1_0 == 2) = false := beq_eq_false_iff_ne.mpr k2
 have e3 : (a1_0 == 3) = false := beq_eq_false_iff_ne.mpr k3
 clear k1 k2 k3 x1 x2 x3 x4 x5 x6 x7 f0
 go_wp2
 refine bodyPost_ret (results_cell_row rfl _ _ (w.heap.size + 1 + 1) 26 #[.slice A1 l0_0.length c1, .slice A2 l0_1.length c2] (0, 0) _ rfl (stPut2 HB2.out _ _) Try.underlying26 rfl (by kernel_rfl)) rfl ?_
 have q := stCell (stCell HM.out (show w.heap.size ≤ w.heap.size + 1 + 1 by omega) hL (fun k_ hk => by have := (HP.out.1 k_ hk).2; omega) (fun k_ hk => by have := (HP.out.2.1 k_ hk).2; omega) 0 (.slice A1 l0_0.length c1)) (show w.heap.size ≤ w.heap.size + 1 + 1 by omega) hL (fun k_ hk => by have := (HP.out.1 k_ hk).2; omega) (fun k_ hk => by have := (HP.out.2.1 k_ hk).2; omega) 1 (.slice A2 l0_1.length c2)
 exact ⟨_, _, rfl, Kd.S_mono q.1 (fun k_ hk => .inl (.inl (HP.out.1 k_ hk).1)), Kd.R_mono (by simpa using q.2.1) (fun k_ hk => .inl (.inr (HP.out.2.1 k_ hk).1)), q.2.2.1, q.2.2.2⟩
mutual
def spec_l12To.j1 : Nat → List (S38) → Int → Bool → List (S73) → List Int → Option ((List (S73)) × List Int)
 | 0, _, _, _, _, _ => none
 | k + 1, x1, x2, x3, x237000, x237001 => if x3 = true then ((spec_l6In.f x2 0 (wrap64 ((x1.length : Int) - 1))).bind fun t245 => (if t245 = true then (if 0 ≤ x2 then (if x2 < (x1.length : Int) then ((spec_l12Do.f k x237000 x237001 ((rd_T38 x1 x2).f0) ((rd_T38 x1 x2).f1) ((rd_T38 x1 x2).f2) ((rd_T38 x1 x2).f3) ((rd_T38 x1 x2).f4.f0) ((rd_T38 x1 x2).f4.f1) ((rd_T38 x1 x2).f4.f2) ((rd_T38 x1 x2).f4.f3) true).bind fun bt247 => (some (bt247.1, bt247.2))) else (none)) else (none)) else (some (x237000, x237001)))) else (some (x237000, x237001))
def spec_l12To.l0 : Nat → List (S38) → Int → Bool → Int → List (S73) → List Int → Option ((List (S73)) × List Int)
 | 0, _, _, _, _, _, _ => none
 | k + 1, x1, x2, x3, x9, x237000, x237001 => if x9 < (x1.length : Int) then (if x9 < x2 then (if 0 ≤ x9 then ((spec_l12Do.f k x237000 x237001 ((rd_T38 x1 x9).f0) ((rd_T38 x1 x9).f1) ((rd_T38 x1 x9).f2) ((rd_T38 x1 x9).f3) ((rd_T38 x1 x9).f4.f0) ((rd_T38 x1 x9).f4.f1) ((rd_T38 x1 x9).f4.f2) ((rd_T38 x1 x9).f4.f3) false).bind fun bt239 => (spec_l12To.l0 k x1 x2 x3 (wrap64 (x9 + 1)) bt239.1 bt239.2)) else (none)) else (spec_l12To.j1 k x1 x2 x3 x237000 x237001)) else (spec_l12To.j1 k x1 x2 x3 x237000 x237001)
end
def spec_l12To.f (k : Nat) (l0_0 : List (S73)) (l0_1 : List Int) (l1 : List (S38)) (a2 : Int) (a3 : Bool) : Option ((List (S73)) × List Int) := spec_l12To.l0 k l1 a2 a3 0 l0_0 l0_1
theorem spec_l12To.calls (k : Nat) (P0_0_ : Nat → Prop) (u9000_ : Value) (l0_0 : List (S73)) (P0_1_ : Nat → Prop) (u9001_ : Value) (l0_1 : List Int) (A1 : Option Addr) (c1 : Nat) (l1 : List (S38)) (a2 : Int) (a3 : Bool) (r1 : List (S73)) (r2 : List Int) (w0 w : World) (hB : Below w0.heap.size w0 w) (ho0_0 : Kd.S k73 73 w w0.heap.size P0_0_ u9000_ l0_0) (ho0_1 : Kd.R (Kd.int .i64) 3 w w0.heap.size P0_1_ u9001_ l0_1) (hr1 : ∀ W_, Kept w W_ (fun k_ => P0_0_ k_ ∨ P0_1_ k_) → Kd.C k38 W_ A1 l1.length l1) (hc1 : l1.length ≤ c1) (h : spec_l12To.f k l0_0 l0_1 l1 a2 a3 = some (r1, r2)) :
 Calls Try.prog 48 #[.agg #[u9000_, u9001_], .slice A1 l1.length c1, .int .i64 a2, .bool a3] w fun e w' => ∃ v0_ v1_ : Value, e = .returned (.agg #[v0_, v1_]) ∧ Kd.S k73 73 w' w0.heap.size (fun k_ => ((P0_0_ k_ ∨ P0_1_ k_) ∨ w.heap.size ≤ k_)) v0_ r1 ∧ Kd.R (Kd.int .i64) 3 w' w0.heap.size (fun k_ => ((P0_0_ k_ ∨ P0_1_ k_) ∨ w.heap.size ≤ k_)) v1_ r2 ∧ Below w0.heap.size w0 w' ∧ Kept w w' (fun k_ => P0_0_ k_ ∨ P0_1_ k_) := by
 have hu26 := Try.underlying26
 have hu38 := Try.underlying38
 have HO0_0 := am (show Kd.S k73 73 w w0.heap.size (fun k_ => ((P0_0_ k_ ∨ P0_1_ k_) ∨ w.heap.size ≤ k_)) u9000_ l0_0 from Kd.S_mono ho0_0 (fun k_ hk => (.inl (.inl hk))))
 have HO0_1 := am (show Kd.R (Kd.int .i64) 3 w w0.heap.size (fun k_ => ((P0_0_ k_ ∨ P0_1_ k_) ∨ w.heap.size ≤ k_)) u9001_ l0_1 from Kd.R_mono ho0_1 (fun k_ hk => (.inl (.inr hk))))
 have HR1 := am hr1
 have HC1 := am hc1
 clear hr1 hc1
 have HK := am (Kept.refl w (fun k_ => P0_0_ k_ ∨ P0_1_ k_))
 have HW0 := am hB.size
 have HB := am hB
 clear hB
 have H : (spec_l12To.l0 k l1 a2 a3 0 l0_0 l0_1) = some (r1, r2) := h
 clear h
 have HC5 := am H
 clear H
 obtain ⟨Ao6, co6, eo6⟩ := Kd.S_slice HO0_0.out
 subst eo6
 obtain ⟨Ao7, co7, eo7⟩ := Kd.R_slice HO0_1.out
 subst eo7
 go_enter Try.func48, Try.ntmps48
 go_upto_block 0 with (first | ((with_reducible refine gate_dst (N := 4) rfl ?_); (try (refine gate_guard (by rfl) ?_; dsimp only)); refine box_event ?hg (N := 4) ?hd (cs := #[.slice Ao6 l0_0.length co6, .slice Ao7 l0_1.length co7]) (t := 26) ?hr ?_; (case hd => rfl); (case hg => rfl); (case hr => first | (go_simp; done) | (go_simp; rfl)); intro gb236 hg w8 hbox hb; replace HO0_0 := am (Kd.S_below (ps HO0_0.out) hb); replace HO0_1 := am (Kd.R_below (pr HO0_1.out) hb); have BK236 := am (hbox); have GW236 := am (gw hg (pk HK.out)); replace HK := am (Kept.below (pk HK.out) hb); have GE236 := am (ge hg (ph HB.out)); replace HB := am (below_step (ph HB.out) hb); clear hb hbox hg) | ((with_reducible refine gate_dst (N := 8) rfl ?_); (try (refine gate_guard (by rfl) ?_; dsimp only)); refine box_event ?hg (N := 8) ?hd (cs := #[.slice none 0 0, .slice none 0 0]) (t := 26) ?hr ?_; (case hd => rfl); (case hg => rfl); (case hr => first | (go_simp; done) | (go_simp; rfl)); intro gb237 hg w9 hbox hb; replace HO0_0 := am (Kd.S_below (ps HO0_0.out) hb); replace HO0_1 := am (Kd.R_below (pr HO0_1.out) hb); have BK237 := am (hbox); have GW237 := am (gw hg (kg1 HK.out (.inr GW236.out))); replace HK := am (Kept.below (kg1 HK.out (.inr GW236.out)) hb); have GE237 := am (ge hg (bg1 HB.out GE236.out)); replace HB := am (below_step (bg1 HB.out GE236.out) hb); have NB236_237 := am (nb hg (pb BK236.out)); have NB237_236 := am (Ne.symm NB236_237.out); replace BK236 := am (blk_below (pb BK236.out) hb); clear hb hbox hg))
 (try simp only [Act.put, List.setIfInBounds_toArray, List.set_cons_zero, List.set_cons_succ])
 go_cut [] (fun wc => ∃ (kq : Nat) (x237000_4 : List (S73)) (x237001_4 : List Int) (u237000 : Value) (u237001 : Value), Aside0 (spec_l12To.j1 kq l1 a2 a3 x237000_4 x237001_4 = some (r1, r2)) ∧ Aside0 (kq ≤ k) ∧ Aside0 (Kd.S k73 73 wc w0.heap.size (fun k_ => ((P0_0_ k_ ∨ P0_1_ k_) ∨ w.heap.size ≤ k_)) u237000 x237000_4) ∧ Aside0 (Kd.R (Kd.int .i64) 3 wc w0.heap.size (fun k_ => ((P0_0_ k_ ∨ P0_1_ k_) ∨ w.heap.size ≤ k_)) u237001 x237001_4) ∧ Aside0 (wc.heap[gb236]? = some (.cells #[u237000, u237001] 26 (0, 0))) ∧ Aside0 (wc.heap[gb237]? = some (.cells #[(.slice none 0 0), (.slice none 0 0)] 26 (0, 0))) ∧ Aside0 (Kept w wc (fun k_ => P0_0_ k_ ∨ P0_1_ k_)) ∧ Aside0 (Below w0.heap.size w0 wc))
 case first =>
  have H := HC5.out
  clear HC5
  have H' := am H
  clear H
  go_wp2
  go_loopg [9] k (fun kq v9 w' => ∃ (x9_1 : Int) (x237000_1 : List (S73)) (x237001_1 : List Int) (u237000 : Value) (u237001 : Value), v9 = .int .i64 x9_1 ∧ Aside0 (spec_l12To.l0 kq l1 a2 a3 x9_1 x237000_1 x237001_1 = some (r1, r2)) ∧ Aside0 (kq ≤ k) ∧ Aside0 (Kd.S k73 73 w' w0.heap.size (fun k_ => ((P0_0_ k_ ∨ P0_1_ k_) ∨ w.heap.size ≤ k_)) u237000 x237000_1) ∧ Aside0 (Kd.R (Kd.int .i64) 3 w' w0.heap.size (fun k_ => ((P0_0_ k_ ∨ P0_1_ k_) ∨ w.heap.size ≤ k_)) u237001 x237001_1) ∧ Aside0 (w'.heap[gb236]? = some (.cells #[u237000, u237001] 26 (0, 0))) ∧ Aside0 (w'.heap[gb237]? = some (.cells #[(.slice none 0 0), (.slice none 0 0)] 26 (0, 0))) ∧ Aside0 (Kept w w' (fun k_ => P0_0_ k_ ∨ P0_1_ k_)) ∧ Aside0 (Below w0.heap.size w0 w'))
  case atStart => exact ⟨(0), (l0_0), (l0_1), (.slice Ao6 l0_0.length co6), (.slice Ao7 l0_1.length co7), rf, H', ⟨Nat.le_refl _⟩, ⟨ps HO0_0.out⟩, ⟨pr HO0_1.out⟩, ⟨pb BK236.out⟩, ⟨pb BK237.out⟩, ⟨kg2 HK.out (.inr GW236.out) (.inr GW237.out)⟩, ⟨bg2 HB.out GE236.out GE237.out⟩⟩
  case round =>
   clear H'
   obtain ⟨x9_1, x237000_1, x237001_1, u237000, u237001, rfl, HA, HK1, HO_237000, HO_237001, BK236, BK237, HK, HB⟩ := hrel
   cases gk with
   | zero => exact absurd HA.out (by simp [spec_l12To.l0])
   | succ k1 =>
    have H := HA.out
    clear HA
    simp only [spec_l12To.l0] at H
    by_cases c10 : x9_1 < (l1.length : Int)
    rotate_left
    · rw [if_neg c10] at H
      have c10b0 := decide_eq_false c10
      clear c10
      (first | rw [c10b0] | (simp only [i64_w, i32_w]; rw [c10b0]) | skip)
      have H' := am H
      clear H
      go_wp2
      go_meet
      case rel => exact ⟨_, (x237000_1), (x237001_1), (u237000), (u237001), H', ⟨by have := HK1.out; first | omega | exact Nat.le_refl _⟩, ⟨ps HO_237000.out⟩, ⟨pr HO_237001.out⟩, ⟨pb BK236.out⟩, ⟨pb BK237.out⟩, ⟨kg2 HK.out (.inr GW236.out) (.inr GW237.out)⟩, ⟨bg2 HB.out GE236.out GE237.out⟩⟩
    rw [if_pos c10] at H
    have c10b0 := decide_eq_true c10
    clear c10
    (first | rw [c10b0] | (simp only [i64_w, i32_w]; rw [c10b0]) | skip)
    by_cases c11 : x9_1 < a2
    rotate_left
    · rw [if_neg c11] at H
      have c11b0 := decide_eq_false c11
      clear c11
      have H' := am H
      clear H
      go_wp2
      go_meet
      case rel => exact ⟨_, (x237000_1), (x237001_1), (u237000), (u237001), H', ⟨by have := HK1.out; first | omega | exact Nat.le_refl _⟩, ⟨ps HO_237000.out⟩, ⟨pr HO_237001.out⟩, ⟨pb BK236.out⟩, ⟨pb BK237.out⟩, ⟨kg2 HK.out (.inr GW236.out) (.inr GW237.out)⟩, ⟨bg2 HB.out GE236.out GE237.out⟩⟩
    rw [if_pos c11] at H
    have c11b0 := decide_eq_true c11
    clear c11
    obtain ⟨c12b0, H⟩ := ifd H
    replace H := Option.bind_eq_some_iff.mp H
    obtain ⟨⟨t239, t242⟩, A130, H⟩ := H
    have A13 := am A130
    clear A130
    have H' := am H
    clear H
    try go_wp2
    replace HO_237000 := am (Kd.S_drew HO_237000.out)
    replace HO_237001 := am (Kd.R_drew HO_237001.out)
    replace BK236 := am (blk_drew BK236.out)
    replace BK237 := am (blk_drew BK237.out)
    replace HK := am (Kept.drew HK.out)
    replace HB := am (below_drew1 HB.out)
    have p238 : 0 ≤ (x9_1 : Int) := ofb
    have q238 : x9_1 < (l1.length : Int) := ofb
    obtain ⟨ad238, e238, hx238_0, hx238_1, hx238_2, hx238_3, hx238_4, hx238_5, hx238_6, hx238_7⟩ := at_T38 (Kd.C_kept_now HR1.out HK.out) x9_1 p238 q238
    have hw238_7 := hx238_7
    have hw238_6 := hx238_6
    have hw238_5 := hx238_5
    have hw238_4 := hx238_4
    have hw238_3 := hx238_3
    have hw238_2 := hx238_2
    have hw238_1 := hx238_1
    have hw238_0 := hx238_0
    cases e238
    replace p238 := eq_true p238
    replace q238 := eq_true q238
    obtain ⟨Ao15, co15, eo15⟩ := Kd.S_slice HO_237000.out
    (first | subst eo15 | (injection eo15 with f1_ f2_ f3_; have f4_ := f1_.symm; have f5_ := f3_.symm; clear f1_ f2_ f3_; subst f4_; subst f5_))
    obtain ⟨Ao16, co16, eo16⟩ := Kd.R_slice HO_237001.out
    (first | subst eo16 | (injection eo16 with f1_ f2_ f3_; have f4_ := f1_.symm; have f5_ := f3_.symm; clear f1_ f2_ f3_; subst f4_; subst f5_))
    obtain ⟨PXh17, hxa_, hxb_⟩ := Kd.S_hand HO_237000.out
    have HXAh17 := am hxa_
    have HXBh17 := am hxb_
    clear hxa_ hxb_
    refine start_ (n := 7) (S := fun w' => w'.cell? ⟨gb236, 0, none⟩ = some (.slice Ao15 x237000_1.length co15) ∧ w'.cell? ⟨gb236, 1, none⟩ = some (.slice Ao16 x237001_1.length co16) ∧ w'.cell? (ad238.add ((x9_1).toNat * 8)) = some (.int .i64 ((rd_T38 l1 x9_1).f0)) ∧ w'.cell? ⟨(ad238.add ((x9_1).toNat * 8)).block, (ad238.add ((x9_1).toNat * 8)).off + 1, none⟩ = some (.int .i64 ((rd_T38 l1 x9_1).f1)) ∧ w'.cell? ⟨(ad238.add ((x9_1).toNat * 8)).block, (ad238.add ((x9_1).toNat * 8)).off + 2, none⟩ = some (.int .i64 ((rd_T38 l1 x9_1).f2)) ∧ w'.cell? ⟨(ad238.add ((x9_1).toNat * 8)).block, (ad238.add ((x9_1).toNat * 8)).off + 3, none⟩ = some (.int .i64 ((rd_T38 l1 x9_1).f3)) ∧ w'.cell? ⟨(ad238.add ((x9_1).toNat * 8)).block, (ad238.add ((x9_1).toNat * 8)).off + 4, none⟩ = some (.int .i64 ((rd_T38 l1 x9_1).f4.f0)) ∧ w'.cell? ⟨(ad238.add ((x9_1).toNat * 8)).block, (ad238.add ((x9_1).toNat * 8)).off + 5, none⟩ = some (.int .i64 ((rd_T38 l1 x9_1).f4.f1)) ∧ w'.cell? ⟨(ad238.add ((x9_1).toNat * 8)).block, (ad238.add ((x9_1).toNat * 8)).off + 6, none⟩ = some (.int .i64 ((rd_T38 l1 x9_1).f4.f2)) ∧ w'.cell? ⟨(ad238.add ((x9_1).toNat * 8)).block, (ad238.add ((x9_1).toNat * 8)).off + 7, none⟩ = some (.int .i64 ((rd_T38 l1 x9_1).f4.f3))) (ds := [5, 6]) (bt 7 0) (by kernel_rfl) rfl rfl ⟨(blk_cell BK236.out 0).trans rfl, (blk_cell BK236.out 1).trans rfl, hx238_0, hx238_1, hx238_2, hx238_3, hx238_4, hx238_5, hx238_6, hx238_7⟩ (fun hHeld => ?_)
    generalize wr.drew = w14 at HO_237000 HO_237001 BK236 BK237 HK HB HXAh17 HXBh17 hx238_0 hx238_1 hx238_2 hx238_3 hx238_4 hx238_5 hx238_6 hx238_7 hHeld ⊢
    refine pi_ 1 22 (bt 7 2) rfl rfl (fun _ _ _ h => h) ?_
    refine pi_ 2 23 (bt 7 6) rfl rfl (fun _ _ _ h => h) ?_
    refine pi_ 3 24 (bt 7 14) rfl rfl (fun _ _ _ h => h) ?_
    refine pm_ 0 21 (bt 7 15) rfl rfl (by kernel_rfl) (fun _ _ _ h => h) hHeld ?_
    refine pm_ 4 25 (bt 7 31) rfl rfl (by kernel_rfl) (fun _ _ _ h => h) hHeld ?_
    refine last_ (i := 5) (N := some 26) (bt 7 63) rfl rfl (by kernel_rfl) (by decide) (fun K hK => ?_)
    refine qg Try.func65 #[.agg #[.slice Ao15 x237000_1.length co15, .slice Ao16 x237001_1.length co16], .agg #[.int .i64 ((rd_T38 l1 x9_1).f0), .int .i64 ((rd_T38 l1 x9_1).f1), .int .i64 ((rd_T38 l1 x9_1).f2), .int .i64 ((rd_T38 l1 x9_1).f3), .int .i64 ((rd_T38 l1 x9_1).f4.f0), .int .i64 ((rd_T38 l1 x9_1).f4.f1), .int .i64 ((rd_T38 l1 x9_1).f4.f2), .int .i64 ((rd_T38 l1 x9_1).f4.f3)], .bool false] rfl rfl ?_
    with_reducible refine (spec_l12Do.calls k1 PXh17 (.slice Ao15 x237000_1.length co15) x237000_1 (fun k_ => some k_ = (.slice Ao16 x237001_1.length co16 : Value).ownBlock) (.slice Ao16 x237001_1.length co16) x237001_1 ((rd_T38 l1 x9_1).f0) ((rd_T38 l1 x9_1).f1) ((rd_T38 l1 x9_1).f2) ((rd_T38 l1 x9_1).f3) ((rd_T38 l1 x9_1).f4.f0) ((rd_T38 l1 x9_1).f4.f1) ((rd_T38 l1 x9_1).f4.f2) ((rd_T38 l1 x9_1).f4.f3) false t239 t242 w0 _ ?side1 ?side2 ?side3 A13.out).mono ?_
    (case side1 => exact bg2 HB.out GE236.out GE237.out)
    (case side2 => exact (ps HXAh17.out))
    (case side3 => exact Kd.R_tight rfl HO_237001.out)
    rintro e w18 ⟨v240, v243, rfl, ho0, ho1, hb, hkp⟩
    refine ⟨_, rfl, ?_⟩
    replace BK236 := am (blk_kept (pb BK236.out) hkp (fun hs_ => Or.elim hs_ (fun e_ => (fun e_ => Kd.blk_awayP (fun k_ h_ => (HXBh17.out k_ h_).2.2.2) BK236.out (by decide) e_) e_) (fun e_ => (fun e_ => (Kd.R_ne HO_237001.out BK236.out (by decide)) e_) e_)))
    replace BK237 := am (blk_kept (pb BK237.out) hkp (fun hs_ => Or.elim hs_ (fun e_ => (fun e_ => Kd.blk_awayP (fun k_ h_ => (HXBh17.out k_ h_).2.2.2) BK237.out (by decide) e_) e_) (fun e_ => (fun e_ => (Kd.R_ne HO_237001.out BK237.out (by decide)) e_) e_)))
    have HO241 := am (Kd.S_mono (ok' := fun k_ => ((P0_0_ k_ ∨ P0_1_ k_) ∨ w.heap.size ≤ k_)) ho0 (fun k_ hk_ => Or.elim hk_ (fun hs_ => Or.elim hs_ (fun hs_ => (HXBh17.out k_ hs_).1) (fun hs_ => (HO_237001.out.1 k_ (hs_).symm))) (fun hn_ => (.inr (Nat.le_trans (kg2 HK.out (.inr GW236.out) (.inr GW237.out)).1 hn_)))))
    have HO244 := am (Kd.R_mono (ok' := fun k_ => ((P0_0_ k_ ∨ P0_1_ k_) ∨ w.heap.size ≤ k_)) ho1 (fun k_ hk_ => Or.elim hk_ (fun hs_ => Or.elim hs_ (fun hs_ => (HXBh17.out k_ hs_).1) (fun hs_ => (HO_237001.out.1 k_ (hs_).symm))) (fun hn_ => (.inr (Nat.le_trans (kg2 HK.out (.inr GW236.out) (.inr GW237.out)).1 hn_)))))
    replace HK := am (Kept.then_ (S := (fun k_ => P0_0_ k_ ∨ P0_1_ k_)) (kg2 HK.out (.inr GW236.out) (.inr GW237.out)) hkp (fun k_ hs_ => Or.elim hs_ (fun e_ => (fun e_ => (HXBh17.out k_ e_).1) e_) (fun e_ => (fun e_ => (HO_237001.out.1 k_ e_.symm)) e_)))
    replace HB := am (hb)
    clear HO_237000 HO_237001
    clear hb hkp ho0 ho1
    obtain ⟨Ao19, co19, eo19⟩ := Kd.S_slice HO241.out
    (first | subst eo19 | (injection eo19 with f1_ f2_ f3_; have f4_ := f1_.symm; have f5_ := f3_.symm; clear f1_ f2_ f3_; subst f4_; subst f5_))
    obtain ⟨Ao21, co21, eo21⟩ := Kd.R_slice HO244.out
    (first | subst eo21 | (injection eo21 with f1_ f2_ f3_; have f4_ := f1_.symm; have f5_ := f3_.symm; clear f1_ f2_ f3_; subst f4_; subst f5_))
    refine hK.out _ _ ?_
    clear hK K
    refine qn (some 26) ?_
    refine last_ (i := 6) (N := none) (bt 7 127) rfl rfl (by kernel_rfl) (by decide) (fun K hK => ?_)
    have hs20 : w18.cell? ⟨gb236, 0, none⟩ = some (.slice Ao15 x237000_1.length co15) := (blk_cell BK236.out 0).trans rfl
    have hfs20 := blk_frozen BK236.out 0
    have hns20_1 := NB237_236.out
    have hms20_1 := NB236_237.out
    have hs22 : w18.cell? ⟨gb236, 1, none⟩ = some (.slice Ao16 x237001_1.length co16) := (blk_cell BK236.out 1).trans rfl
    have hfs22 := blk_frozen BK236.out 1
    have hns22_1 := NB237_236.out
    have hms22_1 := NB236_237.out
    refine qs rfl ?_
    refine hK.out _ _ ?_
    clear hK K
    refine done_ (by kernel_rfl) ?_
    try go_wp2
    go_roundg k1
    case measure => have := HK1.out; omega
    case rel => exact ⟨(wrap64 (x9_1 + 1)), (t239), (t242), (.slice Ao19 t239.length co19), (.slice Ao21 t242.length co21), rf, H', ⟨by have := HK1.out; omega⟩, ⟨ps (Kd.S_mono (Kd.S_far (p := ⟨gb236, 1, none⟩) (Kd.S_far (p := ⟨gb236, 0, none⟩) (Kd.S_types HO241.out BK236.out (by decide)) (fun _ hk => hk.2) (.slice Ao19 t239.length co19)) (fun _ hk => hk.2) (.slice Ao21 t242.length co21)) (fun _ hk => hk.1))⟩, ⟨pr (Kd.R_mono (Kd.R_far (p := ⟨gb236, 1, none⟩) (Kd.R_far (p := ⟨gb236, 0, none⟩) (Kd.R_types HO244.out BK236.out (by decide)) (fun _ hk => hk.2) (.slice Ao19 t239.length co19)) (fun _ hk => hk.2) (.slice Ao21 t242.length co21)) (fun _ hk => hk.1))⟩, ⟨bp2 (pb BK236.out)⟩, ⟨bf2 (pb BK237.out) NB237_236.out⟩, ⟨kg2 HK.out (.inr GW236.out) (.inr GW237.out)⟩, ⟨bg2 HB.out GE236.out GE237.out⟩⟩
 case rest =>
  clear HC5
  obtain ⟨kq, x237000_4, x237001_4, u237000, u237001, HA, HJ4, HO_237000, HO_237001, BK236, BK237, HK, HB⟩ := hcut
  cases kq with
  | zero => exact absurd HA.out (by simp [spec_l12To.j1])
  | succ kj4 =>
   have H := HA.out
   clear HA
   simp only [spec_l12To.j1] at H
   by_cases c23 : a3 = true
   rotate_left
   · replace c23 := Bool.eq_false_iff.mpr c23
     subst c23
     rw [if_neg (show ¬ (false = true) by decide)] at H
     simp only [Option.some.injEq, Prod.mk.injEq] at H
     obtain ⟨rfl, rfl⟩ := H
     have hnb46 := NB236_237.out
     have hnc46 := NB237_236.out
     obtain ⟨hcz47_0, hcz47_1⟩ := b2 BK236.out
     obtain ⟨hfz47_0, hfz47_1⟩ := f2 BK236.out
     obtain ⟨Ao48, co48, eo48⟩ := Kd.S_slice HO_237000.out
     subst eo48
     obtain ⟨hcz49_0, hcz49_1⟩ := b2 BK237.out
     obtain ⟨hfz49_0, hfz49_1⟩ := f2 BK237.out
     obtain ⟨Ao50, co50, eo50⟩ := Kd.R_slice HO_237001.out
     subst eo50
     go_wp2
     refine bodyPost_ret (results_cell_row rfl _ _ gb237 26 #[.slice Ao48 x237000_4.length co48, .slice Ao50 x237001_4.length co50] (0, 0) _ rfl (bp2 (pb BK237.out)) Try.underlying26 rfl (by kernel_rfl)) rfl ?_
     exact ⟨_, _, rq ⟨ps (Kd.S_mono (Kd.S_far (p := ⟨gb237, 1, none⟩) (Kd.S_far (p := ⟨gb237, 0, none⟩) (Kd.S_types HO_237000.out BK237.out (by decide)) (fun _ hk => hk.2) (.slice Ao48 x237000_4.length co48)) (fun _ hk => hk.2) (.slice Ao50 x237001_4.length co50)) (fun _ hk => hk.1)), pr (Kd.R_mono (Kd.R_far (p := ⟨gb237, 1, none⟩) (Kd.R_far (p := ⟨gb237, 0, none⟩) (Kd.R_types HO_237001.out BK237.out (by decide)) (fun _ hk => hk.2) (.slice Ao48 x237000_4.length co48)) (fun _ hk => hk.2) (.slice Ao50 x237001_4.length co50)) (fun _ hk => hk.1)), bg2 HB.out GE236.out GE237.out, kg2 HK.out (.inr GW236.out) (.inr GW237.out)⟩⟩
   subst c23
   rw [if_pos rfl] at H
   replace H := Option.bind_eq_some_iff.mp H
   obtain ⟨t245, A240, H⟩ := H
   have A24 := am A240
   clear A240
   by_cases c25 : t245 = true
   rotate_left
   · replace c25 := Bool.eq_false_iff.mpr c25
     subst c25
     rw [if_neg (show ¬ (false = true) by decide)] at H
     simp only [Option.some.injEq, Prod.mk.injEq] at H
     obtain ⟨rfl, rfl⟩ := H
     go_wp2_with (first | (go_at_call 23; (with_reducible refine (spec_l6In.calls a2 0 (wrap64 ((l1.length : Int) - 1)) false _ A24.out).mono ?_); rintro e w' ⟨rfl, ⟨nd, rfl⟩⟩; (try (rw [drewN_self wc]; generalize hq_ : World.drewN wc _ = wc; have n0_ : Aside0 (Kd.S k73 73 wc w0.heap.size (fun k_ => (((P0_0_ k_ ∨ P0_1_ k_) ∨ w.heap.size ≤ k_))) u237000 x237000_4) := ⟨by rw [← hq_]; exact (ps HO_237000.out)⟩; have n1_ : Aside0 (Kd.R (Kd.int .i64) 3 wc w0.heap.size (fun k_ => (((P0_0_ k_ ∨ P0_1_ k_) ∨ w.heap.size ≤ k_))) u237001 x237001_4) := ⟨by rw [← hq_]; exact (pr HO_237001.out)⟩; have n2_ : Aside0 (wc.heap[gb236]? = some (.cells #[u237000, u237001] 26 (0, 0))) := ⟨by rw [← hq_]; exact (pb BK236.out)⟩; have n3_ : Aside0 (wc.heap[gb237]? = some (.cells #[.slice none 0 0, .slice none 0 0] 26 (0, 0))) := ⟨by rw [← hq_]; exact (pb BK237.out)⟩; have n4_ : Aside0 (Kept w wc (fun k_ => P0_0_ k_ ∨ P0_1_ k_)) := ⟨by rw [← hq_]; exact (kg2 HK.out (.inr GW236.out) (.inr GW237.out))⟩; have n5_ : Aside0 (Below w0.heap.size w0 wc) := ⟨by rw [← hq_]; exact (bg2 HB.out GE236.out GE237.out)⟩; clear HO_237000 HO_237001 BK236 BK237 HK HB hq_; have HO_237000 := n0_; have HO_237001 := n1_; have BK236 := n2_; have BK237 := n3_; have HK := n4_; have HB := n5_; clear n0_ n1_ n2_ n3_ n4_ n5_)); have hnb41 := NB236_237.out; have hnc41 := NB237_236.out; obtain ⟨hcz42_0, hcz42_1⟩ := b2 BK236.out; obtain ⟨hfz42_0, hfz42_1⟩ := f2 BK236.out; obtain ⟨Ao43, co43, eo43⟩ := Kd.S_slice HO_237000.out; subst eo43; obtain ⟨hcz44_0, hcz44_1⟩ := b2 BK237.out; obtain ⟨hfz44_0, hfz44_1⟩ := f2 BK237.out; obtain ⟨Ao45, co45, eo45⟩ := Kd.R_slice HO_237001.out; subst eo45))
     refine bodyPost_ret (results_cell_row rfl _ _ gb237 26 #[.slice Ao43 x237000_4.length co43, .slice Ao45 x237001_4.length co45] (0, 0) _ rfl (bp2 (pb BK237.out)) Try.underlying26 rfl (by kernel_rfl)) rfl ?_
     exact ⟨_, _, rq ⟨ps (Kd.S_mono (Kd.S_far (p := ⟨gb237, 1, none⟩) (Kd.S_far (p := ⟨gb237, 0, none⟩) (Kd.S_types HO_237000.out BK237.out (by decide)) (fun _ hk => hk.2) (.slice Ao43 x237000_4.length co43)) (fun _ hk => hk.2) (.slice Ao45 x237001_4.length co45)) (fun _ hk => hk.1)), pr (Kd.R_mono (Kd.R_far (p := ⟨gb237, 1, none⟩) (Kd.R_far (p := ⟨gb237, 0, none⟩) (Kd.R_types HO_237001.out BK237.out (by decide)) (fun _ hk => hk.2) (.slice Ao43 x237000_4.length co43)) (fun _ hk => hk.2) (.slice Ao45 x237001_4.length co45)) (fun _ hk => hk.1)), bg2 HB.out GE236.out GE237.out, kg2 HK.out (.inr GW236.out) (.inr GW237.out)⟩⟩
   subst c25
   rw [if_pos rfl] at H
   obtain ⟨c26b0, H⟩ := ifd H
   obtain ⟨c27b0, H⟩ := ifd H
   replace H := Option.bind_eq_some_iff.mp H
   obtain ⟨⟨t247, t250⟩, A280, H⟩ := H
   have A28 := am A280
   clear A280
   simp only [Option.some.injEq, Prod.mk.injEq] at H
   obtain ⟨rfl, rfl⟩ := H
   try go_wp2_with (first | (go_at_call 23; (with_reducible refine (spec_l6In.calls a2 0 (wrap64 ((l1.length : Int) - 1)) true _ A24.out).mono ?_); rintro e w' ⟨rfl, ⟨nd, rfl⟩⟩; (try (rw [drewN_self wc]; generalize hq_ : World.drewN wc _ = wc; have n0_ : Aside0 (Kd.S k73 73 wc w0.heap.size (fun k_ => (((P0_0_ k_ ∨ P0_1_ k_) ∨ w.heap.size ≤ k_))) u237000 x237000_4) := ⟨by rw [← hq_]; exact (ps HO_237000.out)⟩; have n1_ : Aside0 (Kd.R (Kd.int .i64) 3 wc w0.heap.size (fun k_ => (((P0_0_ k_ ∨ P0_1_ k_) ∨ w.heap.size ≤ k_))) u237001 x237001_4) := ⟨by rw [← hq_]; exact (pr HO_237001.out)⟩; have n2_ : Aside0 (wc.heap[gb236]? = some (.cells #[u237000, u237001] 26 (0, 0))) := ⟨by rw [← hq_]; exact (pb BK236.out)⟩; have n3_ : Aside0 (wc.heap[gb237]? = some (.cells #[.slice none 0 0, .slice none 0 0] 26 (0, 0))) := ⟨by rw [← hq_]; exact (pb BK237.out)⟩; have n4_ : Aside0 (Kept w wc (fun k_ => P0_0_ k_ ∨ P0_1_ k_)) := ⟨by rw [← hq_]; exact (kg2 HK.out (.inr GW236.out) (.inr GW237.out))⟩; have n5_ : Aside0 (Below w0.heap.size w0 wc) := ⟨by rw [← hq_]; exact (bg2 HB.out GE236.out GE237.out)⟩; clear HO_237000 HO_237001 BK236 BK237 HK HB hq_; have HO_237000 := n0_; have HO_237001 := n1_; have BK236 := n2_; have BK237 := n3_; have HK := n4_; have HB := n5_; clear n0_ n1_ n2_ n3_ n4_ n5_))))
   replace HO_237000 := am (Kd.S_drew HO_237000.out)
   replace HO_237001 := am (Kd.R_drew HO_237001.out)
   replace BK236 := am (blk_drew BK236.out)
   replace BK237 := am (blk_drew BK237.out)
   replace HK := am (Kept.drew HK.out)
   replace HB := am (below_drew1 HB.out)
   have p246 : 0 ≤ (a2 : Int) := ofb
   have q246 : a2 < (l1.length : Int) := ofb
   obtain ⟨ad246, e246, hx246_0, hx246_1, hx246_2, hx246_3, hx246_4, hx246_5, hx246_6, hx246_7⟩ := at_T38 (Kd.C_kept_now HR1.out HK.out) a2 p246 q246
   have hw246_7 := hx246_7
   have hw246_6 := hx246_6
   have hw246_5 := hx246_5
   have hw246_4 := hx246_4
   have hw246_3 := hx246_3
   have hw246_2 := hx246_2
   have hw246_1 := hx246_1
   have hw246_0 := hx246_0
   cases e246
   replace p246 := eq_true p246
   replace q246 := eq_true q246
   obtain ⟨Ao30, co30, eo30⟩ := Kd.S_slice HO_237000.out
   (first | subst eo30 | (injection eo30 with f1_ f2_ f3_; have f4_ := f1_.symm; have f5_ := f3_.symm; clear f1_ f2_ f3_; subst f4_; subst f5_))
   obtain ⟨Ao31, co31, eo31⟩ := Kd.R_slice HO_237001.out
   (first | subst eo31 | (injection eo31 with f1_ f2_ f3_; have f4_ := f1_.symm; have f5_ := f3_.symm; clear f1_ f2_ f3_; subst f4_; subst f5_))
   obtain ⟨PXh32, hxa_, hxb_⟩ := Kd.S_hand HO_237000.out
   have HXAh32 := am hxa_
   have HXBh32 := am hxb_
   clear hxa_ hxb_
   refine start_ (n := 7) (S := fun w' => w'.cell? ⟨gb236, 0, none⟩ = some (.slice Ao30 x237000_4.length co30) ∧ w'.cell? ⟨gb236, 1, none⟩ = some (.slice Ao31 x237001_4.length co31) ∧ w'.cell? (ad246.add ((a2).toNat * 8)) = some (.int .i64 ((rd_T38 l1 a2).f0)) ∧ w'.cell? ⟨(ad246.add ((a2).toNat * 8)).block, (ad246.add ((a2).toNat * 8)).off + 1, none⟩ = some (.int .i64 ((rd_T38 l1 a2).f1)) ∧ w'.cell? ⟨(ad246.add ((a2).toNat * 8)).block, (ad246.add ((a2).toNat * 8)).off + 2, none⟩ = some (.int .i64 ((rd_T38 l1 a2).f2)) ∧ w'.cell? ⟨(ad246.add ((a2).toNat * 8)).block, (ad246.add ((a2).toNat * 8)).off + 3, none⟩ = some (.int .i64 ((rd_T38 l1 a2).f3)) ∧ w'.cell? ⟨(ad246.add ((a2).toNat * 8)).block, (ad246.add ((a2).toNat * 8)).off + 4, none⟩ = some (.int .i64 ((rd_T38 l1 a2).f4.f0)) ∧ w'.cell? ⟨(ad246.add ((a2).toNat * 8)).block, (ad246.add ((a2).toNat * 8)).off + 5, none⟩ = some (.int .i64 ((rd_T38 l1 a2).f4.f1)) ∧ w'.cell? ⟨(ad246.add ((a2).toNat * 8)).block, (ad246.add ((a2).toNat * 8)).off + 6, none⟩ = some (.int .i64 ((rd_T38 l1 a2).f4.f2)) ∧ w'.cell? ⟨(ad246.add ((a2).toNat * 8)).block, (ad246.add ((a2).toNat * 8)).off + 7, none⟩ = some (.int .i64 ((rd_T38 l1 a2).f4.f3))) (ds := [5, 6]) (bt 7 0) (by kernel_rfl) rfl rfl ⟨(blk_cell BK236.out 0).trans rfl, (blk_cell BK236.out 1).trans rfl, hx246_0, hx246_1, hx246_2, hx246_3, hx246_4, hx246_5, hx246_6, hx246_7⟩ (fun hHeld => ?_)
   generalize wc.drew = w29 at HO_237000 HO_237001 BK236 BK237 HK HB HXAh32 HXBh32 hx246_0 hx246_1 hx246_2 hx246_3 hx246_4 hx246_5 hx246_6 hx246_7 hHeld ⊢
   refine pi_ 1 36 (bt 7 2) rfl rfl (fun _ _ _ h => h) ?_
   refine pi_ 2 37 (bt 7 6) rfl rfl (fun _ _ _ h => h) ?_
   refine pi_ 3 38 (bt 7 14) rfl rfl (fun _ _ _ h => h) ?_
   refine pm_ 0 35 (bt 7 15) rfl rfl (by kernel_rfl) (fun _ _ _ h => h) hHeld ?_
   refine pm_ 4 39 (bt 7 31) rfl rfl (by kernel_rfl) (fun _ _ _ h => h) hHeld ?_
   refine last_ (i := 5) (N := some 40) (bt 7 63) rfl rfl (by kernel_rfl) (by decide) (fun K hK => ?_)
   refine qg Try.func65 #[.agg #[.slice Ao30 x237000_4.length co30, .slice Ao31 x237001_4.length co31], .agg #[.int .i64 ((rd_T38 l1 a2).f0), .int .i64 ((rd_T38 l1 a2).f1), .int .i64 ((rd_T38 l1 a2).f2), .int .i64 ((rd_T38 l1 a2).f3), .int .i64 ((rd_T38 l1 a2).f4.f0), .int .i64 ((rd_T38 l1 a2).f4.f1), .int .i64 ((rd_T38 l1 a2).f4.f2), .int .i64 ((rd_T38 l1 a2).f4.f3)], .bool true] rfl rfl ?_
   with_reducible refine (spec_l12Do.calls kj4 PXh32 (.slice Ao30 x237000_4.length co30) x237000_4 (fun k_ => some k_ = (.slice Ao31 x237001_4.length co31 : Value).ownBlock) (.slice Ao31 x237001_4.length co31) x237001_4 ((rd_T38 l1 a2).f0) ((rd_T38 l1 a2).f1) ((rd_T38 l1 a2).f2) ((rd_T38 l1 a2).f3) ((rd_T38 l1 a2).f4.f0) ((rd_T38 l1 a2).f4.f1) ((rd_T38 l1 a2).f4.f2) ((rd_T38 l1 a2).f4.f3) true t247 t250 w0 _ ?side1 ?side2 ?side3 A28.out).mono ?_
   (case side1 => exact bg2 HB.out GE236.out GE237.out)
   (case side2 => exact (ps HXAh32.out))
   (case side3 => exact Kd.R_tight rfl HO_237001.out)
   rintro e w33 ⟨v248, v251, rfl, ho0, ho1, hb, hkp⟩
   refine ⟨_, rfl, ?_⟩
   replace BK236 := am (blk_kept (pb BK236.out) hkp (fun hs_ => Or.elim hs_ (fun e_ => (fun e_ => Kd.blk_awayP (fun k_ h_ => (HXBh32.out k_ h_).2.2.2) BK236.out (by decide) e_) e_) (fun e_ => (fun e_ => (Kd.R_ne HO_237001.out BK236.out (by decide)) e_) e_)))
   replace BK237 := am (blk_kept (pb BK237.out) hkp (fun hs_ => Or.elim hs_ (fun e_ => (fun e_ => Kd.blk_awayP (fun k_ h_ => (HXBh32.out k_ h_).2.2.2) BK237.out (by decide) e_) e_) (fun e_ => (fun e_ => (Kd.R_ne HO_237001.out BK237.out (by decide)) e_) e_)))
   have HO249 := am (Kd.S_mono (ok' := fun k_ => ((P0_0_ k_ ∨ P0_1_ k_) ∨ w.heap.size ≤ k_)) ho0 (fun k_ hk_ => Or.elim hk_ (fun hs_ => Or.elim hs_ (fun hs_ => (HXBh32.out k_ hs_).1) (fun hs_ => (HO_237001.out.1 k_ (hs_).symm))) (fun hn_ => (.inr (Nat.le_trans (kg2 HK.out (.inr GW236.out) (.inr GW237.out)).1 hn_)))))
   have HO252 := am (Kd.R_mono (ok' := fun k_ => ((P0_0_ k_ ∨ P0_1_ k_) ∨ w.heap.size ≤ k_)) ho1 (fun k_ hk_ => Or.elim hk_ (fun hs_ => Or.elim hs_ (fun hs_ => (HXBh32.out k_ hs_).1) (fun hs_ => (HO_237001.out.1 k_ (hs_).symm))) (fun hn_ => (.inr (Nat.le_trans (kg2 HK.out (.inr GW236.out) (.inr GW237.out)).1 hn_)))))
   replace HK := am (Kept.then_ (S := (fun k_ => P0_0_ k_ ∨ P0_1_ k_)) (kg2 HK.out (.inr GW236.out) (.inr GW237.out)) hkp (fun k_ hs_ => Or.elim hs_ (fun e_ => (fun e_ => (HXBh32.out k_ e_).1) e_) (fun e_ => (fun e_ => (HO_237001.out.1 k_ e_.symm)) e_)))
   replace HB := am (hb)
   clear HO_237000 HO_237001
   clear hb hkp ho0 ho1
   obtain ⟨Ao34, co34, eo34⟩ := Kd.S_slice HO249.out
   (first | subst eo34 | (injection eo34 with f1_ f2_ f3_; have f4_ := f1_.symm; have f5_ := f3_.symm; clear f1_ f2_ f3_; subst f4_; subst f5_))
   obtain ⟨Ao36, co36, eo36⟩ := Kd.R_slice HO252.out
   (first | subst eo36 | (injection eo36 with f1_ f2_ f3_; have f4_ := f1_.symm; have f5_ := f3_.symm; clear f1_ f2_ f3_; subst f4_; subst f5_))
   refine hK.out _ _ ?_
   clear hK K
   refine qn (some 40) ?_
   refine last_ (i := 6) (N := none) (bt 7 127) rfl rfl (by kernel_rfl) (by decide) (fun K hK => ?_)
   have hs35 : w33.cell? ⟨gb236, 0, none⟩ = some (.slice Ao30 x237000_4.length co30) := (blk_cell BK236.out 0).trans rfl
   have hfs35 := blk_frozen BK236.out 0
   have hns35_1 := NB237_236.out
   have hms35_1 := NB236_237.out
   have hs37 : w33.cell? ⟨gb236, 1, none⟩ = some (.slice Ao31 x237001_4.length co31) := (blk_cell BK236.out 1).trans rfl
   have hfs37 := blk_frozen BK236.out 1
   have hns37_1 := NB237_236.out
   have hms37_1 := NB236_237.out
   refine qs rfl ?_
   refine hK.out _ _ ?_
   clear hK K
   refine done_ (by kernel_rfl) ?_
   have hnb38 := NB236_237.out
   have hnc38 := NB237_236.out
   obtain ⟨hcz39_0, hcz39_1⟩ := b2 BK236.out
   obtain ⟨hfz39_0, hfz39_1⟩ := f2 BK236.out
   obtain ⟨hcz40_0, hcz40_1⟩ := b2 BK237.out
   obtain ⟨hfz40_0, hfz40_1⟩ := f2 BK237.out
   try go_wp2
   refine bodyPost_ret (results_cell_row rfl _ _ gb237 26 #[.slice Ao34 t247.length co34, .slice Ao36 t250.length co36] (0, 0) _ rfl (bp2 (bf2 (pb BK237.out) NB237_236.out)) Try.underlying26 rfl (by kernel_rfl)) rfl ?_
   exact ⟨_, _, rq ⟨ps (Kd.S_mono (Kd.S_far (p := ⟨gb237, 1, none⟩) (Kd.S_far (p := ⟨gb237, 0, none⟩) (Kd.S_far (p := ⟨gb236, 1, none⟩) (Kd.S_far (p := ⟨gb236, 0, none⟩) (Kd.S_types (Kd.S_types HO249.out BK236.out (by decide)) BK237.out (by decide)) (fun _ hk => hk.1.2) (.slice Ao34 t247.length co34)) (fun _ hk => hk.1.2) (.slice Ao36 t250.length co36)) (fun _ hk => hk.2) (.slice Ao34 t247.length co34)) (fun _ hk => hk.2) (.slice Ao36 t250.length co36)) (fun _ hk => hk.1.1)), pr (Kd.R_mono (Kd.R_far (p := ⟨gb237, 1, none⟩) (Kd.R_far (p := ⟨gb237, 0, none⟩) (Kd.R_far (p := ⟨gb236, 1, none⟩) (Kd.R_far (p := ⟨gb236, 0, none⟩) (Kd.R_types (Kd.R_types HO252.out BK236.out (by decide)) BK237.out (by decide)) (fun _ hk => hk.1.2) (.slice Ao34 t247.length co34)) (fun _ hk => hk.1.2) (.slice Ao36 t250.length co36)) (fun _ hk => hk.2) (.slice Ao34 t247.length co34)) (fun _ hk => hk.2) (.slice Ao36 t250.length co36)) (fun _ hk => hk.1.1)), bg2 HB.out GE236.out GE237.out, kg2 HK.out (.inr GW236.out) (.inr GW237.out)⟩⟩
end Go.Proofs.Ytbhchamohldehaa.P4
