-- printed by wip/pp/pp.py
import Derived.Test.YtpldeopbdilipaaP10
import Derived.Test.YtpldeopbdilipaaP13
namespace Go.Proofs.Ytpldeopbdilipaa.P1
open Go.RowKit Go.Proofs.YtpldeopbdilipaaW.PrintWords Go.Proofs.YtpldeopbdilipaaW.PrintLast Go.Proofs.YtpldeopbdilipaaW.PrintMore
attribute [local go_sem] max2_int min2_int max_two min_two max_three min_three max_four min_four
set_option linter.unusedVariables false
set_option linter.unusedSimpArgs false
def spec_l2Write.j0 : Nat → List (S63) → Int → Bool → Int → Bool → Int → Int → Int → Int → Option ((List (S63)) × Bool)
 | 0, _, _, _, _, _, _, _, _, _ => none
 | k + 1, x0, x1, x3, x10, x24, x140000, x140001, x140002, x140003 => if x24 = true then (some (x0, false)) else (if x3 = true then (if 0 ≤ x1 then (if x1 < (x0.length : Int) then (if 0 ≤ (wrap64 (4 - x10)) then (if (wrap64 (4 - x10)) < (((rd_T63 x0 x1).f0).length : Int) then (some ((x0.set (x1 : Int).toNat (⟨(((rd_T63 x0 x1).f0).set ((wrap64 (4 - x10)) : Int).toNat (⟨2, (⟨0, 0, 0, 0⟩ : S32)⟩ : S65)), (rd_T63 x0 x1).f1⟩ : S63)), true)) else (none)) else (none)) else (none)) else (none)) else (if 0 ≤ x1 then (if x1 < (x0.length : Int) then (if 0 ≤ (wrap64 (4 - x10)) then (if (wrap64 (4 - x10)) < (((rd_T63 x0 x1).f0).length : Int) then (some ((x0.set (x1 : Int).toNat (⟨(((rd_T63 x0 x1).f0).set ((wrap64 (4 - x10)) : Int).toNat (⟨1, (⟨x140000, x140001, x140002, x140003⟩ : S32)⟩ : S65)), (rd_T63 x0 x1).f1⟩ : S63)), true)) else (none)) else (none)) else (none)) else (none)))
def spec_l2Write.f (k : Nat) (l0 : List (S63)) (a1 : Int) (a2_0 : Int) (a2_1 : Int) (a2_2 : Int) (a2_3 : Int) (a3 : Bool) : Option ((List (S63)) × Bool) := if 0 ≤ a1 then (if a1 < (l0.length : Int) then ((spec_l2Clean.f k ((rd_T63 l0 a1).f0) ((rd_T63 l0 a1).f1)).bind fun t141 => (if t141 = 0 then (spec_l2Write.j0 k l0 a1 a3 t141 true a2_0 a2_1 a2_2 a2_3) else ((spec_l2Seq.f k l0 a2_1).bind fun t142 => (spec_l2Write.j0 k l0 a1 a3 t141 t142 a2_0 a2_1 a2_2 a2_3)))) else (none)) else (none)
def spec_l2Write.T7 : Bool × List (List Nat × List Nat) := (true, [([], []), ([], []), ([0, 1], [0, 1]), ([2], [2]), ([3], [3]), ([], []), ([5], [5]), ([], []), ([4, 6, 0, 1, 2, 3, 4, 5, 6, 7], [4, 6]), ([8, 7, 0, 1, 2, 3, 4, 5, 6, 7], [7, 8])])
def spec_l2Write.B7 : List Nat := [0, 0, 3, 7, 15, 0, 32, 0, 255, 511]
theorem spec_l2Write.tab7 : rtab .any (opsOf Try.f68 7) = spec_l2Write.T7 := by kernel_rfl
theorem spec_l2Write.bits7 : waitsOk spec_l2Write.T7.2 spec_l2Write.B7 = true := by kernel_rfl
set_option maxHeartbeats 8000000 in
set_option maxRecDepth 100000 in
theorem spec_l2Write.calls (k : Nat) (P0_ : Nat → Prop) (u9000_ : Value) (l0 : List (S63)) (a1 : Int) (a2_0 : Int) (a2_1 : Int) (a2_2 : Int) (a2_3 : Int) (a3 : Bool) (r1 : List (S63)) (r2 : Bool) (w0 w : World) (hB : Below w0.heap.size w0 w) (ho0 : Kd.S k63 63 w w0.heap.size P0_ u9000_ l0) (h : spec_l2Write.f k l0 a1 a2_0 a2_1 a2_2 a2_3 a3 = some (r1, r2)) :
 Calls Try.prog 68 #[u9000_, .int .i64 a1, .agg #[.int .i64 a2_0, .int .i64 a2_1, .int .i64 a2_2, .int .i64 a2_3], .bool a3] w fun e w' => ∃ v0_ : Value, e = .returned (.tuple #[v0_, .bool r2]) ∧ Kd.S k63 63 w' w0.heap.size (fun k_ => (P0_ k_ ∨ w.heap.size ≤ k_)) v0_ r1 ∧ Below w0.heap.size w0 w' ∧ Kept w w' (fun k_ => P0_ k_) := by
 have hu32 := Try.underlying32
 have hu63 := Try.underlying63
 have hu65 := Try.underlying65
 have HO0 := am (show Kd.S k63 63 w w0.heap.size (fun k_ => (P0_ k_ ∨ w.heap.size ≤ k_)) u9000_ l0 from Kd.S_mono ho0 (fun k_ hk => (.inl hk)))
 have HK := am (Kept.refl w (fun k_ => P0_ k_))
 have HW0 := am hB.size
 have HB := am hB
 clear hB
 have H : (if 0 ≤ a1 then (if a1 < (l0.length : Int) then ((spec_l2Clean.f k ((rd_T63 l0 a1).f0) ((rd_T63 l0 a1).f1)).bind fun t141 => (if t141 = 0 then (spec_l2Write.j0 k l0 a1 a3 t141 true a2_0 a2_1 a2_2 a2_3) else ((spec_l2Seq.f k l0 a2_1).bind fun t142 => (spec_l2Write.j0 k l0 a1 a3 t141 t142 a2_0 a2_1 a2_2 a2_3)))) else (none)) else (none)) = some (r1, r2) := h
 clear h
 obtain ⟨c5b0, H⟩ := ifd H
 obtain ⟨c6b0, H⟩ := ifd H
 replace H := Option.bind_eq_some_iff.mp H
 obtain ⟨t141, A70, H⟩ := H
 have A7 := am A70
 clear A70
 have HC8 := am H
 clear H
 go_enter Try.func68, Try.ntmps68
 go_upto_region 2 with (first | (refine bx 6 #[.int .i64 a2_0, .int .i64 a2_1, .int .i64 a2_2, .int .i64 a2_3] 32 rfl ?_; intro gb139 hg w9 hbox hb; replace HO0 := am (Kd.S_below (ps HO0.out) hb); have BK139 := am (hbox); have GW139 := am (gw hg (pk HK.out)); replace HK := am (Kept.below (pk HK.out) hb); have GE139 := am (ge hg (ph HB.out)); replace HB := am (below_step (ph HB.out) hb); clear hb hbox hg; obtain ⟨Ao10, co10, eo10⟩ := Kd.S_slice HO0.out; subst eo10; have p140 : 0 ≤ (a1 : Int) := ofb; have q140 : a1 < (l0.length : Int) := ofb; obtain ⟨ad140, A140_0, c140_0, e140, hx140_0, hx140_1, hl140_0, hi140_0⟩ := at_T63 (Kd.S_reads' HO0.out).2.2 a1 p140 q140; cases e140; obtain ⟨ce140, hce140, hMe140, hcc140⟩ := Kd.S_get HO0.out z63 a1 p140 (by first | exact q140 | exact ofb | (have e_ := (Kd.S_reads' HO0.out).1; omega)); obtain ⟨ve140_0, rfl, ge140_0⟩ := k63_openM hMe140; have hv140_0 := hcc140 0 _ rfl; rw [Nat.add_zero] at hv140_0; replace hv140_0 := Option.some.inj (hv140_0.symm.trans hx140_0); rw [hv140_0] at ge140_0; have HL140_0 := am (show Kd.R k65 65 _ _ _ _ ((rd_T63 l0 a1).f0) from ge140_0); clear hv140_0 ge140_0; have HX140_0 := am hx140_0; clear hcc140 hce140; have HR140_0 := am hi140_0; have HC140_0 := am hl140_0; clear hi140_0 hl140_0; replace p140 := eq_true p140; replace q140 := eq_true q140) | (refine gl 16 Try.func40 #[.agg #[.slice A140_0 ((rd_T63 l0 a1).f0).length c140_0, .int .i64 ((rd_T63 l0 a1).f1)]] rfl ?_; (with_reducible refine (spec_l2Clean.calls k _ _ ((rd_T63 l0 a1).f0) ((rd_T63 l0 a1).f1) t141 _ ?side1 ?side2 A7.out).mono ?_); (case side1 => exact pc HR140_0.out); (case side2 => exact HC140_0.out); rintro e w11 ⟨rfl, hb⟩; refine ⟨_, rfl, ?_⟩; replace HO0 := am (Kd.S_below (ps HO0.out) hb); replace HL140_0 := am (Kd.R_below (pr HL140_0.out) hb); replace BK139 := am (blk_below (pb BK139.out) hb); replace HR140_0 := am (Kd.C_below (pc HR140_0.out) hb); replace HX140_0 := am (pw_cell_below hb HX140_0.out); replace HK := am (Kept.below (kg1 HK.out (.inr GW139.out)) hb); replace HB := am (below_step (bg1 HB.out GE139.out) hb); clear hb))
 (try simp only [Act.put, List.setIfInBounds_toArray, List.set_cons_zero, List.set_cons_succ])
 go_cut [24] (fun v24 wc => ∃ (kq : Nat) (x24_7 : Bool), v24 = .bool x24_7 ∧ Aside0 (spec_l2Write.j0 kq l0 a1 a3 t141 x24_7 a2_0 a2_1 a2_2 a2_3 = some (r1, r2)) ∧ Aside0 (kq ≤ k) ∧ Aside0 (Kd.S k63 63 wc w0.heap.size (fun k_ => (P0_ k_ ∨ w.heap.size ≤ k_)) (.slice (some ad140) l0.length co10) l0) ∧ Aside0 (wc.heap[gb139]? = some (.cells #[.int .i64 a2_0, .int .i64 a2_1, .int .i64 a2_2, .int .i64 a2_3] 32 (0, 0))) ∧ Aside0 (Kd.C k65 wc A140_0 ((rd_T63 l0 a1).f0).length ((rd_T63 l0 a1).f0)) ∧ Aside0 (Kept w wc (fun k_ => P0_ k_)) ∧ Aside0 (Below w0.heap.size w0 wc))
 case first =>
  have H := HC8.out
  clear HC8
  by_cases c12 : t141 = 0
  · rw [if_pos c12] at H
    have c12b0 : (t141 == 0) = true := beq_iff_eq.mpr c12
    have c12b1 : (t141 != 0) = false := bne_eq_false_iff_eq.mpr c12
    clear c12
    (first | rw [c12b0] | (simp only [i64_w, i32_w]; rw [c12b0]) | skip)
    have H' := am H
    clear H
    go_wp2
    go_meet
    case rel => exact ⟨_, (true), rf, H', ⟨by first | omega | exact Nat.le_refl _⟩, ⟨ps HO0.out⟩, ⟨pb BK139.out⟩, ⟨pc HR140_0.out⟩, ⟨kg1 HK.out (.inr GW139.out)⟩, ⟨bg1 HB.out GE139.out⟩⟩
  rw [if_neg c12] at H
  have c12b0 : (t141 == 0) = false := beq_eq_false_iff_ne.mpr c12
  have c12b1 : (t141 != 0) = true := bne_iff_ne.mpr c12
  (first | rw [c12b0] | (simp only [i64_w, i32_w]; rw [c12b0]) | skip)
  replace H := Option.bind_eq_some_iff.mp H
  obtain ⟨t142, A130, H⟩ := H
  have A13 := am A130
  clear A130
  have H' := am H
  clear H
  obtain ⟨hcz14_0, hcz14_1, hcz14_2, hcz14_3⟩ := b4 BK139.out
  obtain ⟨hfz14_0, hfz14_1, hfz14_2, hfz14_3⟩ := f4 BK139.out
  go_wp2_with (first | (go_at_call 69; (with_reducible refine (spec_l2Seq.calls k _ _ l0 a2_1 t142 _ ?side1 ?side2 A13.out).mono ?_); (case side1 => exact pc ((Kd.S_reads' HO0.out).2.2)); (case side2 => exact (Kd.S_reads' HO0.out).2.1); rintro e w' ⟨rfl, ⟨nd, rfl⟩⟩))
  go_meet
  case rel => exact ⟨_, (t142), rf, H', ⟨by first | omega | exact Nat.le_refl _⟩, ⟨ps HO0.out⟩, ⟨pb BK139.out⟩, ⟨pc HR140_0.out⟩, ⟨kg1 HK.out (.inr GW139.out)⟩, ⟨bg1 HB.out GE139.out⟩⟩
 case rest =>
  clear HC8
  obtain ⟨kq, x24_7, rfl, HA, HJ7, HO_0, BK139, HR140_0, HK, HB⟩ := hcut
  cases kq with
  | zero => exact absurd HA.out (by simp [spec_l2Write.j0])
  | succ kj7 =>
   have H := HA.out
   clear HA
   simp only [spec_l2Write.j0] at H
   by_cases c15 : x24_7 = true
   · subst c15
     rw [if_pos rfl] at H
     simp only [Option.some.injEq, Prod.mk.injEq] at H
     obtain ⟨rfl, rfl⟩ := H
     go_wp2
     go_ret2
     exact ⟨_, rq ⟨ps HO_0.out, bg1 HB.out GE139.out, kg1 HK.out (.inr GW139.out)⟩⟩
   replace c15 := Bool.eq_false_iff.mpr c15
   subst c15
   rw [if_neg (show ¬ (false = true) by decide)] at H
   by_cases c16 : a3 = true
   rotate_left
   · replace c16 := Bool.eq_false_iff.mpr c16
     subst c16
     rw [if_neg (show ¬ (false = true) by decide)] at H
     obtain ⟨c31b0, H⟩ := ifd H
     obtain ⟨c32b0, H⟩ := ifd H
     obtain ⟨ji33, hji33⟩ : ∃ j_ : Int, (wrap64 (4 - t141)) = j_ := ⟨_, rfl⟩
     replace H : (if 0 ≤ (ji33) then (if (ji33) < (((rd_T63 l0 a1).f0).length : Int) then (some ((l0.set (a1 : Int).toNat (⟨(((rd_T63 l0 a1).f0).set ((ji33) : Int).toNat (⟨1, (⟨a2_0, a2_1, a2_2, a2_3⟩ : S32)⟩ : S65)), (rd_T63 l0 a1).f1⟩ : S63)), true)) else (none)) else (none)) = some (r1, r2) := by first | (rw [hji33] at H; exact H) | (simp only [hji33] at H ⊢; exact H)
     have hji33w : (IntKind.i64.wrap (4 - t141)) = ji33 := (i64_w _).trans hji33
     obtain ⟨c34b0, H⟩ := ifd H
     obtain ⟨c35b0, H⟩ := ifd H
     obtain ⟨y149, hy149⟩ : ∃ y_ : List (S65), y_ = (((rd_T63 l0 a1).f0).set ((ji33) : Int).toNat (⟨1, (⟨a2_0, a2_1, a2_2, a2_3⟩ : S32)⟩ : S65)) := ⟨_, rfl⟩
     replace H : (some ((l0.set (a1 : Int).toNat (⟨y149, (rd_T63 l0 a1).f1⟩ : S63)), true)) = some (r1, r2) := yy hy149 H
     have Ny149 := am hy149
     clear hy149
     obtain ⟨y151, hy151⟩ : ∃ y_ : List (S63), y_ = (l0.set (a1 : Int).toNat (⟨y149, (rd_T63 l0 a1).f1⟩ : S63)) := ⟨_, rfl⟩
     replace H : (some (y151, true)) = some (r1, r2) := yy hy151 H
     have Ny151 := am hy151
     clear hy151
     simp only [Option.some.injEq, Prod.mk.injEq] at H
     obtain ⟨rfl, rfl⟩ := H
     obtain ⟨hcz37_0, hcz37_1, hcz37_2, hcz37_3⟩ := b4 BK139.out
     obtain ⟨hfz37_0, hfz37_1, hfz37_2, hfz37_3⟩ := f4 BK139.out
     try go_wp2_with (first | (refine bx 11 #[.int .i64 0, .int .i64 0, .int .i64 0, .int .i64 0, .int .i64 0] 65 rfl ?_; intro gb143 hg w38 hbox hb; replace HO_0 := am (Kd.S_below (Kd.S_elderB (ps HO_0.out) gb143 (Nat.le_of_eq hg.symm)) hb); replace HR140_0 := am (Kd.C_below (pc HR140_0.out) hb); have BK143 := am (hbox); have GW143 := am (gw hg (kg1 HK.out (.inr GW139.out))); replace HK := am (Kept.below (kg1 HK.out (.inr GW139.out)) hb); have GE143 := am (ge hg (bg1 HB.out GE139.out)); replace HB := am (below_step (bg1 HB.out GE139.out) hb); have NB139_143 := am (nb hg (pb BK139.out)); have NB143_139 := am (Ne.symm NB139_143.out); replace BK139 := am (blk_below (pb BK139.out) hb); clear hb hbox hg; have hnb39 := NB143_139.out; have hnc39 := NB139_143.out; obtain ⟨hcz40_0, hcz40_1, hcz40_2, hcz40_3, hcz40_4⟩ := b5 BK143.out; obtain ⟨hfz40_0, hfz40_1, hfz40_2, hfz40_3, hfz40_4⟩ := f5 BK143.out))
     have n0_ : Aside0 (Kd.S k63 63 (((((w38.setCell ⟨gb143, 0, none⟩ (.int .i64 1)).setCell ⟨gb143, 1, none⟩ (.int .i64 a2_0)).setCell ⟨gb143, 2, none⟩ (.int .i64 a2_1)).setCell ⟨gb143, 3, none⟩ (.int .i64 a2_2)).setCell ⟨gb143, 4, none⟩ (.int .i64 a2_3)) w0.heap.size (fun k_ => (P0_ k_ ∨ w.heap.size ≤ k_) ∧ k_ ≠ gb143) (.slice (some ad140) l0.length co10) l0) := ⟨ps (Kd.S_mono (Kd.S_far (p := ⟨gb143, 4, none⟩) (Kd.S_far (p := ⟨gb143, 3, none⟩) (Kd.S_far (p := ⟨gb143, 2, none⟩) (Kd.S_far (p := ⟨gb143, 1, none⟩) (Kd.S_far (p := ⟨gb143, 0, none⟩) (Kd.S_mono HO_0.out (fun k_ hk => (⟨hk, hk.2⟩ : _ ∧ k_ ≠ gb143))) (fun _ hk => hk.2) (.int .i64 1)) (fun _ hk => hk.2) (.int .i64 a2_0)) (fun _ hk => hk.2) (.int .i64 a2_1)) (fun _ hk => hk.2) (.int .i64 a2_2)) (fun _ hk => hk.2) (.int .i64 a2_3)) (fun _ hk => ⟨hk.1.1, hk.1.2⟩))⟩
     have n1_ : Aside0 ((((((w38.setCell ⟨gb143, 0, none⟩ (.int .i64 1)).setCell ⟨gb143, 1, none⟩ (.int .i64 a2_0)).setCell ⟨gb143, 2, none⟩ (.int .i64 a2_1)).setCell ⟨gb143, 3, none⟩ (.int .i64 a2_2)).setCell ⟨gb143, 4, none⟩ (.int .i64 a2_3)).heap[gb139]? = some (.cells #[.int .i64 a2_0, .int .i64 a2_1, .int .i64 a2_2, .int .i64 a2_3] 32 (0, 0))) := ⟨bf5 (pb BK139.out) NB139_143.out⟩
     have n2_ : Aside0 ((((((w38.setCell ⟨gb143, 0, none⟩ (.int .i64 1)).setCell ⟨gb143, 1, none⟩ (.int .i64 a2_0)).setCell ⟨gb143, 2, none⟩ (.int .i64 a2_1)).setCell ⟨gb143, 3, none⟩ (.int .i64 a2_2)).setCell ⟨gb143, 4, none⟩ (.int .i64 a2_3)).heap[gb143]? = some (.cells #[.int .i64 1, .int .i64 a2_0, .int .i64 a2_1, .int .i64 a2_2, .int .i64 a2_3] 65 (0, 0))) := ⟨bp5 (pb BK143.out)⟩
     have n3_ : Aside0 (Kept w (((((w38.setCell ⟨gb143, 0, none⟩ (.int .i64 1)).setCell ⟨gb143, 1, none⟩ (.int .i64 a2_0)).setCell ⟨gb143, 2, none⟩ (.int .i64 a2_1)).setCell ⟨gb143, 3, none⟩ (.int .i64 a2_2)).setCell ⟨gb143, 4, none⟩ (.int .i64 a2_3)) (fun k_ => P0_ k_)) := ⟨kg2 HK.out (.inr GW139.out) (.inr GW143.out)⟩
     have n4_ : Aside0 (Below w0.heap.size w0 (((((w38.setCell ⟨gb143, 0, none⟩ (.int .i64 1)).setCell ⟨gb143, 1, none⟩ (.int .i64 a2_0)).setCell ⟨gb143, 2, none⟩ (.int .i64 a2_1)).setCell ⟨gb143, 3, none⟩ (.int .i64 a2_2)).setCell ⟨gb143, 4, none⟩ (.int .i64 a2_3))) := ⟨bg2 HB.out GE139.out GE143.out⟩
     (try clear HO_0)
     (try clear BK139)
     (try clear BK143)
     (try clear HK)
     (try clear HB)
     generalize (((((w38.setCell ⟨gb143, 0, none⟩ (.int .i64 1)).setCell ⟨gb143, 1, none⟩ (.int .i64 a2_0)).setCell ⟨gb143, 2, none⟩ (.int .i64 a2_1)).setCell ⟨gb143, 3, none⟩ (.int .i64 a2_2)).setCell ⟨gb143, 4, none⟩ (.int .i64 a2_3)) = w41 at n0_ n1_ n2_ n3_ n4_ ⊢
     have HO_0 := n0_
     have BK139 := n1_
     have BK143 := n2_
     have HK := n3_
     have HB := n4_
     clear n0_ n1_ n2_ n3_ n4_
     replace HO_0 := am (Kd.S_drew HO_0.out)
     replace BK139 := am (blk_drew BK139.out)
     replace BK143 := am (blk_drew BK143.out)
     replace HK := am (Kept.drew HK.out)
     replace HB := am (below_drew1 HB.out)
     have p148 : 0 ≤ (a1 : Int) := ofb
     have q148 : a1 < (l0.length : Int) := ofb
     obtain ⟨ad148, A148_0, c148_0, e148, hx148_0, hx148_1, hl148_0, hi148_0⟩ := at_T63 (Kd.S_reads' HO_0.out).2.2 a1 p148 q148
     obtain rfl : ad140 = ad148 := (by injection e148)
     obtain ⟨ce148, hce148, hMe148, hcc148⟩ := Kd.S_get HO_0.out z63 a1 p148 (by first | exact q148 | exact ofb | (have e_ := (Kd.S_reads' HO_0.out).1; omega))
     obtain ⟨ve148_0, rfl, ge148_0⟩ := k63_openM hMe148
     have hv148_0 := hcc148 0 _ rfl
     rw [Nat.add_zero] at hv148_0
     replace hv148_0 := Option.some.inj (hv148_0.symm.trans hx148_0)
     rw [hv148_0] at ge148_0
     have HL148_0 := am (show Kd.R k65 65 _ _ _ _ ((rd_T63 l0 a1).f0) from ge148_0)
     clear hv148_0 ge148_0
     have HX148_0 := am hx148_0
     clear hcc148 hce148
     have HR148_0 := am hi148_0
     have HC148_0 := am hl148_0
     clear hi148_0 hl148_0
     replace p148 := eq_true p148
     replace q148 := eq_true q148
     have p36 : 0 ≤ ((ji33) : Int) := ofb
     have q36 : ((ji33) : Int) < ((((rd_T63 l0 a1).f0).length : Int) : Int) := ofb
     obtain ⟨go36, co36, eo36, gb36, gl36, cl36, HG36⟩ := Kd.R_form HL148_0.out (by omega)
     (first | cases eo36 | (injection eo36 with ea_ en_ ec_; (first | subst ea_ | (injection ea_ with ea_; subst ea_)); subst ec_; clear en_))
     have GB36 := am gb36
     have GG36 := am HG36
     clear gb36 gl36 HG36
     have HMgo36 := am (show (P0_ go36 ∨ w.heap.size ≤ go36) from (HL148_0.out.1 _ rfl).1.1)
     obtain ⟨ce36, hcl36, hM36, hcc36, hfr36⟩ := Kd.R_elem HL148_0.out z65 ((ji33) : Int) p36 q36
     obtain rfl := k65_openM hM36
     have hx36_0 : World.cell? _ ⟨go36, ((ji33) : Int).toNat * 5, none⟩ = some (.int .i64 ((rd_T65 ((rd_T63 l0 a1).f0) (ji33)).f0)) := hcc36 0 _ rfl
     have hx36_1 : World.cell? _ ⟨go36, ((ji33) : Int).toNat * 5 + 1, none⟩ = some (.int .i64 ((rd_T65 ((rd_T63 l0 a1).f0) (ji33)).f1.f0)) := hcc36 1 _ rfl
     have hx36_2 : World.cell? _ ⟨go36, ((ji33) : Int).toNat * 5 + 2, none⟩ = some (.int .i64 ((rd_T65 ((rd_T63 l0 a1).f0) (ji33)).f1.f1)) := hcc36 2 _ rfl
     have hx36_3 : World.cell? _ ⟨go36, ((ji33) : Int).toNat * 5 + 3, none⟩ = some (.int .i64 ((rd_T65 ((rd_T63 l0 a1).f0) (ji33)).f1.f2)) := hcc36 3 _ rfl
     have hx36_4 : World.cell? _ ⟨go36, ((ji33) : Int).toNat * 5 + 4, none⟩ = some (.int .i64 ((rd_T65 ((rd_T63 l0 a1).f0) (ji33)).f1.f3)) := hcc36 4 _ rfl
     have hf36_0 : World.frozen? _ ⟨go36, ((ji33) : Int).toNat * 5, none⟩ = false := hfr36 0
     have hf36_1 : World.frozen? _ ⟨go36, ((ji33) : Int).toNat * 5 + 1, none⟩ = false := hfr36 1
     have hf36_2 : World.frozen? _ ⟨go36, ((ji33) : Int).toNat * 5 + 2, none⟩ = false := hfr36 2
     have hf36_3 : World.frozen? _ ⟨go36, ((ji33) : Int).toNat * 5 + 3, none⟩ = false := hfr36 3
     have hf36_4 : World.frozen? _ ⟨go36, ((ji33) : Int).toNat * 5 + 4, none⟩ = false := hfr36 4
     clear hcl36 hcc36 hfr36 hM36
     replace p36 := eq_true p36
     replace q36 := eq_true q36
     have hq43 : (a1 : Int) < (l0.length : Int) := (by have h_ : (a1 : Int) < ((l0.length : Int) : Int) := ofb; first | exact h_ | (have e_ := (Kd.S_reads' HO_0.out).1; omega) | simpa only [List.length_set, List.length_set] using h_)
     obtain ⟨oki43, ce43, hcl43, hM43, hcc43, hok43, hbk43⟩ := Kd.S_borrow HO_0.out z63 (a1 : Int) (ofb) hq43
     obtain ⟨ve43_0, rfl, ge43_0⟩ := k63_openM hM43
     have hv43 := hcc43 0 _ rfl
     rw [Nat.add_zero] at hv43
     replace hv43 := Option.some.inj (hv43.symm.trans HX148_0.out)
     subst hv43
     clear hcc43 hcl43
     replace ge43_0 := (show Kd.R k65 65 _ _ _ _ ((rd_T63 l0 a1).f0) from ge43_0)
     obtain ⟨cf43, hcl43, hN43, hcc43, hfr43⟩ := Kd.R_elem ge43_0 z65 ((ji33) : Int) (ofb) (by have h_ : ((ji33) : Int) < ((((rd_T63 l0 a1).f0).length : Int) : Int) := ofb; first | exact h_ | (have e_ := (Kd.R_reads' HR148_0.out).1; omega) | simpa using h_)
     obtain rfl := k65_openM hN43
     have HP43 := Kd.R_seg ge43_0 ((ji33) : Int) (ofb) (by have h_ : ((ji33) : Int) < ((((rd_T63 l0 a1).f0).length : Int) : Int) := ofb; first | exact h_ | (have e_ := (Kd.R_reads' HR148_0.out).1; omega) | simpa using h_) (seg := [.int .i64 1, .int .i64 a2_0, .int .i64 a2_1, .int .i64 a2_2, .int .i64 a2_3]) (j := 0) hcl43 hcc43 (show 5 ≤ 5 from by decide) (x' := (⟨1, (⟨a2_0, a2_1, a2_2, a2_3⟩ : S32)⟩ : S65)) (k65_mkM _ _ _ (⟨1, (⟨a2_0, a2_1, a2_2, a2_3⟩ : S32)⟩ : S65)) (fun _ hk => hk)
     clear hcl43 hcc43 hfr43 hN43
     rw [← Ny149.out] at HP43
     have HS43 := hbk43 HP43.2 (fun k_ e_ => by injection e_ with e_; subst e_; exact ge43_0.1 _ rfl) (x' := (⟨y149, (rd_T63 l0 a1).f1⟩ : S63)) (k63_mkM _ _ _ (⟨y149, (rd_T63 l0 a1).f1⟩ : S63) HP43.1)
     rw [← Ny151.out] at HS43
     have HQ43 := am HS43
     clear HP43 HS43 hbk43 hok43
     refine start_ (n := 10) (S := fun w' => w'.cell? ⟨gb143, 0, none⟩ = some (.int .i64 1) ∧ w'.cell? ⟨gb143, 1, none⟩ = some (.int .i64 a2_0) ∧ w'.cell? ⟨gb143, 2, none⟩ = some (.int .i64 a2_1) ∧ w'.cell? ⟨gb143, 3, none⟩ = some (.int .i64 a2_2) ∧ w'.cell? ⟨gb143, 4, none⟩ = some (.int .i64 a2_3) ∧ w'.cell? (ad140.add ((a1).toNat * 2)) = some (.slice (some ⟨go36, 0, none⟩) ((rd_T63 l0 a1).f0).length c148_0) ∧ w'.cell? ⟨(ad140.add ((a1).toNat * 2)).block, (ad140.add ((a1).toNat * 2)).off + 1, none⟩ = some (.int .i64 ((rd_T63 l0 a1).f1))) (ds := [9]) (bt 10 0) (by kernel_rfl) rfl rfl ⟨(blk_cell BK143.out 0).trans rfl, (blk_cell BK143.out 1).trans rfl, (blk_cell BK143.out 2).trans rfl, (blk_cell BK143.out 3).trans rfl, (blk_cell BK143.out 4).trans rfl, hx148_0, hx148_1⟩ (fun hHeld => ?_); refine with_tabW spec_l2Write.tab7 spec_l2Write.bits7 (fun HT_ HW_ => ?_)
     generalize w41.drew = w42 at HO_0 BK139 BK143 HK HB GG36 HL148_0 HQ43 HR148_0 HX148_0 hf36_0 hf36_1 hf36_2 hf36_3 hf36_4 hx148_0 hx148_1 hx36_0 hx36_1 hx36_2 hx36_3 hx36_4 hHeld ⊢
     refine qj 0 30 (bt 10 1) rfl rfl HT_.out ?_
     refine qj 1 31 (bt 10 3) rfl rfl HT_.out ?_
     refine qj 2 32 (bt 10 7) rfl rfl HT_.out ?_
     refine qj 3 33 (bt 10 15) rfl rfl HT_.out ?_
     refine qj 5 35 (bt 10 47) rfl rfl HT_.out ?_
     refine qj 6 36 (bt 10 111) rfl rfl HT_.out ?_
     refine qm 4 34 (bt 10 127) rfl rfl HT_.out HW_.out hHeld ?_
     refine qm 7 37 (bt 10 255) rfl rfl HT_.out HW_.out hHeld ?_
     refine qj 8 38 (bt 10 511) rfl rfl HT_.out ?_
     refine last_ (i := 9) (N := none) (bt 10 1023) rfl rfl (one_of HT_.out (by kernel_rfl)) (by decide) (fun K hK => ?_)
     refine qs rfl ?_
     refine hK.out _ _ ?_
     clear hK K
     refine done_ (done_of HT_.out (by kernel_rfl)) ?_
     try go_wp2
     go_ret2
     exact ⟨_, by first | rfl | (simp [errW_none, errW_some] <;> rfl) | (simp only [← hji33]; first | rfl | (simp [errW_none, errW_some] <;> rfl)) | (simp [*, errW_none, errW_some] <;> rfl), Kd.S_mono HQ43.out (fun _ hk => hk.1), bg3 HB.out GB36.out GE139.out GE143.out, kg3 HK.out HMgo36.out (.inr GW139.out) (.inr GW143.out)⟩
   subst c16
   rw [if_pos rfl] at H
   obtain ⟨c17b0, H⟩ := ifd H
   obtain ⟨c18b0, H⟩ := ifd H
   obtain ⟨ji19, hji19⟩ : ∃ j_ : Int, (wrap64 (4 - t141)) = j_ := ⟨_, rfl⟩
   replace H : (if 0 ≤ (ji19) then (if (ji19) < (((rd_T63 l0 a1).f0).length : Int) then (some ((l0.set (a1 : Int).toNat (⟨(((rd_T63 l0 a1).f0).set ((ji19) : Int).toNat (⟨2, (⟨0, 0, 0, 0⟩ : S32)⟩ : S65)), (rd_T63 l0 a1).f1⟩ : S63)), true)) else (none)) else (none)) = some (r1, r2) := by first | (rw [hji19] at H; exact H) | (simp only [hji19] at H ⊢; exact H)
   have hji19w : (IntKind.i64.wrap (4 - t141)) = ji19 := (i64_w _).trans hji19
   obtain ⟨c20b0, H⟩ := ifd H
   obtain ⟨c21b0, H⟩ := ifd H
   obtain ⟨y145, hy145⟩ : ∃ y_ : List (S65), y_ = (((rd_T63 l0 a1).f0).set ((ji19) : Int).toNat (⟨2, (⟨0, 0, 0, 0⟩ : S32)⟩ : S65)) := ⟨_, rfl⟩
   replace H : (some ((l0.set (a1 : Int).toNat (⟨y145, (rd_T63 l0 a1).f1⟩ : S63)), true)) = some (r1, r2) := yy hy145 H
   have Ny145 := am hy145
   clear hy145
   obtain ⟨y147, hy147⟩ : ∃ y_ : List (S63), y_ = (l0.set (a1 : Int).toNat (⟨y145, (rd_T63 l0 a1).f1⟩ : S63)) := ⟨_, rfl⟩
   replace H : (some (y147, true)) = some (r1, r2) := yy hy147 H
   have Ny147 := am hy147
   clear hy147
   simp only [Option.some.injEq, Prod.mk.injEq] at H
   obtain ⟨rfl, rfl⟩ := H
   obtain ⟨hcz23_0, hcz23_1, hcz23_2, hcz23_3⟩ := b4 BK139.out
   obtain ⟨hfz23_0, hfz23_1, hfz23_2, hfz23_3⟩ := f4 BK139.out
   try go_wp2_with (first | (refine bx 11 #[.int .i64 0, .int .i64 0, .int .i64 0, .int .i64 0, .int .i64 0] 65 rfl ?_; intro gb143 hg w24 hbox hb; replace HO_0 := am (Kd.S_below (Kd.S_elderB (ps HO_0.out) gb143 (Nat.le_of_eq hg.symm)) hb); replace HR140_0 := am (Kd.C_below (pc HR140_0.out) hb); have BK143 := am (hbox); have GW143 := am (gw hg (kg1 HK.out (.inr GW139.out))); replace HK := am (Kept.below (kg1 HK.out (.inr GW139.out)) hb); have GE143 := am (ge hg (bg1 HB.out GE139.out)); replace HB := am (below_step (bg1 HB.out GE139.out) hb); have NB139_143 := am (nb hg (pb BK139.out)); have NB143_139 := am (Ne.symm NB139_143.out); replace BK139 := am (blk_below (pb BK139.out) hb); clear hb hbox hg; have hnb25 := NB143_139.out; have hnc25 := NB139_143.out; obtain ⟨hcz26_0, hcz26_1, hcz26_2, hcz26_3, hcz26_4⟩ := b5 BK143.out; obtain ⟨hfz26_0, hfz26_1, hfz26_2, hfz26_3, hfz26_4⟩ := f5 BK143.out))
   have n0_ : Aside0 (Kd.S k63 63 ((((((((((w24.setCell ⟨gb143, 0, none⟩ (.int .i64 1)).setCell ⟨gb143, 1, none⟩ (.int .i64 a2_0)).setCell ⟨gb143, 2, none⟩ (.int .i64 a2_1)).setCell ⟨gb143, 3, none⟩ (.int .i64 a2_2)).setCell ⟨gb143, 4, none⟩ (.int .i64 a2_3)).setCell ⟨gb143, 0, none⟩ (.int .i64 2)).setCell ⟨gb143, 1, none⟩ (.int .i64 0)).setCell ⟨gb143, 2, none⟩ (.int .i64 0)).setCell ⟨gb143, 3, none⟩ (.int .i64 0)).setCell ⟨gb143, 4, none⟩ (.int .i64 0)) w0.heap.size (fun k_ => (P0_ k_ ∨ w.heap.size ≤ k_) ∧ k_ ≠ gb143) (.slice (some ad140) l0.length co10) l0) := ⟨ps (Kd.S_mono (Kd.S_far (p := ⟨gb143, 4, none⟩) (Kd.S_far (p := ⟨gb143, 3, none⟩) (Kd.S_far (p := ⟨gb143, 2, none⟩) (Kd.S_far (p := ⟨gb143, 1, none⟩) (Kd.S_far (p := ⟨gb143, 0, none⟩) (Kd.S_far (p := ⟨gb143, 4, none⟩) (Kd.S_far (p := ⟨gb143, 3, none⟩) (Kd.S_far (p := ⟨gb143, 2, none⟩) (Kd.S_far (p := ⟨gb143, 1, none⟩) (Kd.S_far (p := ⟨gb143, 0, none⟩) (Kd.S_mono HO_0.out (fun k_ hk => (⟨hk, hk.2⟩ : _ ∧ k_ ≠ gb143))) (fun _ hk => hk.2) (.int .i64 1)) (fun _ hk => hk.2) (.int .i64 a2_0)) (fun _ hk => hk.2) (.int .i64 a2_1)) (fun _ hk => hk.2) (.int .i64 a2_2)) (fun _ hk => hk.2) (.int .i64 a2_3)) (fun _ hk => hk.2) (.int .i64 2)) (fun _ hk => hk.2) (.int .i64 0)) (fun _ hk => hk.2) (.int .i64 0)) (fun _ hk => hk.2) (.int .i64 0)) (fun _ hk => hk.2) (.int .i64 0)) (fun _ hk => ⟨hk.1.1, hk.1.2⟩))⟩
   have n1_ : Aside0 (((((((((((w24.setCell ⟨gb143, 0, none⟩ (.int .i64 1)).setCell ⟨gb143, 1, none⟩ (.int .i64 a2_0)).setCell ⟨gb143, 2, none⟩ (.int .i64 a2_1)).setCell ⟨gb143, 3, none⟩ (.int .i64 a2_2)).setCell ⟨gb143, 4, none⟩ (.int .i64 a2_3)).setCell ⟨gb143, 0, none⟩ (.int .i64 2)).setCell ⟨gb143, 1, none⟩ (.int .i64 0)).setCell ⟨gb143, 2, none⟩ (.int .i64 0)).setCell ⟨gb143, 3, none⟩ (.int .i64 0)).setCell ⟨gb143, 4, none⟩ (.int .i64 0)).heap[gb139]? = some (.cells #[.int .i64 a2_0, .int .i64 a2_1, .int .i64 a2_2, .int .i64 a2_3] 32 (0, 0))) := ⟨bf5 (bf5 (pb BK139.out) NB139_143.out) NB139_143.out⟩
   have n2_ : Aside0 (((((((((((w24.setCell ⟨gb143, 0, none⟩ (.int .i64 1)).setCell ⟨gb143, 1, none⟩ (.int .i64 a2_0)).setCell ⟨gb143, 2, none⟩ (.int .i64 a2_1)).setCell ⟨gb143, 3, none⟩ (.int .i64 a2_2)).setCell ⟨gb143, 4, none⟩ (.int .i64 a2_3)).setCell ⟨gb143, 0, none⟩ (.int .i64 2)).setCell ⟨gb143, 1, none⟩ (.int .i64 0)).setCell ⟨gb143, 2, none⟩ (.int .i64 0)).setCell ⟨gb143, 3, none⟩ (.int .i64 0)).setCell ⟨gb143, 4, none⟩ (.int .i64 0)).heap[gb143]? = some (.cells #[.int .i64 2, .int .i64 0, .int .i64 0, .int .i64 0, .int .i64 0] 65 (0, 0))) := ⟨bp5 (bp5 (pb BK143.out))⟩
   have n3_ : Aside0 (Kept w ((((((((((w24.setCell ⟨gb143, 0, none⟩ (.int .i64 1)).setCell ⟨gb143, 1, none⟩ (.int .i64 a2_0)).setCell ⟨gb143, 2, none⟩ (.int .i64 a2_1)).setCell ⟨gb143, 3, none⟩ (.int .i64 a2_2)).setCell ⟨gb143, 4, none⟩ (.int .i64 a2_3)).setCell ⟨gb143, 0, none⟩ (.int .i64 2)).setCell ⟨gb143, 1, none⟩ (.int .i64 0)).setCell ⟨gb143, 2, none⟩ (.int .i64 0)).setCell ⟨gb143, 3, none⟩ (.int .i64 0)).setCell ⟨gb143, 4, none⟩ (.int .i64 0)) (fun k_ => P0_ k_)) := ⟨kg2 HK.out (.inr GW139.out) (.inr GW143.out)⟩
   have n4_ : Aside0 (Below w0.heap.size w0 ((((((((((w24.setCell ⟨gb143, 0, none⟩ (.int .i64 1)).setCell ⟨gb143, 1, none⟩ (.int .i64 a2_0)).setCell ⟨gb143, 2, none⟩ (.int .i64 a2_1)).setCell ⟨gb143, 3, none⟩ (.int .i64 a2_2)).setCell ⟨gb143, 4, none⟩ (.int .i64 a2_3)).setCell ⟨gb143, 0, none⟩ (.int .i64 2)).setCell ⟨gb143, 1, none⟩ (.int .i64 0)).setCell ⟨gb143, 2, none⟩ (.int .i64 0)).setCell ⟨gb143, 3, none⟩ (.int .i64 0)).setCell ⟨gb143, 4, none⟩ (.int .i64 0))) := ⟨bg2 HB.out GE139.out GE143.out⟩
   (try clear HO_0)
   (try clear BK139)
   (try clear BK143)
   (try clear HK)
   (try clear HB)
   generalize ((((((((((w24.setCell ⟨gb143, 0, none⟩ (.int .i64 1)).setCell ⟨gb143, 1, none⟩ (.int .i64 a2_0)).setCell ⟨gb143, 2, none⟩ (.int .i64 a2_1)).setCell ⟨gb143, 3, none⟩ (.int .i64 a2_2)).setCell ⟨gb143, 4, none⟩ (.int .i64 a2_3)).setCell ⟨gb143, 0, none⟩ (.int .i64 2)).setCell ⟨gb143, 1, none⟩ (.int .i64 0)).setCell ⟨gb143, 2, none⟩ (.int .i64 0)).setCell ⟨gb143, 3, none⟩ (.int .i64 0)).setCell ⟨gb143, 4, none⟩ (.int .i64 0)) = w27 at n0_ n1_ n2_ n3_ n4_ ⊢
   have HO_0 := n0_
   have BK139 := n1_
   have BK143 := n2_
   have HK := n3_
   have HB := n4_
   clear n0_ n1_ n2_ n3_ n4_
   replace HO_0 := am (Kd.S_drew HO_0.out)
   replace BK139 := am (blk_drew BK139.out)
   replace BK143 := am (blk_drew BK143.out)
   replace HK := am (Kept.drew HK.out)
   replace HB := am (below_drew1 HB.out)
   have p144 : 0 ≤ (a1 : Int) := ofb
   have q144 : a1 < (l0.length : Int) := ofb
   obtain ⟨ad144, A144_0, c144_0, e144, hx144_0, hx144_1, hl144_0, hi144_0⟩ := at_T63 (Kd.S_reads' HO_0.out).2.2 a1 p144 q144
   obtain rfl : ad140 = ad144 := (by injection e144)
   obtain ⟨ce144, hce144, hMe144, hcc144⟩ := Kd.S_get HO_0.out z63 a1 p144 (by first | exact q144 | exact ofb | (have e_ := (Kd.S_reads' HO_0.out).1; omega))
   obtain ⟨ve144_0, rfl, ge144_0⟩ := k63_openM hMe144
   have hv144_0 := hcc144 0 _ rfl
   rw [Nat.add_zero] at hv144_0
   replace hv144_0 := Option.some.inj (hv144_0.symm.trans hx144_0)
   rw [hv144_0] at ge144_0
   have HL144_0 := am (show Kd.R k65 65 _ _ _ _ ((rd_T63 l0 a1).f0) from ge144_0)
   clear hv144_0 ge144_0
   have HX144_0 := am hx144_0
   clear hcc144 hce144
   have HR144_0 := am hi144_0
   have HC144_0 := am hl144_0
   clear hi144_0 hl144_0
   replace p144 := eq_true p144
   replace q144 := eq_true q144
   have p22 : 0 ≤ ((ji19) : Int) := ofb
   have q22 : ((ji19) : Int) < ((((rd_T63 l0 a1).f0).length : Int) : Int) := ofb
   obtain ⟨go22, co22, eo22, gb22, gl22, cl22, HG22⟩ := Kd.R_form HL144_0.out (by omega)
   (first | cases eo22 | (injection eo22 with ea_ en_ ec_; (first | subst ea_ | (injection ea_ with ea_; subst ea_)); subst ec_; clear en_))
   have GB22 := am gb22
   have GG22 := am HG22
   clear gb22 gl22 HG22
   have HMgo22 := am (show (P0_ go22 ∨ w.heap.size ≤ go22) from (HL144_0.out.1 _ rfl).1.1)
   obtain ⟨ce22, hcl22, hM22, hcc22, hfr22⟩ := Kd.R_elem HL144_0.out z65 ((ji19) : Int) p22 q22
   obtain rfl := k65_openM hM22
   have hx22_0 : World.cell? _ ⟨go22, ((ji19) : Int).toNat * 5, none⟩ = some (.int .i64 ((rd_T65 ((rd_T63 l0 a1).f0) (ji19)).f0)) := hcc22 0 _ rfl
   have hx22_1 : World.cell? _ ⟨go22, ((ji19) : Int).toNat * 5 + 1, none⟩ = some (.int .i64 ((rd_T65 ((rd_T63 l0 a1).f0) (ji19)).f1.f0)) := hcc22 1 _ rfl
   have hx22_2 : World.cell? _ ⟨go22, ((ji19) : Int).toNat * 5 + 2, none⟩ = some (.int .i64 ((rd_T65 ((rd_T63 l0 a1).f0) (ji19)).f1.f1)) := hcc22 2 _ rfl
   have hx22_3 : World.cell? _ ⟨go22, ((ji19) : Int).toNat * 5 + 3, none⟩ = some (.int .i64 ((rd_T65 ((rd_T63 l0 a1).f0) (ji19)).f1.f2)) := hcc22 3 _ rfl
   have hx22_4 : World.cell? _ ⟨go22, ((ji19) : Int).toNat * 5 + 4, none⟩ = some (.int .i64 ((rd_T65 ((rd_T63 l0 a1).f0) (ji19)).f1.f3)) := hcc22 4 _ rfl
   have hf22_0 : World.frozen? _ ⟨go22, ((ji19) : Int).toNat * 5, none⟩ = false := hfr22 0
   have hf22_1 : World.frozen? _ ⟨go22, ((ji19) : Int).toNat * 5 + 1, none⟩ = false := hfr22 1
   have hf22_2 : World.frozen? _ ⟨go22, ((ji19) : Int).toNat * 5 + 2, none⟩ = false := hfr22 2
   have hf22_3 : World.frozen? _ ⟨go22, ((ji19) : Int).toNat * 5 + 3, none⟩ = false := hfr22 3
   have hf22_4 : World.frozen? _ ⟨go22, ((ji19) : Int).toNat * 5 + 4, none⟩ = false := hfr22 4
   clear hcl22 hcc22 hfr22 hM22
   replace p22 := eq_true p22
   replace q22 := eq_true q22
   have hq29 : (a1 : Int) < (l0.length : Int) := (by have h_ : (a1 : Int) < ((l0.length : Int) : Int) := ofb; first | exact h_ | (have e_ := (Kd.S_reads' HO_0.out).1; omega) | simpa only [List.length_set, List.length_set] using h_)
   obtain ⟨oki29, ce29, hcl29, hM29, hcc29, hok29, hbk29⟩ := Kd.S_borrow HO_0.out z63 (a1 : Int) (ofb) hq29
   obtain ⟨ve29_0, rfl, ge29_0⟩ := k63_openM hM29
   have hv29 := hcc29 0 _ rfl
   rw [Nat.add_zero] at hv29
   replace hv29 := Option.some.inj (hv29.symm.trans HX144_0.out)
   subst hv29
   clear hcc29 hcl29
   replace ge29_0 := (show Kd.R k65 65 _ _ _ _ ((rd_T63 l0 a1).f0) from ge29_0)
   obtain ⟨cf29, hcl29, hN29, hcc29, hfr29⟩ := Kd.R_elem ge29_0 z65 ((ji19) : Int) (ofb) (by have h_ : ((ji19) : Int) < ((((rd_T63 l0 a1).f0).length : Int) : Int) := ofb; first | exact h_ | (have e_ := (Kd.R_reads' HR144_0.out).1; omega) | simpa using h_)
   obtain rfl := k65_openM hN29
   have HP29 := Kd.R_seg ge29_0 ((ji19) : Int) (ofb) (by have h_ : ((ji19) : Int) < ((((rd_T63 l0 a1).f0).length : Int) : Int) := ofb; first | exact h_ | (have e_ := (Kd.R_reads' HR144_0.out).1; omega) | simpa using h_) (seg := [.int .i64 2, .int .i64 0, .int .i64 0, .int .i64 0, .int .i64 0]) (j := 0) hcl29 hcc29 (show 5 ≤ 5 from by decide) (x' := (⟨2, (⟨0, 0, 0, 0⟩ : S32)⟩ : S65)) (k65_mkM _ _ _ (⟨2, (⟨0, 0, 0, 0⟩ : S32)⟩ : S65)) (fun _ hk => hk)
   clear hcl29 hcc29 hfr29 hN29
   rw [← Ny145.out] at HP29
   have HS29 := hbk29 HP29.2 (fun k_ e_ => by injection e_ with e_; subst e_; exact ge29_0.1 _ rfl) (x' := (⟨y145, (rd_T63 l0 a1).f1⟩ : S63)) (k63_mkM _ _ _ (⟨y145, (rd_T63 l0 a1).f1⟩ : S63) HP29.1)
   rw [← Ny147.out] at HS29
   have HQ29 := am HS29
   clear HP29 HS29 hbk29 hok29
   refine start_ (n := 10) (S := fun w' => w'.cell? ⟨gb143, 0, none⟩ = some (.int .i64 2) ∧ w'.cell? ⟨gb143, 1, none⟩ = some (.int .i64 0) ∧ w'.cell? ⟨gb143, 2, none⟩ = some (.int .i64 0) ∧ w'.cell? ⟨gb143, 3, none⟩ = some (.int .i64 0) ∧ w'.cell? ⟨gb143, 4, none⟩ = some (.int .i64 0) ∧ w'.cell? (ad140.add ((a1).toNat * 2)) = some (.slice (some ⟨go22, 0, none⟩) ((rd_T63 l0 a1).f0).length c144_0) ∧ w'.cell? ⟨(ad140.add ((a1).toNat * 2)).block, (ad140.add ((a1).toNat * 2)).off + 1, none⟩ = some (.int .i64 ((rd_T63 l0 a1).f1))) (ds := [9]) (bt 10 0) (by kernel_rfl) rfl rfl ⟨(blk_cell BK143.out 0).trans rfl, (blk_cell BK143.out 1).trans rfl, (blk_cell BK143.out 2).trans rfl, (blk_cell BK143.out 3).trans rfl, (blk_cell BK143.out 4).trans rfl, hx144_0, hx144_1⟩ (fun hHeld => ?_); refine with_tabW spec_l2Write.tab7 spec_l2Write.bits7 (fun HT_ HW_ => ?_)
   generalize w27.drew = w28 at HO_0 BK139 BK143 HK HB GG22 HL144_0 HQ29 HR144_0 HX144_0 hf22_0 hf22_1 hf22_2 hf22_3 hf22_4 hx144_0 hx144_1 hx22_0 hx22_1 hx22_2 hx22_3 hx22_4 hHeld ⊢
   refine qj 0 30 (bt 10 1) rfl rfl HT_.out ?_
   refine qj 1 31 (bt 10 3) rfl rfl HT_.out ?_
   refine qj 2 32 (bt 10 7) rfl rfl HT_.out ?_
   refine qj 3 33 (bt 10 15) rfl rfl HT_.out ?_
   refine qj 5 35 (bt 10 47) rfl rfl HT_.out ?_
   refine qj 6 36 (bt 10 111) rfl rfl HT_.out ?_
   refine qm 4 34 (bt 10 127) rfl rfl HT_.out HW_.out hHeld ?_
   refine qm 7 37 (bt 10 255) rfl rfl HT_.out HW_.out hHeld ?_
   refine qj 8 38 (bt 10 511) rfl rfl HT_.out ?_
   refine last_ (i := 9) (N := none) (bt 10 1023) rfl rfl (one_of HT_.out (by kernel_rfl)) (by decide) (fun K hK => ?_)
   refine qs rfl ?_
   refine hK.out _ _ ?_
   clear hK K
   refine done_ (done_of HT_.out (by kernel_rfl)) ?_
   try go_wp2
   go_ret2
   exact ⟨_, by first | rfl | (simp [errW_none, errW_some] <;> rfl) | (simp only [← hji19]; first | rfl | (simp [errW_none, errW_some] <;> rfl)) | (simp [*, errW_none, errW_some] <;> rfl), Kd.S_mono HQ29.out (fun _ hk => hk.1), bg3 HB.out GB22.out GE139.out GE143.out, kg3 HK.out HMgo22.out (.inr GW139.out) (.inr GW143.out)⟩
def spec_l12Do.f (k : Nat) (l0_0 : List (S63)) (l0_1 : List Int) (a1_0 : Int) (a1_1 : Int) (a1_2 : Int) (a1_3 : Int) (a1_4 : Int) (a1_5 : Int) (a1_6 : Int) (a1_7 : Int) (a2 : Bool) : Option ((List (S63)) × List Int) := if a1_0 = 1 then (if a2 = true then (some (l0_0, l0_1)) else (if 0 ≤ (wrap64 (a1_1 - 1)) then (if (wrap64 (a1_1 - 1)) < (l0_1.length : Int) then (some (l0_0, (l0_1.set ((wrap64 (a1_1 - 1)) : Int).toNat a1_2))) else (none)) else (none))) else (if a1_0 = 2 then ((spec_l2Wipe.f k l0_0 a1_3 a2).bind fun bt171 => (some (bt171.1, l0_1))) else (if a1_0 = 3 then ((spec_l2Write.f k l0_0 a1_3 a1_4 a1_5 a1_6 a1_7 a2).bind fun bt175 => (some (bt175.1, l0_1))) else (some (l0_0, l0_1))))
theorem stParts {w0 w : World} {P0 P1 : Nat → Prop} {u v : Value} {fl : List S63} {d : List Int} (h0 : Kd.S k63 63 w w0.heap.size P0 u fl) (h1 : Kd.R (Kd.int .i64) 3 w w0.heap.size P1 v d) :
 ∃ (P Q : Nat → Prop) (A1 : Option Addr) (c1 : Nat) (A2 : Option Addr) (c2 : Nat), u = .slice A1 fl.length c1 ∧ v = .slice A2 d.length c2 ∧ Kd.S k63 63 w w0.heap.size P (.slice A1 fl.length c1) fl ∧ Kd.R (Kd.int .i64) 3 w w0.heap.size Q (.slice A2 d.length c2) d ∧ (∀ k, P k → P0 k ∧ k < w.heap.size) ∧ (∀ k, Q k → P1 k ∧ k < w.heap.size) ∧ ∀ k, P k → ¬ Q k := by
 have hS := Kd.S_bound h0
 have hR := Kd.R_bound h1
 obtain ⟨A1, c1, rfl⟩ := Kd.S_slice hS
 obtain ⟨A2, c2, rfl⟩ := Kd.R_slice hR
 refine ⟨_, _, A1, c1, A2, c2, rfl, rfl, hS, hR, fun k hk => ⟨hk.1, hk.2.2.1⟩, fun k hk => ⟨hk.1, hk.2.2.1⟩, fun k hk hq => ?_⟩
 obtain ⟨_, _, _, q, hq1, cs, hq2⟩ := hk
 obtain ⟨_, _, _, q', hq1', cs', hq2'⟩ := hq
 rw [hq2] at hq2'
 injection hq2' with e1
 injection e1 with e2 e3
 rw [e3] at hq1
 have hf : ∀ x : Nat, x ∈ 3 :: (Kd.int .i64).E → x ∈ 63 :: (k63).E → False := by
  intro x h1 h2
  have h1 : x ∈ [3] := h1
  have h2 : x ∈ [63, 65] := h2
  rw [List.mem_singleton] at h1
  rw [h1] at h2
  revert h2
  decide
 exact hf _ hq1' hq1
theorem stSize (w : World) (o : Obj) : (w.alloc o).heap.size = w.heap.size + 1 := Array.size_push o
theorem stCell {w0 w W : World} {P Q M : Nat → Prop} {u v : Value} {fl : List S63} {d : List Int} (h : Kd.S k63 63 W w0.heap.size P u fl ∧ Kd.R (Kd.int .i64) 3 W w0.heap.size Q v d ∧ Below w0.heap.size w0 W ∧ Kept w W M) {b : Nat} (hb : w.heap.size ≤ b) (hw : w0.heap.size ≤ w.heap.size) (hP : ∀ k, P k → k ≠ b) (hQ : ∀ k, Q k → k ≠ b) (i : Nat) (a : Value) :
 Kd.S k63 63 (W.setCell ⟨b, i, none⟩ a) w0.heap.size P u fl ∧ Kd.R (Kd.int .i64) 3 (W.setCell ⟨b, i, none⟩ a) w0.heap.size Q v d ∧ Below w0.heap.size w0 (W.setCell ⟨b, i, none⟩ a) ∧ Kept w (W.setCell ⟨b, i, none⟩ a) M :=
 ⟨Kd.S_far (p := ⟨b, i, none⟩) h.1 hP a, Kd.R_far (p := ⟨b, i, none⟩) h.2.1 hQ a, h.2.2.1.setCell (p := ⟨b, i, none⟩) (Nat.le_trans hw hb) _, Kept.setCell (p := ⟨b, i, none⟩) h.2.2.2 (.inr hb) _⟩
theorem stAlloc {w0 w W : World} {P Q M : Nat → Prop} {u v : Value} {fl : List S63} {d : List Int} (h : Kd.S k63 63 W w0.heap.size P u fl ∧ Kd.R (Kd.int .i64) 3 W w0.heap.size Q v d ∧ Below w0.heap.size w0 W ∧ Kept w W M) (o : Obj) :
 Kd.S k63 63 (W.alloc o) w0.heap.size P u fl ∧ Kd.R (Kd.int .i64) 3 (W.alloc o) w0.heap.size Q v d ∧ Below w0.heap.size w0 (W.alloc o) ∧ Kept w (W.alloc o) M := ⟨Kd.S_alloc h.1 o, Kd.R_alloc h.2.1 o, below_alloc h.2.2.1 o, Kept.alloc h.2.2.2 o⟩
theorem stPut2 {w : World} {g : Nat} {t : TypeId} {z0 z1 : Value} (h : w.heap[g]? = some (.cells #[z0, z1] t (0, 0))) (a b : Value) : ((w.setCell ⟨g, 0, none⟩ a).setCell ⟨g, 1, none⟩ b).heap[g]? = some (.cells #[a, b] t (0, 0)) := blk_put (cs := #[a, z1]) (blk_put (cs := #[z0, z1]) h 0 _ rfl) 1 _ rfl
theorem doSome {α : Type} {c d : Prop} [Decidable c] [Decidable d] {x y : α} (h : (if c then (if d then some x else none) else none) = some y) : c ∧ d ∧ x = y := by
 by_cases hc : c
 rotate_left
 · rw [if_neg hc] at h
   cases h
 rw [if_pos hc] at h
 by_cases hd : d
 rotate_left
 · rw [if_neg hd] at h
   cases h
 rw [if_pos hd] at h
 exact ⟨hc, hd, Option.some.inj h⟩
theorem stDisk {w0 w W : World} {P Q M : Nat → Prop} {u : Value} {fl : List S63} {d : List Int} {gd n c : Nat} (h : Kd.S k63 63 W w0.heap.size P u fl ∧ Kd.R (Kd.int .i64) 3 W w0.heap.size Q (.slice (some ⟨gd, 0, none⟩) n c) d ∧ Below w0.heap.size w0 W ∧ Kept w W M) (i x : Int) (hM : M gd ∨ w.heap.size ≤ gd) (hbd : w0.heap.size ≤ gd) (hP : ∀ k, P k → k ≠ gd) :
 Kd.S k63 63 (W.setCell ⟨gd, i.toNat, none⟩ (.int .i64 x)) w0.heap.size P u fl ∧ Kd.R (Kd.int .i64) 3 (W.setCell ⟨gd, i.toNat, none⟩ (.int .i64 x)) w0.heap.size Q (.slice (some ⟨gd, 0, none⟩) n c) (d.set i.toNat x) ∧ Below w0.heap.size w0 (W.setCell ⟨gd, i.toNat, none⟩ (.int .i64 x)) ∧ Kept w (W.setCell ⟨gd, i.toNat, none⟩ (.int .i64 x)) M :=
 ⟨Kd.S_far (p := ⟨gd, i.toNat, none⟩) h.1 hP _, Kd.R_putn h.2.1 i x, h.2.2.1.setCell (p := ⟨gd, i.toNat, none⟩) hbd _, Kept.setCell (p := ⟨gd, i.toNat, none⟩) h.2.2.2 hM _⟩
set_option maxHeartbeats 4000000 in
set_option maxRecDepth 100000 in
theorem spec_l12Do.calls (k : Nat) (P0_0_ : Nat → Prop) (u9000_ : Value) (l0_0 : List (S63)) (P0_1_ : Nat → Prop) (u9001_ : Value) (l0_1 : List Int) (a1_0 : Int) (a1_1 : Int) (a1_2 : Int) (a1_3 : Int) (a1_4 : Int) (a1_5 : Int) (a1_6 : Int) (a1_7 : Int) (a2 : Bool) (r1 : List (S63)) (r2 : List Int) (w0 w : World) (hB : Below w0.heap.size w0 w) (ho0_0 : Kd.S k63 63 w w0.heap.size P0_0_ u9000_ l0_0) (ho0_1 : Kd.R (Kd.int .i64) 3 w w0.heap.size P0_1_ u9001_ l0_1) (h : spec_l12Do.f k l0_0 l0_1 a1_0 a1_1 a1_2 a1_3 a1_4 a1_5 a1_6 a1_7 a2 = some (r1, r2)) :
 Calls Try.prog 61 #[.agg #[u9000_, u9001_], .agg #[.int .i64 a1_0, .int .i64 a1_1, .int .i64 a1_2, .int .i64 a1_3, .int .i64 a1_4, .int .i64 a1_5, .int .i64 a1_6, .int .i64 a1_7], .bool a2] w fun e w' => ∃ v0_ v1_ : Value, e = .returned (.agg #[v0_, v1_]) ∧ Kd.S k63 63 w' w0.heap.size (fun k_ => ((P0_0_ k_ ∨ P0_1_ k_) ∨ w.heap.size ≤ k_)) v0_ r1 ∧ Kd.R (Kd.int .i64) 3 w' w0.heap.size (fun k_ => ((P0_0_ k_ ∨ P0_1_ k_) ∨ w.heap.size ≤ k_)) v1_ r2 ∧ Below w0.heap.size w0 w' ∧ Kept w w' (fun k_ => P0_0_ k_ ∨ P0_1_ k_) := by
 obtain ⟨P, Q, A1, c1, A2, c2, rfl, rfl, hS, hR, hP, hQ, hPQ⟩ := stParts ho0_0 ho0_1
 clear ho0_0 ho0_1
 have hu70 := Try.underlying26
 have hu98 := Try.underlying34
 have hu30 := Try.underlying32
 have hL := hB.size
 have HH := am h
 have b0 := blk_alloc (blk_alloc (blk_new w (.cells #[.slice A1 l0_0.length c1, .slice A2 l0_1.length c2] 26)) (.cells #[.int .i64 a1_0, .int .i64 a1_1, .int .i64 a1_2, .int .i64 a1_3, .int .i64 a1_4, .int .i64 a1_5, .int .i64 a1_6, .int .i64 a1_7] 34)) (.cells #[.slice none 0 0, .slice none 0 0] 26)
 have b1 := blk_alloc (blk_new (w.alloc (.cells #[.slice A1 l0_0.length c1, .slice A2 l0_1.length c2] 26)) (.cells #[.int .i64 a1_0, .int .i64 a1_1, .int .i64 a1_2, .int .i64 a1_3, .int .i64 a1_4, .int .i64 a1_5, .int .i64 a1_6, .int .i64 a1_7] 34)) (.cells #[.slice none 0 0, .slice none 0 0] 26)
 have b2 := blk_new ((w.alloc (.cells #[.slice A1 l0_0.length c1, .slice A2 l0_1.length c2] 26)).alloc (.cells #[.int .i64 a1_0, .int .i64 a1_1, .int .i64 a1_2, .int .i64 a1_3, .int .i64 a1_4, .int .i64 a1_5, .int .i64 a1_6, .int .i64 a1_7] 34)) (.cells #[.slice none 0 0, .slice none 0 0] 26)
 have HM := am (stAlloc (stAlloc (stAlloc (M := fun k_ => P0_0_ k_ ∨ P0_1_ k_) ⟨hS, hR, hB, Kept.refl w _⟩ (.cells #[.slice A1 l0_0.length c1, .slice A2 l0_1.length c2] 26)) (.cells #[.int .i64 a1_0, .int .i64 a1_1, .int .i64 a1_2, .int .i64 a1_3, .int .i64 a1_4, .int .i64 a1_5, .int .i64 a1_6, .int .i64 a1_7] 34)) (.cells #[.slice none 0 0, .slice none 0 0] 26))
 have e1 : (w.alloc (.cells #[.slice A1 l0_0.length c1, .slice A2 l0_1.length c2] 26)).heap.size = w.heap.size + 1 := stSize _ _
 have e2 : ((w.alloc (.cells #[.slice A1 l0_0.length c1, .slice A2 l0_1.length c2] 26)).alloc (.cells #[.int .i64 a1_0, .int .i64 a1_1, .int .i64 a1_2, .int .i64 a1_3, .int .i64 a1_4, .int .i64 a1_5, .int .i64 a1_6, .int .i64 a1_7] 34)).heap.size = w.heap.size + 1 + 1 := by rw [stSize, stSize]
 have e3 : (((w.alloc (.cells #[.slice A1 l0_0.length c1, .slice A2 l0_1.length c2] 26)).alloc (.cells #[.int .i64 a1_0, .int .i64 a1_1, .int .i64 a1_2, .int .i64 a1_3, .int .i64 a1_4, .int .i64 a1_5, .int .i64 a1_6, .int .i64 a1_7] 34)).alloc (.cells #[.slice none 0 0, .slice none 0 0] 26)).heap.size = w.heap.size + 1 + 1 + 1 := by rw [stSize, stSize, stSize]
 rw [e1] at b1
 rw [e2] at b2
 clear h hS hR hB e1 e2
 go_enter Try.func61, Try.ntmps61
 go_upto_region 1 with (fail)
 generalize ((w.alloc (.cells #[.slice A1 l0_0.length c1, .slice A2 l0_1.length c2] 26)).alloc (.cells #[.int .i64 a1_0, .int .i64 a1_1, .int .i64 a1_2, .int .i64 a1_3, .int .i64 a1_4, .int .i64 a1_5, .int .i64 a1_6, .int .i64 a1_7] 34)).alloc (.cells #[.slice none 0 0, .slice none 0 0] 26) = W at b0 b1 b2 HM e3 ⊢
 have s0 := (blk_cell b0 0).trans rfl
 have s1 := (blk_cell b0 1).trans rfl
 have f0 := blk_frozen b0 0
 have x0 := (blk_cell b1 0).trans rfl
 have x1 := (blk_cell b1 1).trans rfl
 have x2 := (blk_cell b1 2).trans rfl
 have x3 := (blk_cell b1 3).trans rfl
 have x4 := (blk_cell b1 4).trans rfl
 have x5 := (blk_cell b1 5).trans rfl
 have x6 := (blk_cell b1 6).trans rfl
 have x7 := (blk_cell b1 7).trans rfl
 have z0 := (blk_cell b2 0).trans rfl
 have z1 := (blk_cell b2 1).trans rfl
 have g0 := blk_frozen b2 0
 have g1 := blk_frozen b2 1
 have HB0 := am b0
 have HB2 := am b2
 have HP := am (And.intro hP (And.intro hQ hPQ))
 have HE3 := am e3
 have hne : w.heap.size ≠ w.heap.size + 1 + 1 := by omega
 have hne2 : w.heap.size + 1 + 1 ≠ w.heap.size := by omega
 clear b0 b1 b2 hP hQ hPQ e3
 have h := HH.out
 clear HH
 unfold spec_l12Do.f at h
 by_cases k1 : a1_0 = 1
 · rw [if_pos k1] at h
   subst k1
   cases a2 with
   | true =>
    rw [if_pos rfl] at h
    simp only [Option.some.injEq, Prod.mk.injEq] at h
    obtain ⟨rfl, rfl⟩ := h
    clear x1 x2 x3 x4 x5 x6 x7 f0
    go_wp2
    refine bodyPost_ret (results_cell_row rfl _ _ (w.heap.size + 1 + 1) 26 #[.slice A1 l0_0.length c1, .slice A2 l0_1.length c2] (0, 0) _ rfl (stPut2 HB2.out _ _) Try.underlying26 rfl (by kernel_rfl)) rfl ?_
    have q := stCell (stCell HM.out (show w.heap.size ≤ w.heap.size + 1 + 1 by omega) hL (fun k_ hk => by have := (HP.out.1 k_ hk).2; omega) (fun k_ hk => by have := (HP.out.2.1 k_ hk).2; omega) 0 (.slice A1 l0_0.length c1)) (show w.heap.size ≤ w.heap.size + 1 + 1 by omega) hL (fun k_ hk => by have := (HP.out.1 k_ hk).2; omega) (fun k_ hk => by have := (HP.out.2.1 k_ hk).2; omega) 1 (.slice A2 l0_1.length c2)
    exact ⟨_, _, rfl, Kd.S_mono q.1 (fun k_ hk => .inl (.inl (HP.out.1 k_ hk).1)), Kd.R_mono (by simpa using q.2.1) (fun k_ hk => .inl (.inr (HP.out.2.1 k_ hk).1)), q.2.2.1, q.2.2.2⟩
   | false =>
    rw [if_neg (by simp)] at h
    obtain ⟨hd0, hd1, h⟩ := doSome h
    simp only [Prod.mk.injEq] at h
    obtain ⟨rfl, rfl⟩ := h
    obtain ⟨gd, cd, hA2, hdb, hdl, cellsd, hcd⟩ := Kd.R_form HM.out.2.1 (by omega)
    have ea := (Value.slice.inj hA2).1
    have ec := (Value.slice.inj hA2).2.2
    subst ea
    subst ec
    have hQd := HM.out.2.1.1 gd rfl
    have hQl := (HP.out.2.1 gd hQd).2
    obtain ⟨ce, hce, hMe, hcce, hfre⟩ := Kd.R_elem HM.out.2.1 0 (wrap64 (a1_1 - 1)) hd0 hd1
    have d0 := hcce 0 _ (by rw [show ce = [.int .i64 (rd l0_1 (wrap64 (a1_1 - 1)))] from hMe]; rfl)
    have df := hfre 0
    rw [show (Kd.int .i64).sz = 1 from rfl, Nat.mul_one, Nat.add_zero] at d0 df
    have hdb' := decide_eq_true hd1
    have hdq : (wrap64 (a1_1 - 1) < (l0_1.length : Int)) = True := eq_true hd1
    have hst := stDisk (HM.out) (wrap64 (a1_1 - 1)) a1_2 (.inl (.inr (HP.out.2.1 gd hQd).1)) hdb (fun k_ hk he => HP.out.2.2 k_ hk (he ▸ hQd))
    have HST := am hst
    have hgz : gd ≠ w.heap.size + 1 + 1 := by omega
    have hgs : gd ≠ w.heap.size := by omega
    have hgz2 : w.heap.size + 1 + 1 ≠ gd := by omega
    have hgs2 : w.heap.size ≠ gd := by omega
    clear hce hMe hcce hfre hA2 hcd hdl hdb hst hQd hQl x3 x4 x5 x6 x7 f0
    go_wp2
    refine bodyPost_ret (results_cell_row rfl _ _ (w.heap.size + 1 + 1) 26 #[.slice A1 l0_0.length c1, .slice (some ⟨gd, 0, none⟩) l0_1.length c2] (0, 0) _ rfl (stPut2 (blk_far HB2.out hgz2 _) _ _) Try.underlying26 rfl (by kernel_rfl)) rfl ?_
    have q := stCell (stCell HST.out (show w.heap.size ≤ w.heap.size + 1 + 1 by omega) hL (fun k_ hk => by have := (HP.out.1 k_ hk).2; omega) (fun k_ hk => by have := (HP.out.2.1 k_ hk).2; omega) 0 (.slice A1 l0_0.length c1)) (show w.heap.size ≤ w.heap.size + 1 + 1 by omega) hL (fun k_ hk => by have := (HP.out.1 k_ hk).2; omega) (fun k_ hk => by have := (HP.out.2.1 k_ hk).2; omega) 1 (.slice (some ⟨gd, 0, none⟩) l0_1.length c2)
    exact ⟨_, _, rfl, Kd.S_mono q.1 (fun k_ hk => .inl (.inl (HP.out.1 k_ hk).1)), Kd.R_mono (by simpa using q.2.1) (fun k_ hk => .inl (.inr (HP.out.2.1 k_ hk).1)), q.2.2.1, q.2.2.2⟩
 rw [if_neg k1] at h
 by_cases k2 : a1_0 = 2
 · rw [if_pos k2] at h
   subst k2
   clear k1
   obtain ⟨⟨rf, rb⟩, h6, h⟩ := Option.bind_eq_some_iff.1 h
   simp only [Option.some.injEq, Prod.mk.injEq] at h
   obtain ⟨rfl, rfl⟩ := h
   have HW := am (show w.heap.size + 1 + 1 < W.heap.size by have := HE3.out; omega)
   clear z0 z1 g0 g1
   go_wp2_with fail
   refine (spec_l2Wipe.calls k P (.slice A1 l0_0.length c1) l0_0 a1_3 a2 rf rb w0 W HM.out.2.2.1 HM.out.1 h6).mono ?_
   rintro e w1 ⟨v, rfl, hS1, hB1, hK1⟩
   obtain ⟨A3, c3, rfl⟩ := Kd.S_slice hS1
   have b0 := blk_kept HB0.out hK1 (fun hq => by have := (HP.out.1 _ hq).2; omega)
   have b2 := blk_kept HB2.out hK1 (fun hq => by have := (HP.out.1 _ hq).2; omega)
   have hM1 := And.intro hS1 (And.intro (Kd.R_kept HM.out.2.1 hK1 (fun k_ hq hp => HP.out.2.2 k_ hp hq)) (And.intro hB1 (Kept.then_ HM.out.2.2.2 hK1 (fun k_ hk => .inl (.inl (HP.out.1 k_ hk).1)))))
   have hq := stCell hM1 (Nat.le_refl w.heap.size) hL (fun k_ hk => by have := HW.out; rcases hk with hk | hk; (have := (HP.out.1 k_ hk).2; omega); omega) (fun k_ hk => by have := (HP.out.2.1 k_ hk).2; omega) 0 (.slice A3 rf.length c3)
   have HQ := am hq
   have HB2' := am (blk_far b2 (p := ⟨w.heap.size, 0, none⟩) hne2 (.slice A3 rf.length c3))
   clear hS1 hB1 hK1 hM1 hq x0 x1 x2 x3 x4 x5 x6 x7 s0 s1 f0 h6
   have s0 := (blk_cell b0 0).trans rfl
   have s1 := (blk_cell b0 1).trans rfl
   have f0 := blk_frozen b0 0
   have z0 := (blk_cell b2 0).trans rfl
   have z1 := (blk_cell b2 1).trans rfl
   have g0 := blk_frozen b2 0
   have g1 := blk_frozen b2 1
   clear b0 b2
   go_wp2
   refine bodyPost_ret (results_cell_row rfl _ _ (w.heap.size + 1 + 1) 26 #[.slice A3 rf.length c3, .slice A2 l0_1.length c2] (0, 0) _ rfl (stPut2 HB2'.out _ _) Try.underlying26 rfl (by kernel_rfl)) rfl ?_
   have fP : ∀ k_, (P k_ ∨ W.heap.size ≤ k_) → k_ ≠ w.heap.size + 1 + 1 := fun k_ hk => by have := HW.out; rcases hk with hk | hk; (have := (HP.out.1 k_ hk).2; omega); omega
   have fQ : ∀ k_, Q k_ → k_ ≠ w.heap.size + 1 + 1 := fun k_ hk => by have := (HP.out.2.1 k_ hk).2; omega
   have q := stCell (stCell HQ.out (show w.heap.size ≤ w.heap.size + 1 + 1 by omega) hL fP fQ 0 (.slice A3 rf.length c3)) (show w.heap.size ≤ w.heap.size + 1 + 1 by omega) hL fP fQ 1 (.slice A2 l0_1.length c2)
   exact ⟨_, _, rfl, Kd.S_mono q.1 (fun k_ hk => hk.elim (fun hk => .inl (.inl (HP.out.1 k_ hk).1)) (fun hk => .inr (by have := HW.out; omega))), Kd.R_mono q.2.1 (fun k_ hk => .inl (.inr (HP.out.2.1 k_ hk).1)), q.2.2.1, q.2.2.2⟩
 rw [if_neg k2] at h
 by_cases k3 : a1_0 = 3
 · rw [if_pos k3] at h
   subst k3
   clear k1 k2
   obtain ⟨⟨rf, rb⟩, h6, h⟩ := Option.bind_eq_some_iff.1 h
   simp only [Option.some.injEq, Prod.mk.injEq] at h
   obtain ⟨rfl, rfl⟩ := h
   have HW := am (show w.heap.size + 1 + 1 < W.heap.size by have := HE3.out; omega)
   clear z0 z1 g0 g1
   go_wp2_with fail
   refine (spec_l2Write.calls k P (.slice A1 l0_0.length c1) l0_0 a1_3 a1_4 a1_5 a1_6 a1_7 a2 rf rb w0 W HM.out.2.2.1 HM.out.1 h6).mono ?_
   rintro e w1 ⟨v, rfl, hS1, hB1, hK1⟩
   obtain ⟨A3, c3, rfl⟩ := Kd.S_slice hS1
   have b0 := blk_kept HB0.out hK1 (fun hq => by have := (HP.out.1 _ hq).2; omega)
   have b2 := blk_kept HB2.out hK1 (fun hq => by have := (HP.out.1 _ hq).2; omega)
   have hM1 := And.intro hS1 (And.intro (Kd.R_kept HM.out.2.1 hK1 (fun k_ hq hp => HP.out.2.2 k_ hp hq)) (And.intro hB1 (Kept.then_ HM.out.2.2.2 hK1 (fun k_ hk => .inl (.inl (HP.out.1 k_ hk).1)))))
   have hq := stCell hM1 (Nat.le_refl w.heap.size) hL (fun k_ hk => by have := HW.out; rcases hk with hk | hk; (have := (HP.out.1 k_ hk).2; omega); omega) (fun k_ hk => by have := (HP.out.2.1 k_ hk).2; omega) 0 (.slice A3 rf.length c3)
   have HQ := am hq
   have HB2' := am (blk_far b2 (p := ⟨w.heap.size, 0, none⟩) hne2 (.slice A3 rf.length c3))
   clear hS1 hB1 hK1 hM1 hq x0 x1 x2 x3 x4 x5 x6 x7 s0 s1 f0 h6
   have s0 := (blk_cell b0 0).trans rfl
   have s1 := (blk_cell b0 1).trans rfl
   have f0 := blk_frozen b0 0
   have z0 := (blk_cell b2 0).trans rfl
   have z1 := (blk_cell b2 1).trans rfl
   have g0 := blk_frozen b2 0
   have g1 := blk_frozen b2 1
   clear b0 b2
   go_wp2
   refine bodyPost_ret (results_cell_row rfl _ _ (w.heap.size + 1 + 1) 26 #[.slice A3 rf.length c3, .slice A2 l0_1.length c2] (0, 0) _ rfl (stPut2 HB2'.out _ _) Try.underlying26 rfl (by kernel_rfl)) rfl ?_
   have fP : ∀ k_, (P k_ ∨ W.heap.size ≤ k_) → k_ ≠ w.heap.size + 1 + 1 := fun k_ hk => by have := HW.out; rcases hk with hk | hk; (have := (HP.out.1 k_ hk).2; omega); omega
   have fQ : ∀ k_, Q k_ → k_ ≠ w.heap.size + 1 + 1 := fun k_ hk => by have := (HP.out.2.1 k_ hk).2; omega
   have q := stCell (stCell HQ.out (show w.heap.size ≤ w.heap.size + 1 + 1 by omega) hL fP fQ 0 (.slice A3 rf.length c3)) (show w.heap.size ≤ w.heap.size + 1 + 1 by omega) hL fP fQ 1 (.slice A2 l0_1.length c2)
   exact ⟨_, _, rfl, Kd.S_mono q.1 (fun k_ hk => hk.elim (fun hk => .inl (.inl (HP.out.1 k_ hk).1)) (fun hk => .inr (by have := HW.out; omega))), Kd.R_mono q.2.1 (fun k_ hk => .inl (.inr (HP.out.2.1 k_ hk).1)), q.2.2.1, q.2.2.2⟩
 rw [if_neg k3] at h
 simp only [Option.some.injEq, Prod.mk.injEq] at h
 obtain ⟨rfl, rfl⟩ := h
 have e1 : (a1_0 == 1) = false := beq_eq_false_iff_ne.mpr k1
 have e2 : (a1_0 == 2) = false := beq_eq_false_iff_ne.mpr k2
 have e3 : (a1_0 == 3) = false := beq_eq_false_iff_ne.mpr k3
 clear k1 k2 k3 x1 x2 x3 x4 x5 x6 x7 f0
 go_wp2
 refine bodyPost_ret (results_cell_row rfl _ _ (w.heap.size + 1 + 1) 26 #[.slice A1 l0_0.length c1, .slice A2 l0_1.length c2] (0, 0) _ rfl (stPut2 HB2.out _ _) Try.underlying26 rfl (by kernel_rfl)) rfl ?_
 have q := stCell (stCell HM.out (show w.heap.size ≤ w.heap.size + 1 + 1 by omega) hL (fun k_ hk => by have := (HP.out.1 k_ hk).2; omega) (fun k_ hk => by have := (HP.out.2.1 k_ hk).2; omega) 0 (.slice A1 l0_0.length c1)) (show w.heap.size ≤ w.heap.size + 1 + 1 by omega) hL (fun k_ hk => by have := (HP.out.1 k_ hk).2; omega) (fun k_ hk => by have := (HP.out.2.1 k_ hk).2; omega) 1 (.slice A2 l0_1.length c2)
 exact ⟨_, _, rfl, Kd.S_mono q.1 (fun k_ hk => .inl (.inl (HP.out.1 k_ hk).1)), Kd.R_mono (by simpa using q.2.1) (fun k_ hk => .inl (.inr (HP.out.2.1 k_ hk).1)), q.2.2.1, q.2.2.2⟩
end Go.Proofs.Ytpldeopbdilipaa.P1
