-- printed by wip/pp/pp.py
import Derived.Test.YtghmnlcmhpdcaaaR50
namespace Go.Proofs.Ytghmnlcmhpdcaaa.R5
open Go.RowKit Go.Proofs.YtghmnlcmhpdcaaaW.PrintWords Go.Proofs.YtghmnlcmhpdcaaaW.PrintLast Go.Proofs.YtghmnlcmhpdcaaaW.PrintMore
attribute [local go_sem] max2_int min2_int max_two min_two max_three min_three max_four min_four
set_option linter.unusedVariables false
set_option linter.unusedSimpArgs false
def spec_l6In.f (a0 : Int) (a1 : Int) (a2 : Int) : Option (Bool) := if a0 ≥ a1 then (some (decide (a0 ≤ a2))) else (some false)
set_option maxHeartbeats 8000000 in
set_option maxRecDepth 100000 in
theorem spec_l6In.calls (a0 : Int) (a1 : Int) (a2 : Int) (r : Bool) (w : World) (h : spec_l6In.f a0 a1 a2 = some r) :
 Calls Try.prog 19 #[.int .i64 a0, .int .i64 a1, .int .i64 a2] w fun e w' => e = .returned (.bool r) ∧ Drawn0 w w' := by
 have H : (if a0 ≥ a1 then (some (decide (a0 ≤ a2))) else (some false)) = some r := h
 clear h
 by_cases c4 : a0 ≥ a1
 · rw [if_pos c4] at H
   have c4b0 := decide_eq_true c4
   clear c4
   obtain rfl := Option.some.inj H
   go_enter Try.func19, Try.ntmps19
   go_wp2
   go_ret
   exact ⟨by first | rfl | (simp; done) | (simp [*]; done), by repeat (first | exact Drawn0.refl _ | apply Drawn0.step)⟩
 rw [if_neg c4] at H
 have c4b0 := decide_eq_false c4
 clear c4
 obtain rfl := Option.some.inj H
 go_enter Try.func19, Try.ntmps19
 go_wp2
 go_ret
 exact ⟨by first | rfl | (simp; done) | (simp [*]; done), by repeat (first | exact Drawn0.refl _ | apply Drawn0.step)⟩
mutual
def spec_l2Wipe.j0 : Nat → List (S54) → Int → Int → Option ((List (S54)) × Bool)
 | 0, _, _, _ => none
 | k + 1, x0, x1, x8 => spec_l2Wipe.l0 k x0 x1 x8 0
def spec_l2Wipe.l0 : Nat → List (S54) → Int → Int → Int → Option ((List (S54)) × Bool)
 | 0, _, _, _, _ => none
 | k + 1, x0, x1, x8, x9 => if x9 < 4 then (if 0 ≤ x1 then (if x1 < (x0.length : Int) then (if 0 ≤ x9 then (if x9 < (((rd_T54 x0 x1).f0).length : Int) then (spec_l2Wipe.l0 k (x0.set (x1 : Int).toNat (⟨(((rd_T54 x0 x1).f0).set (x9 : Int).toNat (⟨x8, (⟨0, 0, 0, 0⟩ : S37)⟩ : S63)), (rd_T54 x0 x1).f1⟩ : S54)) x1 x8 (wrap64 (x9 + 1))) else (none)) else (none)) else (none)) else (none)) else (some (x0, true))
end
def spec_l2Wipe.f (k : Nat) (l0 : List (S54)) (a1 : Int) (a2 : Bool) : Option ((List (S54)) × Bool) := if 0 ≤ a1 then (if a1 < (l0.length : Int) then (if ((rd_T54 l0 a1).f1) ≥ 200 then (some (l0, false)) else ((some (l0.set (a1 : Int).toNat (⟨(rd_T54 l0 a1).f0, wrap64 (((rd_T54 l0 a1).f1) + 1)⟩ : S54) : List (S54))).bind fun y125 => (if a2 = true then (spec_l2Wipe.j0 k y125 a1 2) else (spec_l2Wipe.j0 k y125 a1 0)))) else (none)) else (none)
theorem spec_l2Wipe.mono_l : ∀ k, (∀ y0 y1 y2, LeO (spec_l2Wipe.j0 k y0 y1 y2) (spec_l2Wipe.j0 (k + 1) y0 y1 y2)) ∧ (∀ y0 y1 y2 y3, LeO (spec_l2Wipe.l0 k y0 y1 y2 y3) (spec_l2Wipe.l0 (k + 1) y0 y1 y2 y3))
 | 0 => ⟨fun _ _ _ r h => by simp [spec_l2Wipe.j0] at h, fun _ _ _ _ r h => by simp [spec_l2Wipe.l0] at h⟩
 | k + 1 => by
  obtain ⟨ih0, ih1⟩ := spec_l2Wipe.mono_l k
  refine ⟨?_, ?_⟩
  · intro y0 y1 y2
    unfold spec_l2Wipe.j0
    with_reducible repeat' first | exact ih0 _ _ _ | exact ih1 _ _ _ _ | exact LeO.refl _ | exact LeO.none _ | refine LeO.ite ?_ ?_ | refine LeO.bind ?_ (fun _ => ?_)
  · intro y0 y1 y2 y3
    unfold spec_l2Wipe.l0
    with_reducible repeat' first | exact ih0 _ _ _ | exact ih1 _ _ _ _ | exact LeO.refl _ | exact LeO.none _ | refine LeO.ite ?_ ?_ | refine LeO.bind ?_ (fun _ => ?_)
theorem spec_l2Wipe.mono : ∀ a0 a1 a2 k, LeO (spec_l2Wipe.f k a0 a1 a2) (spec_l2Wipe.f (k + 1) a0 a1 a2) := by
 intro a0 a1 a2 k
 obtain ⟨ih0, ih1⟩ := spec_l2Wipe.mono_l k
 unfold spec_l2Wipe.f
 with_reducible repeat' first | exact ih0 _ _ _ | exact ih1 _ _ _ _ | exact LeO.refl _ | exact LeO.none _ | refine LeO.ite ?_ ?_ | refine LeO.bind ?_ (fun _ => ?_)
set_option maxHeartbeats 8000000 in
set_option maxRecDepth 100000 in
theorem spec_l2Wipe.calls (k : Nat) (P0_ : Nat → Prop) (u9000_ : Value) (l0 : List (S54)) (a1 : Int) (a2 : Bool) (r1 : List (S54)) (r2 : Bool) (w0 w : World) (hB : Below w0.heap.size w0 w) (ho0 : Kd.S k54 54 w w0.heap.size P0_ u9000_ l0) (h : spec_l2Wipe.f k l0 a1 a2 = some (r1, r2)) :
 Calls Try.prog 61 #[u9000_, .int .i64 a1, .bool a2] w fun e w' => ∃ v0_ : Value, e = .returned (.tuple #[v0_, .bool r2]) ∧ Kd.S k54 54 w' w0.heap.size (fun k_ => (P0_ k_ ∨ w.heap.size ≤ k_)) v0_ r1 ∧ Below w0.heap.size w0 w' ∧ Kept w w' (fun k_ => P0_ k_) := by
 have hu63 := Try.underlying63
 have HO0 := am (show Kd.S k54 54 w w0.heap.size (fun k_ => (P0_ k_ ∨ w.heap.size ≤ k_)) u9000_ l0 from Kd.S_mono ho0 (fun k_ hk => (.inl hk)))
 have HK := am (Kept.refl w (fun k_ => P0_ k_))
 have HW0 := am hB.size
 have HB := am hB
 clear hB
 have H : (if 0 ≤ a1 then (if a1 < (l0.length : Int) then (if ((rd_T54 l0 a1).f1) ≥ 200 then (some (l0, false)) else ((some (l0.set (a1 : Int).toNat (⟨(rd_T54 l0 a1).f0, wrap64 (((rd_T54 l0 a1).f1) + 1)⟩ : S54) : List (S54))).bind fun y125 => (if a2 = true then (spec_l2Wipe.j0 k y125 a1 2) else (spec_l2Wipe.j0 k y125 a1 0)))) else (none)) else (none)) = some (r1, r2) := h
 clear h
 obtain ⟨c4b0, H⟩ := ifd H
 obtain ⟨c5b0, H⟩ := ifd H
 by_cases c6 : ((rd_T54 l0 a1).f1) ≥ 200
 · rw [if_pos c6] at H
   have c6b0 := decide_eq_true c6
   clear c6
   simp only [Option.some.injEq, Prod.mk.injEq] at H
   obtain ⟨rfl, rfl⟩ := H
   obtain ⟨Ao7, co7, eo7⟩ := Kd.S_slice HO0.out
   subst eo7
   have p123 : 0 ≤ (a1 : Int) := ofb
   have q123 : a1 < (l0.length : Int) := ofb
   obtain ⟨ad123, A123_0, c123_0, e123, hx123_0, hx123_1, hl123_0, hi123_0⟩ := at_T54 (Kd.S_reads' HO0.out).2.2 a1 p123 q123
   cases e123
   obtain ⟨ce123, hce123, hMe123, hcc123⟩ := Kd.S_get HO0.out z54 a1 p123 (by first | exact q123 | exact ofb | (have e_ := (Kd.S_reads' HO0.out).1; omega))
   obtain ⟨ve123_0, rfl, ge123_0⟩ := k54_openM hMe123
   have hv123_0 := hcc123 0 _ rfl
   rw [Nat.add_zero] at hv123_0
   replace hv123_0 := Option.some.inj (hv123_0.symm.trans hx123_0)
   rw [hv123_0] at ge123_0
   have HL123_0 := am (show Kd.R k63 63 _ _ _ _ ((rd_T54 l0 a1).f0) from ge123_0)
   clear hv123_0 ge123_0
   have HX123_0 := am hx123_0
   clear hcc123 hce123
   have HR123_0 := am hi123_0
   have HC123_0 := am hl123_0
   clear hi123_0 hl123_0
   replace p123 := eq_true p123
   replace q123 := eq_true q123
   go_enter Try.func61, Try.ntmps61
   go_wp2
   go_ret2
   exact ⟨_, rq ⟨ps HO0.out, ph HB.out, pk HK.out⟩⟩
 rw [if_neg c6] at H
 have c6b0 := decide_eq_false c6
 clear c6
 obtain ⟨y125, hy125⟩ : ∃ y_ : List (S54), y_ = (l0.set (a1 : Int).toNat (⟨(rd_T54 l0 a1).f0, wrap64 (((rd_T54 l0 a1).f1) + 1)⟩ : S54)) := ⟨_, rfl⟩
 replace H : (if a2 = true then (spec_l2Wipe.j0 k y125 a1 2) else (spec_l2Wipe.j0 k y125 a1 0)) = some (r1, r2) := yy hy125 H
 have Ny125 := am hy125
 clear hy125
 have HC9 := am H
 clear H
 obtain ⟨Ao10, co10, eo10⟩ := Kd.S_slice HO0.out
 subst eo10
 have p123 : 0 ≤ (a1 : Int) := ofb
 have q123 : a1 < (l0.length : Int) := ofb
 obtain ⟨ad123, A123_0, c123_0, e123, hx123_0, hx123_1, hl123_0, hi123_0⟩ := at_T54 (Kd.S_reads' HO0.out).2.2 a1 p123 q123
 cases e123
 obtain ⟨ce123, hce123, hMe123, hcc123⟩ := Kd.S_get HO0.out z54 a1 p123 (by first | exact q123 | exact ofb | (have e_ := (Kd.S_reads' HO0.out).1; omega))
 obtain ⟨ve123_0, rfl, ge123_0⟩ := k54_openM hMe123
 have hv123_0 := hcc123 0 _ rfl
 rw [Nat.add_zero] at hv123_0
 replace hv123_0 := Option.some.inj (hv123_0.symm.trans hx123_0)
 rw [hv123_0] at ge123_0
 have HL123_0 := am (show Kd.R k63 63 _ _ _ _ ((rd_T54 l0 a1).f0) from ge123_0)
 clear hv123_0 ge123_0
 have HX123_0 := am hx123_0
 clear hcc123 hce123
 have HR123_0 := am hi123_0
 have HC123_0 := am hl123_0
 clear hi123_0 hl123_0
 replace p123 := eq_true p123
 replace q123 := eq_true q123
 have p124 : 0 ≤ (a1 : Int) := ofb
 have q124 : a1 < (l0.length : Int) := ofb
 obtain ⟨ad124, A124_0, c124_0, e124, hx124_0, hx124_1, hl124_0, hi124_0⟩ := at_T54 (Kd.S_reads' HO0.out).2.2 a1 p124 q124
 obtain rfl : ad123 = ad124 := (by injection e124)
 obtain ⟨ce124, hce124, hMe124, hcc124⟩ := Kd.S_get HO0.out z54 a1 p124 (by first | exact q124 | exact ofb | (have e_ := (Kd.S_reads' HO0.out).1; omega))
 obtain ⟨ve124_0, rfl, ge124_0⟩ := k54_openM hMe124
 have hv124_0 := hcc124 0 _ rfl
 rw [Nat.add_zero] at hv124_0
 replace hv124_0 := Option.some.inj (hv124_0.symm.trans hx124_0)
 rw [hv124_0] at ge124_0
 have HL124_0 := am (show Kd.R k63 63 _ _ _ _ ((rd_T54 l0 a1).f0) from ge124_0)
 clear hv124_0 ge124_0
 have HX124_0 := am hx124_0
 clear hcc124 hce124
 have HR124_0 := am hi124_0
 have HC124_0 := am hl124_0
 clear hi124_0 hl124_0
 replace p124 := eq_true p124
 replace q124 := eq_true q124
 have ea_ := Option.some.inj (hx123_0.symm.trans hx124_0)
 injection ea_ with ea_ en_ ec_
 subst ea_
 subst ec_
 clear en_
 have p8 : 0 ≤ (a1 : Int) := ofb
 have q8 : (a1 : Int) < ((l0.length : Int) : Int) := ofb
 obtain ⟨go8, co8, eo8, gb8, gl8, cl8, HG8⟩ := Kd.S_form HO0.out (by omega)
 (first | cases eo8 | (injection eo8 with ea_ en_ ec_; (first | subst ea_ | (injection ea_ with ea_; subst ea_)); subst ec_; clear en_))
 have GB8 := am gb8
 have GG8 := am HG8
 clear gb8 gl8 HG8
 have HMgo8 := am (show (P0_ go8 ∨ w.heap.size ≤ go8) from ((Kd.S_R HO0.out).1 _ rfl))
 (first | simp only [add_plain] at hx123_0 | skip)
 (first | simp only [add_plain] at hx123_1 | skip)
 (first | simp only [add_plain] at hx124_0 | skip)
 (first | simp only [add_plain] at hx124_1 | skip)
 obtain ⟨_, ce8, hcl8, hM8, hcc8, hfr8, _, _⟩ := Kd.S_elem HO0.out z54 (a1 : Int) p8 q8
 obtain ⟨ve8_0, rfl, ge8_0⟩ := k54_openM hM8
 have hx8_0 : w.cell? ⟨go8, (a1 : Int).toNat * 2, none⟩ = some (ve8_0) := hcc8 0 _ rfl
 have hx8_1 : w.cell? ⟨go8, (a1 : Int).toNat * 2 + 1, none⟩ = some (.int .i64 ((rd_T54 l0 a1).f1)) := hcc8 1 _ rfl
 have hf8_0 : w.frozen? ⟨go8, (a1 : Int).toNat * 2, none⟩ = false := hfr8 0
 have hf8_1 : w.frozen? ⟨go8, (a1 : Int).toNat * 2 + 1, none⟩ = false := hfr8 1
 clear hcl8 hcc8 hfr8 hM8
 replace p8 := eq_true p8
 replace q8 := eq_true q8
 have HX11 := am (show Kd.S k54 54 w w0.heap.size (fun k_ => ((fun k_ => (P0_ k_ ∨ w.heap.size ≤ k_))) k_ ∧ ¬ ((fun _ => False)) k_) (.slice (some ⟨go8, 0, none⟩) l0.length co10) l0 from (ps (Kd.S_mono HO0.out (fun k_ hk => ⟨hk, fun e_ => e_⟩))))
 obtain ⟨oki11, ce11, hcl11, hM11, hcc11, hfr11, hoki11, hH11⟩ := Kd.S_elem HX11.out z54 (a1 : Int) (ofb) (by have h_ : (a1 : Int) < ((l0.length : Int) : Int) := ofb; first | exact h_ | (have e_ := (Kd.S_reads' HO0.out).1; omega) | simpa using h_)
 obtain ⟨ve11_0, rfl, ge11_0⟩ := k54_openM hM11
 have HP11 := Kd.S_seg hH11 (ofb) (by have h_ : (a1 : Int) < ((l0.length : Int) : Int) := ofb; first | exact h_ | (have e_ := (Kd.S_reads' HO0.out).1; omega) | simpa using h_) (seg := [.int .i64 (wrap64 (((rd_T54 l0 a1).f1) + 1))]) (j := 1) (show 2 ≤ 2 from by decide) (x' := (⟨(rd_T54 l0 a1).f0, wrap64 (((rd_T54 l0 a1).f1) + 1)⟩ : S54)) (k54_mkM _ _ _ (⟨(rd_T54 l0 a1).f0, wrap64 (((rd_T54 l0 a1).f1) + 1)⟩ : S54) (Kd.R_mono ge11_0 (fun _ h_ => Or.inl h_))) (fun _ hk => hk) (fun k_ hk_ => hk_.elim)
 have hx11_1 := hcc11 1 _ rfl
 (try simp only [show (k54).sz = 2 from rfl, Nat.mul_one, Nat.add_zero] at hx11_1)
 have hf11_1 := hfr11 1
 (try simp only [show (k54).sz = 2 from rfl, Nat.mul_one, Nat.add_zero] at hf11_1)
 clear hcl11 hcc11 hfr11 hM11 hoki11 hH11
 go_enter Try.func61, Try.ntmps61
 go_upto_if 27 with (first | ((with_reducible refine gate_store (t := 3) (p := 26) rfl ?_); refine store_event (t := 3) (p := 26) (v := ?vo_w12) (w1 := (w.setCell ⟨go8, (a1 : Int).toNat * 2 + 1, none⟩ (.int .i64 (wrap64 (((rd_T54 l0 a1).f1) + 1))))) ?hg ?ho ?hn ?hr ?_; (case ho => rfl); (case hg => rfl); (case hn => rfl); (case hr => first | (go_simp; done) | (go_simp; rfl)); intro w12 hw; have hg : w.grownBy w12 (some go8) := (by rw [hw]; exact HP11.2); have hp_ : Kd.S k54 54 w12 w0.heap.size (fun k_ => (P0_ k_ ∨ w.heap.size ≤ k_)) (.slice (some ⟨go8, 0, none⟩) l0.length co10) y125 := (by rw [hw, Ny125.out]; exact HP11.1); clear HP11; replace HL123_0 := am (Kd.R_after (v := (.slice (some ⟨go8, 0, none⟩) l0.length co10)) (v1 := (.slice (some ⟨go8, 0, none⟩) l0.length co10)) (ok := (fun k_ => (P0_ k_ ∨ w.heap.size ≤ k_))) (pr HL123_0.out) hg (.inl rfl)); replace HL124_0 := am (Kd.R_after (v := (.slice (some ⟨go8, 0, none⟩) l0.length co10)) (v1 := (.slice (some ⟨go8, 0, none⟩) l0.length co10)) (ok := (fun k_ => (P0_ k_ ∨ w.heap.size ≤ k_))) (pr HL124_0.out) hg (.inl rfl)); replace HB := am ((by rw [hw]; exact below_set (HB.out) GB8.out : Below w0.heap.size w0 w12)); replace HK := am (Kept.of_grown (S := (fun k_ => P0_ k_)) hg (pk HK.out) (fun k_ e_ => ((Kd.S_R HO0.out).1 k_ e_))); replace HO0 := am (hp_); clear hg hw hp_))
 (try simp only [Act.put, List.setIfInBounds_toArray, List.set_cons_zero, List.set_cons_succ])
 go_cut [8] (fun v8 wc => ∃ (kq : Nat) (x8_8 : Int), v8 = .int .i64 x8_8 ∧ Aside0 (spec_l2Wipe.j0 kq y125 a1 x8_8 = some (r1, r2)) ∧ Aside0 (kq ≤ k) ∧ Aside0 (Kd.S k54 54 wc w0.heap.size (fun k_ => (P0_ k_ ∨ w.heap.size ≤ k_)) (.slice (some ⟨go8, 0, none⟩) l0.length co10) y125) ∧ Aside0 (Kept w wc (fun k_ => P0_ k_)) ∧ Aside0 (Below w0.heap.size w0 wc))
 case first =>
  have H := HC9.out
  clear HC9
  by_cases c13 : a2 = true
  · subst c13
    rw [if_pos rfl] at H
    have H' := am H
    clear H
    go_wp2
    go_meet
    case rel => exact ⟨_, (2), rf, H', ⟨by first | omega | exact Nat.le_refl _⟩, ⟨ps HO0.out⟩, ⟨pk HK.out⟩, ⟨ph HB.out⟩⟩
  replace c13 := Bool.eq_false_iff.mpr c13
  subst c13
  rw [if_neg (show ¬ (false = true) by decide)] at H
  have H' := am H
  clear H
  go_wp2
  go_meet
  case rel => exact ⟨_, (0), rf, H', ⟨by first | omega | exact Nat.le_refl _⟩, ⟨ps HO0.out⟩, ⟨pk HK.out⟩, ⟨ph HB.out⟩⟩
 case rest =>
  clear HC9
  obtain ⟨kq, x8_8, rfl, HA, HJ8, HO_0, HK, HB⟩ := hcut
  have hl0_8 := (Kd.S_reads' HO_0.out).1
  rw [hl0_8] at HO_0
  (try simp only [hl0_8])
  cases kq with
  | zero => exact absurd HA.out (by simp [spec_l2Wipe.j0])
  | succ kj8 =>
   have H := HA.out
   clear HA
   simp only [spec_l2Wipe.j0] at H
   have H' := am H
   clear H
   go_wp2
   go_loopg [9] kj8 (fun kq v9 w' => ∃ (x0_2 : List (S54)) (x9_2 : Int), v9 = .int .i64 x9_2 ∧ Aside0 (spec_l2Wipe.l0 kq x0_2 a1 x8_8 x9_2 = some (r1, r2)) ∧ Aside0 (kq ≤ kj8) ∧ Aside0 (Kd.S k54 54 w' w0.heap.size (fun k_ => (P0_ k_ ∨ w.heap.size ≤ k_)) (.slice (some ⟨go8, 0, none⟩) y125.length co10) x0_2) ∧ Aside0 (Kept w w' (fun k_ => P0_ k_)) ∧ Aside0 (Below w0.heap.size w0 w'))
   case atStart => exact ⟨(y125), (0), rf, H', ⟨Nat.le_refl _⟩, ⟨by (try simp only [hl0_8]); (with_reducible repeat (first | apply Kd.S_alloc | apply Kd.S_drewN | apply Kd.S_drew)); exact HO_0.out⟩, ⟨pk HK.out⟩, ⟨ph HB.out⟩⟩
   case round =>
    clear H'
    obtain ⟨x0_2, x9_2, rfl, HA, HK2, HO_0, HK, HB⟩ := hrel
    have hl0_2 := (Kd.S_reads' HO_0.out).1
    rw [hl0_2] at HO_0
    (try simp only [hl0_2])
    cases gk with
    | zero => exact absurd HA.out (by simp [spec_l2Wipe.l0])
    | succ k2 =>
     have H := HA.out
     clear HA
     simp only [spec_l2Wipe.l0] at H
     by_cases c14 : x9_2 < 4
     rotate_left
     · rw [if_neg c14] at H
       have c14b0 := decide_eq_false c14
       clear c14
       simp only [Option.some.injEq, Prod.mk.injEq] at H
       obtain ⟨rfl, rfl⟩ := H
       go_wp2
       go_ret2
       exact ⟨_, rq ⟨ps HO_0.out, ph HB.out, pk HK.out⟩⟩
     rw [if_pos c14] at H
     have c14b0 := decide_eq_true c14
     clear c14
     obtain ⟨c15b0, H⟩ := ifd H
     obtain ⟨c16b0, H⟩ := ifd H
     obtain ⟨c17b0, H⟩ := ifd H
     obtain ⟨c18b0, H⟩ := ifd H
     obtain ⟨y127, hy127⟩ : ∃ y_ : List (S63), y_ = (((rd_T54 x0_2 a1).f0).set (x9_2 : Int).toNat (⟨x8_8, (⟨0, 0, 0, 0⟩ : S37)⟩ : S63)) := ⟨_, rfl⟩
     replace H : (spec_l2Wipe.l0 k2 (x0_2.set (a1 : Int).toNat (⟨y127, (rd_T54 x0_2 a1).f1⟩ : S54)) a1 x8_8 (wrap64 (x9_2 + 1))) = some (r1, r2) := yy hy127 H
     have Ny127 := am hy127
     clear hy127
     obtain ⟨y129, hy129⟩ : ∃ y_ : List (S54), y_ = (x0_2.set (a1 : Int).toNat (⟨y127, (rd_T54 x0_2 a1).f1⟩ : S54)) := ⟨_, rfl⟩
     replace H : (spec_l2Wipe.l0 k2 y129 a1 x8_8 (wrap64 (x9_2 + 1))) = some (r1, r2) := yy hy129 H
     have Ny129 := am hy129
     clear hy129
     have H' := am H
     clear H
     have p126 : 0 ≤ (a1 : Int) := ofb
     have q126 : a1 < (x0_2.length : Int) := ofb
     obtain ⟨ad126, A126_0, c126_0, e126, hx126_0, hx126_1, hl126_0, hi126_0⟩ := at_T54 (Kd.S_reads' HO_0.out).2.2 a1 p126 q126
     obtain rfl : (⟨go8, 0, none⟩ : Addr) = ad126 := (by injection e126)
     obtain ⟨ce126, hce126, hMe126, hcc126⟩ := Kd.S_get HO_0.out z54 a1 p126 (by first | exact q126 | exact ofb | (have e_ := (Kd.S_reads' HO_0.out).1; omega))
     obtain ⟨ve126_0, rfl, ge126_0⟩ := k54_openM hMe126
     have hv126_0 := hcc126 0 _ rfl
     rw [Nat.add_zero] at hv126_0
     replace hv126_0 := Option.some.inj (hv126_0.symm.trans hx126_0)
     rw [hv126_0] at ge126_0
     have HL126_0 := am (show Kd.R k63 63 _ _ _ _ ((rd_T54 x0_2 a1).f0) from ge126_0)
     clear hv126_0 ge126_0
     have HX126_0 := am hx126_0
     clear hcc126 hce126
     (first | simp only [add_plain] at hx126_0 | simp only [add_at] at hx126_0 | simp only [Addr.add, Nat.zero_add] at hx126_0 | skip)
     (first | simp only [add_plain] at hx126_1 | simp only [add_at] at hx126_1 | simp only [Addr.add, Nat.zero_add] at hx126_1 | skip)
     have HR126_0 := am hi126_0
     have HC126_0 := am hl126_0
     clear hi126_0 hl126_0
     replace p126 := eq_true p126
     replace q126 := eq_true q126
     have p19 : 0 ≤ (x9_2 : Int) := ofb
     have q19 : (x9_2 : Int) < ((((rd_T54 x0_2 a1).f0).length : Int) : Int) := ofb
     obtain ⟨go19, co19, eo19, gb19, gl19, cl19, HG19⟩ := Kd.R_form HL126_0.out (by omega)
     (first | cases eo19 | (injection eo19 with ea_ en_ ec_; (first | subst ea_ | (injection ea_ with ea_; subst ea_)); subst ec_; clear en_))
     have GB19 := am gb19
     have GG19 := am HG19
     clear gb19 gl19 HG19
     have HMgo19 := am (show (P0_ go19 ∨ w.heap.size ≤ go19) from (HL126_0.out.1 _ rfl).1)
     obtain ⟨ce19, hcl19, hM19, hcc19, hfr19⟩ := Kd.R_elem HL126_0.out z63 (x9_2 : Int) p19 q19
     obtain rfl := k63_openM hM19
     have hx19_0 : wr.cell? ⟨go19, (x9_2 : Int).toNat * 5, none⟩ = some (.int .i64 ((rd_T63 ((rd_T54 x0_2 a1).f0) x9_2).f0)) := hcc19 0 _ rfl
     have hx19_1 : wr.cell? ⟨go19, (x9_2 : Int).toNat * 5 + 1, none⟩ = some (.int .i64 ((rd_T63 ((rd_T54 x0_2 a1).f0) x9_2).f1.f0)) := hcc19 1 _ rfl
     have hx19_2 : wr.cell? ⟨go19, (x9_2 : Int).toNat * 5 + 2, none⟩ = some (.int .i64 ((rd_T63 ((rd_T54 x0_2 a1).f0) x9_2).f1.f1)) := hcc19 2 _ rfl
     have hx19_3 : wr.cell? ⟨go19, (x9_2 : Int).toNat * 5 + 3, none⟩ = some (.int .i64 ((rd_T63 ((rd_T54 x0_2 a1).f0) x9_2).f1.f2)) := hcc19 3 _ rfl
     have hx19_4 : wr.cell? ⟨go19, (x9_2 : Int).toNat * 5 + 4, none⟩ = some (.int .i64 ((rd_T63 ((rd_T54 x0_2 a1).f0) x9_2).f1.f3)) := hcc19 4 _ rfl
     have hf19_0 : wr.frozen? ⟨go19, (x9_2 : Int).toNat * 5, none⟩ = false := hfr19 0
     have hf19_1 : wr.frozen? ⟨go19, (x9_2 : Int).toNat * 5 + 1, none⟩ = false := hfr19 1
     have hf19_2 : wr.frozen? ⟨go19, (x9_2 : Int).toNat * 5 + 2, none⟩ = false := hfr19 2
     have hf19_3 : wr.frozen? ⟨go19, (x9_2 : Int).toNat * 5 + 3, none⟩ = false := hfr19 3
     have hf19_4 : wr.frozen? ⟨go19, (x9_2 : Int).toNat * 5 + 4, none⟩ = false := hfr19 4
     clear hcl19 hcc19 hfr19 hM19
     replace p19 := eq_true p19
     replace q19 := eq_true q19
     have hq20 : (a1 : Int) < (x0_2.length : Int) := (by have h_ : (a1 : Int) < ((x0_2.length : Int) : Int) := ofb; first | exact h_ | (have e_ := (Kd.S_reads' HO_0.out).1; omega) | simpa only [List.length_set, List.length_set] using h_)
     obtain ⟨oki20, ce20, hcl20, hM20, hcc20, hok20, hbk20⟩ := Kd.S_borrow HO_0.out z54 (a1 : Int) (ofb) hq20
     obtain ⟨ve20_0, rfl, ge20_0⟩ := k54_openM hM20
     have hv20 := hcc20 0 _ rfl
     rw [Nat.add_zero] at hv20
     replace hv20 := Option.some.inj (hv20.symm.trans HX126_0.out)
     subst hv20
     clear hcc20 hcl20
     replace ge20_0 := (show Kd.R k63 63 _ _ _ _ ((rd_T54 x0_2 a1).f0) from ge20_0)
     obtain ⟨cf20, hcl20, hN20, hcc20, hfr20⟩ := Kd.R_elem ge20_0 z63 (x9_2 : Int) (ofb) (by have h_ : (x9_2 : Int) < ((((rd_T54 x0_2 a1).f0).length : Int) : Int) := ofb; first | exact h_ | (have e_ := (Kd.R_reads' HR126_0.out).1; omega) | simpa using h_)
     obtain rfl := k63_openM hN20
     have HP20 := Kd.R_seg ge20_0 (x9_2 : Int) (ofb) (by have h_ : (x9_2 : Int) < ((((rd_T54 x0_2 a1).f0).length : Int) : Int) := ofb; first | exact h_ | (have e_ := (Kd.R_reads' HR126_0.out).1; omega) | simpa using h_) (seg := [.int .i64 x8_8, .int .i64 0, .int .i64 0, .int .i64 0, .int .i64 0]) (j := 0) hcl20 hcc20 (show 5 ≤ 5 from by decide) (x' := (⟨x8_8, (⟨0, 0, 0, 0⟩ : S37)⟩ : S63)) (k63_mkM _ _ _ (⟨x8_8, (⟨0, 0, 0, 0⟩ : S37)⟩ : S63)) (fun _ hk => hk)
     clear hcl20 hcc20 hfr20 hN20
     go_wp2_with (first | ((with_reducible refine gate_store (t := 63) (p := 40) rfl ?_); refine store_event (t := 63) (p := 40) (v := ?vo_w21) (w1 := (((((wr.setCell ⟨go19, (x9_2 : Int).toNat * 5, none⟩ (.int .i64 x8_8)).setCell ⟨go19, (x9_2 : Int).toNat * 5 + 1, none⟩ (.int .i64 0)).setCell ⟨go19, (x9_2 : Int).toNat * 5 + 2, none⟩ (.int .i64 0)).setCell ⟨go19, (x9_2 : Int).toNat * 5 + 3, none⟩ (.int .i64 0)).setCell ⟨go19, (x9_2 : Int).toNat * 5 + 4, none⟩ (.int .i64 0))) ?hg ?ho ?hn ?hr ?_; (case ho => rfl); (case hg => rfl); (case hn => rfl); (case hr => first | (go_simp; done) | (go_simp; rfl)); intro w21 hw; have hg : wr.grownBy w21 (some go19) := (by rw [hw]; exact HP20.2); have hz_ : Kd.R k63 63 w21 w0.heap.size oki20 (.slice (some ⟨go19, 0, none⟩) ((rd_T54 x0_2 a1).f0).length c126_0) y127 := (by rw [hw, Ny127.out]; exact HP20.1); have hp_ : Kd.S k54 54 w21 w0.heap.size (fun k_ => (P0_ k_ ∨ w.heap.size ≤ k_)) (.slice (some ⟨go8, 0, none⟩) x0_2.length co10) y129 := (by rw [Ny129.out]; exact hbk20 hg (fun k_ e_ => by injection e_ with e_; subst e_; exact ge20_0.1 _ rfl) (k54_mkM _ _ _ (⟨y127, (rd_T54 x0_2 a1).f1⟩ : S54) hz_)); have hm_ := Kd.R_mono hz_ hok20; clear HP20 hbk20; replace HO_0 := am (hp_); replace HB := am ((by rw [hw]; exact below_set (below_set (below_set (below_set (below_set (HB.out) GB19.out) GB19.out) GB19.out) GB19.out) GB19.out : Below w0.heap.size w0 w21)); replace HK := am (Kept.of_grown (S := (fun k_ => P0_ k_)) hg (pk HK.out) (fun k_ e_ => (HL126_0.out.1 k_ e_).1)); have HL130 := am (hm_); have HC128 := am ((Kd.R_reads' hm_).2.1); clear HL126_0; clear hg hw hp_ hz_ hm_ hok20))
     (try simp only [← hl0_2])
     go_roundg k2
     case measure => have := HJ8.out; have := HK2.out; omega
     case rel => exact ⟨(y129), (wrap64 (x9_2 + 1)), rf, H', ⟨by have := HJ8.out; have := HK2.out; omega⟩, ⟨by (try simp only [hl0_8]); (try simp only [hl0_2]); (with_reducible repeat (first | apply Kd.S_alloc | apply Kd.S_drewN | apply Kd.S_drew)); exact HO_0.out⟩, ⟨pk HK.out⟩, ⟨ph HB.out⟩⟩
def spec_l2Clean.l0 : Nat → Int → Int → List (S63) → Int → Option (Int)
 | 0, _, _, _, _ => none
 | k + 1, x3, x4, x132000, x132001 => if x4 < (x132000.length : Int) then (if 0 ≤ x4 then (if ((rd_T63 x132000 x4).f0) = 0 then (spec_l2Clean.l0 k (wrap64 (x3 + 1)) (wrap64 (x4 + 1)) x132000 x132001) else (spec_l2Clean.l0 k x3 (wrap64 (x4 + 1)) x132000 x132001)) else (none)) else (some x3)
def spec_l2Clean.f (k : Nat) (l0_0 : List (S63)) (a0_1 : Int) : Option (Int) := spec_l2Clean.l0 k 0 0 l0_0 a0_1
theorem spec_l2Clean.mono_l : ∀ k, (∀ y0 y1 y2 y3, LeO (spec_l2Clean.l0 k y0 y1 y2 y3) (spec_l2Clean.l0 (k + 1) y0 y1 y2 y3))
 | 0 => fun _ _ _ _ r h => by simp [spec_l2Clean.l0] at h
 | k + 1 => by
  have ih0 := spec_l2Clean.mono_l k
  · intro y0 y1 y2 y3
    unfold spec_l2Clean.l0
    with_reducible repeat' first | exact ih0 _ _ _ _ | exact LeO.refl _ | exact LeO.none _ | refine LeO.ite ?_ ?_ | refine LeO.bind ?_ (fun _ => ?_)
theorem spec_l2Clean.mono : ∀ a0 a1 k, LeO (spec_l2Clean.f k a0 a1) (spec_l2Clean.f (k + 1) a0 a1) := by
 intro a0 a1 k
 have ih0 := spec_l2Clean.mono_l k
 unfold spec_l2Clean.f
 with_reducible repeat' first | exact ih0 _ _ _ _ | exact LeO.refl _ | exact LeO.none _ | refine LeO.ite ?_ ?_ | refine LeO.bind ?_ (fun _ => ?_)
set_option maxHeartbeats 8000000 in
set_option maxRecDepth 100000 in
theorem spec_l2Clean.calls (k : Nat) (A0_0 : Option Addr) (c0_0 : Nat) (l0_0 : List (S63)) (a0_1 : Int) (r : Int) (w : World) (hr0_0 : Kd.C k63 w A0_0 l0_0.length l0_0) (hc0_0 : l0_0.length ≤ c0_0) (h : spec_l2Clean.f k l0_0 a0_1 = some r) :
 Calls Try.prog 39 #[.agg #[.slice A0_0 l0_0.length c0_0, .int .i64 a0_1]] w fun e w' => e = .returned (.int .i64 r) ∧ Below w.heap.size w w' := by
 have hu54 := Try.underlying54
 have HR0_0 := am hr0_0
 have HC0_0 := am hc0_0
 clear hr0_0 hc0_0
 have HB := am (Below.refl w.heap.size w)
 have H : (spec_l2Clean.l0 k 0 0 l0_0 a0_1) = some r := h
 clear h
 have H' := am H
 clear H
 go_enter Try.func39, Try.ntmps39
 go_wp2_with (first | (refine bx 1 #[.slice A0_0 l0_0.length c0_0, .int .i64 a0_1] 54 rfl ?_; intro gb131 hg w2 hbox hb; have BK131 := am (hbox); have GW131 := am (ge hg (ph HB.out)); have GE131 := GW131; replace HB := am (below_step (ph HB.out) hb); clear hb hbox hg))
 go_loopg [3, 4] k (fun kq v3 v4 w' => ∃ (x3_1 : Int) (x4_1 : Int), v3 = .int .i64 x3_1 ∧ v4 = .int .i64 x4_1 ∧ Aside0 (spec_l2Clean.l0 kq x3_1 x4_1 l0_0 a0_1 = some r) ∧ Aside0 (kq ≤ k) ∧ Aside0 (w'.heap[gb131]? = some (.cells #[(.slice A0_0 l0_0.length c0_0), .int .i64 a0_1] 54 (0, 0))) ∧ Aside0 (Below w.heap.size w w'))
 case atStart => exact ⟨(0), (0), rf, rf, H', ⟨Nat.le_refl _⟩, ⟨pb BK131.out⟩, ⟨bg1 HB.out GE131.out⟩⟩
 case round =>
  clear H'
  obtain ⟨x3_1, x4_1, rfl, rfl, HA, HK1, BK131, HB⟩ := hrel
  cases gk with
  | zero => exact absurd HA.out (by simp [spec_l2Clean.l0])
  | succ k1 =>
   have H := HA.out
   clear HA
   simp only [spec_l2Clean.l0] at H
   by_cases c3 : x4_1 < (l0_0.length : Int)
   rotate_left
   · rw [if_neg c3] at H
     have c3b0 := decide_eq_false c3
     clear c3
     obtain rfl := Option.some.inj H
     obtain ⟨hcz8_0, hcz8_1⟩ := b2 BK131.out
     obtain ⟨hfz8_0, hfz8_1⟩ := f2 BK131.out
     go_wp2
     go_ret
     exact (rq (bg1 HB.out GE131.out))
   rw [if_pos c3] at H
   have c3b0 := decide_eq_true c3
   clear c3
   obtain ⟨c4b0, H⟩ := ifd H
   by_cases c5 : ((rd_T63 l0_0 x4_1).f0) = 0
   rotate_left
   · rw [if_neg c5] at H
     have c5b0 : (((rd_T63 l0_0 x4_1).f0) == 0) = false := beq_eq_false_iff_ne.mpr c5
     have c5b1 : (((rd_T63 l0_0 x4_1).f0) != 0) = true := bne_iff_ne.mpr c5
     have H' := am H
     clear H
     obtain ⟨hcz7_0, hcz7_1⟩ := b2 BK131.out
     obtain ⟨hfz7_0, hfz7_1⟩ := f2 BK131.out
     have p132 : 0 ≤ (x4_1 : Int) := ofb
     have q132 : x4_1 < (l0_0.length : Int) := ofb
     obtain ⟨ad132, e132, hx132_0, hx132_1, hx132_2, hx132_3, hx132_4⟩ := at_T63 HR0_0.out x4_1 p132 q132
     cases e132
     replace hx132_0 := up HB.out hx132_0
     replace hx132_1 := up HB.out hx132_1
     replace hx132_2 := up HB.out hx132_2
     replace hx132_3 := up HB.out hx132_3
     replace hx132_4 := up HB.out hx132_4
     replace p132 := eq_true p132
     replace q132 := eq_true q132
     go_wp2
     go_roundg k1
     case measure => have := HK1.out; omega
     case rel => exact ⟨(x3_1), (wrap64 (x4_1 + 1)), rf, rf, H', ⟨by have := HK1.out; omega⟩, ⟨pb BK131.out⟩, ⟨bg1 HB.out GE131.out⟩⟩
   rw [if_pos c5] at H
   have c5b0 : (((rd_T63 l0_0 x4_1).f0) == 0) = true := beq_iff_eq.mpr c5
   have c5b1 : (((rd_T63 l0_0 x4_1).f0) != 0) = false := bne_eq_false_iff_eq.mpr c5
   clear c5
   have H' := am H
   clear H
   obtain ⟨hcz6_0, hcz6_1⟩ := b2 BK131.out
   obtain ⟨hfz6_0, hfz6_1⟩ := f2 BK131.out
   have p132 : 0 ≤ (x4_1 : Int) := ofb
   have q132 : x4_1 < (l0_0.length : Int) := ofb
   obtain ⟨ad132, e132, hx132_0, hx132_1, hx132_2, hx132_3, hx132_4⟩ := at_T63 HR0_0.out x4_1 p132 q132
   cases e132
   replace hx132_0 := up HB.out hx132_0
   replace hx132_1 := up HB.out hx132_1
   replace hx132_2 := up HB.out hx132_2
   replace hx132_3 := up HB.out hx132_3
   replace hx132_4 := up HB.out hx132_4
   replace p132 := eq_true p132
   replace q132 := eq_true q132
   go_wp2
   go_roundg k1
   case measure => have := HK1.out; omega
   case rel => exact ⟨(wrap64 (x3_1 + 1)), (wrap64 (x4_1 + 1)), rf, rf, H', ⟨by have := HK1.out; omega⟩, ⟨pb BK131.out⟩, ⟨bg1 HB.out GE131.out⟩⟩
mutual
def spec_l2Seq.l0 : Nat → List (S54) → Int → Int → Option (Bool)
 | 0, _, _, _ => none
 | k + 1, x0, x1, x5 => if x5 < (x0.length : Int) then (spec_l2Seq.l1 k x0 x1 x5 0) else (some false)
def spec_l2Seq.l1 : Nat → List (S54) → Int → Int → Int → Option (Bool)
 | 0, _, _, _, _ => none
 | k + 1, x0, x1, x5, x6 => if 0 ≤ x5 then (if x5 < (x0.length : Int) then (if x6 < (((rd_T54 x0 x5).f0).length : Int) then (if 0 ≤ x6 then (if ((rd_T63 ((rd_T54 x0 x5).f0) x6).f0) = 1 then (if ((rd_T63 ((rd_T54 x0 x5).f0) x6).f1.f1) = x1 then (some true) else (spec_l2Seq.l1 k x0 x1 x5 (wrap64 (x6 + 1)))) else (spec_l2Seq.l1 k x0 x1 x5 (wrap64 (x6 + 1)))) else (none)) else (spec_l2Seq.l0 k x0 x1 (wrap64 (x5 + 1)))) else (none)) else (none)
end
def spec_l2Seq.f (k : Nat) (l0 : List (S54)) (a1 : Int) : Option (Bool) := spec_l2Seq.l0 k l0 a1 0
theorem spec_l2Seq.mono_l : ∀ k, (∀ y0 y1 y2, LeO (spec_l2Seq.l0 k y0 y1 y2) (spec_l2Seq.l0 (k + 1) y0 y1 y2)) ∧ (∀ y0 y1 y2 y3, LeO (spec_l2Seq.l1 k y0 y1 y2 y3) (spec_l2Seq.l1 (k + 1) y0 y1 y2 y3))
 | 0 => ⟨fun _ _ _ r h => by simp [spec_l2Seq.l0] at h, fun _ _ _ _ r h => by simp [spec_l2Seq.l1] at h⟩
 | k + 1 => by
  obtain ⟨ih0, ih1⟩ := spec_l2Seq.mono_l k
  refine ⟨?_, ?_⟩
  · intro y0 y1 y2
    unfold spec_l2Seq.l0
    with_reducible repeat' first | exact ih0 _ _ _ | exact ih1 _ _ _ _ | exact LeO.refl _ | exact LeO.none _ | refine LeO.ite ?_ ?_ | refine LeO.bind ?_ (fun _ => ?_)
  · intro y0 y1 y2 y3
    unfold spec_l2Seq.l1
    with_reducible repeat' first | exact ih0 _ _ _ | exact ih1 _ _ _ _ | exact LeO.refl _ | exact LeO.none _ | refine LeO.ite ?_ ?_ | refine LeO.bind ?_ (fun _ => ?_)
theorem spec_l2Seq.mono : ∀ a0 a1 k, LeO (spec_l2Seq.f k a0 a1) (spec_l2Seq.f (k + 1) a0 a1) := by
 intro a0 a1 k
 obtain ⟨ih0, ih1⟩ := spec_l2Seq.mono_l k
 unfold spec_l2Seq.f
 with_reducible repeat' first | exact ih0 _ _ _ | exact ih1 _ _ _ _ | exact LeO.refl _ | exact LeO.none _ | refine LeO.ite ?_ ?_ | refine LeO.bind ?_ (fun _ => ?_)
set_option maxHeartbeats 8000000 in
set_option maxRecDepth 100000 in
theorem spec_l2Seq.calls (k : Nat) (A0 : Option Addr) (c0 : Nat) (l0 : List (S54)) (a1 : Int) (r : Bool) (w : World) (hr0 : Kd.C k54 w A0 l0.length l0) (hc0 : l0.length ≤ c0) (h : spec_l2Seq.f k l0 a1 = some r) :
 Calls Try.prog 65 #[.slice A0 l0.length c0, .int .i64 a1] w fun e w' => e = .returned (.bool r) ∧ Drawn0 w w' := by
 have HR0 := am hr0
 have HC0 := am hc0
 clear hr0 hc0
 have H : (spec_l2Seq.l0 k l0 a1 0) = some r := h
 clear h
 have H' := am H
 clear H
 go_enter Try.func65, Try.ntmps65
 go_wp2
 go_loopg [5] k (fun kq v5 w' => ∃ (x5_1 : Int), v5 = .int .i64 x5_1 ∧ Aside0 (spec_l2Seq.l0 kq l0 a1 x5_1 = some r) ∧ Aside0 (kq ≤ k) ∧ Drawn0 w w')
 case atStart => exact ⟨(0), rf, H', ⟨Nat.le_refl _⟩, by repeat (first | exact Drawn0.refl _ | apply Drawn0.step)⟩
 case round =>
  clear H'
  obtain ⟨x5_1, rfl, HA, HK1, ⟨m1, rfl⟩⟩ := hrel
  cases gk with
  | zero => exact absurd HA.out (by simp [spec_l2Seq.l0])
  | succ k1 =>
   have H := HA.out
   clear HA
   simp only [spec_l2Seq.l0] at H
   by_cases c3 : x5_1 < (l0.length : Int)
   rotate_left
   · rw [if_neg c3] at H
     have c3b0 := decide_eq_false c3
     clear c3
     obtain rfl := Option.some.inj H
     go_wp2
     go_ret
     exact ⟨by first | rfl | (simp; done) | (simp [*]; done), by repeat (first | exact Drawn0.refl _ | apply Drawn0.step)⟩
   rw [if_pos c3] at H
   have c3b0 := decide_eq_true c3
   clear c3
   have H' := am H
   clear H
   go_wp2
   go_loopg [6] k1 (fun kq v6 w' => ∃ (x6_2 : Int), v6 = .int .i64 x6_2 ∧ Aside0 (spec_l2Seq.l1 kq l0 a1 x5_1 x6_2 = some r) ∧ Aside0 (kq ≤ k1) ∧ Drawn0 w w')
   case atStart => exact ⟨(0), rf, H', ⟨Nat.le_refl _⟩, by repeat (first | exact Drawn0.refl _ | apply Drawn0.step)⟩
   case round =>
    clear H'
    obtain ⟨x6_2, rfl, HA, HK2, ⟨m2, rfl⟩⟩ := hrel
    cases gk with
    | zero => exact absurd HA.out (by simp [spec_l2Seq.l1])
    | succ k2 =>
     have H := HA.out
     clear HA
     simp only [spec_l2Seq.l1] at H
     obtain ⟨c4b0, H⟩ := ifd H
     obtain ⟨c5b0, H⟩ := ifd H
     by_cases c6 : x6_2 < (((rd_T54 l0 x5_1).f0).length : Int)
     rotate_left
     · rw [if_neg c6] at H
       have c6b0 := decide_eq_false c6
       clear c6
       have H' := am H
       clear H
       have p133 : 0 ≤ (x5_1 : Int) := ofb
       have q133 : x5_1 < (l0.length : Int) := ofb
       obtain ⟨ad133, A133_0, c133_0, e133, hx133_0, hx133_1, hl133_0, hi133_0⟩ := at_T54 HR0.out x5_1 p133 q133
       cases e133
       have HR133_0 := am hi133_0
       have HC133_0 := am hl133_0
       clear hi133_0 hl133_0
       replace p133 := eq_true p133
       replace q133 := eq_true q133
       go_wp2
       go_roundg k2
       case measure => have := HK1.out; have := HK2.out; omega
       case rel => exact ⟨(wrap64 (x5_1 + 1)), rf, H', ⟨by have := HK1.out; have := HK2.out; omega⟩, by repeat (first | exact Drawn0.refl _ | apply Drawn0.step)⟩
     rw [if_pos c6] at H
     have c6b0 := decide_eq_true c6
     clear c6
     obtain ⟨c7b0, H⟩ := ifd H
     by_cases c8 : ((rd_T63 ((rd_T54 l0 x5_1).f0) x6_2).f0) = 1
     rotate_left
     · rw [if_neg c8] at H
       have c8b0 : (((rd_T63 ((rd_T54 l0 x5_1).f0) x6_2).f0) == 1) = false := beq_eq_false_iff_ne.mpr c8
       have c8b1 : (((rd_T63 ((rd_T54 l0 x5_1).f0) x6_2).f0) != 1) = true := bne_iff_ne.mpr c8
       have H' := am H
       clear H
       have p133 : 0 ≤ (x5_1 : Int) := ofb
       have q133 : x5_1 < (l0.length : Int) := ofb
       obtain ⟨ad133, A133_0, c133_0, e133, hx133_0, hx133_1, hl133_0, hi133_0⟩ := at_T54 HR0.out x5_1 p133 q133
       cases e133
       have HR133_0 := am hi133_0
       have HC133_0 := am hl133_0
       clear hi133_0 hl133_0
       replace p133 := eq_true p133
       replace q133 := eq_true q133
       have p134 : 0 ≤ (x5_1 : Int) := ofb
       have q134 : x5_1 < (l0.length : Int) := ofb
       obtain ⟨ad134, A134_0, c134_0, e134, hx134_0, hx134_1, hl134_0, hi134_0⟩ := at_T54 HR0.out x5_1 p134 q134
       obtain rfl : ad133 = ad134 := (by injection e134)
       have HR134_0 := am hi134_0
       have HC134_0 := am hl134_0
       clear hi134_0 hl134_0
       replace p134 := eq_true p134
       replace q134 := eq_true q134
       have ea_ := Option.some.inj (hx133_0.symm.trans hx134_0)
       injection ea_ with ea_ en_ ec_
       subst ea_
       subst ec_
       clear en_
       have p135 : 0 ≤ (x6_2 : Int) := ofb
       have q135 : x6_2 < (((rd_T54 l0 x5_1).f0).length : Int) := ofb
       obtain ⟨ad135, e135, hx135_0, hx135_1, hx135_2, hx135_3, hx135_4⟩ := at_T63 HR134_0.out x6_2 p135 q135
       cases e135
       replace p135 := eq_true p135
       replace q135 := eq_true q135
       go_wp2
       go_roundg k2
       case measure => have := HK1.out; have := HK2.out; omega
       case rel => exact ⟨(wrap64 (x6_2 + 1)), rf, H', ⟨by have := HK1.out; have := HK2.out; omega⟩, by repeat (first | exact Drawn0.refl _ | apply Drawn0.step)⟩
     rw [if_pos c8] at H
     have c8b0 : (((rd_T63 ((rd_T54 l0 x5_1).f0) x6_2).f0) == 1) = true := beq_iff_eq.mpr c8
     have c8b1 : (((rd_T63 ((rd_T54 l0 x5_1).f0) x6_2).f0) != 1) = false := bne_eq_false_iff_eq.mpr c8
     clear c8
     by_cases c9 : ((rd_T63 ((rd_T54 l0 x5_1).f0) x6_2).f1.f1) = a1
     · rw [if_pos c9] at H
       have c9b0 : (((rd_T63 ((rd_T54 l0 x5_1).f0) x6_2).f1.f1) == a1) = true := beq_iff_eq.mpr c9
       have c9b1 : (((rd_T63 ((rd_T54 l0 x5_1).f0) x6_2).f1.f1) != a1) = false := bne_eq_false_iff_eq.mpr c9
       clear c9
       obtain rfl := Option.some.inj H
       have p133 : 0 ≤ (x5_1 : Int) := ofb
       have q133 : x5_1 < (l0.length : Int) := ofb
       obtain ⟨ad133, A133_0, c133_0, e133, hx133_0, hx133_1, hl133_0, hi133_0⟩ := at_T54 HR0.out x5_1 p133 q133
       cases e133
       have HR133_0 := am hi133_0
       have HC133_0 := am hl133_0
       clear hi133_0 hl133_0
       replace p133 := eq_true p133
       replace q133 := eq_true q133
       have p134 : 0 ≤ (x5_1 : Int) := ofb
       have q134 : x5_1 < (l0.length : Int) := ofb
       obtain ⟨ad134, A134_0, c134_0, e134, hx134_0, hx134_1, hl134_0, hi134_0⟩ := at_T54 HR0.out x5_1 p134 q134
       obtain rfl : ad133 = ad134 := (by injection e134)
       have HR134_0 := am hi134_0
       have HC134_0 := am hl134_0
       clear hi134_0 hl134_0
       replace p134 := eq_true p134
       replace q134 := eq_true q134
       have ea_ := Option.some.inj (hx133_0.symm.trans hx134_0)
       injection ea_ with ea_ en_ ec_
       subst ea_
       subst ec_
       clear en_
       have p135 : 0 ≤ (x6_2 : Int) := ofb
       have q135 : x6_2 < (((rd_T54 l0 x5_1).f0).length : Int) := ofb
       obtain ⟨ad135, e135, hx135_0, hx135_1, hx135_2, hx135_3, hx135_4⟩ := at_T63 HR134_0.out x6_2 p135 q135
       cases e135
       replace p135 := eq_true p135
       replace q135 := eq_true q135
       have p136 : 0 ≤ (x5_1 : Int) := ofb
       have q136 : x5_1 < (l0.length : Int) := ofb
       obtain ⟨ad136, A136_0, c136_0, e136, hx136_0, hx136_1, hl136_0, hi136_0⟩ := at_T54 HR0.out x5_1 p136 q136
       obtain rfl : ad133 = ad136 := (by injection e136)
       have HR136_0 := am hi136_0
       have HC136_0 := am hl136_0
       clear hi136_0 hl136_0
       replace p136 := eq_true p136
       replace q136 := eq_true q136
       have ea_ := Option.some.inj (hx133_0.symm.trans hx136_0)
       injection ea_ with ea_ en_ ec_
       subst ea_
       subst ec_
       clear en_
       have p137 : 0 ≤ (x6_2 : Int) := ofb
       have q137 : x6_2 < (((rd_T54 l0 x5_1).f0).length : Int) := ofb
       obtain ⟨ad137, e137, hx137_0, hx137_1, hx137_2, hx137_3, hx137_4⟩ := at_T63 HR136_0.out x6_2 p137 q137
       cases e137
       replace p137 := eq_true p137
       replace q137 := eq_true q137
       go_wp2
       go_ret
       exact ⟨by first | rfl | (simp; done) | (simp [*]; done), by repeat (first | exact Drawn0.refl _ | apply Drawn0.step)⟩
     rw [if_neg c9] at H
     have c9b0 : (((rd_T63 ((rd_T54 l0 x5_1).f0) x6_2).f1.f1) == a1) = false := beq_eq_false_iff_ne.mpr c9
     have c9b1 : (((rd_T63 ((rd_T54 l0 x5_1).f0) x6_2).f1.f1) != a1) = true := bne_iff_ne.mpr c9
     have H' := am H
     clear H
     have p133 : 0 ≤ (x5_1 : Int) := ofb
     have q133 : x5_1 < (l0.length : Int) := ofb
     obtain ⟨ad133, A133_0, c133_0, e133, hx133_0, hx133_1, hl133_0, hi133_0⟩ := at_T54 HR0.out x5_1 p133 q133
     cases e133
     have HR133_0 := am hi133_0
     have HC133_0 := am hl133_0
     clear hi133_0 hl133_0
     replace p133 := eq_true p133
     replace q133 := eq_true q133
     have p134 : 0 ≤ (x5_1 : Int) := ofb
     have q134 : x5_1 < (l0.length : Int) := ofb
     obtain ⟨ad134, A134_0, c134_0, e134, hx134_0, hx134_1, hl134_0, hi134_0⟩ := at_T54 HR0.out x5_1 p134 q134
     obtain rfl : ad133 = ad134 := (by injection e134)
     have HR134_0 := am hi134_0
     have HC134_0 := am hl134_0
     clear hi134_0 hl134_0
     replace p134 := eq_true p134
     replace q134 := eq_true q134
     have ea_ := Option.some.inj (hx133_0.symm.trans hx134_0)
     injection ea_ with ea_ en_ ec_
     subst ea_
     subst ec_
     clear en_
     have p135 : 0 ≤ (x6_2 : Int) := ofb
     have q135 : x6_2 < (((rd_T54 l0 x5_1).f0).length : Int) := ofb
     obtain ⟨ad135, e135, hx135_0, hx135_1, hx135_2, hx135_3, hx135_4⟩ := at_T63 HR134_0.out x6_2 p135 q135
     cases e135
     replace p135 := eq_true p135
     replace q135 := eq_true q135
     have p136 : 0 ≤ (x5_1 : Int) := ofb
     have q136 : x5_1 < (l0.length : Int) := ofb
     obtain ⟨ad136, A136_0, c136_0, e136, hx136_0, hx136_1, hl136_0, hi136_0⟩ := at_T54 HR0.out x5_1 p136 q136
     obtain rfl : ad133 = ad136 := (by injection e136)
     have HR136_0 := am hi136_0
     have HC136_0 := am hl136_0
     clear hi136_0 hl136_0
     replace p136 := eq_true p136
     replace q136 := eq_true q136
     have ea_ := Option.some.inj (hx133_0.symm.trans hx136_0)
     injection ea_ with ea_ en_ ec_
     subst ea_
     subst ec_
     clear en_
     have p137 : 0 ≤ (x6_2 : Int) := ofb
     have q137 : x6_2 < (((rd_T54 l0 x5_1).f0).length : Int) := ofb
     obtain ⟨ad137, e137, hx137_0, hx137_1, hx137_2, hx137_3, hx137_4⟩ := at_T63 HR136_0.out x6_2 p137 q137
     cases e137
     replace p137 := eq_true p137
     replace q137 := eq_true q137
     go_wp2
     go_roundg k2
     case measure => have := HK1.out; have := HK2.out; omega
     case rel => exact ⟨(wrap64 (x6_2 + 1)), rf, H', ⟨by have := HK1.out; have := HK2.out; omega⟩, by repeat (first | exact Drawn0.refl _ | apply Drawn0.step)⟩
end Go.Proofs.Ytghmnlcmhpdcaaa.R5
