-- printed by wip/pp/pp.py
import Derived.Test.YthmgdljblidgjaaRw0
import Derived.Test.YthmgdljblidgjaaRw1
namespace Go.Proofs.Ythmgdljblidgjaa.Rw
open Go.RowKit Go.Proofs.YthmgdljblidgjaaW.PrintWords Go.Proofs.YthmgdljblidgjaaW.PrintLast Go.Proofs.YthmgdljblidgjaaW.PrintMore
attribute [local go_sem] max2_int min2_int max_two min_two max_three min_three max_four min_four
set_option linter.unusedVariables false
set_option linter.unusedSimpArgs false
mutual
def spec_l2Wipe.j0 : Nat → List (S36) → Int → Int → Option ((List (S36)) × Bool)
 | 0, _, _, _ => none
 | k + 1, x0, x1, x8 => spec_l2Wipe.l0 k x0 x1 x8 0
def spec_l2Wipe.l0 : Nat → List (S36) → Int → Int → Int → Option ((List (S36)) × Bool)
 | 0, _, _, _, _ => none
 | k + 1, x0, x1, x8, x9 => if x9 < 4 then (if 0 ≤ x1 then (if x1 < (x0.length : Int) then (if 0 ≤ x9 then (if x9 < (((rd_T36 x0 x1).f0).length : Int) then (spec_l2Wipe.l0 k (x0.set (x1 : Int).toNat (⟨(((rd_T36 x0 x1).f0).set (x9 : Int).toNat (⟨x8, (⟨0, 0, 0, 0⟩ : S25)⟩ : S33)), (rd_T36 x0 x1).f1⟩ : S36)) x1 x8 (wrap64 (x9 + 1))) else (none)) else (none)) else (none)) else (none)) else (some (x0, true))
end
def spec_l2Wipe.f (k : Nat) (l0 : List (S36)) (a1 : Int) (a2 : Bool) : Option ((List (S36)) × Bool) := if 0 ≤ a1 then (if a1 < (l0.length : Int) then (if ((rd_T36 l0 a1).f1) ≥ 200 then (some (l0, false)) else ((some (l0.set (a1 : Int).toNat (⟨(rd_T36 l0 a1).f0, wrap64 (((rd_T36 l0 a1).f1) + 1)⟩ : S36) : List (S36))).bind fun y145 => (if a2 = true then (spec_l2Wipe.j0 k y145 a1 2) else (spec_l2Wipe.j0 k y145 a1 0)))) else (none)) else (none)
theorem spec_l2Wipe.mono_l : ∀ k, (∀ y0 y1 y2, LeO (spec_l2Wipe.j0 k y0 y1 y2) (spec_l2Wipe.j0 (k + 1) y0 y1 y2)) ∧ (∀ y0 y1 y2 y3, LeO (spec_l2Wipe.l0 k y0 y1 y2 y3) (spec_l2Wipe.l0 (k + 1) y0 y1 y2 y3))
 | 0 => ⟨fun _ _ _ r h => by simp [spec_l2Wipe.j0] at h, fun _ _ _ _ r h => by simp [spec_l2Wipe.l0] at h⟩
 | k + 1 => by
  obtain ⟨ih0, ih1⟩ := spec_l2Wipe.mono_l k
  refine ⟨?_, ?_⟩
  · intro y0 y1 y2
    unfold spec_l2Wipe.j0
    with_reducible repeat' first | exact ih0 _ _ _ | exact ih1 _ _ _ _ | exact LeO.refl _ | exact LeO.none _ | refine LeO.ite ?_ ?_ | refine LeO.bind ?_ (fun _ => ?_)
  · intro y0 y1 y2 y3
    unfold spec_l2Wipe.l0
    with_reducible repeat' first | exact ih0 _ _ _ | exact ih1 _ _ _ _ | exact LeO.refl _ | exact LeO.none _ | refine LeO.ite ?_ ?_ | refine LeO.bind ?_ (fun _ => ?_)
theorem spec_l2Wipe.mono : ∀ a0 a1 a2 k, LeO (spec_l2Wipe.f k a0 a1 a2) (spec_l2Wipe.f (k + 1) a0 a1 a2) := by
 intro a0 a1 a2 k
 obtain ⟨ih0, ih1⟩ := spec_l2Wipe.mono_l k
 unfold spec_l2Wipe.f
 with_reducible repeat' first | exact ih0 _ _ _ | exact ih1 _ _ _ _ | exact LeO.refl _ | exact LeO.none _ | refine LeO.ite ?_ ?_ | refine LeO.bind ?_ (fun _ => ?_)
set_option maxHeartbeats 8000000 in
set_option maxRecDepth 100000 in
theorem spec_l2Wipe.calls (k : Nat) (P0_ : Nat → Prop) (u9000_ : Value) (l0 : List (S36)) (a1 : Int) (a2 : Bool) (r1 : List (S36)) (r2 : Bool) (w0 w : World) (hB : Below w0.heap.size w0 w) (ho0 : Kd.S k36 36 w w0.heap.size P0_ u9000_ l0) (h : spec_l2Wipe.f k l0 a1 a2 = some (r1, r2)) :
 Calls Try.prog 53 #[u9000_, .int .i64 a1, .bool a2] w fun e w' => ∃ v0_ : Value, e = .returned (.tuple #[v0_, .bool r2]) ∧ Kd.S k36 36 w' w0.heap.size (fun k_ => (P0_ k_ ∨ w.heap.size ≤ k_)) v0_ r1 ∧ Below w0.heap.size w0 w' ∧ Kept w w' (fun k_ => P0_ k_) := by
 have hu33 := Try.underlying33
 have HO0 := am (show Kd.S k36 36 w w0.heap.size (fun k_ => (P0_ k_ ∨ w.heap.size ≤ k_)) u9000_ l0 from Kd.S_mono ho0 (fun k_ hk => (.inl hk)))
 have HK := am (Kept.refl w (fun k_ => P0_ k_))
 have HW0 := am hB.size
 have HB := am hB
 clear hB
 have H : (if 0 ≤ a1 then (if a1 < (l0.length : Int) then (if ((rd_T36 l0 a1).f1) ≥ 200 then (some (l0, false)) else ((some (l0.set (a1 : Int).toNat (⟨(rd_T36 l0 a1).f0, wrap64 (((rd_T36 l0 a1).f1) + 1)⟩ : S36) : List (S36))).bind fun y145 => (if a2 = true then (spec_l2Wipe.j0 k y145 a1 2) else (spec_l2Wipe.j0 k y145 a1 0)))) else (none)) else (none)) = some (r1, r2) := h
 clear h
 obtain ⟨c4b0, H⟩ := ifd H
 obtain ⟨c5b0, H⟩ := ifd H
 by_cases c6 : ((rd_T36 l0 a1).f1) ≥ 200
 · rw [if_pos c6] at H
   have c6b0 := decide_eq_true c6
   clear c6
   simp only [Option.some.injEq, Prod.mk.injEq] at H
   obtain ⟨rfl, rfl⟩ := H
   obtain ⟨Ao7, co7, eo7⟩ := Kd.S_slice HO0.out
   subst eo7
   have p143 : 0 ≤ (a1 : Int) := ofb
   have q143 : a1 < (l0.length : Int) := ofb
   obtain ⟨ad143, A143_0, c143_0, e143, hx143_0, hx143_1, hl143_0, hi143_0⟩ := at_T36 (Kd.S_reads' HO0.out).2.2 a1 p143 q143
   cases e143
   obtain ⟨ce143, hce143, hMe143, hcc143⟩ := Kd.S_get HO0.out z36 a1 p143 (by first | exact q143 | exact ofb | (have e_ := (Kd.S_reads' HO0.out).1; omega))
   obtain ⟨ve143_0, rfl, ge143_0⟩ := k36_openM hMe143
   have hv143_0 := hcc143 0 _ rfl
   rw [Nat.add_zero] at hv143_0
   replace hv143_0 := Option.some.inj (hv143_0.symm.trans hx143_0)
   rw [hv143_0] at ge143_0
   have HL143_0 := am (show Kd.R k33 33 _ _ _ _ ((rd_T36 l0 a1).f0) from ge143_0)
   clear hv143_0 ge143_0
   have HX143_0 := am hx143_0
   clear hcc143 hce143
   have HR143_0 := am hi143_0
   have HC143_0 := am hl143_0
   clear hi143_0 hl143_0
   replace p143 := eq_true p143
   replace q143 := eq_true q143
   go_enter Try.func53, Try.ntmps53
   go_wp2
   go_ret2
   exact ⟨_, rq ⟨ps HO0.out, ph HB.out, pk HK.out⟩⟩
 rw [if_neg c6] at H
 have c6b0 := decide_eq_false c6
 clear c6
 obtain ⟨y145, hy145⟩ : ∃ y_ : List (S36), y_ = (l0.set (a1 : Int).toNat (⟨(rd_T36 l0 a1).f0, wrap64 (((rd_T36 l0 a1).f1) + 1)⟩ : S36)) := ⟨_, rfl⟩
 replace H : (if a2 = true then (spec_l2Wipe.j0 k y145 a1 2) else (spec_l2Wipe.j0 k y145 a1 0)) = some (r1, r2) := yy hy145 H
 have Ny145 := am hy145
 clear hy145
 have HC9 := am H
 clear H
 obtain ⟨Ao10, co10, eo10⟩ := Kd.S_slice HO0.out
 subst eo10
 have p143 : 0 ≤ (a1 : Int) := ofb
 have q143 : a1 < (l0.length : Int) := ofb
 obtain ⟨ad143, A143_0, c143_0, e143, hx143_0, hx143_1, hl143_0, hi143_0⟩ := at_T36 (Kd.S_reads' HO0.out).2.2 a1 p143 q143
 cases e143
 obtain ⟨ce143, hce143, hMe143, hcc143⟩ := Kd.S_get HO0.out z36 a1 p143 (by first | exact q143 | exact ofb | (have e_ := (Kd.S_reads' HO0.out).1; omega))
 obtain ⟨ve143_0, rfl, ge143_0⟩ := k36_openM hMe143
 have hv143_0 := hcc143 0 _ rfl
 rw [Nat.add_zero] at hv143_0
 replace hv143_0 := Option.some.inj (hv143_0.symm.trans hx143_0)
 rw [hv143_0] at ge143_0
 have HL143_0 := am (show Kd.R k33 33 _ _ _ _ ((rd_T36 l0 a1).f0) from ge143_0)
 clear hv143_0 ge143_0
 have HX143_0 := am hx143_0
 clear hcc143 hce143
 have HR143_0 := am hi143_0
 have HC143_0 := am hl143_0
 clear hi143_0 hl143_0
 replace p143 := eq_true p143
 replace q143 := eq_true q143
 have p144 : 0 ≤ (a1 : Int) := ofb
 have q144 : a1 < (l0.length : Int) := ofb
 obtain ⟨ad144, A144_0, c144_0, e144, hx144_0, hx144_1, hl144_0, hi144_0⟩ := at_T36 (Kd.S_reads' HO0.out).2.2 a1 p144 q144
 obtain rfl : ad143 = ad144 := (by injection e144)
 obtain ⟨ce144, hce144, hMe144, hcc144⟩ := Kd.S_get HO0.out z36 a1 p144 (by first | exact q144 | exact ofb | (have e_ := (Kd.S_reads' HO0.out).1; omega))
 obtain ⟨ve144_0, rfl, ge144_0⟩ := k36_openM hMe144
 have hv144_0 := hcc144 0 _ rfl
 rw [Nat.add_zero] at hv144_0
 replace hv144_0 := Option.some.inj (hv144_0.symm.trans hx144_0)
 rw [hv144_0] at ge144_0
 have HL144_0 := am (show Kd.R k33 33 _ _ _ _ ((rd_T36 l0 a1).f0) from ge144_0)
 clear hv144_0 ge144_0
 have HX144_0 := am hx144_0
 clear hcc144 hce144
 have HR144_0 := am hi144_0
 have HC144_0 := am hl144_0
 clear hi144_0 hl144_0
 replace p144 := eq_true p144
 replace q144 := eq_true q144
 have ea_ := Option.some.inj (hx143_0.symm.trans hx144_0)
 injection ea_ with ea_ en_ ec_
 subst ea_
 subst ec_
 clear en_
 have p8 : 0 ≤ (a1 : Int) := ofb
 have q8 : (a1 : Int) < ((l0.length : Int) : Int) := ofb
 obtain ⟨go8, co8, eo8, gb8, gl8, cl8, HG8⟩ := Kd.S_form HO0.out (by omega)
 (first | cases eo8 | (injection eo8 with ea_ en_ ec_; (first | subst ea_ | (injection ea_ with ea_; subst ea_)); subst ec_; clear en_))
 have GB8 := am gb8
 have GG8 := am HG8
 clear gb8 gl8 HG8
 have HMgo8 := am (show (P0_ go8 ∨ w.heap.size ≤ go8) from ((Kd.S_R HO0.out).1 _ rfl))
 (first | simp only [add_plain] at hx143_0 | skip)
 (first | simp only [add_plain] at hx143_1 | skip)
 (first | simp only [add_plain] at hx144_0 | skip)
 (first | simp only [add_plain] at hx144_1 | skip)
 obtain ⟨_, ce8, hcl8, hM8, hcc8, hfr8, _, _⟩ := Kd.S_elem HO0.out z36 (a1 : Int) p8 q8
 obtain ⟨ve8_0, rfl, ge8_0⟩ := k36_openM hM8
 have hx8_0 : w.cell? ⟨go8, (a1 : Int).toNat * 2, none⟩ = some (ve8_0) := hcc8 0 _ rfl
 have hx8_1 : w.cell? ⟨go8, (a1 : Int).toNat * 2 + 1, none⟩ = some (.int .i64 ((rd_T36 l0 a1).f1)) := hcc8 1 _ rfl
 have hf8_0 : w.frozen? ⟨go8, (a1 : Int).toNat * 2, none⟩ = false := hfr8 0
 have hf8_1 : w.frozen? ⟨go8, (a1 : Int).toNat * 2 + 1, none⟩ = false := hfr8 1
 clear hcl8 hcc8 hfr8 hM8
 replace p8 := eq_true p8
 replace q8 := eq_true q8
 have HX11 := am (show Kd.S k36 36 w w0.heap.size (fun k_ => ((fun k_ => (P0_ k_ ∨ w.heap.size ≤ k_))) k_ ∧ ¬ ((fun _ => False)) k_) (.slice (some ⟨go8, 0, none⟩) l0.length co10) l0 from (ps (Kd.S_mono HO0.out (fun k_ hk => ⟨hk, fun e_ => e_⟩))))
 obtain ⟨oki11, ce11, hcl11, hM11, hcc11, hfr11, hoki11, hH11⟩ := Kd.S_elem HX11.out z36 (a1 : Int) (ofb) (by have h_ : (a1 : Int) < ((l0.length : Int) : Int) := ofb; first | exact h_ | (have e_ := (Kd.S_reads' HO0.out).1; omega) | simpa using h_)
 obtain ⟨ve11_0, rfl, ge11_0⟩ := k36_openM hM11
 have HP11 := Kd.S_seg hH11 (ofb) (by have h_ : (a1 : Int) < ((l0.length : Int) : Int) := ofb; first | exact h_ | (have e_ := (Kd.S_reads' HO0.out).1; omega) | simpa using h_) (seg := [.int .i64 (wrap64 (((rd_T36 l0 a1).f1) + 1))]) (j := 1) (show 2 ≤ 2 from by decide) (x' := (⟨(rd_T36 l0 a1).f0, wrap64 (((rd_T36 l0 a1).f1) + 1)⟩ : S36)) (k36_mkM _ _ _ (⟨(rd_T36 l0 a1).f0, wrap64 (((rd_T36 l0 a1).f1) + 1)⟩ : S36) (Kd.R_mono ge11_0 (fun _ h_ => Or.inl h_))) (fun _ hk => hk) (fun k_ hk_ => hk_.elim)
 have hx11_1 := hcc11 1 _ rfl
 (try simp only [show (k36).sz = 2 from rfl, Nat.mul_one, Nat.add_zero] at hx11_1)
 have hf11_1 := hfr11 1
 (try simp only [show (k36).sz = 2 from rfl, Nat.mul_one, Nat.add_zero] at hf11_1)
 clear hcl11 hcc11 hfr11 hM11 hoki11 hH11
 go_enter Try.func53, Try.ntmps53
 go_upto_if 27 with (first | ((with_reducible refine gate_store (t := 3) (p := 26) rfl ?_); refine store_event (t := 3) (p := 26) (v := ?vo_w12) (w1 := (w.setCell ⟨go8, (a1 : Int).toNat * 2 + 1, none⟩ (.int .i64 (wrap64 (((rd_T36 l0 a1).f1) + 1))))) ?hg ?ho ?hn ?hr ?_; (case ho => rfl); (case hg => rfl); (case hn => rfl); (case hr => first | (go_simp; done) | (go_simp; rfl)); intro w12 hw; have hg : w.grownBy w12 (some go8) := (by rw [hw]; exact HP11.2); have hp_ : Kd.S k36 36 w12 w0.heap.size (fun k_ => (P0_ k_ ∨ w.heap.size ≤ k_)) (.slice (some ⟨go8, 0, none⟩) l0.length co10) y145 := (by rw [hw, Ny145.out]; exact HP11.1); clear HP11; replace HL143_0 := am (Kd.R_after (v := (.slice (some ⟨go8, 0, none⟩) l0.length co10)) (v1 := (.slice (some ⟨go8, 0, none⟩) l0.length co10)) (ok := (fun k_ => (P0_ k_ ∨ w.heap.size ≤ k_))) (pr HL143_0.out) hg (.inl rfl)); replace HL144_0 := am (Kd.R_after (v := (.slice (some ⟨go8, 0, none⟩) l0.length co10)) (v1 := (.slice (some ⟨go8, 0, none⟩) l0.length co10)) (ok := (fun k_ => (P0_ k_ ∨ w.heap.size ≤ k_))) (pr HL144_0.out) hg (.inl rfl)); replace HB := am ((by rw [hw]; exact below_set (HB.out) GB8.out : Below w0.heap.size w0 w12)); replace HK := am (Kept.of_grown (S := (fun k_ => P0_ k_)) hg (pk HK.out) (fun k_ e_ => ((Kd.S_R HO0.out).1 k_ e_))); replace HO0 := am (hp_); clear hg hw hp_))
 (try simp only [Act.put, List.setIfInBounds_toArray, List.set_cons_zero, List.set_cons_succ])
 go_cut [8] (fun v8 wc => ∃ (kq : Nat) (x8_8 : Int), v8 = .int .i64 x8_8 ∧ Aside0 (spec_l2Wipe.j0 kq y145 a1 x8_8 = some (r1, r2)) ∧ Aside0 (kq ≤ k) ∧ Aside0 (Kd.S k36 36 wc w0.heap.size (fun k_ => (P0_ k_ ∨ w.heap.size ≤ k_)) (.slice (some ⟨go8, 0, none⟩) l0.length co10) y145) ∧ Aside0 (Kept w wc (fun k_ => P0_ k_)) ∧ Aside0 (Below w0.heap.size w0 wc))
 case first =>
  have H := HC9.out
  clear HC9
  by_cases c13 : a2 = true
  · subst c13
    rw [if_pos rfl] at H
    have H' := am H
    clear H
    go_wp2
    go_meet
    case rel => exact ⟨_, (2), rf, H', ⟨by first | omega | exact Nat.le_refl _⟩, ⟨ps HO0.out⟩, ⟨pk HK.out⟩, ⟨ph HB.out⟩⟩
  replace c13 := Bool.eq_false_iff.mpr c13
  subst c13
  rw [if_neg (show ¬ (false = true) by decide)] at H
  have H' := am H
  clear H
  go_wp2
  go_meet
  case rel => exact ⟨_, (0), rf, H', ⟨by first | omega | exact Nat.le_refl _⟩, ⟨ps HO0.out⟩, ⟨pk HK.out⟩, ⟨ph HB.out⟩⟩
 case rest =>
  clear HC9
  obtain ⟨kq, x8_8, rfl, HA, HJ8, HO_0, HK, HB⟩ := hcut
  have hl0_8 := (Kd.S_reads' HO_0.out).1
  rw [hl0_8] at HO_0
  (try simp only [hl0_8])
  cases kq with
  | zero => exact absurd HA.out (by simp [spec_l2Wipe.j0])
  | succ kj8 =>
   have H := HA.out
   clear HA
   simp only [spec_l2Wipe.j0] at H
   have H' := am H
   clear H
   go_wp2
   go_loopg [9] kj8 (fun kq v9 w' => ∃ (x0_2 : List (S36)) (x9_2 : Int), v9 = .int .i64 x9_2 ∧ Aside0 (spec_l2Wipe.l0 kq x0_2 a1 x8_8 x9_2 = some (r1, r2)) ∧ Aside0 (kq ≤ kj8) ∧ Aside0 (Kd.S k36 36 w' w0.heap.size (fun k_ => (P0_ k_ ∨ w.heap.size ≤ k_)) (.slice (some ⟨go8, 0, none⟩) y145.length co10) x0_2) ∧ Aside0 (Kept w w' (fun k_ => P0_ k_)) ∧ Aside0 (Below w0.heap.size w0 w'))
   case atStart => exact ⟨(y145), (0), rf, H', ⟨Nat.le_refl _⟩, ⟨by (try simp only [hl0_8]); (with_reducible repeat (first | apply Kd.S_alloc | apply Kd.S_drewN | apply Kd.S_drew)); exact HO_0.out⟩, ⟨pk HK.out⟩, ⟨ph HB.out⟩⟩
   case round =>
    clear H'
    obtain ⟨x0_2, x9_2, rfl, HA, HK2, HO_0, HK, HB⟩ := hrel
    have hl0_2 := (Kd.S_reads' HO_0.out).1
    rw [hl0_2] at HO_0
    (try simp only [hl0_2])
    cases gk with
    | zero => exact absurd HA.out (by simp [spec_l2Wipe.l0])
    | succ k2 =>
     have H := HA.out
     clear HA
     simp only [spec_l2Wipe.l0] at H
     by_cases c14 : x9_2 < 4
     rotate_left
     · rw [if_neg c14] at H
       have c14b0 := decide_eq_false c14
       clear c14
       simp only [Option.some.injEq, Prod.mk.injEq] at H
       obtain ⟨rfl, rfl⟩ := H
       go_wp2
       go_ret2
       exact ⟨_, rq ⟨ps HO_0.out, ph HB.out, pk HK.out⟩⟩
     rw [if_pos c14] at H
     have c14b0 := decide_eq_true c14
     clear c14
     obtain ⟨c15b0, H⟩ := ifd H
     obtain ⟨c16b0, H⟩ := ifd H
     obtain ⟨c17b0, H⟩ := ifd H
     obtain ⟨c18b0, H⟩ := ifd H
     obtain ⟨y147, hy147⟩ : ∃ y_ : List (S33), y_ = (((rd_T36 x0_2 a1).f0).set (x9_2 : Int).toNat (⟨x8_8, (⟨0, 0, 0, 0⟩ : S25)⟩ : S33)) := ⟨_, rfl⟩
     replace H : (spec_l2Wipe.l0 k2 (x0_2.set (a1 : Int).toNat (⟨y147, (rd_T36 x0_2 a1).f1⟩ : S36)) a1 x8_8 (wrap64 (x9_2 + 1))) = some (r1, r2) := yy hy147 H
     have Ny147 := am hy147
     clear hy147
     obtain ⟨y149, hy149⟩ : ∃ y_ : List (S36), y_ = (x0_2.set (a1 : Int).toNat (⟨y147, (rd_T36 x0_2 a1).f1⟩ : S36)) := ⟨_, rfl⟩
     replace H : (spec_l2Wipe.l0 k2 y149 a1 x8_8 (wrap64 (x9_2 + 1))) = some (r1, r2) := yy hy149 H
     have Ny149 := am hy149
     clear hy149
     have H' := am H
     clear H
     have p146 : 0 ≤ (a1 : Int) := ofb
     have q146 : a1 < (x0_2.length : Int) := ofb
     obtain ⟨ad146, A146_0, c146_0, e146, hx146_0, hx146_1, hl146_0, hi146_0⟩ := at_T36 (Kd.S_reads' HO_0.out).2.2 a1 p146 q146
     obtain rfl : (⟨go8, 0, none⟩ : Addr) = ad146 := (by injection e146)
     obtain ⟨ce146, hce146, hMe146, hcc146⟩ := Kd.S_get HO_0.out z36 a1 p146 (by first | exact q146 | exact ofb | (have e_ := (Kd.S_reads' HO_0.out).1; omega))
     obtain ⟨ve146_0, rfl, ge146_0⟩ := k36_openM hMe146
     have hv146_0 := hcc146 0 _ rfl
     rw [Nat.add_zero] at hv146_0
     replace hv146_0 := Option.some.inj (hv146_0.symm.trans hx146_0)
     rw [hv146_0] at ge146_0
     have HL146_0 := am (show Kd.R k33 33 _ _ _ _ ((rd_T36 x0_2 a1).f0) from ge146_0)
     clear hv146_0 ge146_0
     have HX146_0 := am hx146_0
     clear hcc146 hce146
     (first | simp only [add_plain] at hx146_0 | simp only [add_at] at hx146_0 | simp only [Addr.add, Nat.zero_add] at hx146_0 | skip)
     (first | simp only [add_plain] at hx146_1 | simp only [add_at] at hx146_1 | simp only [Addr.add, Nat.zero_add] at hx146_1 | skip)
     have HR146_0 := am hi146_0
     have HC146_0 := am hl146_0
     clear hi146_0 hl146_0
     replace p146 := eq_true p146
     replace q146 := eq_true q146
     have p19 : 0 ≤ (x9_2 : Int) := ofb
     have q19 : (x9_2 : Int) < ((((rd_T36 x0_2 a1).f0).length : Int) : Int) := ofb
     obtain ⟨go19, co19, eo19, gb19, gl19, cl19, HG19⟩ := Kd.R_form HL146_0.out (by omega)
     (first | cases eo19 | (injection eo19 with ea_ en_ ec_; (first | subst ea_ | (injection ea_ with ea_; subst ea_)); subst ec_; clear en_))
     have GB19 := am gb19
     have GG19 := am HG19
     clear gb19 gl19 HG19
     have HMgo19 := am (show (P0_ go19 ∨ w.heap.size ≤ go19) from (HL146_0.out.1 _ rfl).1)
     obtain ⟨ce19, hcl19, hM19, hcc19, hfr19⟩ := Kd.R_elem HL146_0.out z33 (x9_2 : Int) p19 q19
     obtain rfl := k33_openM hM19
     have hx19_0 : wr.cell? ⟨go19, (x9_2 : Int).toNat * 5, none⟩ = some (.int .i64 ((rd_T33 ((rd_T36 x0_2 a1).f0) x9_2).f0)) := hcc19 0 _ rfl
     have hx19_1 : wr.cell? ⟨go19, (x9_2 : Int).toNat * 5 + 1, none⟩ = some (.int .i64 ((rd_T33 ((rd_T36 x0_2 a1).f0) x9_2).f1.f0)) := hcc19 1 _ rfl
     have hx19_2 : wr.cell? ⟨go19, (x9_2 : Int).toNat * 5 + 2, none⟩ = some (.int .i64 ((rd_T33 ((rd_T36 x0_2 a1).f0) x9_2).f1.f1)) := hcc19 2 _ rfl
     have hx19_3 : wr.cell? ⟨go19, (x9_2 : Int).toNat * 5 + 3, none⟩ = some (.int .i64 ((rd_T33 ((rd_T36 x0_2 a1).f0) x9_2).f1.f2)) := hcc19 3 _ rfl
     have hx19_4 : wr.cell? ⟨go19, (x9_2 : Int).toNat * 5 + 4, none⟩ = some (.int .i64 ((rd_T33 ((rd_T36 x0_2 a1).f0) x9_2).f1.f3)) := hcc19 4 _ rfl
     have hf19_0 : wr.frozen? ⟨go19, (x9_2 : Int).toNat * 5, none⟩ = false := hfr19 0
     have hf19_1 : wr.frozen? ⟨go19, (x9_2 : Int).toNat * 5 + 1, none⟩ = false := hfr19 1
     have hf19_2 : wr.frozen? ⟨go19, (x9_2 : Int).toNat * 5 + 2, none⟩ = false := hfr19 2
     have hf19_3 : wr.frozen? ⟨go19, (x9_2 : Int).toNat * 5 + 3, none⟩ = false := hfr19 3
     have hf19_4 : wr.frozen? ⟨go19, (x9_2 : Int).toNat * 5 + 4, none⟩ = false := hfr19 4
     clear hcl19 hcc19 hfr19 hM19
     replace p19 := eq_true p19
     replace q19 := eq_true q19
     have hq20 : (a1 : Int) < (x0_2.length : Int) := (by have h_ : (a1 : Int) < ((x0_2.length : Int) : Int) := ofb; first | exact h_ | (have e_ := (Kd.S_reads' HO_0.out).1; omega) | simpa only [List.length_set, List.length_set] using h_)
     obtain ⟨oki20, ce20, hcl20, hM20, hcc20, hok20, hbk20⟩ := Kd.S_borrow HO_0.out z36 (a1 : Int) (ofb) hq20
     obtain ⟨ve20_0, rfl, ge20_0⟩ := k36_openM hM20
     have hv20 := hcc20 0 _ rfl
     rw [Nat.add_zero] at hv20
     replace hv20 := Option.some.inj (hv20.symm.trans HX146_0.out)
     subst hv20
     clear hcc20 hcl20
     replace ge20_0 := (show Kd.R k33 33 _ _ _ _ ((rd_T36 x0_2 a1).f0) from ge20_0)
     obtain ⟨cf20, hcl20, hN20, hcc20, hfr20⟩ := Kd.R_elem ge20_0 z33 (x9_2 : Int) (ofb) (by have h_ : (x9_2 : Int) < ((((rd_T36 x0_2 a1).f0).length : Int) : Int) := ofb; first | exact h_ | (have e_ := (Kd.R_reads' HR146_0.out).1; omega) | simpa using h_)
     obtain rfl := k33_openM hN20
     have HP20 := Kd.R_seg ge20_0 (x9_2 : Int) (ofb) (by have h_ : (x9_2 : Int) < ((((rd_T36 x0_2 a1).f0).length : Int) : Int) := ofb; first | exact h_ | (have e_ := (Kd.R_reads' HR146_0.out).1; omega) | simpa using h_) (seg := [.int .i64 x8_8, .int .i64 0, .int .i64 0, .int .i64 0, .int .i64 0]) (j := 0) hcl20 hcc20 (show 5 ≤ 5 from by decide) (x' := (⟨x8_8, (⟨0, 0, 0, 0⟩ : S25)⟩ : S33)) (k33_mkM _ _ _ (⟨x8_8, (⟨0, 0, 0, 0⟩ : S25)⟩ : S33)) (fun _ hk => hk)
     clear hcl20 hcc20 hfr20 hN20
     go_wp2_with (first | ((with_reducible refine gate_store (t := 33) (p := 40) rfl ?_); refine store_event (t := 33) (p := 40) (v := ?vo_w21) (w1 := (((((wr.setCell ⟨go19, (x9_2 : Int).toNat * 5, none⟩ (.int .i64 x8_8)).setCell ⟨go19, (x9_2 : Int).toNat * 5 + 1, none⟩ (.int .i64 0)).setCell ⟨go19, (x9_2 : Int).toNat * 5 + 2, none⟩ (.int .i64 0)).setCell ⟨go19, (x9_2 : Int).toNat * 5 + 3, none⟩ (.int .i64 0)).setCell ⟨go19, (x9_2 : Int).toNat * 5 + 4, none⟩ (.int .i64 0))) ?hg ?ho ?hn ?hr ?_; (case ho => rfl); (case hg => rfl); (case hn => rfl); (case hr => first | (go_simp; done) | (go_simp; rfl)); intro w21 hw; have hg : wr.grownBy w21 (some go19) := (by rw [hw]; exact HP20.2); have hz_ : Kd.R k33 33 w21 w0.heap.size oki20 (.slice (some ⟨go19, 0, none⟩) ((rd_T36 x0_2 a1).f0).length c146_0) y147 := (by rw [hw, Ny147.out]; exact HP20.1); have hp_ : Kd.S k36 36 w21 w0.heap.size (fun k_ => (P0_ k_ ∨ w.heap.size ≤ k_)) (.slice (some ⟨go8, 0, none⟩) x0_2.length co10) y149 := (by rw [Ny149.out]; exact hbk20 hg (fun k_ e_ => by injection e_ with e_; subst e_; exact ge20_0.1 _ rfl) (k36_mkM _ _ _ (⟨y147, (rd_T36 x0_2 a1).f1⟩ : S36) hz_)); have hm_ := Kd.R_mono hz_ hok20; clear HP20 hbk20; replace HO_0 := am (hp_); replace HB := am ((by rw [hw]; exact below_set (below_set (below_set (below_set (below_set (HB.out) GB19.out) GB19.out) GB19.out) GB19.out) GB19.out : Below w0.heap.size w0 w21)); replace HK := am (Kept.of_grown (S := (fun k_ => P0_ k_)) hg (pk HK.out) (fun k_ e_ => (HL146_0.out.1 k_ e_).1)); have HL150 := am (hm_); have HC148 := am ((Kd.R_reads' hm_).2.1); clear HL146_0; clear hg hw hp_ hz_ hm_ hok20))
     (try simp only [← hl0_2])
     go_roundg k2
     case measure => have := HJ8.out; have := HK2.out; omega
     case rel => exact ⟨(y149), (wrap64 (x9_2 + 1)), rf, H', ⟨by have := HJ8.out; have := HK2.out; omega⟩, ⟨by (try simp only [hl0_8]); (try simp only [hl0_2]); (with_reducible repeat (first | apply Kd.S_alloc | apply Kd.S_drewN | apply Kd.S_drew)); exact HO_0.out⟩, ⟨pk HK.out⟩, ⟨ph HB.out⟩⟩
def spec_l12Do.f (k : Nat) (l0_0 : List (S36)) (l0_1 : List Int) (a1_0 : Int) (a1_1 : Int) (a1_2 : Int) (a1_3 : Int) (a1_4 : Int) (a1_5 : Int) (a1_6 : Int) (a1_7 : Int) (a2 : Bool) : Option ((List (S36)) × List Int) := if a1_0 = 1 then (if a2 = true then (some (l0_0, l0_1)) else (if 0 ≤ (wrap64 (a1_1 - 1)) then (if (wrap64 (a1_1 - 1)) < (l0_1.length : Int) then (some (l0_0, (l0_1.set ((wrap64 (a1_1 - 1)) : Int).toNat a1_2))) else (none)) else (none))) else (if a1_0 = 2 then ((spec_l2Wipe.f k l0_0 a1_3 a2).bind fun bt171 => (some (bt171.1, l0_1))) else (if a1_0 = 3 then ((spec_l2Write.f k l0_0 a1_3 a1_4 a1_5 a1_6 a1_7 a2).bind fun bt175 => (some (bt175.1, l0_1))) else (some (l0_0, l0_1))))
theorem spec_l12Do.mono : ∀ a0 a1 a2 a3 a4 a5 a6 a7 a8 a9 a10 k, LeO (spec_l12Do.f k a0 a1 a2 a3 a4 a5 a6 a7 a8 a9 a10) (spec_l12Do.f (k + 1) a0 a1 a2 a3 a4 a5 a6 a7 a8 a9 a10) := by
 intro a0 a1 a2 a3 a4 a5 a6 a7 a8 a9 a10 k
 unfold spec_l12Do.f
 with_reducible repeat' first | exact LeO.refl _ | exact LeO.none _ | exact spec_l2Wipe.mono _ _ _ _ | exact spec_l2Write.mono _ _ _ _ _ _ _ _ | refine LeO.ite ?_ ?_ | refine LeO.bind ?_ (fun _ => ?_)
theorem stParts {w0 w : World} {P0 P1 : Nat → Prop} {u v : Value} {fl : List S36} {d : List Int} (h0 : Kd.S k36 36 w w0.heap.size P0 u fl) (h1 : Kd.R (Kd.int .i64) 3 w w0.heap.size P1 v d) :
 ∃ (P Q : Nat → Prop) (A1 : Option Addr) (c1 : Nat) (A2 : Option Addr) (c2 : Nat), u = .slice A1 fl.length c1 ∧ v = .slice A2 d.length c2 ∧ Kd.S k36 36 w w0.heap.size P (.slice A1 fl.length c1) fl ∧ Kd.R (Kd.int .i64) 3 w w0.heap.size Q (.slice A2 d.length c2) d ∧ (∀ k, P k → P0 k ∧ k < w.heap.size) ∧ (∀ k, Q k → P1 k ∧ k < w.heap.size) ∧ ∀ k, P k → ¬ Q k := by
 have hS := Kd.S_bound h0
 have hR := Kd.R_bound h1
 obtain ⟨A1, c1, rfl⟩ := Kd.S_slice hS
 obtain ⟨A2, c2, rfl⟩ := Kd.R_slice hR
 refine ⟨_, _, A1, c1, A2, c2, rfl, rfl, hS, hR, fun k hk => ⟨hk.1, hk.2.2.1⟩, fun k hk => ⟨hk.1, hk.2.2.1⟩, fun k hk hq => ?_⟩
 obtain ⟨_, _, _, q, hq1, cs, hq2⟩ := hk
 obtain ⟨_, _, _, q', hq1', cs', hq2'⟩ := hq
 rw [hq2] at hq2'
 injection hq2' with e1
 injection e1 with e2 e3
 rw [e3] at hq1
 have hf : ∀ x : Nat, x ∈ 3 :: (Kd.int .i64).E → x ∈ 36 :: (k36).E → False := by
  intro x h1 h2
  have h1 : x ∈ [3] := h1
  have h2 : x ∈ [36, 33] := h2
  rw [List.mem_singleton] at h1
  rw [h1] at h2
  revert h2
  decide
 exact hf _ hq1' hq1
theorem stSize (w : World) (o : Obj) : (w.alloc o).heap.size = w.heap.size + 1 := Array.size_push o
theorem stCell {w0 w W : World} {P Q M : Nat → Prop} {u v : Value} {fl : List S36} {d : List Int} (h : Kd.S k36 36 W w0.heap.size P u fl ∧ Kd.R (Kd.int .i64) 3 W w0.heap.size Q v d ∧ Below w0.heap.size w0 W ∧ Kept w W M) {b : Nat} (hb : w.heap.size ≤ b) (hw : w0.heap.size ≤ w.heap.size) (hP : ∀ k, P k → k ≠ b) (hQ : ∀ k, Q k → k ≠ b) (i : Nat) (a : Value) :
 Kd.S k36 36 (W.setCell ⟨b, i, none⟩ a) w0.heap.size P u fl ∧ Kd.R (Kd.int .i64) 3 (W.setCell ⟨b, i, none⟩ a) w0.heap.size Q v d ∧ Below w0.heap.size w0 (W.setCell ⟨b, i, none⟩ a) ∧ Kept w (W.setCell ⟨b, i, none⟩ a) M :=
 ⟨Kd.S_far (p := ⟨b, i, none⟩) h.1 hP a, Kd.R_far (p := ⟨b, i, none⟩) h.2.1 hQ a, h.2.2.1.setCell (p := ⟨b, i, none⟩) (Nat.le_trans hw hb) _, Kept.setCell (p := ⟨b, i, none⟩) h.2.2.2 (.inr hb) _⟩
theorem stAlloc {w0 w W : World} {P Q M : Nat → Prop} {u v : Value} {fl : List S36} {d : List Int} (h : Kd.S k36 36 W w0.heap.size P u fl ∧ Kd.R (Kd.int .i64) 3 W w0.heap.size Q v d ∧ Below w0.heap.size w0 W ∧ Kept w W M) (o : Obj) :
 Kd.S k36 36 (W.alloc o) w0.heap.size P u fl ∧ Kd.R (Kd.int .i64) 3 (W.alloc o) w0.heap.size Q v d ∧ Below w0.heap.size w0 (W.alloc o) ∧ Kept w (W.alloc o) M := ⟨Kd.S_alloc h.1 o, Kd.R_alloc h.2.1 o, below_alloc h.2.2.1 o, Kept.alloc h.2.2.2 o⟩
theorem stPut2 {w : World} {g : Nat} {t : TypeId} {z0 z1 : Value} (h : w.heap[g]? = some (.cells #[z0, z1] t (0, 0))) (a b : Value) : ((w.setCell ⟨g, 0, none⟩ a).setCell ⟨g, 1, none⟩ b).heap[g]? = some (.cells #[a, b] t (0, 0)) := blk_put (cs := #[a, z1]) (blk_put (cs := #[z0, z1]) h 0 _ rfl) 1 _ rfl
theorem doSome {α : Type} {c d : Prop} [Decidable c] [Decidable d] {x y : α} (h : (if c then (if d then some x else none) else none) = some y) : c ∧ d ∧ x = y := by
 by_cases hc : c
 rotate_left
 · rw [if_neg hc] at h
   cases h
 rw [if_pos hc] at h
 by_cases hd : d
 rotate_left
 · rw [if_neg hd] at h
   cases h
 rw [if_pos hd] at h
 exact ⟨hc, hd, Option.some.inj h⟩
theorem stDisk {w0 w W : World} {P Q M : Nat → Prop} {u : Value} {fl : List S36} {d : List Int} {gd n c : Nat} (h : Kd.S k36 36 W w0.heap.size P u fl ∧ Kd.R (Kd.int .i64) 3 W w0.heap.size Q (.slice (some ⟨gd, 0, none⟩) n c) d ∧ Below w0.heap.size w0 W ∧ Kept w W M) (i x : Int) (hM : M gd ∨ w.heap.size ≤ gd) (hbd : w0.heap.size ≤ gd) (hP : ∀ k, P k → k ≠ gd) :
 Kd.S k36 36 (W.setCell ⟨gd, i.toNat, none⟩ (.int .i64 x)) w0.heap.size P u fl ∧ Kd.R (Kd.int .i64) 3 (W.setCell ⟨gd, i.toNat, none⟩ (.int .i64 x)) w0.heap.size Q (.slice (some ⟨gd, 0, none⟩) n c) (d.set i.toNat x) ∧ Below w0.heap.size w0 (W.setCell ⟨gd, i.toNat, none⟩ (.int .i64 x)) ∧ Kept w (W.setCell ⟨gd, i.toNat, none⟩ (.int .i64 x)) M :=
 ⟨Kd.S_far (p := ⟨gd, i.toNat, none⟩) h.1 hP _, Kd.R_putn h.2.1 i x, h.2.2.1.setCell (p := ⟨gd, i.toNat, none⟩) hbd _, Kept.setCell (p := ⟨gd, i.toNat, none⟩) h.2.2.2 hM _⟩
set_option maxHeartbeats 4000000 in
set_option maxRecDepth 100000 in
theorem spec_l12Do.calls (k : Nat) (P0_0_ : Nat → Prop) (u9000_ : Value) (l0_0 : List (S36)) (P0_1_ : Nat → Prop) (u9001_ : Value) (l0_1 : List Int) (a1_0 : Int) (a1_1 : Int) (a1_2 : Int) (a1_3 : Int) (a1_4 : Int) (a1_5 : Int) (a1_6 : Int) (a1_7 : Int) (a2 : Bool) (r1 : List (S36)) (r2 : List Int) (w0 w : World) (hB : Below w0.heap.size w0 w) (ho0_0 : Kd.S k36 36 w w0.heap.size P0_0_ u9000_ l0_0) (ho0_1 : Kd.R (Kd.int .i64) 3 w w0.heap.size P0_1_ u9001_ l0_1) (h : spec_l12Do.f k l0_0 l0_1 a1_0 a1_1 a1_2 a1_3 a1_4 a1_5 a1_6 a1_7 a2 = some (r1, r2)) :
 Calls Try.prog 48 #[.agg #[u9000_, u9001_], .agg #[.int .i64 a1_0, .int .i64 a1_1, .int .i64 a1_2, .int .i64 a1_3, .int .i64 a1_4, .int .i64 a1_5, .int .i64 a1_6, .int .i64 a1_7], .bool a2] w fun e w' => ∃ v0_ v1_ : Value, e = .returned (.agg #[v0_, v1_]) ∧ Kd.S k36 36 w' w0.heap.size (fun k_ => ((P0_0_ k_ ∨ P0_1_ k_) ∨ w.heap.size ≤ k_)) v0_ r1 ∧ Kd.R (Kd.int .i64) 3 w' w0.heap.size (fun k_ => ((P0_0_ k_ ∨ P0_1_ k_) ∨ w.heap.size ≤ k_)) v1_ r2 ∧ Below w0.heap.size w0 w' ∧ Kept w w' (fun k_ => P0_0_ k_ ∨ P0_1_ k_) := by
 obtain ⟨P, Q, A1, c1, A2, c2, rfl, rfl, hS, hR, hP, hQ, hPQ⟩ := stParts ho0_0 ho0_1
 clear ho0_0 ho0_1
 have hu70 := Try.underlying61
 have hu98 := Try.underlying88
 have hu30 := Try.underlying25
 have hL := hB.size
 have HH := am h
 have b0 := blk_alloc (blk_alloc (blk_new w (.cells #[.slice A1 l0_0.length c1, .slice A2 l0_1.length c2] 61)) (.cells #[.int .i64 a1_0, .int .i64 a1_1, .int .i64 a1_2, .int .i64 a1_3, .int .i64 a1_4, .int .i64 a1_5, .int .i64 a1_6, .int .i64 a1_7] 88)) (.cells #[.slice none 0 0, .slice none 0 0] 61)
 have b1 := blk_alloc (blk_new (w.alloc (.cells #[.slice A1 l0_0.length c1, .slice A2 l0_1.length c2] 61)) (.cells #[.int .i64 a1_0, .int .i64 a1_1, .int .i64 a1_2, .int .i64 a1_3, .int .i64 a1_4, .int .i64 a1_5, .int .i64 a1_6, .int .i64 a1_7] 88)) (.cells #[.slice none 0 0, .slice none 0 0] 61)
 have b2 := blk_new ((w.alloc (.cells #[.slice A1 l0_0.length c1, .slice A2 l0_1.length c2] 61)).alloc (.cells #[.int .i64 a1_0, .int .i64 a1_1, .int .i64 a1_2, .int .i64 a1_3, .int .i64 a1_4, .int .i64 a1_5, .int .i64 a1_6, .int .i64 a1_7] 88)) (.cells #[.slice none 0 0, .slice none 0 0] 61)
 have HM := am (stAlloc (stAlloc (stAlloc (M := fun k_ => P0_0_ k_ ∨ P0_1_ k_) ⟨hS, hR, hB, Kept.refl w _⟩ (.cells #[.slice A1 l0_0.length c1, .slice A2 l0_1.length c2] 61)) (.cells #[.int .i64 a1_0, .int .i64 a1_1, .int .i64 a1_2, .int .i64 a1_3, .int .i64 a1_4, .int .i64 a1_5, .int .i64 a1_6, .int .i64 a1_7] 88)) (.cells #[.slice none 0 0, .slice none 0 0] 61))
 have e1 : (w.alloc (.cells #[.slice A1 l0_0.length c1, .slice A2 l0_1.length c2] 61)).heap.size = w.heap.size + 1 := stSize _ _
 have e2 : ((w.alloc (.cells #[.slice A1 l0_0.length c1, .slice A2 l0_1.length c2] 61)).alloc (.cells #[.int .i64 a1_0, .int .i64 a1_1, .int .i64 a1_2, .int .i64 a1_3, .int .i64 a1_4, .int .i64 a1_5, .int .i64 a1_6, .int .i64 a1_7] 88)).heap.size = w.heap.size + 1 + 1 := by rw [stSize, stSize]
 have e3 : (((w.alloc (.cells #[.slice A1 l0_0.length c1, .slice A2 l0_1.length c2] 61)).alloc (.cells #[.int .i64 a1_0, .int .i64 a1_1, .int .i64 a1_2, .int .i64 a1_3, .int .i64 a1_4, .int .i64 a1_5, .int .i64 a1_6, .int .i64 a1_7] 88)).alloc (.cells #[.slice none 0 0, .slice none 0 0] 61)).heap.size = w.heap.size + 1 + 1 + 1 := by rw [stSize, stSize, stSize]
 rw [e1] at b1
 rw [e2] at b2
 clear h hS hR hB e1 e2
 go_enter Try.func48, Try.ntmps48
 go_upto_region 1 with (fail)
 generalize ((w.alloc (.cells #[.slice A1 l0_0.length c1, .slice A2 l0_1.length c2] 61)).alloc (.cells #[.int .i64 a1_0, .int .i64 a1_1, .int .i64 a1_2, .int .i64 a1_3, .int .i64 a1_4, .int .i64 a1_5, .int .i64 a1_6, .int .i64 a1_7] 88)).alloc (.cells #[.slice none 0 0, .slice none 0 0] 61) = W at b0 b1 b2 HM e3 ⊢
 have s0 := (blk_cell b0 0).trans rfl
 have s1 := (blk_cell b0 1).trans rfl
 have f0 := blk_frozen b0 0
 have x0 := (blk_cell b1 0).trans rfl
 have x1 := (blk_cell b1 1).trans rfl
 have x2 := (blk_cell b1 2).trans rfl
 have x3 := (blk_cell b1 3).trans rfl
 have x4 := (blk_cell b1 4).trans rfl
 have x5 := (blk_cell b1 5).trans rfl
 have x6 := (blk_cell b1 6).trans rfl
 have x7 := (blk_cell b1 7).trans rfl
 have z0 := (blk_cell b2 0).trans rfl
 have z1 := (blk_cell b2 1).trans rfl
 have g0 := blk_frozen b2 0
 have g1 := blk_frozen b2 1
 have HB0 := am b0
 have HB2 := am b2
 have HP := am (And.intro hP (And.intro hQ hPQ))
 have HE3 := am e3
 have hne : w.heap.size ≠ w.heap.size + 1 + 1 := by omega
 have hne2 : w.heap.size + 1 + 1 ≠ w.heap.size := by omega
 clear b0 b1 b2 hP hQ hPQ e3
 have h := HH.out
 clear HH
 unfold spec_l12Do.f at h
 by_cases k1 : a1_0 = 1
 · rw [if_pos k1] at h
   subst k1
   cases a2 with
   | true =>
    rw [if_pos rfl] at h
    simp only [Option.some.injEq, Prod.mk.injEq] at h
    obtain ⟨rfl, rfl⟩ := h
    clear x1 x2 x3 x4 x5 x6 x7 f0
    go_wp2
    refine bodyPost_ret (results_cell_row rfl _ _ (w.heap.size + 1 + 1) 61 #[.slice A1 l0_0.length c1, .slice A2 l0_1.length c2] (0, 0) _ rfl (stPut2 HB2.out _ _) Try.underlying61 rfl (by kernel_rfl)) rfl ?_
    have q := stCell (stCell HM.out (show w.heap.size ≤ w.heap.size + 1 + 1 by omega) hL (fun k_ hk => by have := (HP.out.1 k_ hk).2; omega) (fun k_ hk => by have := (HP.out.2.1 k_ hk).2; omega) 0 (.slice A1 l0_0.length c1)) (show w.heap.size ≤ w.heap.size + 1 + 1 by omega) hL (fun k_ hk => by have := (HP.out.1 k_ hk).2; omega) (fun k_ hk => by have := (HP.out.2.1 k_ hk).2; omega) 1 (.slice A2 l0_1.length c2)
    exact ⟨_, _, rfl, Kd.S_mono q.1 (fun k_ hk => .inl (.inl (HP.out.1 k_ hk).1)), Kd.R_mono (by simpa using q.2.1) (fun k_ hk => .inl (.inr (HP.out.2.1 k_ hk).1)), q.2.2.1, q.2.2.2⟩
   | false =>
    rw [if_neg (by simp)] at h
    obtain ⟨hd0, hd1, h⟩ := doSome h
    simp only [Prod.mk.injEq] at h
    obtain ⟨rfl, rfl⟩ := h
    obtain ⟨gd, cd, hA2, hdb, hdl, cellsd, hcd⟩ := Kd.R_form HM.out.2.1 (by omega)
    have ea := (Value.slice.inj hA2).1
    have ec := (Value.slice.inj hA2).2.2
    subst ea
    subst ec
    have hQd := HM.out.2.1.1 gd rfl
    have hQl := (HP.out.2.1 gd hQd).2
    obtain ⟨ce, hce, hMe, hcce, hfre⟩ := Kd.R_elem HM.out.2.1 0 (wrap64 (a1_1 - 1)) hd0 hd1
    have d0 := hcce 0 _ (by rw [show ce = [.int .i64 (rd l0_1 (wrap64 (a1_1 - 1)))] from hMe]; rfl)
    have df := hfre 0
    rw [show (Kd.int .i64).sz = 1 from rfl, Nat.mul_one, Nat.add_zero] at d0 df
    have hdb' := decide_eq_true hd1
    have hdq : (wrap64 (a1_1 - 1) < (l0_1.length : Int)) = True := eq_true hd1
    have hst := stDisk (HM.out) (wrap64 (a1_1 - 1)) a1_2 (.inl (.inr (HP.out.2.1 gd hQd).1)) hdb (fun k_ hk he => HP.out.2.2 k_ hk (he ▸ hQd))
    have HST := am hst
    have hgz : gd ≠ w.heap.size + 1 + 1 := by omega
    have hgs : gd ≠ w.heap.size := by omega
    have hgz2 : w.heap.size + 1 + 1 ≠ gd := by omega
    have hgs2 : w.heap.size ≠ gd := by omega
    clear hce hMe hcce hfre hA2 hcd hdl hdb hst hQd hQl x3 x4 x5 x6 x7 f0
    go_wp2
    refine bodyPost_ret (results_cell_row rfl _ _ (w.heap.size + 1 + 1) 61 #[.slice A1 l0_0.length c1, .slice (some ⟨gd, 0, none⟩) l0_1.length c2] (0, 0) _ rfl (stPut2 (blk_far HB2.out hgz2 _) _ _) Try.underlying61 rfl (by kernel_rfl)) rfl ?_
    have q := stCell (stCell HST.out (show w.heap.size ≤ w.heap.size + 1 + 1 by omega) hL (fun k_ hk => by have := (HP.out.1 k_ hk).2; omega) (fun k_ hk => by have := (HP.out.2.1 k_ hk).2; omega) 0 (.slice A1 l0_0.length c1)) (show w.heap.size ≤ w.heap.size + 1 + 1 by omega) hL (fun k_ hk => by have := (HP.out.1 k_ hk).2; omega) (fun k_ hk => by have := (HP.out.2.1 k_ hk).2; omega) 1 (.slice (some ⟨gd, 0, none⟩) l0_1.length c2)
    exact ⟨_, _, rfl, Kd.S_mono q.1 (fun k_ hk => .inl (.inl (HP.out.1 k_ hk).1)), Kd.R_mono (by simpa using q.2.1) (fun k_ hk => .inl (.inr (HP.out.2.1 k_ hk).1)), q.2.2.1, q.2.2.2⟩
 rw [if_neg k1] at h
 by_cases k2 : a1_0 = 2
 · rw [if_pos k2] at h
   subst k2
   clear k1
   obtain ⟨⟨rf, rb⟩, h6, h⟩ := Option.bind_eq_some_iff.1 h
   simp only [Option.some.injEq, Prod.mk.injEq] at h
   obtain ⟨rfl, rfl⟩ := h
   have HW := am (show w.heap.size + 1 + 1 < W.heap.size by have := HE3.out; omega)
   clear z0 z1 g0 g1
   go_wp2_with fail
   refine (spec_l2Wipe.calls k P (.slice A1 l0_0.length c1) l0_0 a1_3 a2 rf rb w0 W HM.out.2.2.1 HM.out.1 h6).mono ?_
   rintro e w1 ⟨v, rfl, hS1, hB1, hK1⟩
   obtain ⟨A3, c3, rfl⟩ := Kd.S_slice hS1
   have b0 := blk_kept HB0.out hK1 (fun hq => by have := (HP.out.1 _ hq).2; omega)
   have b2 := blk_kept HB2.out hK1 (fun hq => by have := (HP.out.1 _ hq).2; omega)
   have hM1 := And.intro hS1 (And.intro (Kd.R_kept HM.out.2.1 hK1 (fun k_ hq hp => HP.out.2.2 k_ hp hq)) (And.intro hB1 (Kept.then_ HM.out.2.2.2 hK1 (fun k_ hk => .inl (.inl (HP.out.1 k_ hk).1)))))
   have hq := stCell hM1 (Nat.le_refl w.heap.size) hL (fun k_ hk => by have := HW.out; rcases hk with hk | hk; (have := (HP.out.1 k_ hk).2; omega); omega) (fun k_ hk => by have := (HP.out.2.1 k_ hk).2; omega) 0 (.slice A3 rf.length c3)
   have HQ := am hq
   have HB2' := am (blk_far b2 (p := ⟨w.heap.size, 0, none⟩) hne2 (.slice A3 rf.length c3))
   clear hS1 hB1 hK1 hM1 hq x0 x1 x2 x3 x4 x5 x6 x7 s0 s1 f0 h6
   have s0 := (blk_cell b0 0).trans rfl
   have s1 := (blk_cell b0 1).trans rfl
   have f0 := blk_frozen b0 0
   have z0 := (blk_cell b2 0).trans rfl
   have z1 := (blk_cell b2 1).trans rfl
   have g0 := blk_frozen b2 0
   have g1 := blk_frozen b2 1
   clear b0 b2
   go_wp2
   refine bodyPost_ret (results_cell_row rfl _ _ (w.heap.size + 1 + 1) 61 #[.slice A3 rf.length c3, .slice A2 l0_1.length c2] (0, 0) _ rfl (stPut2 HB2'.out _ _) Try.underlying61 rfl (by kernel_rfl)) rfl ?_
   have fP : ∀ k_, (P k_ ∨ W.heap.size ≤ k_) → k_ ≠ w.heap.size + 1 + 1 := fun k_ hk => by have := HW.out; rcases hk with hk | hk; (have := (HP.out.1 k_ hk).2; omega); omega
   have fQ : ∀ k_, Q k_ → k_ ≠ w.heap.size + 1 + 1 := fun k_ hk => by have := (HP.out.2.1 k_ hk).2; omega
   have q := stCell (stCell HQ.out (show w.heap.size ≤ w.heap.size + 1 + 1 by omega) hL fP fQ 0 (.slice A3 rf.length c3)) (show w.heap.size ≤ w.heap.size + 1 + 1 by omega) hL fP fQ 1 (.slice A2 l0_1.length c2)
   exact ⟨_, _, rfl, Kd.S_mono q.1 (fun k_ hk => hk.elim (fun hk => .inl (.inl (HP.out.1 k_ hk).1)) (fun hk => .inr (by have := HW.out; omega))), Kd.R_mono q.2.1 (fun k_ hk => .inl (.inr (HP.out.2.1 k_ hk).1)), q.2.2.1, q.2.2.2⟩
 rw [if_neg k2] at h
 by_cases k3 : a1_0 = 3
 · rw [if_pos k3] at h
   subst k3
   clear k1 k2
   obtain ⟨⟨rf, rb⟩, h6, h⟩ := Option.bind_eq_some_iff.1 h
   simp only [Option.some.injEq, Prod.mk.injEq] at h
   obtain ⟨rfl, rfl⟩ := h
   have HW := am (show w.heap.size + 1 + 1 < W.heap.size by have := HE3.out; omega)
   clear z0 z1 g0 g1
   go_wp2_with fail
   refine (spec_l2Write.calls k P (.slice A1 l0_0.length c1) l0_0 a1_3 a1_4 a1_5 a1_6 a1_7 a2 rf rb w0 W HM.out.2.2.1 HM.out.1 h6).mono ?_
   rintro e w1 ⟨v, rfl, hS1, hB1, hK1⟩
   obtain ⟨A3, c3, rfl⟩ := Kd.S_slice hS1
   have b0 := blk_kept HB0.out hK1 (fun hq => by have := (HP.out.1 _ hq).2; omega)
   have b2 := blk_kept HB2.out hK1 (fun hq => by have := (HP.out.1 _ hq).2; omega)
   have hM1 := And.intro hS1 (And.intro (Kd.R_kept HM.out.2.1 hK1 (fun k_ hq hp => HP.out.2.2 k_ hp hq)) (And.intro hB1 (Kept.then_ HM.out.2.2.2 hK1 (fun k_ hk => .inl (.inl (HP.out.1 k_ hk).1)))))
   have hq := stCell hM1 (Nat.le_refl w.heap.size) hL (fun k_ hk => by have := HW.out; rcases hk with hk | hk; (have := (HP.out.1 k_ hk).2; omega); omega) (fun k_ hk => by have := (HP.out.2.1 k_ hk).2; omega) 0 (.slice A3 rf.length c3)
   have HQ := am hq
   have HB2' := am (blk_far b2 (p := ⟨w.heap.size, 0, none⟩) hne2 (.slice A3 rf.length c3))
   clear hS1 hB1 hK1 hM1 hq x0 x1 x2 x3 x4 x5 x6 x7 s0 s1 f0 h6
   have s0 := (blk_cell b0 0).trans rfl
   have s1 := (blk_cell b0 1).trans rfl
   have f0 := blk_frozen b0 0
   have z0 := (blk_cell b2 0).trans rfl
   have z1 := (blk_cell b2 1).trans rfl
   have g0 := blk_frozen b2 0
   have g1 := blk_frozen b2 1
   clear b0 b2
   go_wp2
   refine bodyPost_ret (results_cell_row rfl _ _ (w.heap.size + 1 + 1) 61 #[.slice A3 rf.length c3, .slice A2 l0_1.length c2] (0, 0) _ rfl (stPut2 HB2'.out _ _) Try.underlying61 rfl (by kernel_rfl)) rfl ?_
   have fP : ∀ k_, (P k_ ∨ W.heap.size ≤ k_) → k_ ≠ w.heap.size + 1 + 1 := fun k_ hk => by have := HW.out; rcases hk with hk | hk; (have := (HP.out.1 k_ hk).2; omega); omega
   have fQ : ∀ k_, Q k_ → k_ ≠ w.heap.size + 1 + 1 := fun k_ hk => by have := (HP.out.2.1 k_ hk).2; omega
   have q := stCell (stCell HQ.out (show w.heap.size ≤ w.heap.size + 1 + 1 by omega) hL fP fQ 0 (.slice A3 rf.length c3)) (show w.heap.size ≤ w.heap.size + 1 + 1 by omega) hL fP fQ 1 (.slice A2 l0_1.length c2)
   exact ⟨_, _, rfl, Kd.S_mono q.1 (fun k_ hk => hk.elim (fun hk => .inl (.inl (HP.out.1 k_ hk).1)) (fun hk => .inr (by have := HW.out; omega))), Kd.R_mono q.2.1 (fun k_ hk => .inl (.inr (HP.out.2.1 k_ hk).1)), q.2.2.1, q.2.2.2⟩
 rw [if_neg k3] at h
 simp only [Option.some.injEq, Prod.mk.injEq] at h
 obtain ⟨rfl, rfl⟩ := h
 have e1 : (a1_0 == 1) = false := beq_eq_false_iff_ne.mpr k1
 have e2 : (a1_0 == 2) = false := beq_eq_false_iff_ne.mpr k2
 have e3 : (a1_0 == 3) = false := beq_eq_false_iff_ne.mpr k3
 clear k1 k2 k3 x1 x2 x3 x4 x5 x6 x7 f0
 go_wp2
 refine bodyPost_ret (results_cell_row rfl _ _ (w.heap.size + 1 + 1) 61 #[.slice A1 l0_0.length c1, .slice A2 l0_1.length c2] (0, 0) _ rfl (stPut2 HB2.out _ _) Try.underlying61 rfl (by kernel_rfl)) rfl ?_
 have q := stCell (stCell HM.out (show w.heap.size ≤ w.heap.size + 1 + 1 by omega) hL (fun k_ hk => by have := (HP.out.1 k_ hk).2; omega) (fun k_ hk => by have := (HP.out.2.1 k_ hk).2; omega) 0 (.slice A1 l0_0.length c1)) (show w.heap.size ≤ w.heap.size + 1 + 1 by omega) hL (fun k_ hk => by have := (HP.out.1 k_ hk).2; omega) (fun k_ hk => by have := (HP.out.2.1 k_ hk).2; omega) 1 (.slice A2 l0_1.length c2)
 exact ⟨_, _, rfl, Kd.S_mono q.1 (fun k_ hk => .inl (.inl (HP.out.1 k_ hk).1)), Kd.R_mono (by simpa using q.2.1) (fun k_ hk => .inl (.inr (HP.out.2.1 k_ hk).1)), q.2.2.1, q.2.2.2⟩
mutual
def spec_l12To.j1 : Nat → List (S88) → Int → Bool → List (S36) → List Int → Option ((List (S36)) × List Int)
 | 0, _, _, _, _, _ => none
 | k + 1, x1, x2, x3, x152000, x152001 => if x3 = true then ((spec_l6In.f x2 0 (wrap64 ((x1.length : Int) - 1))).bind fun t160 => (if t160 = true then (if 0 ≤ x2 then (if x2 < (x1.length : Int) then ((spec_l12Do.f k x152000 x152001 ((rd_T88 x1 x2).f0) ((rd_T88 x1 x2).f1) ((rd_T88 x1 x2).f2) ((rd_T88 x1 x2).f3) ((rd_T88 x1 x2).f4.f0) ((rd_T88 x1 x2).f4.f1) ((rd_T88 x1 x2).f4.f2) ((rd_T88 x1 x2).f4.f3) true).bind fun bt162 => (some (bt162.1, bt162.2))) else (none)) else (none)) else (some (x152000, x152001)))) else (some (x152000, x152001))
def spec_l12To.l0 : Nat → List (S88) → Int → Bool → Int → List (S36) → List Int → Option ((List (S36)) × List Int)
 | 0, _, _, _, _, _, _ => none
 | k + 1, x1, x2, x3, x9, x152000, x152001 => if x9 < (x1.length : Int) then (if x9 < x2 then (if 0 ≤ x9 then ((spec_l12Do.f k x152000 x152001 ((rd_T88 x1 x9).f0) ((rd_T88 x1 x9).f1) ((rd_T88 x1 x9).f2) ((rd_T88 x1 x9).f3) ((rd_T88 x1 x9).f4.f0) ((rd_T88 x1 x9).f4.f1) ((rd_T88 x1 x9).f4.f2) ((rd_T88 x1 x9).f4.f3) false).bind fun bt154 => (spec_l12To.l0 k x1 x2 x3 (wrap64 (x9 + 1)) bt154.1 bt154.2)) else (none)) else (spec_l12To.j1 k x1 x2 x3 x152000 x152001)) else (spec_l12To.j1 k x1 x2 x3 x152000 x152001)
end
def spec_l12To.f (k : Nat) (l0_0 : List (S36)) (l0_1 : List Int) (l1 : List (S88)) (a2 : Int) (a3 : Bool) : Option ((List (S36)) × List Int) := spec_l12To.l0 k l1 a2 a3 0 l0_0 l0_1
theorem spec_l12To.mono_l : ∀ k, (∀ y0 y1 y2 y3 y4, LeO (spec_l12To.j1 k y0 y1 y2 y3 y4) (spec_l12To.j1 (k + 1) y0 y1 y2 y3 y4)) ∧ (∀ y0 y1 y2 y3 y4 y5, LeO (spec_l12To.l0 k y0 y1 y2 y3 y4 y5) (spec_l12To.l0 (k + 1) y0 y1 y2 y3 y4 y5))
 | 0 => ⟨fun _ _ _ _ _ r h => by simp [spec_l12To.j1] at h, fun _ _ _ _ _ _ r h => by simp [spec_l12To.l0] at h⟩
 | k + 1 => by
  obtain ⟨ih0, ih1⟩ := spec_l12To.mono_l k
  refine ⟨?_, ?_⟩
  · intro y0 y1 y2 y3 y4
    unfold spec_l12To.j1
    with_reducible repeat' first | exact ih0 _ _ _ _ _ | exact ih1 _ _ _ _ _ _ | exact spec_l12Do.mono _ _ _ _ _ _ _ _ _ _ _ _ | exact LeO.refl _ | exact LeO.none _ | refine LeO.ite ?_ ?_ | refine LeO.bind ?_ (fun _ => ?_)
  · intro y0 y1 y2 y3 y4 y5
    unfold spec_l12To.l0
    with_reducible repeat' first | exact ih0 _ _ _ _ _ | exact ih1 _ _ _ _ _ _ | exact spec_l12Do.mono _ _ _ _ _ _ _ _ _ _ _ _ | exact LeO.refl _ | exact LeO.none _ | refine LeO.ite ?_ ?_ | refine LeO.bind ?_ (fun _ => ?_)
theorem spec_l12To.mono : ∀ a0 a1 a2 a3 a4 k, LeO (spec_l12To.f k a0 a1 a2 a3 a4) (spec_l12To.f (k + 1) a0 a1 a2 a3 a4) := by
 intro a0 a1 a2 a3 a4 k
 obtain ⟨ih0, ih1⟩ := spec_l12To.mono_l k
 unfold spec_l12To.f
 with_reducible repeat' first | exact ih0 _ _ _ _ _ | exact ih1 _ _ _ _ _ _ | exact spec_l12Do.mono _ _ _ _ _ _ _ _ _ _ _ _ | exact LeO.refl _ | exact LeO.none _ | refine LeO.ite ?_ ?_ | refine LeO.bind ?_ (fun _ => ?_)
set_option maxHeartbeats 8000000 in
set_option maxRecDepth 100000 in
theorem spec_l12To.calls (k : Nat) (P0_0_ : Nat → Prop) (u9000_ : Value) (l0_0 : List (S36)) (P0_1_ : Nat → Prop) (u9001_ : Value) (l0_1 : List Int) (A1 : Option Addr) (c1 : Nat) (l1 : List (S88)) (a2 : Int) (a3 : Bool) (r1 : List (S36)) (r2 : List Int) (w0 w : World) (hB : Below w0.heap.size w0 w) (ho0_0 : Kd.S k36 36 w w0.heap.size P0_0_ u9000_ l0_0) (ho0_1 : Kd.R (Kd.int .i64) 3 w w0.heap.size P0_1_ u9001_ l0_1) (hr1 : ∀ W_, Kept w W_ (fun k_ => P0_0_ k_ ∨ P0_1_ k_) → Kd.C k88 W_ A1 l1.length l1) (hc1 : l1.length ≤ c1) (h : spec_l12To.f k l0_0 l0_1 l1 a2 a3 = some (r1, r2)) :
 Calls Try.prog 45 #[.agg #[u9000_, u9001_], .slice A1 l1.length c1, .int .i64 a2, .bool a3] w fun e w' => ∃ v0_ v1_ : Value, e = .returned (.agg #[v0_, v1_]) ∧ Kd.S k36 36 w' w0.heap.size (fun k_ => ((P0_0_ k_ ∨ P0_1_ k_) ∨ w.heap.size ≤ k_)) v0_ r1 ∧ Kd.R (Kd.int .i64) 3 w' w0.heap.size (fun k_ => ((P0_0_ k_ ∨ P0_1_ k_) ∨ w.heap.size ≤ k_)) v1_ r2 ∧ Below w0.heap.size w0 w' ∧ Kept w w' (fun k_ => P0_0_ k_ ∨ P0_1_ k_) := by
 have hu61 := Try.underlying61
 have hu88 := Try.underlying88
 have HO0_0 := am (show Kd.S k36 36 w w0.heap.size (fun k_ => ((P0_0_ k_ ∨ P0_1_ k_) ∨ w.heap.size ≤ k_)) u9000_ l0_0 from Kd.S_mono ho0_0 (fun k_ hk => (.inl (.inl hk))))
 have HO0_1 := am (show Kd.R (Kd.int .i64) 3 w w0.heap.size (fun k_ => ((P0_0_ k_ ∨ P0_1_ k_) ∨ w.heap.size ≤ k_)) u9001_ l0_1 from Kd.R_mono ho0_1 (fun k_ hk => (.inl (.inr hk))))
 have HR1 := am hr1
 have HC1 := am hc1
 clear hr1 hc1
 have HK := am (Kept.refl w (fun k_ => P0_0_ k_ ∨ P0_1_ k_))
 have HW0 := am hB.size
 have HB := am hB
 clear hB
 have H : (spec_l12To.l0 k l1 a2 a3 0 l0_0 l0_1) = some (r1, r2) := h
 clear h
 have HC5 := am H
 clear H
 obtain ⟨Ao6, co6, eo6⟩ := Kd.S_slice HO0_0.out
 subst eo6
 obtain ⟨Ao7, co7, eo7⟩ := Kd.R_slice HO0_1.out
 subst eo7
 go_enter Try.func45, Try.ntmps45
 go_upto_block 0 with (first | ((with_reducible refine gate_dst (N := 4) rfl ?_); (try (refine gate_guard (by rfl) ?_; dsimp only)); refine box_event ?hg (N := 4) ?hd (cs := #[.slice Ao6 l0_0.length co6, .slice Ao7 l0_1.length co7]) (t := 61) ?hr ?_; (case hd => rfl); (case hg => rfl); (case hr => first | (go_simp; done) | (go_simp; rfl)); intro gb151 hg w8 hbox hb; replace HO0_0 := am (Kd.S_below (ps HO0_0.out) hb); replace HO0_1 := am (Kd.R_below (pr HO0_1.out) hb); have BK151 := am (hbox); have GW151 := am (gw hg (pk HK.out)); replace HK := am (Kept.below (pk HK.out) hb); have GE151 := am (ge hg (ph HB.out)); replace HB := am (below_step (ph HB.out) hb); clear hb hbox hg) | ((with_reducible refine gate_dst (N := 8) rfl ?_); (try (refine gate_guard (by rfl) ?_; dsimp only)); refine box_event ?hg (N := 8) ?hd (cs := #[.slice none 0 0, .slice none 0 0]) (t := 61) ?hr ?_; (case hd => rfl); (case hg => rfl); (case hr => first | (go_simp; done) | (go_simp; rfl)); intro gb152 hg w9 hbox hb; replace HO0_0 := am (Kd.S_below (ps HO0_0.out) hb); replace HO0_1 := am (Kd.R_below (pr HO0_1.out) hb); have BK152 := am (hbox); have GW152 := am (gw hg (kg1 HK.out (.inr GW151.out))); replace HK := am (Kept.below (kg1 HK.out (.inr GW151.out)) hb); have GE152 := am (ge hg (bg1 HB.out GE151.out)); replace HB := am (below_step (bg1 HB.out GE151.out) hb); have NB151_152 := am (nb hg (pb BK151.out)); have NB152_151 := am (Ne.symm NB151_152.out); replace BK151 := am (blk_below (pb BK151.out) hb); clear hb hbox hg))
 (try simp only [Act.put, List.setIfInBounds_toArray, List.set_cons_zero, List.set_cons_succ])
 go_cut [] (fun wc => ∃ (kq : Nat) (x152000_4 : List (S36)) (x152001_4 : List Int) (u152000 : Value) (u152001 : Value), Aside0 (spec_l12To.j1 kq l1 a2 a3 x152000_4 x152001_4 = some (r1, r2)) ∧ Aside0 (kq ≤ k) ∧ Aside0 (Kd.S k36 36 wc w0.heap.size (fun k_ => ((P0_0_ k_ ∨ P0_1_ k_) ∨ w.heap.size ≤ k_)) u152000 x152000_4) ∧ Aside0 (Kd.R (Kd.int .i64) 3 wc w0.heap.size (fun k_ => ((P0_0_ k_ ∨ P0_1_ k_) ∨ w.heap.size ≤ k_)) u152001 x152001_4) ∧ Aside0 (wc.heap[gb151]? = some (.cells #[u152000, u152001] 61 (0, 0))) ∧ Aside0 (wc.heap[gb152]? = some (.cells #[(.slice none 0 0), (.slice none 0 0)] 61 (0, 0))) ∧ Aside0 (Kept w wc (fun k_ => P0_0_ k_ ∨ P0_1_ k_)) ∧ Aside0 (Below w0.heap.size w0 wc))
 case first =>
  have H := HC5.out
  clear HC5
  have H' := am H
  clear H
  go_wp2
  go_loopg [9] k (fun kq v9 w' => ∃ (x9_1 : Int) (x152000_1 : List (S36)) (x152001_1 : List Int) (u152000 : Value) (u152001 : Value), v9 = .int .i64 x9_1 ∧ Aside0 (spec_l12To.l0 kq l1 a2 a3 x9_1 x152000_1 x152001_1 = some (r1, r2)) ∧ Aside0 (kq ≤ k) ∧ Aside0 (Kd.S k36 36 w' w0.heap.size (fun k_ => ((P0_0_ k_ ∨ P0_1_ k_) ∨ w.heap.size ≤ k_)) u152000 x152000_1) ∧ Aside0 (Kd.R (Kd.int .i64) 3 w' w0.heap.size (fun k_ => ((P0_0_ k_ ∨ P0_1_ k_) ∨ w.heap.size ≤ k_)) u152001 x152001_1) ∧ Aside0 (w'.heap[gb151]? = some (.cells #[u152000, u152001] 61 (0, 0))) ∧ Aside0 (w'.heap[gb152]? = some (.cells #[(.slice none 0 0), (.slice none 0 0)] 61 (0, 0))) ∧ Aside0 (Kept w w' (fun k_ => P0_0_ k_ ∨ P0_1_ k_)) ∧ Aside0 (Below w0.heap.size w0 w'))
  case atStart => exact ⟨(0), (l0_0), (l0_1), (.slice Ao6 l0_0.length co6), (.slice Ao7 l0_1.length co7), rf, H', ⟨Nat.le_refl _⟩, ⟨ps HO0_0.out⟩, ⟨pr HO0_1.out⟩, ⟨pb BK151.out⟩, ⟨pb BK152.out⟩, ⟨kg2 HK.out (.inr GW151.out) (.inr GW152.out)⟩, ⟨bg2 HB.out GE151.out GE152.out⟩⟩
  case round =>
   clear H'
   obtain ⟨x9_1, x152000_1, x152001_1, u152000, u152001, rfl, HA, HK1, HO_152000, HO_152001, BK151, BK152, HK, HB⟩ := hrel
   cases gk with
   | zero => exact absurd HA.out (by simp [spec_l12To.l0])
   | succ k1 =>
    have H := HA.out
    clear HA
    simp only [spec_l12To.l0] at H
    by_cases c10 : x9_1 < (l1.length : Int)
    rotate_left
    · rw [if_neg c10] at H
      have c10b0 := decide_eq_false c10
      clear c10
      (first | rw [c10b0] | (simp only [i64_w, i32_w]; rw [c10b0]) | skip)
      have H' := am H
      clear H
      go_wp2
      go_meet
      case rel => exact ⟨_, (x152000_1), (x152001_1), (u152000), (u152001), H', ⟨by have := HK1.out; first | omega | exact Nat.le_refl _⟩, ⟨ps HO_152000.out⟩, ⟨pr HO_152001.out⟩, ⟨pb BK151.out⟩, ⟨pb BK152.out⟩, ⟨kg2 HK.out (.inr GW151.out) (.inr GW152.out)⟩, ⟨bg2 HB.out GE151.out GE152.out⟩⟩
    rw [if_pos c10] at H
    have c10b0 := decide_eq_true c10
    clear c10
    (first | rw [c10b0] | (simp only [i64_w, i32_w]; rw [c10b0]) | skip)
    by_cases c11 : x9_1 < a2
    rotate_left
    · rw [if_neg c11] at H
      have c11b0 := decide_eq_false c11
      clear c11
      have H' := am H
      clear H
      go_wp2
      go_meet
      case rel => exact ⟨_, (x152000_1), (x152001_1), (u152000), (u152001), H', ⟨by have := HK1.out; first | omega | exact Nat.le_refl _⟩, ⟨ps HO_152000.out⟩, ⟨pr HO_152001.out⟩, ⟨pb BK151.out⟩, ⟨pb BK152.out⟩, ⟨kg2 HK.out (.inr GW151.out) (.inr GW152.out)⟩, ⟨bg2 HB.out GE151.out GE152.out⟩⟩
    rw [if_pos c11] at H
    have c11b0 := decide_eq_true c11
    clear c11
    obtain ⟨c12b0, H⟩ := ifd H
    replace H := Option.bind_eq_some_iff.mp H
    obtain ⟨⟨t154, t157⟩, A130, H⟩ := H
    have A13 := am A130
    clear A130
    have H' := am H
    clear H
    try go_wp2
    replace HO_152000 := am (Kd.S_drew HO_152000.out)
    replace HO_152001 := am (Kd.R_drew HO_152001.out)
    replace BK151 := am (blk_drew BK151.out)
    replace BK152 := am (blk_drew BK152.out)
    replace HK := am (Kept.drew HK.out)
    replace HB := am (below_drew1 HB.out)
    have p153 : 0 ≤ (x9_1 : Int) := ofb
    have q153 : x9_1 < (l1.length : Int) := ofb
    obtain ⟨ad153, e153, hx153_0, hx153_1, hx153_2, hx153_3, hx153_4, hx153_5, hx153_6, hx153_7⟩ := at_T88 (Kd.C_kept_now HR1.out HK.out) x9_1 p153 q153
    have hw153_7 := hx153_7
    have hw153_6 := hx153_6
    have hw153_5 := hx153_5
    have hw153_4 := hx153_4
    have hw153_3 := hx153_3
    have hw153_2 := hx153_2
    have hw153_1 := hx153_1
    have hw153_0 := hx153_0
    cases e153
    replace p153 := eq_true p153
    replace q153 := eq_true q153
    obtain ⟨Ao15, co15, eo15⟩ := Kd.S_slice HO_152000.out
    (first | subst eo15 | (injection eo15 with f1_ f2_ f3_; have f4_ := f1_.symm; have f5_ := f3_.symm; clear f1_ f2_ f3_; subst f4_; subst f5_))
    obtain ⟨Ao16, co16, eo16⟩ := Kd.R_slice HO_152001.out
    (first | subst eo16 | (injection eo16 with f1_ f2_ f3_; have f4_ := f1_.symm; have f5_ := f3_.symm; clear f1_ f2_ f3_; subst f4_; subst f5_))
    obtain ⟨PXh17, hxa_, hxb_⟩ := Kd.S_hand HO_152000.out
    have HXAh17 := am hxa_
    have HXBh17 := am hxb_
    clear hxa_ hxb_
    refine start_ (n := 7) (S := fun w' => w'.cell? ⟨gb151, 0, none⟩ = some (.slice Ao15 x152000_1.length co15) ∧ w'.cell? ⟨gb151, 1, none⟩ = some (.slice Ao16 x152001_1.length co16) ∧ w'.cell? (ad153.add ((x9_1).toNat * 8)) = some (.int .i64 ((rd_T88 l1 x9_1).f0)) ∧ w'.cell? ⟨(ad153.add ((x9_1).toNat * 8)).block, (ad153.add ((x9_1).toNat * 8)).off + 1, none⟩ = some (.int .i64 ((rd_T88 l1 x9_1).f1)) ∧ w'.cell? ⟨(ad153.add ((x9_1).toNat * 8)).block, (ad153.add ((x9_1).toNat * 8)).off + 2, none⟩ = some (.int .i64 ((rd_T88 l1 x9_1).f2)) ∧ w'.cell? ⟨(ad153.add ((x9_1).toNat * 8)).block, (ad153.add ((x9_1).toNat * 8)).off + 3, none⟩ = some (.int .i64 ((rd_T88 l1 x9_1).f3)) ∧ w'.cell? ⟨(ad153.add ((x9_1).toNat * 8)).block, (ad153.add ((x9_1).toNat * 8)).off + 4, none⟩ = some (.int .i64 ((rd_T88 l1 x9_1).f4.f0)) ∧ w'.cell? ⟨(ad153.add ((x9_1).toNat * 8)).block, (ad153.add ((x9_1).toNat * 8)).off + 5, none⟩ = some (.int .i64 ((rd_T88 l1 x9_1).f4.f1)) ∧ w'.cell? ⟨(ad153.add ((x9_1).toNat * 8)).block, (ad153.add ((x9_1).toNat * 8)).off + 6, none⟩ = some (.int .i64 ((rd_T88 l1 x9_1).f4.f2)) ∧ w'.cell? ⟨(ad153.add ((x9_1).toNat * 8)).block, (ad153.add ((x9_1).toNat * 8)).off + 7, none⟩ = some (.int .i64 ((rd_T88 l1 x9_1).f4.f3))) (ds := [5, 6]) (bt 7 0) (by kernel_rfl) rfl rfl ⟨(blk_cell BK151.out 0).trans rfl, (blk_cell BK151.out 1).trans rfl, hx153_0, hx153_1, hx153_2, hx153_3, hx153_4, hx153_5, hx153_6, hx153_7⟩ (fun hHeld => ?_)
    generalize wr.drew = w14 at HO_152000 HO_152001 BK151 BK152 HK HB HXAh17 HXBh17 hx153_0 hx153_1 hx153_2 hx153_3 hx153_4 hx153_5 hx153_6 hx153_7 hHeld ⊢
    refine pi_ 1 22 (bt 7 2) rfl rfl (fun _ _ _ h => h) ?_
    refine pi_ 2 23 (bt 7 6) rfl rfl (fun _ _ _ h => h) ?_
    refine pi_ 3 24 (bt 7 14) rfl rfl (fun _ _ _ h => h) ?_
    refine pm_ 0 21 (bt 7 15) rfl rfl (by kernel_rfl) (fun _ _ _ h => h) hHeld ?_
    refine pm_ 4 25 (bt 7 31) rfl rfl (by kernel_rfl) (fun _ _ _ h => h) hHeld ?_
    refine last_ (i := 5) (N := some 26) (bt 7 63) rfl rfl (by kernel_rfl) (by decide) (fun K hK => ?_)
    refine qg Try.func48 #[.agg #[.slice Ao15 x152000_1.length co15, .slice Ao16 x152001_1.length co16], .agg #[.int .i64 ((rd_T88 l1 x9_1).f0), .int .i64 ((rd_T88 l1 x9_1).f1), .int .i64 ((rd_T88 l1 x9_1).f2), .int .i64 ((rd_T88 l1 x9_1).f3), .int .i64 ((rd_T88 l1 x9_1).f4.f0), .int .i64 ((rd_T88 l1 x9_1).f4.f1), .int .i64 ((rd_T88 l1 x9_1).f4.f2), .int .i64 ((rd_T88 l1 x9_1).f4.f3)], .bool false] rfl rfl ?_
    with_reducible refine (spec_l12Do.calls k1 PXh17 (.slice Ao15 x152000_1.length co15) x152000_1 (fun k_ => some k_ = (.slice Ao16 x152001_1.length co16 : Value).ownBlock) (.slice Ao16 x152001_1.length co16) x152001_1 ((rd_T88 l1 x9_1).f0) ((rd_T88 l1 x9_1).f1) ((rd_T88 l1 x9_1).f2) ((rd_T88 l1 x9_1).f3) ((rd_T88 l1 x9_1).f4.f0) ((rd_T88 l1 x9_1).f4.f1) ((rd_T88 l1 x9_1).f4.f2) ((rd_T88 l1 x9_1).f4.f3) false t154 t157 w0 _ ?side1 ?side2 ?side3 A13.out).mono ?_
    (case side1 => exact bg2 HB.out GE151.out GE152.out)
    (case side2 => exact (ps HXAh17.out))
    (case side3 => exact Kd.R_tight rfl HO_152001.out)
    rintro e w18 ⟨v155, v158, rfl, ho0, ho1, hb, hkp⟩
    refine ⟨_, rfl, ?_⟩
    replace BK151 := am (blk_kept (pb BK151.out) hkp (fun hs_ => Or.elim hs_ (fun e_ => (fun e_ => Kd.blk_awayP (fun k_ h_ => (HXBh17.out k_ h_).2.2.2) BK151.out (by decide) e_) e_) (fun e_ => (fun e_ => (Kd.R_ne HO_152001.out BK151.out (by decide)) e_) e_)))
    replace BK152 := am (blk_kept (pb BK152.out) hkp (fun hs_ => Or.elim hs_ (fun e_ => (fun e_ => Kd.blk_awayP (fun k_ h_ => (HXBh17.out k_ h_).2.2.2) BK152.out (by decide) e_) e_) (fun e_ => (fun e_ => (Kd.R_ne HO_152001.out BK152.out (by decide)) e_) e_)))
    have HO156 := am (Kd.S_mono (ok' := fun k_ => ((P0_0_ k_ ∨ P0_1_ k_) ∨ w.heap.size ≤ k_)) ho0 (fun k_ hk_ => Or.elim hk_ (fun hs_ => Or.elim hs_ (fun hs_ => (HXBh17.out k_ hs_).1) (fun hs_ => (HO_152001.out.1 k_ (hs_).symm))) (fun hn_ => (.inr (Nat.le_trans (kg2 HK.out (.inr GW151.out) (.inr GW152.out)).1 hn_)))))
    have HO159 := am (Kd.R_mono (ok' := fun k_ => ((P0_0_ k_ ∨ P0_1_ k_) ∨ w.heap.size ≤ k_)) ho1 (fun k_ hk_ => Or.elim hk_ (fun hs_ => Or.elim hs_ (fun hs_ => (HXBh17.out k_ hs_).1) (fun hs_ => (HO_152001.out.1 k_ (hs_).symm))) (fun hn_ => (.inr (Nat.le_trans (kg2 HK.out (.inr GW151.out) (.inr GW152.out)).1 hn_)))))
    replace HK := am (Kept.then_ (S := (fun k_ => P0_0_ k_ ∨ P0_1_ k_)) (kg2 HK.out (.inr GW151.out) (.inr GW152.out)) hkp (fun k_ hs_ => Or.elim hs_ (fun e_ => (fun e_ => (HXBh17.out k_ e_).1) e_) (fun e_ => (fun e_ => (HO_152001.out.1 k_ e_.symm)) e_)))
    replace HB := am (hb)
    clear HO_152000 HO_152001
    clear hb hkp ho0 ho1
    obtain ⟨Ao19, co19, eo19⟩ := Kd.S_slice HO156.out
    (first | subst eo19 | (injection eo19 with f1_ f2_ f3_; have f4_ := f1_.symm; have f5_ := f3_.symm; clear f1_ f2_ f3_; subst f4_; subst f5_))
    obtain ⟨Ao21, co21, eo21⟩ := Kd.R_slice HO159.out
    (first | subst eo21 | (injection eo21 with f1_ f2_ f3_; have f4_ := f1_.symm; have f5_ := f3_.symm; clear f1_ f2_ f3_; subst f4_; subst f5_))
    refine hK.out _ _ ?_
    clear hK K
    refine qn (some 26) ?_
    refine last_ (i := 6) (N := none) (bt 7 127) rfl rfl (by kernel_rfl) (by decide) (fun K hK => ?_)
    have hs20 : w18.cell? ⟨gb151, 0, none⟩ = some (.slice Ao15 x152000_1.length co15) := (blk_cell BK151.out 0).trans rfl
    have hfs20 := blk_frozen BK151.out 0
    have hns20_1 := NB152_151.out
    have hms20_1 := NB151_152.out
    have hs22 : w18.cell? ⟨gb151, 1, none⟩ = some (.slice Ao16 x152001_1.length co16) := (blk_cell BK151.out 1).trans rfl
    have hfs22 := blk_frozen BK151.out 1
    have hns22_1 := NB152_151.out
    have hms22_1 := NB151_152.out
    refine qs rfl ?_
    refine hK.out _ _ ?_
    clear hK K
    refine done_ (by kernel_rfl) ?_
    try go_wp2
    go_roundg k1
    case measure => have := HK1.out; omega
    case rel => exact ⟨(wrap64 (x9_1 + 1)), (t154), (t157), (.slice Ao19 t154.length co19), (.slice Ao21 t157.length co21), rf, H', ⟨by have := HK1.out; omega⟩, ⟨ps (Kd.S_mono (Kd.S_far (p := ⟨gb151, 1, none⟩) (Kd.S_far (p := ⟨gb151, 0, none⟩) (Kd.S_types HO156.out BK151.out (by decide)) (fun _ hk => hk.2) (.slice Ao19 t154.length co19)) (fun _ hk => hk.2) (.slice Ao21 t157.length co21)) (fun _ hk => hk.1))⟩, ⟨pr (Kd.R_mono (Kd.R_far (p := ⟨gb151, 1, none⟩) (Kd.R_far (p := ⟨gb151, 0, none⟩) (Kd.R_types HO159.out BK151.out (by decide)) (fun _ hk => hk.2) (.slice Ao19 t154.length co19)) (fun _ hk => hk.2) (.slice Ao21 t157.length co21)) (fun _ hk => hk.1))⟩, ⟨bp2 (pb BK151.out)⟩, ⟨bf2 (pb BK152.out) NB152_151.out⟩, ⟨kg2 HK.out (.inr GW151.out) (.inr GW152.out)⟩, ⟨bg2 HB.out GE151.out GE152.out⟩⟩
 case rest =>
  clear HC5
  obtain ⟨kq, x152000_4, x152001_4, u152000, u152001, HA, HJ4, HO_152000, HO_152001, BK151, BK152, HK, HB⟩ := hcut
  cases kq with
  | zero => exact absurd HA.out (by simp [spec_l12To.j1])
  | succ kj4 =>
   have H := HA.out
   clear HA
   simp only [spec_l12To.j1] at H
   by_cases c23 : a3 = true
   rotate_left
   · replace c23 := Bool.eq_false_iff.mpr c23
     subst c23
     rw [if_neg (show ¬ (false = true) by decide)] at H
     simp only [Option.some.injEq, Prod.mk.injEq] at H
     obtain ⟨rfl, rfl⟩ := H
     have hnb46 := NB151_152.out
     have hnc46 := NB152_151.out
     obtain ⟨hcz47_0, hcz47_1⟩ := b2 BK151.out
     obtain ⟨hfz47_0, hfz47_1⟩ := f2 BK151.out
     obtain ⟨Ao48, co48, eo48⟩ := Kd.S_slice HO_152000.out
     subst eo48
     obtain ⟨hcz49_0, hcz49_1⟩ := b2 BK152.out
     obtain ⟨hfz49_0, hfz49_1⟩ := f2 BK152.out
     obtain ⟨Ao50, co50, eo50⟩ := Kd.R_slice HO_152001.out
     subst eo50
     go_wp2
     refine bodyPost_ret (results_cell_row rfl _ _ gb152 61 #[.slice Ao48 x152000_4.length co48, .slice Ao50 x152001_4.length co50] (0, 0) _ rfl (bp2 (pb BK152.out)) Try.underlying61 rfl (by kernel_rfl)) rfl ?_
     exact ⟨_, _, rq ⟨ps (Kd.S_mono (Kd.S_far (p := ⟨gb152, 1, none⟩) (Kd.S_far (p := ⟨gb152, 0, none⟩) (Kd.S_types HO_152000.out BK152.out (by decide)) (fun _ hk => hk.2) (.slice Ao48 x152000_4.length co48)) (fun _ hk => hk.2) (.slice Ao50 x152001_4.length co50)) (fun _ hk => hk.1)), pr (Kd.R_mono (Kd.R_far (p := ⟨gb152, 1, none⟩) (Kd.R_far (p := ⟨gb152, 0, none⟩) (Kd.R_types HO_152001.out BK152.out (by decide)) (fun _ hk => hk.2) (.slice Ao48 x152000_4.length co48)) (fun _ hk => hk.2) (.slice Ao50 x152001_4.length co50)) (fun _ hk => hk.1)), bg2 HB.out GE151.out GE152.out, kg2 HK.out (.inr GW151.out) (.inr GW152.out)⟩⟩
   subst c23
   rw [if_pos rfl] at H
   replace H := Option.bind_eq_some_iff.mp H
   obtain ⟨t160, A240, H⟩ := H
   have A24 := am A240
   clear A240
   by_cases c25 : t160 = true
   rotate_left
   · replace c25 := Bool.eq_false_iff.mpr c25
     subst c25
     rw [if_neg (show ¬ (false = true) by decide)] at H
     simp only [Option.some.injEq, Prod.mk.injEq] at H
     obtain ⟨rfl, rfl⟩ := H
     go_wp2_with (first | (go_at_call 19; (with_reducible refine (spec_l6In.calls a2 0 (wrap64 ((l1.length : Int) - 1)) false _ A24.out).mono ?_); rintro e w' ⟨rfl, ⟨nd, rfl⟩⟩; (try (rw [drewN_self wc]; generalize hq_ : World.drewN wc _ = wc; have n0_ : Aside0 (Kd.S k36 36 wc w0.heap.size (fun k_ => (((P0_0_ k_ ∨ P0_1_ k_) ∨ w.heap.size ≤ k_))) u152000 x152000_4) := ⟨by rw [← hq_]; exact (ps HO_152000.out)⟩; have n1_ : Aside0 (Kd.R (Kd.int .i64) 3 wc w0.heap.size (fun k_ => (((P0_0_ k_ ∨ P0_1_ k_) ∨ w.heap.size ≤ k_))) u152001 x152001_4) := ⟨by rw [← hq_]; exact (pr HO_152001.out)⟩; have n2_ : Aside0 (wc.heap[gb151]? = some (.cells #[u152000, u152001] 61 (0, 0))) := ⟨by rw [← hq_]; exact (pb BK151.out)⟩; have n3_ : Aside0 (wc.heap[gb152]? = some (.cells #[.slice none 0 0, .slice none 0 0] 61 (0, 0))) := ⟨by rw [← hq_]; exact (pb BK152.out)⟩; have n4_ : Aside0 (Kept w wc (fun k_ => P0_0_ k_ ∨ P0_1_ k_)) := ⟨by rw [← hq_]; exact (kg2 HK.out (.inr GW151.out) (.inr GW152.out))⟩; have n5_ : Aside0 (Below w0.heap.size w0 wc) := ⟨by rw [← hq_]; exact (bg2 HB.out GE151.out GE152.out)⟩; clear HO_152000 HO_152001 BK151 BK152 HK HB hq_; have HO_152000 := n0_; have HO_152001 := n1_; have BK151 := n2_; have BK152 := n3_; have HK := n4_; have HB := n5_; clear n0_ n1_ n2_ n3_ n4_ n5_)); have hnb41 := NB151_152.out; have hnc41 := NB152_151.out; obtain ⟨hcz42_0, hcz42_1⟩ := b2 BK151.out; obtain ⟨hfz42_0, hfz42_1⟩ := f2 BK151.out; obtain ⟨Ao43, co43, eo43⟩ := Kd.S_slice HO_152000.out; subst eo43; obtain ⟨hcz44_0, hcz44_1⟩ := b2 BK152.out; obtain ⟨hfz44_0, hfz44_1⟩ := f2 BK152.out; obtain ⟨Ao45, co45, eo45⟩ := Kd.R_slice HO_152001.out; subst eo45))
     refine bodyPost_ret (results_cell_row rfl _ _ gb152 61 #[.slice Ao43 x152000_4.length co43, .slice Ao45 x152001_4.length co45] (0, 0) _ rfl (bp2 (pb BK152.out)) Try.underlying61 rfl (by kernel_rfl)) rfl ?_
     exact ⟨_, _, rq ⟨ps (Kd.S_mono (Kd.S_far (p := ⟨gb152, 1, none⟩) (Kd.S_far (p := ⟨gb152, 0, none⟩) (Kd.S_types HO_152000.out BK152.out (by decide)) (fun _ hk => hk.2) (.slice Ao43 x152000_4.length co43)) (fun _ hk => hk.2) (.slice Ao45 x152001_4.length co45)) (fun _ hk => hk.1)), pr (Kd.R_mono (Kd.R_far (p := ⟨gb152, 1, none⟩) (Kd.R_far (p := ⟨gb152, 0, none⟩) (Kd.R_types HO_152001.out BK152.out (by decide)) (fun _ hk => hk.2) (.slice Ao43 x152000_4.length co43)) (fun _ hk => hk.2) (.slice Ao45 x152001_4.length co45)) (fun _ hk => hk.1)), bg2 HB.out GE151.out GE152.out, kg2 HK.out (.inr GW151.out) (.inr GW152.out)⟩⟩
   subst c25
   rw [if_pos rfl] at H
   obtain ⟨c26b0, H⟩ := ifd H
   obtain ⟨c27b0, H⟩ := ifd H
   replace H := Option.bind_eq_some_iff.mp H
   obtain ⟨⟨t162, t165⟩, A280, H⟩ := H
   have A28 := am A280
   clear A280
   simp only [Option.some.injEq, Prod.mk.injEq] at H
   obtain ⟨rfl, rfl⟩ := H
   try go_wp2_with (first | (go_at_call 19; (with_reducible refine (spec_l6In.calls a2 0 (wrap64 ((l1.length : Int) - 1)) true _ A24.out).mono ?_); rintro e w' ⟨rfl, ⟨nd, rfl⟩⟩; (try (rw [drewN_self wc]; generalize hq_ : World.drewN wc _ = wc; have n0_ : Aside0 (Kd.S k36 36 wc w0.heap.size (fun k_ => (((P0_0_ k_ ∨ P0_1_ k_) ∨ w.heap.size ≤ k_))) u152000 x152000_4) := ⟨by rw [← hq_]; exact (ps HO_152000.out)⟩; have n1_ : Aside0 (Kd.R (Kd.int .i64) 3 wc w0.heap.size (fun k_ => (((P0_0_ k_ ∨ P0_1_ k_) ∨ w.heap.size ≤ k_))) u152001 x152001_4) := ⟨by rw [← hq_]; exact (pr HO_152001.out)⟩; have n2_ : Aside0 (wc.heap[gb151]? = some (.cells #[u152000, u152001] 61 (0, 0))) := ⟨by rw [← hq_]; exact (pb BK151.out)⟩; have n3_ : Aside0 (wc.heap[gb152]? = some (.cells #[.slice none 0 0, .slice none 0 0] 61 (0, 0))) := ⟨by rw [← hq_]; exact (pb BK152.out)⟩; have n4_ : Aside0 (Kept w wc (fun k_ => P0_0_ k_ ∨ P0_1_ k_)) := ⟨by rw [← hq_]; exact (kg2 HK.out (.inr GW151.out) (.inr GW152.out))⟩; have n5_ : Aside0 (Below w0.heap.size w0 wc) := ⟨by rw [← hq_]; exact (bg2 HB.out GE151.out GE152.out)⟩; clear HO_152000 HO_152001 BK151 BK152 HK HB hq_; have HO_152000 := n0_; have HO_152001 := n1_; have BK151 := n2_; have BK152 := n3_; have HK := n4_; have HB := n5_; clear n0_ n1_ n2_ n3_ n4_ n5_))))
   replace HO_152000 := am (Kd.S_drew HO_152000.out)
   replace HO_152001 := am (Kd.R_drew HO_152001.out)
   replace BK151 := am (blk_drew BK151.out)
   replace BK152 := am (blk_drew BK152.out)
   replace HK := am (Kept.drew HK.out)
   replace HB := am (below_drew1 HB.out)
   have p161 : 0 ≤ (a2 : Int) := ofb
   have q161 : a2 < (l1.length : Int) := ofb
   obtain ⟨ad161, e161, hx161_0, hx161_1, hx161_2, hx161_3, hx161_4, hx161_5, hx161_6, hx161_7⟩ := at_T88 (Kd.C_kept_now HR1.out HK.out) a2 p161 q161
   have hw161_7 := hx161_7
   have hw161_6 := hx161_6
   have hw161_5 := hx161_5
   have hw161_4 := hx161_4
   have hw161_3 := hx161_3
   have hw161_2 := hx161_2
   have hw161_1 := hx161_1
   have hw161_0 := hx161_0
   cases e161
   replace p161 := eq_true p161
   replace q161 := eq_true q161
   obtain ⟨Ao30, co30, eo30⟩ := Kd.S_slice HO_152000.out
   (first | subst eo30 | (injection eo30 with f1_ f2_ f3_; have f4_ := f1_.symm; have f5_ := f3_.symm; clear f1_ f2_ f3_; subst f4_; subst f5_))
   obtain ⟨Ao31, co31, eo31⟩ := Kd.R_slice HO_152001.out
   (first | subst eo31 | (injection eo31 with f1_ f2_ f3_; have f4_ := f1_.symm; have f5_ := f3_.symm; clear f1_ f2_ f3_; subst f4_; subst f5_))
   obtain ⟨PXh32, hxa_, hxb_⟩ := Kd.S_hand HO_152000.out
   have HXAh32 := am hxa_
   have HXBh32 := am hxb_
   clear hxa_ hxb_
   refine start_ (n := 7) (S := fun w' => w'.cell? ⟨gb151, 0, none⟩ = some (.slice Ao30 x152000_4.length co30) ∧ w'.cell? ⟨gb151, 1, none⟩ = some (.slice Ao31 x152001_4.length co31) ∧ w'.cell? (ad161.add ((a2).toNat * 8)) = some (.int .i64 ((rd_T88 l1 a2).f0)) ∧ w'.cell? ⟨(ad161.add ((a2).toNat * 8)).block, (ad161.add ((a2).toNat * 8)).off + 1, none⟩ = some (.int .i64 ((rd_T88 l1 a2).f1)) ∧ w'.cell? ⟨(ad161.add ((a2).toNat * 8)).block, (ad161.add ((a2).toNat * 8)).off + 2, none⟩ = some (.int .i64 ((rd_T88 l1 a2).f2)) ∧ w'.cell? ⟨(ad161.add ((a2).toNat * 8)).block, (ad161.add ((a2).toNat * 8)).off + 3, none⟩ = some (.int .i64 ((rd_T88 l1 a2).f3)) ∧ w'.cell? ⟨(ad161.add ((a2).toNat * 8)).block, (ad161.add ((a2).toNat * 8)).off + 4, none⟩ = some (.int .i64 ((rd_T88 l1 a2).f4.f0)) ∧ w'.cell? ⟨(ad161.add ((a2).toNat * 8)).block, (ad161.add ((a2).toNat * 8)).off + 5, none⟩ = some (.int .i64 ((rd_T88 l1 a2).f4.f1)) ∧ w'.cell? ⟨(ad161.add ((a2).toNat * 8)).block, (ad161.add ((a2).toNat * 8)).off + 6, none⟩ = some (.int .i64 ((rd_T88 l1 a2).f4.f2)) ∧ w'.cell? ⟨(ad161.add ((a2).toNat * 8)).block, (ad161.add ((a2).toNat * 8)).off + 7, none⟩ = some (.int .i64 ((rd_T88 l1 a2).f4.f3))) (ds := [5, 6]) (bt 7 0) (by kernel_rfl) rfl rfl ⟨(blk_cell BK151.out 0).trans rfl, (blk_cell BK151.out 1).trans rfl, hx161_0, hx161_1, hx161_2, hx161_3, hx161_4, hx161_5, hx161_6, hx161_7⟩ (fun hHeld => ?_)
   generalize wc.drew = w29 at HO_152000 HO_152001 BK151 BK152 HK HB HXAh32 HXBh32 hx161_0 hx161_1 hx161_2 hx161_3 hx161_4 hx161_5 hx161_6 hx161_7 hHeld ⊢
   refine pi_ 1 36 (bt 7 2) rfl rfl (fun _ _ _ h => h) ?_
   refine pi_ 2 37 (bt 7 6) rfl rfl (fun _ _ _ h => h) ?_
   refine pi_ 3 38 (bt 7 14) rfl rfl (fun _ _ _ h => h) ?_
   refine pm_ 0 35 (bt 7 15) rfl rfl (by kernel_rfl) (fun _ _ _ h => h) hHeld ?_
   refine pm_ 4 39 (bt 7 31) rfl rfl (by kernel_rfl) (fun _ _ _ h => h) hHeld ?_
   refine last_ (i := 5) (N := some 40) (bt 7 63) rfl rfl (by kernel_rfl) (by decide) (fun K hK => ?_)
   refine qg Try.func48 #[.agg #[.slice Ao30 x152000_4.length co30, .slice Ao31 x152001_4.length co31], .agg #[.int .i64 ((rd_T88 l1 a2).f0), .int .i64 ((rd_T88 l1 a2).f1), .int .i64 ((rd_T88 l1 a2).f2), .int .i64 ((rd_T88 l1 a2).f3), .int .i64 ((rd_T88 l1 a2).f4.f0), .int .i64 ((rd_T88 l1 a2).f4.f1), .int .i64 ((rd_T88 l1 a2).f4.f2), .int .i64 ((rd_T88 l1 a2).f4.f3)], .bool true] rfl rfl ?_
   with_reducible refine (spec_l12Do.calls kj4 PXh32 (.slice Ao30 x152000_4.length co30) x152000_4 (fun k_ => some k_ = (.slice Ao31 x152001_4.length co31 : Value).ownBlock) (.slice Ao31 x152001_4.length co31) x152001_4 ((rd_T88 l1 a2).f0) ((rd_T88 l1 a2).f1) ((rd_T88 l1 a2).f2) ((rd_T88 l1 a2).f3) ((rd_T88 l1 a2).f4.f0) ((rd_T88 l1 a2).f4.f1) ((rd_T88 l1 a2).f4.f2) ((rd_T88 l1 a2).f4.f3) true t162 t165 w0 _ ?side1 ?side2 ?side3 A28.out).mono ?_
   (case side1 => exact bg2 HB.out GE151.out GE152.out)
   (case side2 => exact (ps HXAh32.out))
   (case side3 => exact Kd.R_tight rfl HO_152001.out)
   rintro e w33 ⟨v163, v166, rfl, ho0, ho1, hb, hkp⟩
   refine ⟨_, rfl, ?_⟩
   replace BK151 := am (blk_kept (pb BK151.out) hkp (fun hs_ => Or.elim hs_ (fun e_ => (fun e_ => Kd.blk_awayP (fun k_ h_ => (HXBh32.out k_ h_).2.2.2) BK151.out (by decide) e_) e_) (fun e_ => (fun e_ => (Kd.R_ne HO_152001.out BK151.out (by decide)) e_) e_)))
   replace BK152 := am (blk_kept (pb BK152.out) hkp (fun hs_ => Or.elim hs_ (fun e_ => (fun e_ => Kd.blk_awayP (fun k_ h_ => (HXBh32.out k_ h_).2.2.2) BK152.out (by decide) e_) e_) (fun e_ => (fun e_ => (Kd.R_ne HO_152001.out BK152.out (by decide)) e_) e_)))
   have HO164 := am (Kd.S_mono (ok' := fun k_ => ((P0_0_ k_ ∨ P0_1_ k_) ∨ w.heap.size ≤ k_)) ho0 (fun k_ hk_ => Or.elim hk_ (fun hs_ => Or.elim hs_ (fun hs_ => (HXBh32.out k_ hs_).1) (fun hs_ => (HO_152001.out.1 k_ (hs_).symm))) (fun hn_ => (.inr (Nat.le_trans (kg2 HK.out (.inr GW151.out) (.inr GW152.out)).1 hn_)))))
   have HO167 := am (Kd.R_mono (ok' := fun k_ => ((P0_0_ k_ ∨ P0_1_ k_) ∨ w.heap.size ≤ k_)) ho1 (fun k_ hk_ => Or.elim hk_ (fun hs_ => Or.elim hs_ (fun hs_ => (HXBh32.out k_ hs_).1) (fun hs_ => (HO_152001.out.1 k_ (hs_).symm))) (fun hn_ => (.inr (Nat.le_trans (kg2 HK.out (.inr GW151.out) (.inr GW152.out)).1 hn_)))))
   replace HK := am (Kept.then_ (S := (fun k_ => P0_0_ k_ ∨ P0_1_ k_)) (kg2 HK.out (.inr GW151.out) (.inr GW152.out)) hkp (fun k_ hs_ => Or.elim hs_ (fun e_ => (fun e_ => (HXBh32.out k_ e_).1) e_) (fun e_ => (fun e_ => (HO_152001.out.1 k_ e_.symm)) e_)))
   replace HB := am (hb)
   clear HO_152000 HO_152001
   clear hb hkp ho0 ho1
   obtain ⟨Ao34, co34, eo34⟩ := Kd.S_slice HO164.out
   (first | subst eo34 | (injection eo34 with f1_ f2_ f3_; have f4_ := f1_.symm; have f5_ := f3_.symm; clear f1_ f2_ f3_; subst f4_; subst f5_))
   obtain ⟨Ao36, co36, eo36⟩ := Kd.R_slice HO167.out
   (first | subst eo36 | (injection eo36 with f1_ f2_ f3_; have f4_ := f1_.symm; have f5_ := f3_.symm; clear f1_ f2_ f3_; subst f4_; subst f5_))
   refine hK.out _ _ ?_
   clear hK K
   refine qn (some 40) ?_
   refine last_ (i := 6) (N := none) (bt 7 127) rfl rfl (by kernel_rfl) (by decide) (fun K hK => ?_)
   have hs35 : w33.cell? ⟨gb151, 0, none⟩ = some (.slice Ao30 x152000_4.length co30) := (blk_cell BK151.out 0).trans rfl
   have hfs35 := blk_frozen BK151.out 0
   have hns35_1 := NB152_151.out
   have hms35_1 := NB151_152.out
   have hs37 : w33.cell? ⟨gb151, 1, none⟩ = some (.slice Ao31 x152001_4.length co31) := (blk_cell BK151.out 1).trans rfl
   have hfs37 := blk_frozen BK151.out 1
   have hns37_1 := NB152_151.out
   have hms37_1 := NB151_152.out
   refine qs rfl ?_
   refine hK.out _ _ ?_
   clear hK K
   refine done_ (by kernel_rfl) ?_
   have hnb38 := NB151_152.out
   have hnc38 := NB152_151.out
   obtain ⟨hcz39_0, hcz39_1⟩ := b2 BK151.out
   obtain ⟨hfz39_0, hfz39_1⟩ := f2 BK151.out
   obtain ⟨hcz40_0, hcz40_1⟩ := b2 BK152.out
   obtain ⟨hfz40_0, hfz40_1⟩ := f2 BK152.out
   try go_wp2
   refine bodyPost_ret (results_cell_row rfl _ _ gb152 61 #[.slice Ao34 t162.length co34, .slice Ao36 t165.length co36] (0, 0) _ rfl (bp2 (bf2 (pb BK152.out) NB152_151.out)) Try.underlying61 rfl (by kernel_rfl)) rfl ?_
   exact ⟨_, _, rq ⟨ps (Kd.S_mono (Kd.S_far (p := ⟨gb152, 1, none⟩) (Kd.S_far (p := ⟨gb152, 0, none⟩) (Kd.S_far (p := ⟨gb151, 1, none⟩) (Kd.S_far (p := ⟨gb151, 0, none⟩) (Kd.S_types (Kd.S_types HO164.out BK151.out (by decide)) BK152.out (by decide)) (fun _ hk => hk.1.2) (.slice Ao34 t162.length co34)) (fun _ hk => hk.1.2) (.slice Ao36 t165.length co36)) (fun _ hk => hk.2) (.slice Ao34 t162.length co34)) (fun _ hk => hk.2) (.slice Ao36 t165.length co36)) (fun _ hk => hk.1.1)), pr (Kd.R_mono (Kd.R_far (p := ⟨gb152, 1, none⟩) (Kd.R_far (p := ⟨gb152, 0, none⟩) (Kd.R_far (p := ⟨gb151, 1, none⟩) (Kd.R_far (p := ⟨gb151, 0, none⟩) (Kd.R_types (Kd.R_types HO167.out BK151.out (by decide)) BK152.out (by decide)) (fun _ hk => hk.1.2) (.slice Ao34 t162.length co34)) (fun _ hk => hk.1.2) (.slice Ao36 t165.length co36)) (fun _ hk => hk.2) (.slice Ao34 t162.length co34)) (fun _ hk => hk.2) (.slice Ao36 t165.length co36)) (fun _ hk => hk.1.1)), bg2 HB.out GE151.out GE152.out, kg2 HK.out (.inr GW151.out) (.inr GW152.out)⟩⟩
end Go.Proofs.Ythmgdljblidgjaa.Rw
