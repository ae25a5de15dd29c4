-- printed by wip/pp/pp.py
import Derived.Test.YtcfpddgfhkaboaaRz0
namespace Go.Proofs.Ytcfpddgfhkaboaa.Rz
open Go.RowKit Go.Proofs.YtcfpddgfhkaboaaW.PrintWords Go.Proofs.YtcfpddgfhkaboaaW.PrintLast Go.Proofs.YtcfpddgfhkaboaaW.PrintMore
attribute [local go_sem] max2_int min2_int max_two min_two max_three min_three max_four min_four
set_option linter.unusedVariables false
set_option linter.unusedSimpArgs false
def spec_l6In.f (a0 : Int) (a1 : Int) (a2 : Int) : Option (Bool) := if a0 ≥ a1 then (some (decide (a0 ≤ a2))) else (some false)
set_option maxHeartbeats 8000000 in
set_option maxRecDepth 100000 in
theorem spec_l6In.calls (a0 : Int) (a1 : Int) (a2 : Int) (r : Bool) (w : World) (h : spec_l6In.f a0 a1 a2 = some r) :
 Calls Try.prog 18 #[.int .i64 a0, .int .i64 a1, .int .i64 a2] w fun e w' => e = .returned (.bool r) ∧ Drawn0 w w' := by
 have H : (if a0 ≥ a1 then (some (decide (a0 ≤ a2))) else (some false)) = some r := h
 clear h
 by_cases c4 : a0 ≥ a1
 · rw [if_pos c4] at H
   have c4b0 := decide_eq_true c4
   clear c4
   obtain rfl := Option.some.inj H
   go_enter Try.func18, Try.ntmps18
   go_wp2
   go_ret
   exact ⟨by first | rfl | (simp; done) | (simp [*]; done), by repeat (first | exact Drawn0.refl _ | apply Drawn0.step)⟩
 rw [if_neg c4] at H
 have c4b0 := decide_eq_false c4
 clear c4
 obtain rfl := Option.some.inj H
 go_enter Try.func18, Try.ntmps18
 go_wp2
 go_ret
 exact ⟨by first | rfl | (simp; done) | (simp [*]; done), by repeat (first | exact Drawn0.refl _ | apply Drawn0.step)⟩
mutual
def spec_l2Wipe.j0 : Nat → List (S60) → Int → Int → Option ((List (S60)) × Bool)
 | 0, _, _, _ => none
 | k + 1, x0, x1, x8 => spec_l2Wipe.l0 k x0 x1 x8 0
def spec_l2Wipe.l0 : Nat → List (S60) → Int → Int → Int → Option ((List (S60)) × Bool)
 | 0, _, _, _, _ => none
 | k + 1, x0, x1, x8, x9 => if x9 < 4 then (if 0 ≤ x1 then (if x1 < (x0.length : Int) then (if 0 ≤ x9 then (if x9 < (((rd_T60 x0 x1).f0).length : Int) then (spec_l2Wipe.l0 k (x0.set (x1 : Int).toNat (⟨(((rd_T60 x0 x1).f0).set (x9 : Int).toNat (⟨x8, (⟨0, 0, 0, 0⟩ : S30)⟩ : S52)), (rd_T60 x0 x1).f1⟩ : S60)) x1 x8 (wrap64 (x9 + 1))) else (none)) else (none)) else (none)) else (none)) else (some (x0, true))
end
def spec_l2Wipe.f (k : Nat) (l0 : List (S60)) (a1 : Int) (a2 : Bool) : Option ((List (S60)) × Bool) := if 0 ≤ a1 then (if a1 < (l0.length : Int) then (if ((rd_T60 l0 a1).f1) ≥ 200 then (some (l0, false)) else ((some (l0.set (a1 : Int).toNat (⟨(rd_T60 l0 a1).f0, wrap64 (((rd_T60 l0 a1).f1) + 1)⟩ : S60) : List (S60))).bind fun y122 => (if a2 = true then (spec_l2Wipe.j0 k y122 a1 2) else (spec_l2Wipe.j0 k y122 a1 0)))) else (none)) else (none)
theorem spec_l2Wipe.mono_l : ∀ k, (∀ y0 y1 y2, LeO (spec_l2Wipe.j0 k y0 y1 y2) (spec_l2Wipe.j0 (k + 1) y0 y1 y2)) ∧ (∀ y0 y1 y2 y3, LeO (spec_l2Wipe.l0 k y0 y1 y2 y3) (spec_l2Wipe.l0 (k + 1) y0 y1 y2 y3))
 | 0 => ⟨fun _ _ _ r h => by simp [spec_l2Wipe.j0] at h, fun _ _ _ _ r h => by simp [spec_l2Wipe.l0] at h⟩
 | k + 1 => by
  obtain ⟨ih0, ih1⟩ := spec_l2Wipe.mono_l k
  refine ⟨?_, ?_⟩
  · intro y0 y1 y2
    unfold spec_l2Wipe.j0
    with_reducible repeat' first | exact ih0 _ _ _ | exact ih1 _ _ _ _ | exact LeO.refl _ | exact LeO.none _ | refine LeO.ite ?_ ?_ | refine LeO.bind ?_ (fun _ => ?_)
  · intro y0 y1 y2 y3
    unfold spec_l2Wipe.l0
    with_reducible repeat' first | exact ih0 _ _ _ | exact ih1 _ _ _ _ | exact LeO.refl _ | exact LeO.none _ | refine LeO.ite ?_ ?_ | refine LeO.bind ?_ (fun _ => ?_)
theorem spec_l2Wipe.mono : ∀ a0 a1 a2 k, LeO (spec_l2Wipe.f k a0 a1 a2) (spec_l2Wipe.f (k + 1) a0 a1 a2) := by
 intro a0 a1 a2 k
 obtain ⟨ih0, ih1⟩ := spec_l2Wipe.mono_l k
 unfold spec_l2Wipe.f
 with_reducible repeat' first | exact ih0 _ _ _ | exact ih1 _ _ _ _ | exact LeO.refl _ | exact LeO.none _ | refine LeO.ite ?_ ?_ | refine LeO.bind ?_ (fun _ => ?_)
set_option maxHeartbeats 8000000 in
set_option maxRecDepth 100000 in
theorem spec_l2Wipe.calls (k : Nat) (P0_ : Nat → Prop) (u9000_ : Value) (l0 : List (S60)) (a1 : Int) (a2 : Bool) (r1 : List (S60)) (r2 : Bool) (w0 w : World) (hB : Below w0.heap.size w0 w) (ho0 : Kd.S k60 60 w w0.heap.size P0_ u9000_ l0) (h : spec_l2Wipe.f k l0 a1 a2 = some (r1, r2)) :
 Calls Try.prog 53 #[u9000_, .int .i64 a1, .bool a2] w fun e w' => ∃ v0_ : Value, e = .returned (.tuple #[v0_, .bool r2]) ∧ Kd.S k60 60 w' w0.heap.size (fun k_ => (P0_ k_ ∨ w.heap.size ≤ k_)) v0_ r1 ∧ Below w0.heap.size w0 w' ∧ Kept w w' (fun k_ => P0_ k_) := by
 have hu52 := Try.underlying52
 have HO0 := am (show Kd.S k60 60 w w0.heap.size (fun k_ => (P0_ k_ ∨ w.heap.size ≤ k_)) u9000_ l0 from Kd.S_mono ho0 (fun k_ hk => (.inl hk)))
 have HK := am (Kept.refl w (fun k_ => P0_ k_))
 have HW0 := am hB.size
 have HB := am hB
 clear hB
 have H : (if 0 ≤ a1 then (if a1 < (l0.length : Int) then (if ((rd_T60 l0 a1).f1) ≥ 200 then (some (l0, false)) else ((some (l0.set (a1 : Int).toNat (⟨(rd_T60 l0 a1).f0, wrap64 (((rd_T60 l0 a1).f1) + 1)⟩ : S60) : List (S60))).bind fun y122 => (if a2 = true then (spec_l2Wipe.j0 k y122 a1 2) else (spec_l2Wipe.j0 k y122 a1 0)))) else (none)) else (none)) = some (r1, r2) := h
 clear h
 obtain ⟨c4b0, H⟩ := ifd H
 obtain ⟨c5b0, H⟩ := ifd H
 by_cases c6 : ((rd_T60 l0 a1).f1) ≥ 200
 · rw [if_pos c6] at H
   have c6b0 := decide_eq_true c6
   clear c6
   simp only [Option.some.injEq, Prod.mk.injEq] at H
   obtain ⟨rfl, rfl⟩ := H
   obtain ⟨Ao7, co7, eo7⟩ := Kd.S_slice HO0.out
   subst eo7
   have p120 : 0 ≤ (a1 : Int) := ofb
   have q120 : a1 < (l0.length : Int) := ofb
   obtain ⟨ad120, A120_0, c120_0, e120, hx120_0, hx120_1, hl120_0, hi120_0⟩ := at_T60 (Kd.S_reads' HO0.out).2.2 a1 p120 q120
   cases e120
   obtain ⟨ce120, hce120, hMe120, hcc120⟩ := Kd.S_get HO0.out z60 a1 p120 (by first | exact q120 | exact ofb | (have e_ := (Kd.S_reads' HO0.out).1; omega))
   obtain ⟨ve120_0, rfl, ge120_0⟩ := k60_openM hMe120
   have hv120_0 := hcc120 0 _ rfl
   rw [Nat.add_zero] at hv120_0
   replace hv120_0 := Option.some.inj (hv120_0.symm.trans hx120_0)
   rw [hv120_0] at ge120_0
   have HL120_0 := am (show Kd.R k52 52 _ _ _ _ ((rd_T60 l0 a1).f0) from ge120_0)
   clear hv120_0 ge120_0
   have HX120_0 := am hx120_0
   clear hcc120 hce120
   have HR120_0 := am hi120_0
   have HC120_0 := am hl120_0
   clear hi120_0 hl120_0
   replace p120 := eq_true p120
   replace q120 := eq_true q120
   go_enter Try.func53, Try.ntmps53
   go_wp2
   go_ret2
   exact ⟨_, rq ⟨ps HO0.out, ph HB.out, pk HK.out⟩⟩
 rw [if_neg c6] at H
 have c6b0 := decide_eq_false c6
 clear c6
 obtain ⟨y122, hy122⟩ : ∃ y_ : List (S60), y_ = (l0.set (a1 : Int).toNat (⟨(rd_T60 l0 a1).f0, wrap64 (((rd_T60 l0 a1).f1) + 1)⟩ : S60)) := ⟨_, rfl⟩
 replace H : (if a2 = true then (spec_l2Wipe.j0 k y122 a1 2) else (spec_l2Wipe.j0 k y122 a1 0)) = some (r1, r2) := yy hy122 H
 have Ny122 := am hy122
 clear hy122
 have HC9 := am H
 clear H
 obtain ⟨Ao10, co10, eo10⟩ := Kd.S_slice HO0.out
 subst eo10
 have p120 : 0 ≤ (a1 : Int) := ofb
 have q120 : a1 < (l0.length : Int) := ofb
 obtain ⟨ad120, A120_0, c120_0, e120, hx120_0, hx120_1, hl120_0, hi120_0⟩ := at_T60 (Kd.S_reads' HO0.out).2.2 a1 p120 q120
 cases e120
 obtain ⟨ce120, hce120, hMe120, hcc120⟩ := Kd.S_get HO0.out z60 a1 p120 (by first | exact q120 | exact ofb | (have e_ := (Kd.S_reads' HO0.out).1; omega))
 obtain ⟨ve120_0, rfl, ge120_0⟩ := k60_openM hMe120
 have hv120_0 := hcc120 0 _ rfl
 rw [Nat.add_zero] at hv120_0
 replace hv120_0 := Option.some.inj (hv120_0.symm.trans hx120_0)
 rw [hv120_0] at ge120_0
 have HL120_0 := am (show Kd.R k52 52 _ _ _ _ ((rd_T60 l0 a1).f0) from ge120_0)
 clear hv120_0 ge120_0
 have HX120_0 := am hx120_0
 clear hcc120 hce120
 have HR120_0 := am hi120_0
 have HC120_0 := am hl120_0
 clear hi120_0 hl120_0
 replace p120 := eq_true p120
 replace q120 := eq_true q120
 have p121 : 0 ≤ (a1 : Int) := ofb
 have q121 : a1 < (l0.length : Int) := ofb
 obtain ⟨ad121, A121_0, c121_0, e121, hx121_0, hx121_1, hl121_0, hi121_0⟩ := at_T60 (Kd.S_reads' HO0.out).2.2 a1 p121 q121
 obtain rfl : ad120 = ad121 := (by injection e121)
 obtain ⟨ce121, hce121, hMe121, hcc121⟩ := Kd.S_get HO0.out z60 a1 p121 (by first | exact q121 | exact ofb | (have e_ := (Kd.S_reads' HO0.out).1; omega))
 obtain ⟨ve121_0, rfl, ge121_0⟩ := k60_openM hMe121
 have hv121_0 := hcc121 0 _ rfl
 rw [Nat.add_zero] at hv121_0
 replace hv121_0 := Option.some.inj (hv121_0.symm.trans hx121_0)
 rw [hv121_0] at ge121_0
 have HL121_0 := am (show Kd.R k52 52 _ _ _ _ ((rd_T60 l0 a1).f0) from ge121_0)
 clear hv121_0 ge121_0
 have HX121_0 := am hx121_0
 clear hcc121 hce121
 have HR121_0 := am hi121_0
 have HC121_0 := am hl121_0
 clear hi121_0 hl121_0
 replace p121 := eq_true p121
 replace q121 := eq_true q121
 have ea_ := Option.some.inj (hx120_0.symm.trans hx121_0)
 injection ea_ with ea_ en_ ec_
 subst ea_
 subst ec_
 clear en_
 have p8 : 0 ≤ (a1 : Int) := ofb
 have q8 : (a1 : Int) < ((l0.length : Int) : Int) := ofb
 obtain ⟨go8, co8, eo8, gb8, gl8, cl8, HG8⟩ := Kd.S_form HO0.out (by omega)
 (first | cases eo8 | (injection eo8 with ea_ en_ ec_; (first | subst ea_ | (injection ea_ with ea_; subst ea_)); subst ec_; clear en_))
 have GB8 := am gb8
 have GG8 := am HG8
 clear gb8 gl8 HG8
 have HMgo8 := am (show (P0_ go8 ∨ w.heap.size ≤ go8) from ((Kd.S_R HO0.out).1 _ rfl))
 (first | simp only [add_plain] at hx120_0 | skip)
 (first | simp only [add_plain] at hx120_1 | skip)
 (first | simp only [add_plain] at hx121_0 | skip)
 (first | simp only [add_plain] at hx121_1 | skip)
 obtain ⟨_, ce8, hcl8, hM8, hcc8, hfr8, _, _⟩ := Kd.S_elem HO0.out z60 (a1 : Int) p8 q8
 obtain ⟨ve8_0, rfl, ge8_0⟩ := k60_openM hM8
 have hx8_0 : w.cell? ⟨go8, (a1 : Int).toNat * 2, none⟩ = some (ve8_0) := hcc8 0 _ rfl
 have hx8_1 : w.cell? ⟨go8, (a1 : Int).toNat * 2 + 1, none⟩ = some (.int .i64 ((rd_T60 l0 a1).f1)) := hcc8 1 _ rfl
 have hf8_0 : w.frozen? ⟨go8, (a1 : Int).toNat * 2, none⟩ = false := hfr8 0
 have hf8_1 : w.frozen? ⟨go8, (a1 : Int).toNat * 2 + 1, none⟩ = false := hfr8 1
 clear hcl8 hcc8 hfr8 hM8
 replace p8 := eq_true p8
 replace q8 := eq_true q8
 have HX11 := am (show Kd.S k60 60 w w0.heap.size (fun k_ => ((fun k_ => (P0_ k_ ∨ w.heap.size ≤ k_))) k_ ∧ ¬ ((fun _ => False)) k_) (.slice (some ⟨go8, 0, none⟩) l0.length co10) l0 from (ps (Kd.S_mono HO0.out (fun k_ hk => ⟨hk, fun e_ => e_⟩))))
 obtain ⟨oki11, ce11, hcl11, hM11, hcc11, hfr11, hoki11, hH11⟩ := Kd.S_elem HX11.out z60 (a1 : Int) (ofb) (by have h_ : (a1 : Int) < ((l0.length : Int) : Int) := ofb; first | exact h_ | (have e_ := (Kd.S_reads' HO0.out).1; omega) | simpa using h_)
 obtain ⟨ve11_0, rfl, ge11_0⟩ := k60_openM hM11
 have HP11 := Kd.S_seg hH11 (ofb) (by have h_ : (a1 : Int) < ((l0.length : Int) : Int) := ofb; first | exact h_ | (have e_ := (Kd.S_reads' HO0.out).1; omega) | simpa using h_) (seg := [.int .i64 (wrap64 (((rd_T60 l0 a1).f1) + 1))]) (j := 1) (show 2 ≤ 2 from by decide) (x' := (⟨(rd_T60 l0 a1).f0, wrap64 (((rd_T60 l0 a1).f1) + 1)⟩ : S60)) (k60_mkM _ _ _ (⟨(rd_T60 l0 a1).f0, wrap64 (((rd_T60 l0 a1).f1) + 1)⟩ : S60) (Kd.R_mono ge11_0 (fun _ h_ => Or.inl h_))) (fun _ hk => hk) (fun k_ hk_ => hk_.elim)
 have hx11_1 := hcc11 1 _ rfl
 (try simp only [show (k60).sz = 2 from rfl, Nat.mul_one, Nat.add_zero] at hx11_1)
 have hf11_1 := hfr11 1
 (try simp only [show (k60).sz = 2 from rfl, Nat.mul_one, Nat.add_zero] at hf11_1)
 clear hcl11 hcc11 hfr11 hM11 hoki11 hH11
 go_enter Try.func53, Try.ntmps53
 go_upto_if 27 with (first | ((with_reducible refine gate_store (t := 3) (p := 26) rfl ?_); refine store_event (t := 3) (p := 26) (v := ?vo_w12) (w1 := (w.setCell ⟨go8, (a1 : Int).toNat * 2 + 1, none⟩ (.int .i64 (wrap64 (((rd_T60 l0 a1).f1) + 1))))) ?hg ?ho ?hn ?hr ?_; (case ho => rfl); (case hg => rfl); (case hn => rfl); (case hr => first | (go_simp; done) | (go_simp; rfl)); intro w12 hw; have hg : w.grownBy w12 (some go8) := (by rw [hw]; exact HP11.2); have hp_ : Kd.S k60 60 w12 w0.heap.size (fun k_ => (P0_ k_ ∨ w.heap.size ≤ k_)) (.slice (some ⟨go8, 0, none⟩) l0.length co10) y122 := (by rw [hw, Ny122.out]; exact HP11.1); clear HP11; replace HL120_0 := am (Kd.R_after (v := (.slice (some ⟨go8, 0, none⟩) l0.length co10)) (v1 := (.slice (some ⟨go8, 0, none⟩) l0.length co10)) (ok := (fun k_ => (P0_ k_ ∨ w.heap.size ≤ k_))) (pr HL120_0.out) hg (.inl rfl)); replace HL121_0 := am (Kd.R_after (v := (.slice (some ⟨go8, 0, none⟩) l0.length co10)) (v1 := (.slice (some ⟨go8, 0, none⟩) l0.length co10)) (ok := (fun k_ => (P0_ k_ ∨ w.heap.size ≤ k_))) (pr HL121_0.out) hg (.inl rfl)); replace HB := am ((by rw [hw]; exact below_set (HB.out) GB8.out : Below w0.heap.size w0 w12)); replace HK := am (Kept.of_grown (S := (fun k_ => P0_ k_)) hg (pk HK.out) (fun k_ e_ => ((Kd.S_R HO0.out).1 k_ e_))); replace HO0 := am (hp_); clear hg hw hp_))
 (try simp only [Act.put, List.setIfInBounds_toArray, List.set_cons_zero, List.set_cons_succ])
 go_cut [8] (fun v8 wc => ∃ (kq : Nat) (x8_8 : Int), v8 = .int .i64 x8_8 ∧ Aside0 (spec_l2Wipe.j0 kq y122 a1 x8_8 = some (r1, r2)) ∧ Aside0 (kq ≤ k) ∧ Aside0 (Kd.S k60 60 wc w0.heap.size (fun k_ => (P0_ k_ ∨ w.heap.size ≤ k_)) (.slice (some ⟨go8, 0, none⟩) l0.length co10) y122) ∧ Aside0 (Kept w wc (fun k_ => P0_ k_)) ∧ Aside0 (Below w0.heap.size w0 wc))
 case first =>
  have H := HC9.out
  clear HC9
  by_cases c13 : a2 = true
  · subst c13
    rw [if_pos rfl] at H
    have H' := am H
    clear H
    go_wp2
    go_meet
    case rel => exact ⟨_, (2), rf, H', ⟨by first | omega | exact Nat.le_refl _⟩, ⟨ps HO0.out⟩, ⟨pk HK.out⟩, ⟨ph HB.out⟩⟩
  replace c13 := Bool.eq_false_iff.mpr c13
  subst c13
  rw [if_neg (show ¬ (false = true) by decide)] at H
  have H' := am H
  clear H
  go_wp2
  go_meet
  case rel => exact ⟨_, (0), rf, H', ⟨by first | omega | exact Nat.le_refl _⟩, ⟨ps HO0.out⟩, ⟨pk HK.out⟩, ⟨ph HB.out⟩⟩
 case rest =>
  clear HC9
  obtain ⟨kq, x8_8, rfl, HA, HJ8, HO_0, HK, HB⟩ := hcut
  have hl0_8 := (Kd.S_reads' HO_0.out).1
  rw [hl0_8] at HO_0
  (try simp only [hl0_8])
  cases kq with
  | zero => exact absurd HA.out (by simp [spec_l2Wipe.j0])
  | succ kj8 =>
   have H := HA.out
   clear HA
   simp only [spec_l2Wipe.j0] at H
   have H' := am H
   clear H
   go_wp2
   go_loopg [9] kj8 (fun kq v9 w' => ∃ (x0_2 : List (S60)) (x9_2 : Int), v9 = .int .i64 x9_2 ∧ Aside0 (spec_l2Wipe.l0 kq x0_2 a1 x8_8 x9_2 = some (r1, r2)) ∧ Aside0 (kq ≤ kj8) ∧ Aside0 (Kd.S k60 60 w' w0.heap.size (fun k_ => (P0_ k_ ∨ w.heap.size ≤ k_)) (.slice (some ⟨go8, 0, none⟩) y122.length co10) x0_2) ∧ Aside0 (Kept w w' (fun k_ => P0_ k_)) ∧ Aside0 (Below w0.heap.size w0 w'))
   case atStart => exact ⟨(y122), (0), rf, H', ⟨Nat.le_refl _⟩, ⟨by (try simp only [hl0_8]); (with_reducible repeat (first | apply Kd.S_alloc | apply Kd.S_drewN | apply Kd.S_drew)); exact HO_0.out⟩, ⟨pk HK.out⟩, ⟨ph HB.out⟩⟩
   case round =>
    clear H'
    obtain ⟨x0_2, x9_2, rfl, HA, HK2, HO_0, HK, HB⟩ := hrel
    have hl0_2 := (Kd.S_reads' HO_0.out).1
    rw [hl0_2] at HO_0
    (try simp only [hl0_2])
    cases gk with
    | zero => exact absurd HA.out (by simp [spec_l2Wipe.l0])
    | succ k2 =>
     have H := HA.out
     clear HA
     simp only [spec_l2Wipe.l0] at H
     by_cases c14 : x9_2 < 4
     rotate_left
     · rw [if_neg c14] at H
       have c14b0 := decide_eq_false c14
       clear c14
       simp only [Option.some.injEq, Prod.mk.injEq] at H
       obtain ⟨rfl, rfl⟩ := H
       go_wp2
       go_ret2
       exact ⟨_, rq ⟨ps HO_0.out, ph HB.out, pk HK.out⟩⟩
     rw [if_pos c14] at H
     have c14b0 := decide_eq_true c14
     clear c14
     obtain ⟨c15b0, H⟩ := ifd H
     obtain ⟨c16b0, H⟩ := ifd H
     obtain ⟨c17b0, H⟩ := ifd H
     obtain ⟨c18b0, H⟩ := ifd H
     obtain ⟨y124, hy124⟩ : ∃ y_ : List (S52), y_ = (((rd_T60 x0_2 a1).f0).set (x9_2 : Int).toNat (⟨x8_8, (⟨0, 0, 0, 0⟩ : S30)⟩ : S52)) := ⟨_, rfl⟩
     replace H : (spec_l2Wipe.l0 k2 (x0_2.set (a1 : Int).toNat (⟨y124, (rd_T60 x0_2 a1).f1⟩ : S60)) a1 x8_8 (wrap64 (x9_2 + 1))) = some (r1, r2) := yy hy124 H
     have Ny124 := am hy124
     clear hy124
     obtain ⟨y126, hy126⟩ : ∃ y_ : List (S60), y_ = (x0_2.set (a1 : Int).toNat (⟨y124, (rd_T60 x0_2 a1).f1⟩ : S60)) := ⟨_, rfl⟩
     replace H : (spec_l2Wipe.l0 k2 y126 a1 x8_8 (wrap64 (x9_2 + 1))) = some (r1, r2) := yy hy126 H
     have Ny126 := am hy126
     clear hy126
     have H' := am H
     clear H
     have p123 : 0 ≤ (a1 : Int) := ofb
     have q123 : a1 < (x0_2.length : Int) := ofb
     obtain ⟨ad123, A123_0, c123_0, e123, hx123_0, hx123_1, hl123_0, hi123_0⟩ := at_T60 (Kd.S_reads' HO_0.out).2.2 a1 p123 q123
     obtain rfl : (⟨go8, 0, none⟩ : Addr) = ad123 := (by injection e123)
     obtain ⟨ce123, hce123, hMe123, hcc123⟩ := Kd.S_get HO_0.out z60 a1 p123 (by first | exact q123 | exact ofb | (have e_ := (Kd.S_reads' HO_0.out).1; omega))
     obtain ⟨ve123_0, rfl, ge123_0⟩ := k60_openM hMe123
     have hv123_0 := hcc123 0 _ rfl
     rw [Nat.add_zero] at hv123_0
     replace hv123_0 := Option.some.inj (hv123_0.symm.trans hx123_0)
     rw [hv123_0] at ge123_0
     have HL123_0 := am (show Kd.R k52 52 _ _ _ _ ((rd_T60 x0_2 a1).f0) from ge123_0)
     clear hv123_0 ge123_0
     have HX123_0 := am hx123_0
     clear hcc123 hce123
     (first | simp only [add_plain] at hx123_0 | simp only [add_at] at hx123_0 | simp only [Addr.add, Nat.zero_add] at hx123_0 | skip)
     (first | simp only [add_plain] at hx123_1 | simp only [add_at] at hx123_1 | simp only [Addr.add, Nat.zero_add] at hx123_1 | skip)
     have HR123_0 := am hi123_0
     have HC123_0 := am hl123_0
     clear hi123_0 hl123_0
     replace p123 := eq_true p123
     replace q123 := eq_true q123
     have p19 : 0 ≤ (x9_2 : Int) := ofb
     have q19 : (x9_2 : Int) < ((((rd_T60 x0_2 a1).f0).length : Int) : Int) := ofb
     obtain ⟨go19, co19, eo19, gb19, gl19, cl19, HG19⟩ := Kd.R_form HL123_0.out (by omega)
     (first | cases eo19 | (injection eo19 with ea_ en_ ec_; (first | subst ea_ | (injection ea_ with ea_; subst ea_)); subst ec_; clear en_))
     have GB19 := am gb19
     have GG19 := am HG19
     clear gb19 gl19 HG19
     have HMgo19 := am (show (P0_ go19 ∨ w.heap.size ≤ go19) from (HL123_0.out.1 _ rfl).1)
     obtain ⟨ce19, hcl19, hM19, hcc19, hfr19⟩ := Kd.R_elem HL123_0.out z52 (x9_2 : Int) p19 q19
     obtain rfl := k52_openM hM19
     have hx19_0 : wr.cell? ⟨go19, (x9_2 : Int).toNat * 5, none⟩ = some (.int .i64 ((rd_T52 ((rd_T60 x0_2 a1).f0) x9_2).f0)) := hcc19 0 _ rfl
     have hx19_1 : wr.cell? ⟨go19, (x9_2 : Int).toNat * 5 + 1, none⟩ = some (.int .i64 ((rd_T52 ((rd_T60 x0_2 a1).f0) x9_2).f1.f0)) := hcc19 1 _ rfl
     have hx19_2 : wr.cell? ⟨go19, (x9_2 : Int).toNat * 5 + 2, none⟩ = some (.int .i64 ((rd_T52 ((rd_T60 x0_2 a1).f0) x9_2).f1.f1)) := hcc19 2 _ rfl
     have hx19_3 : wr.cell? ⟨go19, (x9_2 : Int).toNat * 5 + 3, none⟩ = some (.int .i64 ((rd_T52 ((rd_T60 x0_2 a1).f0) x9_2).f1.f2)) := hcc19 3 _ rfl
     have hx19_4 : wr.cell? ⟨go19, (x9_2 : Int).toNat * 5 + 4, none⟩ = some (.int .i64 ((rd_T52 ((rd_T60 x0_2 a1).f0) x9_2).f1.f3)) := hcc19 4 _ rfl
     have hf19_0 : wr.frozen? ⟨go19, (x9_2 : Int).toNat * 5, none⟩ = false := hfr19 0
     have hf19_1 : wr.frozen? ⟨go19, (x9_2 : Int).toNat * 5 + 1, none⟩ = false := hfr19 1
     have hf19_2 : wr.frozen? ⟨go19, (x9_2 : Int).toNat * 5 + 2, none⟩ = false := hfr19 2
     have hf19_3 : wr.frozen? ⟨go19, (x9_2 : Int).toNat * 5 + 3, none⟩ = false := hfr19 3
     have hf19_4 : wr.frozen? ⟨go19, (x9_2 : Int).toNat * 5 + 4, none⟩ = false := hfr19 4
     clear hcl19 hcc19 hfr19 hM19
     replace p19 := eq_true p19
     replace q19 := eq_true q19
     have hq20 : (a1 : Int) < (x0_2.length : Int) := (by have h_ : (a1 : Int) < ((x0_2.length : Int) : Int) := ofb; first | exact h_ | (have e_ := (Kd.S_reads' HO_0.out).1; omega) | simpa only [List.length_set, List.length_set] using h_)
     obtain ⟨oki20, ce20, hcl20, hM20, hcc20, hok20, hbk20⟩ := Kd.S_borrow HO_0.out z60 (a1 : Int) (ofb) hq20
     obtain ⟨ve20_0, rfl, ge20_0⟩ := k60_openM hM20
     have hv20 := hcc20 0 _ rfl
     rw [Nat.add_zero] at hv20
     replace hv20 := Option.some.inj (hv20.symm.trans HX123_0.out)
     subst hv20
     clear hcc20 hcl20
     replace ge20_0 := (show Kd.R k52 52 _ _ _ _ ((rd_T60 x0_2 a1).f0) from ge20_0)
     obtain ⟨cf20, hcl20, hN20, hcc20, hfr20⟩ := Kd.R_elem ge20_0 z52 (x9_2 : Int) (ofb) (by have h_ : (x9_2 : Int) < ((((rd_T60 x0_2 a1).f0).length : Int) : Int) := ofb; first | exact h_ | (have e_ := (Kd.R_reads' HR123_0.out).1; omega) | simpa using h_)
     obtain rfl := k52_openM hN20
     have HP20 := Kd.R_seg ge20_0 (x9_2 : Int) (ofb) (by have h_ : (x9_2 : Int) < ((((rd_T60 x0_2 a1).f0).length : Int) : Int) := ofb; first | exact h_ | (have e_ := (Kd.R_reads' HR123_0.out).1; omega) | simpa using h_) (seg := [.int .i64 x8_8, .int .i64 0, .int .i64 0, .int .i64 0, .int .i64 0]) (j := 0) hcl20 hcc20 (show 5 ≤ 5 from by decide) (x' := (⟨x8_8, (⟨0, 0, 0, 0⟩ : S30)⟩ : S52)) (k52_mkM _ _ _ (⟨x8_8, (⟨0, 0, 0, 0⟩ : S30)⟩ : S52)) (fun _ hk => hk)
     clear hcl20 hcc20 hfr20 hN20
     go_wp2_with (first | ((with_reducible refine gate_store (t := 52) (p := 40) rfl ?_); refine store_event (t := 52) (p := 40) (v := ?vo_w21) (w1 := (((((wr.setCell ⟨go19, (x9_2 : Int).toNat * 5, none⟩ (.int .i64 x8_8)).setCell ⟨go19, (x9_2 : Int).toNat * 5 + 1, none⟩ (.int .i64 0)).setCell ⟨go19, (x9_2 : Int).toNat * 5 + 2, none⟩ (.int .i64 0)).setCell ⟨go19, (x9_2 : Int).toNat * 5 + 3, none⟩ (.int .i64 0)).setCell ⟨go19, (x9_2 : Int).toNat * 5 + 4, none⟩ (.int .i64 0))) ?hg ?ho ?hn ?hr ?_; (case ho => rfl); (case hg => rfl); (case hn => rfl); (case hr => first | (go_simp; done) | (go_simp; rfl)); intro w21 hw; have hg : wr.grownBy w21 (some go19) := (by rw [hw]; exact HP20.2); have hz_ : Kd.R k52 52 w21 w0.heap.size oki20 (.slice (some ⟨go19, 0, none⟩) ((rd_T60 x0_2 a1).f0).length c123_0) y124 := (by rw [hw, Ny124.out]; exact HP20.1); have hp_ : Kd.S k60 60 w21 w0.heap.size (fun k_ => (P0_ k_ ∨ w.heap.size ≤ k_)) (.slice (some ⟨go8, 0, none⟩) x0_2.length co10) y126 := (by rw [Ny126.out]; exact hbk20 hg (fun k_ e_ => by injection e_ with e_; subst e_; exact ge20_0.1 _ rfl) (k60_mkM _ _ _ (⟨y124, (rd_T60 x0_2 a1).f1⟩ : S60) hz_)); have hm_ := Kd.R_mono hz_ hok20; clear HP20 hbk20; replace HO_0 := am (hp_); replace HB := am ((by rw [hw]; exact below_set (below_set (below_set (below_set (below_set (HB.out) GB19.out) GB19.out) GB19.out) GB19.out) GB19.out : Below w0.heap.size w0 w21)); replace HK := am (Kept.of_grown (S := (fun k_ => P0_ k_)) hg (pk HK.out) (fun k_ e_ => (HL123_0.out.1 k_ e_).1)); have HL127 := am (hm_); have HC125 := am ((Kd.R_reads' hm_).2.1); clear HL123_0; clear hg hw hp_ hz_ hm_ hok20))
     (try simp only [← hl0_2])
     go_roundg k2
     case measure => have := HJ8.out; have := HK2.out; omega
     case rel => exact ⟨(y126), (wrap64 (x9_2 + 1)), rf, H', ⟨by have := HJ8.out; have := HK2.out; omega⟩, ⟨by (try simp only [hl0_8]); (try simp only [hl0_2]); (with_reducible repeat (first | apply Kd.S_alloc | apply Kd.S_drewN | apply Kd.S_drew)); exact HO_0.out⟩, ⟨pk HK.out⟩, ⟨ph HB.out⟩⟩
def spec_l2Clean.l0 : Nat → Int → Int → List (S52) → Int → Option (Int)
 | 0, _, _, _, _ => none
 | k + 1, x3, x4, x129000, x129001 => if x4 < (x129000.length : Int) then (if 0 ≤ x4 then (if ((rd_T52 x129000 x4).f0) = 0 then (spec_l2Clean.l0 k (wrap64 (x3 + 1)) (wrap64 (x4 + 1)) x129000 x129001) else (spec_l2Clean.l0 k x3 (wrap64 (x4 + 1)) x129000 x129001)) else (none)) else (some x3)
def spec_l2Clean.f (k : Nat) (l0_0 : List (S52)) (a0_1 : Int) : Option (Int) := spec_l2Clean.l0 k 0 0 l0_0 a0_1
theorem spec_l2Clean.mono_l : ∀ k, (∀ y0 y1 y2 y3, LeO (spec_l2Clean.l0 k y0 y1 y2 y3) (spec_l2Clean.l0 (k + 1) y0 y1 y2 y3))
 | 0 => fun _ _ _ _ r h => by simp [spec_l2Clean.l0] at h
 | k + 1 => by
  have ih0 := spec_l2Clean.mono_l k
  · intro y0 y1 y2 y3
    unfold spec_l2Clean.l0
    with_reducible repeat' first | exact ih0 _ _ _ _ | exact LeO.refl _ | exact LeO.none _ | refine LeO.ite ?_ ?_ | refine LeO.bind ?_ (fun _ => ?_)
theorem spec_l2Clean.mono : ∀ a0 a1 k, LeO (spec_l2Clean.f k a0 a1) (spec_l2Clean.f (k + 1) a0 a1) := by
 intro a0 a1 k
 have ih0 := spec_l2Clean.mono_l k
 unfold spec_l2Clean.f
 with_reducible repeat' first | exact ih0 _ _ _ _ | exact LeO.refl _ | exact LeO.none _ | refine LeO.ite ?_ ?_ | refine LeO.bind ?_ (fun _ => ?_)
set_option maxHeartbeats 8000000 in
set_option maxRecDepth 100000 in
theorem spec_l2Clean.calls (k : Nat) (A0_0 : Option Addr) (c0_0 : Nat) (l0_0 : List (S52)) (a0_1 : Int) (r : Int) (w : World) (hr0_0 : Kd.C k52 w A0_0 l0_0.length l0_0) (hc0_0 : l0_0.length ≤ c0_0) (h : spec_l2Clean.f k l0_0 a0_1 = some r) :
 Calls Try.prog 30 #[.agg #[.slice A0_0 l0_0.length c0_0, .int .i64 a0_1]] w fun e w' => e = .returned (.int .i64 r) ∧ Below w.heap.size w w' := by
 have hu60 := Try.underlying60
 have HR0_0 := am hr0_0
 have HC0_0 := am hc0_0
 clear hr0_0 hc0_0
 have HB := am (Below.refl w.heap.size w)
 have H : (spec_l2Clean.l0 k 0 0 l0_0 a0_1) = some r := h
 clear h
 have H' := am H
 clear H
 go_enter Try.func30, Try.ntmps30
 go_wp2_with (first | (refine bx 1 #[.slice A0_0 l0_0.length c0_0, .int .i64 a0_1] 60 rfl ?_; intro gb128 hg w2 hbox hb; have BK128 := am (hbox); have GW128 := am (ge hg (ph HB.out)); have GE128 := GW128; replace HB := am (below_step (ph HB.out) hb); clear hb hbox hg))
 go_loopg [3, 4] k (fun kq v3 v4 w' => ∃ (x3_1 : Int) (x4_1 : Int), v3 = .int .i64 x3_1 ∧ v4 = .int .i64 x4_1 ∧ Aside0 (spec_l2Clean.l0 kq x3_1 x4_1 l0_0 a0_1 = some r) ∧ Aside0 (kq ≤ k) ∧ Aside0 (w'.heap[gb128]? = some (.cells #[(.slice A0_0 l0_0.length c0_0), .int .i64 a0_1] 60 (0, 0))) ∧ Aside0 (Below w.heap.size w w'))
 case atStart => exact ⟨(0), (0), rf, rf, H', ⟨Nat.le_refl _⟩, ⟨pb BK128.out⟩, ⟨bg1 HB.out GE128.out⟩⟩
 case round =>
  clear H'
  obtain ⟨x3_1, x4_1, rfl, rfl, HA, HK1, BK128, HB⟩ := hrel
  cases gk with
  | zero => exact absurd HA.out (by simp [spec_l2Clean.l0])
  | succ k1 =>
   have H := HA.out
   clear HA
   simp only [spec_l2Clean.l0] at H
   by_cases c3 : x4_1 < (l0_0.length : Int)
   rotate_left
   · rw [if_neg c3] at H
     have c3b0 := decide_eq_false c3
     clear c3
     obtain rfl := Option.some.inj H
     obtain ⟨hcz8_0, hcz8_1⟩ := b2 BK128.out
     obtain ⟨hfz8_0, hfz8_1⟩ := f2 BK128.out
     go_wp2
     go_ret
     exact (rq (bg1 HB.out GE128.out))
   rw [if_pos c3] at H
   have c3b0 := decide_eq_true c3
   clear c3
   obtain ⟨c4b0, H⟩ := ifd H
   by_cases c5 : ((rd_T52 l0_0 x4_1).f0) = 0
   rotate_left
   · rw [if_neg c5] at H
     have c5b0 : (((rd_T52 l0_0 x4_1).f0) == 0) = false := beq_eq_false_iff_ne.mpr c5
     have c5b1 : (((rd_T52 l0_0 x4_1).f0) != 0) = true := bne_iff_ne.mpr c5
     have H' := am H
     clear H
     obtain ⟨hcz7_0, hcz7_1⟩ := b2 BK128.out
     obtain ⟨hfz7_0, hfz7_1⟩ := f2 BK128.out
     have p129 : 0 ≤ (x4_1 : Int) := ofb
     have q129 : x4_1 < (l0_0.length : Int) := ofb
     obtain ⟨ad129, e129, hx129_0, hx129_1, hx129_2, hx129_3, hx129_4⟩ := at_T52 HR0_0.out x4_1 p129 q129
     cases e129
     replace hx129_0 := up HB.out hx129_0
     replace hx129_1 := up HB.out hx129_1
     replace hx129_2 := up HB.out hx129_2
     replace hx129_3 := up HB.out hx129_3
     replace hx129_4 := up HB.out hx129_4
     replace p129 := eq_true p129
     replace q129 := eq_true q129
     go_wp2
     go_roundg k1
     case measure => have := HK1.out; omega
     case rel => exact ⟨(x3_1), (wrap64 (x4_1 + 1)), rf, rf, H', ⟨by have := HK1.out; omega⟩, ⟨pb BK128.out⟩, ⟨bg1 HB.out GE128.out⟩⟩
   rw [if_pos c5] at H
   have c5b0 : (((rd_T52 l0_0 x4_1).f0) == 0) = true := beq_iff_eq.mpr c5
   have c5b1 : (((rd_T52 l0_0 x4_1).f0) != 0) = false := bne_eq_false_iff_eq.mpr c5
   clear c5
   have H' := am H
   clear H
   obtain ⟨hcz6_0, hcz6_1⟩ := b2 BK128.out
   obtain ⟨hfz6_0, hfz6_1⟩ := f2 BK128.out
   have p129 : 0 ≤ (x4_1 : Int) := ofb
   have q129 : x4_1 < (l0_0.length : Int) := ofb
   obtain ⟨ad129, e129, hx129_0, hx129_1, hx129_2, hx129_3, hx129_4⟩ := at_T52 HR0_0.out x4_1 p129 q129
   cases e129
   replace hx129_0 := up HB.out hx129_0
   replace hx129_1 := up HB.out hx129_1
   replace hx129_2 := up HB.out hx129_2
   replace hx129_3 := up HB.out hx129_3
   replace hx129_4 := up HB.out hx129_4
   replace p129 := eq_true p129
   replace q129 := eq_true q129
   go_wp2
   go_roundg k1
   case measure => have := HK1.out; omega
   case rel => exact ⟨(wrap64 (x3_1 + 1)), (wrap64 (x4_1 + 1)), rf, rf, H', ⟨by have := HK1.out; omega⟩, ⟨pb BK128.out⟩, ⟨bg1 HB.out GE128.out⟩⟩
mutual
def spec_l2Seq.l0 : Nat → List (S60) → Int → Int → Option (Bool)
 | 0, _, _, _ => none
 | k + 1, x0, x1, x5 => if x5 < (x0.length : Int) then (spec_l2Seq.l1 k x0 x1 x5 0) else (some false)
def spec_l2Seq.l1 : Nat → List (S60) → Int → Int → Int → Option (Bool)
 | 0, _, _, _, _ => none
 | k + 1, x0, x1, x5, x6 => if 0 ≤ x5 then (if x5 < (x0.length : Int) then (if x6 < (((rd_T60 x0 x5).f0).length : Int) then (if 0 ≤ x6 then (if ((rd_T52 ((rd_T60 x0 x5).f0) x6).f0) = 1 then (if ((rd_T52 ((rd_T60 x0 x5).f0) x6).f1.f1) = x1 then (some true) else (spec_l2Seq.l1 k x0 x1 x5 (wrap64 (x6 + 1)))) else (spec_l2Seq.l1 k x0 x1 x5 (wrap64 (x6 + 1)))) else (none)) else (spec_l2Seq.l0 k x0 x1 (wrap64 (x5 + 1)))) else (none)) else (none)
end
def spec_l2Seq.f (k : Nat) (l0 : List (S60)) (a1 : Int) : Option (Bool) := spec_l2Seq.l0 k l0 a1 0
theorem spec_l2Seq.mono_l : ∀ k, (∀ y0 y1 y2, LeO (spec_l2Seq.l0 k y0 y1 y2) (spec_l2Seq.l0 (k + 1) y0 y1 y2)) ∧ (∀ y0 y1 y2 y3, LeO (spec_l2Seq.l1 k y0 y1 y2 y3) (spec_l2Seq.l1 (k + 1) y0 y1 y2 y3))
 | 0 => ⟨fun _ _ _ r h => by simp [spec_l2Seq.l0] at h, fun _ _ _ _ r h => by simp [spec_l2Seq.l1] at h⟩
 | k + 1 => by
  obtain ⟨ih0, ih1⟩ := spec_l2Seq.mono_l k
  refine ⟨?_, ?_⟩
  · intro y0 y1 y2
    unfold spec_l2Seq.l0
    with_reducible repeat' first | exact ih0 _ _ _ | exact ih1 _ _ _ _ | exact LeO.refl _ | exact LeO.none _ | refine LeO.ite ?_ ?_ | refine LeO.bind ?_ (fun _ => ?_)
  · intro y0 y1 y2 y3
    unfold spec_l2Seq.l1
    with_reducible repeat' first | exact ih0 _ _ _ | exact ih1 _ _ _ _ | exact LeO.refl _ | exact LeO.none _ | refine LeO.ite ?_ ?_ | refine LeO.bind ?_ (fun _ => ?_)
theorem spec_l2Seq.mono : ∀ a0 a1 k, LeO (spec_l2Seq.f k a0 a1) (spec_l2Seq.f (k + 1) a0 a1) := by
 intro a0 a1 k
 obtain ⟨ih0, ih1⟩ := spec_l2Seq.mono_l k
 unfold spec_l2Seq.f
 with_reducible repeat' first | exact ih0 _ _ _ | exact ih1 _ _ _ _ | exact LeO.refl _ | exact LeO.none _ | refine LeO.ite ?_ ?_ | refine LeO.bind ?_ (fun _ => ?_)
set_option maxHeartbeats 8000000 in
set_option maxRecDepth 100000 in
theorem spec_l2Seq.calls (k : Nat) (A0 : Option Addr) (c0 : Nat) (l0 : List (S60)) (a1 : Int) (r : Bool) (w : World) (hr0 : Kd.C k60 w A0 l0.length l0) (hc0 : l0.length ≤ c0) (h : spec_l2Seq.f k l0 a1 = some r) :
 Calls Try.prog 57 #[.slice A0 l0.length c0, .int .i64 a1] w fun e w' => e = .returned (.bool r) ∧ Drawn0 w w' := by
 have HR0 := am hr0
 have HC0 := am hc0
 clear hr0 hc0
 have H : (spec_l2Seq.l0 k l0 a1 0) = some r := h
 clear h
 have H' := am H
 clear H
 go_enter Try.func57, Try.ntmps57
 go_wp2
 go_loopg [5] k (fun kq v5 w' => ∃ (x5_1 : Int), v5 = .int .i64 x5_1 ∧ Aside0 (spec_l2Seq.l0 kq l0 a1 x5_1 = some r) ∧ Aside0 (kq ≤ k) ∧ Drawn0 w w')
 case atStart => exact ⟨(0), rf, H', ⟨Nat.le_refl _⟩, by repeat (first | exact Drawn0.refl _ | apply Drawn0.step)⟩
 case round =>
  clear H'
  obtain ⟨x5_1, rfl, HA, HK1, ⟨m1, rfl⟩⟩ := hrel
  cases gk with
  | zero => exact absurd HA.out (by simp [spec_l2Seq.l0])
  | succ k1 =>
   have H := HA.out
   clear HA
   simp only [spec_l2Seq.l0] at H
   by_cases c3 : x5_1 < (l0.length : Int)
   rotate_left
   · rw [if_neg c3] at H
     have c3b0 := decide_eq_false c3
     clear c3
     obtain rfl := Option.some.inj H
     go_wp2
     go_ret
     exact ⟨by first | rfl | (simp; done) | (simp [*]; done), by repeat (first | exact Drawn0.refl _ | apply Drawn0.step)⟩
   rw [if_pos c3] at H
   have c3b0 := decide_eq_true c3
   clear c3
   have H' := am H
   clear H
   go_wp2
   go_loopg [6] k1 (fun kq v6 w' => ∃ (x6_2 : Int), v6 = .int .i64 x6_2 ∧ Aside0 (spec_l2Seq.l1 kq l0 a1 x5_1 x6_2 = some r) ∧ Aside0 (kq ≤ k1) ∧ Drawn0 w w')
   case atStart => exact ⟨(0), rf, H', ⟨Nat.le_refl _⟩, by repeat (first | exact Drawn0.refl _ | apply Drawn0.step)⟩
   case round =>
    clear H'
    obtain ⟨x6_2, rfl, HA, HK2, ⟨m2, rfl⟩⟩ := hrel
    cases gk with
    | zero => exact absurd HA.out (by simp [spec_l2Seq.l1])
    | succ k2 =>
     have H := HA.out
     clear HA
     simp only [spec_l2Seq.l1] at H
     obtain ⟨c4b0, H⟩ := ifd H
     obtain ⟨c5b0, H⟩ := ifd H
     by_cases c6 : x6_2 < (((rd_T60 l0 x5_1).f0).length : Int)
     rotate_left
     · rw [if_neg c6] at H
       have c6b0 := decide_eq_false c6
       clear c6
       have H' := am H
       clear H
       have p130 : 0 ≤ (x5_1 : Int) := ofb
       have q130 : x5_1 < (l0.length : Int) := ofb
       obtain ⟨ad130, A130_0, c130_0, e130, hx130_0, hx130_1, hl130_0, hi130_0⟩ := at_T60 HR0.out x5_1 p130 q130
       cases e130
       have HR130_0 := am hi130_0
       have HC130_0 := am hl130_0
       clear hi130_0 hl130_0
       replace p130 := eq_true p130
       replace q130 := eq_true q130
       go_wp2
       go_roundg k2
       case measure => have := HK1.out; have := HK2.out; omega
       case rel => exact ⟨(wrap64 (x5_1 + 1)), rf, H', ⟨by have := HK1.out; have := HK2.out; omega⟩, by repeat (first | exact Drawn0.refl _ | apply Drawn0.step)⟩
     rw [if_pos c6] at H
     have c6b0 := decide_eq_true c6
     clear c6
     obtain ⟨c7b0, H⟩ := ifd H
     by_cases c8 : ((rd_T52 ((rd_T60 l0 x5_1).f0) x6_2).f0) = 1
     rotate_left
     · rw [if_neg c8] at H
       have c8b0 : (((rd_T52 ((rd_T60 l0 x5_1).f0) x6_2).f0) == 1) = false := beq_eq_false_iff_ne.mpr c8
       have c8b1 : (((rd_T52 ((rd_T60 l0 x5_1).f0) x6_2).f0) != 1) = true := bne_iff_ne.mpr c8
       have H' := am H
       clear H
       have p130 : 0 ≤ (x5_1 : Int) := ofb
       have q130 : x5_1 < (l0.length : Int) := ofb
       obtain ⟨ad130, A130_0, c130_0, e130, hx130_0, hx130_1, hl130_0, hi130_0⟩ := at_T60 HR0.out x5_1 p130 q130
       cases e130
       have HR130_0 := am hi130_0
       have HC130_0 := am hl130_0
       clear hi130_0 hl130_0
       replace p130 := eq_true p130
       replace q130 := eq_true q130
       have p131 : 0 ≤ (x5_1 : Int) := ofb
       have q131 : x5_1 < (l0.length : Int) := ofb
       obtain ⟨ad131, A131_0, c131_0, e131, hx131_0, hx131_1, hl131_0, hi131_0⟩ := at_T60 HR0.out x5_1 p131 q131
       obtain rfl : ad130 = ad131 := (by injection e131)
       have HR131_0 := am hi131_0
       have HC131_0 := am hl131_0
       clear hi131_0 hl131_0
       replace p131 := eq_true p131
       replace q131 := eq_true q131
       have ea_ := Option.some.inj (hx130_0.symm.trans hx131_0)
       injection ea_ with ea_ en_ ec_
       subst ea_
       subst ec_
       clear en_
       have p132 : 0 ≤ (x6_2 : Int) := ofb
       have q132 : x6_2 < (((rd_T60 l0 x5_1).f0).length : Int) := ofb
       obtain ⟨ad132, e132, hx132_0, hx132_1, hx132_2, hx132_3, hx132_4⟩ := at_T52 HR131_0.out x6_2 p132 q132
       cases e132
       replace p132 := eq_true p132
       replace q132 := eq_true q132
       go_wp2
       go_roundg k2
       case measure => have := HK1.out; have := HK2.out; omega
       case rel => exact ⟨(wrap64 (x6_2 + 1)), rf, H', ⟨by have := HK1.out; have := HK2.out; omega⟩, by repeat (first | exact Drawn0.refl _ | apply Drawn0.step)⟩
     rw [if_pos c8] at H
     have c8b0 : (((rd_T52 ((rd_T60 l0 x5_1).f0) x6_2).f0) == 1) = true := beq_iff_eq.mpr c8
     have c8b1 : (((rd_T52 ((rd_T60 l0 x5_1).f0) x6_2).f0) != 1) = false := bne_eq_false_iff_eq.mpr c8
     clear c8
     by_cases c9 : ((rd_T52 ((rd_T60 l0 x5_1).f0) x6_2).f1.f1) = a1
     · rw [if_pos c9] at H
       have c9b0 : (((rd_T52 ((rd_T60 l0 x5_1).f0) x6_2).f1.f1) == a1) = true := beq_iff_eq.mpr c9
       have c9b1 : (((rd_T52 ((rd_T60 l0 x5_1).f0) x6_2).f1.f1) != a1) = false := bne_eq_false_iff_eq.mpr c9
       clear c9
       obtain rfl := Option.some.inj H
       have p130 : 0 ≤ (x5_1 : Int) := ofb
       have q130 : x5_1 < (l0.length : Int) := ofb
       obtain ⟨ad130, A130_0, c130_0, e130, hx130_0, hx130_1, hl130_0, hi130_0⟩ := at_T60 HR0.out x5_1 p130 q130
       cases e130
       have HR130_0 := am hi130_0
       have HC130_0 := am hl130_0
       clear hi130_0 hl130_0
       replace p130 := eq_true p130
       replace q130 := eq_true q130
       have p131 : 0 ≤ (x5_1 : Int) := ofb
       have q131 : x5_1 < (l0.length : Int) := ofb
       obtain ⟨ad131, A131_0, c131_0, e131, hx131_0, hx131_1, hl131_0, hi131_0⟩ := at_T60 HR0.out x5_1 p131 q131
       obtain rfl : ad130 = ad131 := (by injection e131)
       have HR131_0 := am hi131_0
       have HC131_0 := am hl131_0
       clear hi131_0 hl131_0
       replace p131 := eq_true p131
       replace q131 := eq_true q131
       have ea_ := Option.some.inj (hx130_0.symm.trans hx131_0)
       injection ea_ with ea_ en_ ec_
       subst ea_
       subst ec_
       clear en_
       have p132 : 0 ≤ (x6_2 : Int) := ofb
       have q132 : x6_2 < (((rd_T60 l0 x5_1).f0).length : Int) := ofb
       obtain ⟨ad132, e132, hx132_0, hx132_1, hx132_2, hx132_3, hx132_4⟩ := at_T52 HR131_0.out x6_2 p132 q132
       cases e132
       replace p132 := eq_true p132
       replace q132 := eq_true q132
       have p133 : 0 ≤ (x5_1 : Int) := ofb
       have q133 : x5_1 < (l0.length : Int) := ofb
       obtain ⟨ad133, A133_0, c133_0, e133, hx133_0, hx133_1, hl133_0, hi133_0⟩ := at_T60 HR0.out x5_1 p133 q133
       obtain rfl : ad130 = ad133 := (by injection e133)
       have HR133_0 := am hi133_0
       have HC133_0 := am hl133_0
       clear hi133_0 hl133_0
       replace p133 := eq_true p133
       replace q133 := eq_true q133
       have ea_ := Option.some.inj (hx130_0.symm.trans hx133_0)
       injection ea_ with ea_ en_ ec_
       subst ea_
       subst ec_
       clear en_
       have p134 : 0 ≤ (x6_2 : Int) := ofb
       have q134 : x6_2 < (((rd_T60 l0 x5_1).f0).length : Int) := ofb
       obtain ⟨ad134, e134, hx134_0, hx134_1, hx134_2, hx134_3, hx134_4⟩ := at_T52 HR133_0.out x6_2 p134 q134
       cases e134
       replace p134 := eq_true p134
       replace q134 := eq_true q134
       go_wp2
       go_ret
       exact ⟨by first | rfl | (simp; done) | (simp [*]; done), by repeat (first | exact Drawn0.refl _ | apply Drawn0.step)⟩
     rw [if_neg c9] at H
     have c9b0 : (((rd_T52 ((rd_T60 l0 x5_1).f0) x6_2).f1.f1) == a1) = false := beq_eq_false_iff_ne.mpr c9
     have c9b1 : (((rd_T52 ((rd_T60 l0 x5_1).f0) x6_2).f1.f1) != a1) = true := bne_iff_ne.mpr c9
     have H' := am H
     clear H
     have p130 : 0 ≤ (x5_1 : Int) := ofb
     have q130 : x5_1 < (l0.length : Int) := ofb
     obtain ⟨ad130, A130_0, c130_0, e130, hx130_0, hx130_1, hl130_0, hi130_0⟩ := at_T60 HR0.out x5_1 p130 q130
     cases e130
     have HR130_0 := am hi130_0
     have HC130_0 := am hl130_0
     clear hi130_0 hl130_0
     replace p130 := eq_true p130
     replace q130 := eq_true q130
     have p131 : 0 ≤ (x5_1 : Int) := ofb
     have q131 : x5_1 < (l0.length : Int) := ofb
     obtain ⟨ad131, A131_0, c131_0, e131, hx131_0, hx131_1, hl131_0, hi131_0⟩ := at_T60 HR0.out x5_1 p131 q131
     obtain rfl : ad130 = ad131 := (by injection e131)
     have HR131_0 := am hi131_0
     have HC131_0 := am hl131_0
     clear hi131_0 hl131_0
     replace p131 := eq_true p131
     replace q131 := eq_true q131
     have ea_ := Option.some.inj (hx130_0.symm.trans hx131_0)
     injection ea_ with ea_ en_ ec_
     subst ea_
     subst ec_
     clear en_
     have p132 : 0 ≤ (x6_2 : Int) := ofb
     have q132 : x6_2 < (((rd_T60 l0 x5_1).f0).length : Int) := ofb
     obtain ⟨ad132, e132, hx132_0, hx132_1, hx132_2, hx132_3, hx132_4⟩ := at_T52 HR131_0.out x6_2 p132 q132
     cases e132
     replace p132 := eq_true p132
     replace q132 := eq_true q132
     have p133 : 0 ≤ (x5_1 : Int) := ofb
     have q133 : x5_1 < (l0.length : Int) := ofb
     obtain ⟨ad133, A133_0, c133_0, e133, hx133_0, hx133_1, hl133_0, hi133_0⟩ := at_T60 HR0.out x5_1 p133 q133
     obtain rfl : ad130 = ad133 := (by injection e133)
     have HR133_0 := am hi133_0
     have HC133_0 := am hl133_0
     clear hi133_0 hl133_0
     replace p133 := eq_true p133
     replace q133 := eq_true q133
     have ea_ := Option.some.inj (hx130_0.symm.trans hx133_0)
     injection ea_ with ea_ en_ ec_
     subst ea_
     subst ec_
     clear en_
     have p134 : 0 ≤ (x6_2 : Int) := ofb
     have q134 : x6_2 < (((rd_T60 l0 x5_1).f0).length : Int) := ofb
     obtain ⟨ad134, e134, hx134_0, hx134_1, hx134_2, hx134_3, hx134_4⟩ := at_T52 HR133_0.out x6_2 p134 q134
     cases e134
     replace p134 := eq_true p134
     replace q134 := eq_true q134
     go_wp2
     go_roundg k2
     case measure => have := HK1.out; have := HK2.out; omega
     case rel => exact ⟨(wrap64 (x6_2 + 1)), rf, H', ⟨by have := HK1.out; have := HK2.out; omega⟩, by repeat (first | exact Drawn0.refl _ | apply Drawn0.step)⟩
end Go.Proofs.Ytcfpddgfhkaboaa.Rz
