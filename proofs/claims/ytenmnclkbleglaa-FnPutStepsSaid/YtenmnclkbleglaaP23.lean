-- printed by wip/pp/pp.py
import Derived.Test.YtenmnclkbleglaaP20
namespace Go.Proofs.Ytenmnclkbleglaa.P2
set_option maxHeartbeats 8000000
set_option maxRecDepth 100000
open Go.RowKit Go.Proofs.YtenmnclkbleglaaW.PrintWords Go.Proofs.YtenmnclkbleglaaW.PrintLast Go.Proofs.YtenmnclkbleglaaW.PrintMore
attribute [local go_sem] max2_int min2_int max_two min_two max_three min_three max_four min_four
set_option linter.unusedVariables false
set_option linter.unusedSimpArgs false
mutual
def spec_l2Wipe.j0 : Nat → List (S42) → Int → Int → Option ((List (S42)) × Bool)
 | 0, _, _, _ => none
 | k + 1, x0, x1, x8 => spec_l2Wipe.l0 k x0 x1 x8 0
def spec_l2Wipe.l0 : Nat → List (S42) → Int → Int → Int → Option ((List (S42)) × Bool)
 | 0, _, _, _, _ => none
 | k + 1, x0, x1, x8, x9 => if x9 < 4 then (if 0 ≤ x1 then (if x1 < (x0.length : Int) then (if 0 ≤ x9 then (if x9 < (((rd_T42 x0 x1).f0).length : Int) then (spec_l2Wipe.l0 k (x0.set (x1 : Int).toNat (⟨(((rd_T42 x0 x1).f0).set (x9 : Int).toNat (⟨x8, (⟨0, 0, 0, 0⟩ : S32)⟩ : S39)), (rd_T42 x0 x1).f1⟩ : S42)) x1 x8 (wrap64 (x9 + 1))) else (none)) else (none)) else (none)) else (none)) else (some (x0, true))
end
def spec_l2Wipe.f (k : Nat) (l0 : List (S42)) (a1 : Int) (a2 : Bool) : Option ((List (S42)) × Bool) := if 0 ≤ a1 then (if a1 < (l0.length : Int) then (if ((rd_T42 l0 a1).f1) ≥ 200 then (some (l0, false)) else ((some (l0.set (a1 : Int).toNat (⟨(rd_T42 l0 a1).f0, wrap64 (((rd_T42 l0 a1).f1) + 1)⟩ : S42) : List (S42))).bind fun y128 => (if a2 = true then (spec_l2Wipe.j0 k y128 a1 2) else (spec_l2Wipe.j0 k y128 a1 0)))) else (none)) else (none)
theorem spec_l2Wipe.calls (k : Nat) (P0_ : Nat → Prop) (u9000_ : Value) (l0 : List (S42)) (a1 : Int) (a2 : Bool) (r1 : List (S42)) (r2 : Bool) (w0 w : World) (hB : Below w0.heap.size w0 w) (ho0 : Kd.S k42 42 w w0.heap.size P0_ u9000_ l0) (h : spec_l2Wipe.f k l0 a1 a2 = some (r1, r2)) :
 Calls Try.prog 66 #[u9000_, .int .i64 a1, .bool a2] w fun e w' => ∃ v0_ : Value, e = .returned (.tuple #[v0_, .bool r2]) ∧ Kd.S k42 42 w' w0.heap.size (fun k_ => (P0_ k_ ∨ w.heap.size ≤ k_)) v0_ r1 ∧ Below w0.heap.size w0 w' ∧ Kept w w' (fun k_ => P0_ k_) := by
 have hu39 := Try.underlying39
 have HO0 := am (show Kd.S k42 42 w w0.heap.size (fun k_ => (P0_ k_ ∨ w.heap.size ≤ k_)) u9000_ l0 from Kd.S_mono ho0 (fun k_ hk => (.inl hk)))
 have HK := am (Kept.refl w (fun k_ => P0_ k_))
 have HW0 := am hB.size
 have HB := am hB
 clear hB
 have H : (if 0 ≤ a1 then (if a1 < (l0.length : Int) then (if ((rd_T42 l0 a1).f1) ≥ 200 then (some (l0, false)) else ((some (l0.set (a1 : Int).toNat (⟨(rd_T42 l0 a1).f0, wrap64 (((rd_T42 l0 a1).f1) + 1)⟩ : S42) : List (S42))).bind fun y128 => (if a2 = true then (spec_l2Wipe.j0 k y128 a1 2) else (spec_l2Wipe.j0 k y128 a1 0)))) else (none)) else (none)) = some (r1, r2) := h
 clear h
 obtain ⟨c4b0, H⟩ := ifd H
 obtain ⟨c5b0, H⟩ := ifd H
 by_cases c6 : ((rd_T42 l0 a1).f1) ≥ 200
 · rw [if_pos c6] at H
   have c6b0 := decide_eq_true c6
   clear c6
   simp only [Option.some.injEq, Prod.mk.injEq] at H
   obtain ⟨rfl, rfl⟩ := H
   obtain ⟨Ao7, co7, eo7⟩ := Kd.S_slice HO0.out
   subst eo7
   have p126 : 0 ≤ (a1 : Int) := ofb
   have q126 : a1 < (l0.length : Int) := ofb
   obtain ⟨ad126, A126_0, c126_0, e126, hx126_0, hx126_1, hl126_0, hi126_0⟩ := at_T42 (Kd.S_reads' HO0.out).2.2 a1 p126 q126
   cases e126
   obtain ⟨ce126, hce126, hMe126, hcc126⟩ := Kd.S_get HO0.out z42 a1 p126 (by first | exact q126 | exact ofb | (have e_ := (Kd.S_reads' HO0.out).1; omega))
   obtain ⟨ve126_0, rfl, ge126_0⟩ := k42_openM hMe126
   have hv126_0 := hcc126 0 _ rfl
   rw [Nat.add_zero] at hv126_0
   replace hv126_0 := Option.some.inj (hv126_0.symm.trans hx126_0)
   rw [hv126_0] at ge126_0
   have HL126_0 := am (show Kd.R k39 39 _ _ _ _ ((rd_T42 l0 a1).f0) from ge126_0)
   clear hv126_0 ge126_0
   have HX126_0 := am hx126_0
   clear hcc126 hce126
   have HR126_0 := am hi126_0
   have HC126_0 := am hl126_0
   clear hi126_0 hl126_0
   replace p126 := eq_true p126
   replace q126 := eq_true q126
   go_enter Try.func66, Try.ntmps66
   go_wp2
   go_ret2
   exact ⟨_, rq ⟨ps HO0.out, ph HB.out, pk HK.out⟩⟩
 rw [if_neg c6] at H
 have c6b0 := decide_eq_false c6
 clear c6
 obtain ⟨y128, hy128⟩ : ∃ y_ : List (S42), y_ = (l0.set (a1 : Int).toNat (⟨(rd_T42 l0 a1).f0, wrap64 (((rd_T42 l0 a1).f1) + 1)⟩ : S42)) := ⟨_, rfl⟩
 replace H : (if a2 = true then (spec_l2Wipe.j0 k y128 a1 2) else (spec_l2Wipe.j0 k y128 a1 0)) = some (r1, r2) := yy hy128 H
 have Ny128 := am hy128
 clear hy128
 have HC9 := am H
 clear H
 obtain ⟨Ao10, co10, eo10⟩ := Kd.S_slice HO0.out
 subst eo10
 have p126 : 0 ≤ (a1 : Int) := ofb
 have q126 : a1 < (l0.length : Int) := ofb
 obtain ⟨ad126, A126_0, c126_0, e126, hx126_0, hx126_1, hl126_0, hi126_0⟩ := at_T42 (Kd.S_reads' HO0.out).2.2 a1 p126 q126
 cases e126
 obtain ⟨ce126, hce126, hMe126, hcc126⟩ := Kd.S_get HO0.out z42 a1 p126 (by first | exact q126 | exact ofb | (have e_ := (Kd.S_reads' HO0.out).1; omega))
 obtain ⟨ve126_0, rfl, ge126_0⟩ := k42_openM hMe126
 have hv126_0 := hcc126 0 _ rfl
 rw [Nat.add_zero] at hv126_0
 replace hv126_0 := Option.some.inj (hv126_0.symm.trans hx126_0)
 rw [hv126_0] at ge126_0
 have HL126_0 := am (show Kd.R k39 39 _ _ _ _ ((rd_T42 l0 a1).f0) from ge126_0)
 clear hv126_0 ge126_0
 have HX126_0 := am hx126_0
 clear hcc126 hce126
 have HR126_0 := am hi126_0
 have HC126_0 := am hl126_0
 clear hi126_0 hl126_0
 replace p126 := eq_true p126
 replace q126 := eq_true q126
 have p127 : 0 ≤ (a1 : Int) := ofb
 have q127 : a1 < (l0.length : Int) := ofb
 obtain ⟨ad127, A127_0, c127_0, e127, hx127_0, hx127_1, hl127_0, hi127_0⟩ := at_T42 (Kd.S_reads' HO0.out).2.2 a1 p127 q127
 obtain rfl : ad126 = ad127 := (by injection e127)
 obtain ⟨ce127, hce127, hMe127, hcc127⟩ := Kd.S_get HO0.out z42 a1 p127 (by first | exact q127 | exact ofb | (have e_ := (Kd.S_reads' HO0.out).1; omega))
 obtain ⟨ve127_0, rfl, ge127_0⟩ := k42_openM hMe127
 have hv127_0 := hcc127 0 _ rfl
 rw [Nat.add_zero] at hv127_0
 replace hv127_0 := Option.some.inj (hv127_0.symm.trans hx127_0)
 rw [hv127_0] at ge127_0
 have HL127_0 := am (show Kd.R k39 39 _ _ _ _ ((rd_T42 l0 a1).f0) from ge127_0)
 clear hv127_0 ge127_0
 have HX127_0 := am hx127_0
 clear hcc127 hce127
 have HR127_0 := am hi127_0
 have HC127_0 := am hl127_0
 clear hi127_0 hl127_0
 replace p127 := eq_true p127
 replace q127 := eq_true q127
 have ea_ := Option.some.inj (hx126_0.symm.trans hx127_0)
 injection ea_ with ea_ en_ ec_
 subst ea_
 subst ec_
 clear en_
 have p8 : 0 ≤ (a1 : Int) := ofb
 have q8 : (a1 : Int) < ((l0.length : Int) : Int) := ofb
 obtain ⟨go8, co8, eo8, gb8, gl8, cl8, HG8⟩ := Kd.S_form HO0.out (by omega)
 (first | cases eo8 | (injection eo8 with ea_ en_ ec_; (first | subst ea_ | (injection ea_ with ea_; subst ea_)); subst ec_; clear en_))
 have GB8 := am gb8
 have GG8 := am HG8
 clear gb8 gl8 HG8
 have HMgo8 := am (show (P0_ go8 ∨ w.heap.size ≤ go8) from ((Kd.S_R HO0.out).1 _ rfl))
 (first | simp only [add_plain] at hx126_0 | skip)
 (first | simp only [add_plain] at hx126_1 | skip)
 (first | simp only [add_plain] at hx127_0 | skip)
 (first | simp only [add_plain] at hx127_1 | skip)
 obtain ⟨_, ce8, hcl8, hM8, hcc8, hfr8, _, _⟩ := Kd.S_elem HO0.out z42 (a1 : Int) p8 q8
 obtain ⟨ve8_0, rfl, ge8_0⟩ := k42_openM hM8
 have hx8_0 : w.cell? ⟨go8, (a1 : Int).toNat * 2, none⟩ = some (ve8_0) := hcc8 0 _ rfl
 have hx8_1 : w.cell? ⟨go8, (a1 : Int).toNat * 2 + 1, none⟩ = some (.int .i64 ((rd_T42 l0 a1).f1)) := hcc8 1 _ rfl
 have hf8_0 : w.frozen? ⟨go8, (a1 : Int).toNat * 2, none⟩ = false := hfr8 0
 have hf8_1 : w.frozen? ⟨go8, (a1 : Int).toNat * 2 + 1, none⟩ = false := hfr8 1
 clear hcl8 hcc8 hfr8 hM8
 replace p8 := eq_true p8
 replace q8 := eq_true q8
 have HX11 := am (show Kd.S k42 42 w w0.heap.size (fun k_ => ((fun k_ => (P0_ k_ ∨ w.heap.size ≤ k_))) k_ ∧ ¬ ((fun _ => False)) k_) (.slice (some ⟨go8, 0, none⟩) l0.length co10) l0 from (ps (Kd.S_mono HO0.out (fun k_ hk => ⟨hk, fun e_ => e_⟩))))
 obtain ⟨oki11, ce11, hcl11, hM11, hcc11, hfr11, hoki11, hH11⟩ := Kd.S_elem HX11.out z42 (a1 : Int) (ofb) (by have h_ : (a1 : Int) < ((l0.length : Int) : Int) := ofb; first | exact h_ | (have e_ := (Kd.S_reads' HO0.out).1; omega) | simpa using h_)
 obtain ⟨ve11_0, rfl, ge11_0⟩ := k42_openM hM11
 have HP11 := Kd.S_seg hH11 (ofb) (by have h_ : (a1 : Int) < ((l0.length : Int) : Int) := ofb; first | exact h_ | (have e_ := (Kd.S_reads' HO0.out).1; omega) | simpa using h_) (seg := [.int .i64 (wrap64 (((rd_T42 l0 a1).f1) + 1))]) (j := 1) (show 2 ≤ 2 from by decide) (x' := (⟨(rd_T42 l0 a1).f0, wrap64 (((rd_T42 l0 a1).f1) + 1)⟩ : S42)) (k42_mkM _ _ _ (⟨(rd_T42 l0 a1).f0, wrap64 (((rd_T42 l0 a1).f1) + 1)⟩ : S42) (Kd.R_mono ge11_0 (fun _ h_ => Or.inl h_))) (fun _ hk => hk) (fun k_ hk_ => hk_.elim)
 have hx11_1 := hcc11 1 _ rfl
 (try simp only [show (k42).sz = 2 from rfl, Nat.mul_one, Nat.add_zero] at hx11_1)
 have hf11_1 := hfr11 1
 (try simp only [show (k42).sz = 2 from rfl, Nat.mul_one, Nat.add_zero] at hf11_1)
 clear hcl11 hcc11 hfr11 hM11 hoki11 hH11
 go_enter Try.func66, Try.ntmps66
 go_upto_if 27 with (first | ((with_reducible refine gate_store (t := 3) (p := 26) rfl ?_); refine store_event (t := 3) (p := 26) (v := ?vo_w12) (w1 := (w.setCell ⟨go8, (a1 : Int).toNat * 2 + 1, none⟩ (.int .i64 (wrap64 (((rd_T42 l0 a1).f1) + 1))))) ?hg ?ho ?hn ?hr ?_; (case ho => rfl); (case hg => rfl); (case hn => rfl); (case hr => first | (go_simp; done) | (go_simp; rfl)); intro w12 hw; have hg : w.grownBy w12 (some go8) := (by rw [hw]; exact HP11.2); have hp_ : Kd.S k42 42 w12 w0.heap.size (fun k_ => (P0_ k_ ∨ w.heap.size ≤ k_)) (.slice (some ⟨go8, 0, none⟩) l0.length co10) y128 := (by rw [hw, Ny128.out]; exact HP11.1); clear HP11; replace HL126_0 := am (Kd.R_after (v := (.slice (some ⟨go8, 0, none⟩) l0.length co10)) (v1 := (.slice (some ⟨go8, 0, none⟩) l0.length co10)) (ok := (fun k_ => (P0_ k_ ∨ w.heap.size ≤ k_))) (pr HL126_0.out) hg (.inl rfl)); replace HL127_0 := am (Kd.R_after (v := (.slice (some ⟨go8, 0, none⟩) l0.length co10)) (v1 := (.slice (some ⟨go8, 0, none⟩) l0.length co10)) (ok := (fun k_ => (P0_ k_ ∨ w.heap.size ≤ k_))) (pr HL127_0.out) hg (.inl rfl)); replace HB := am ((by rw [hw]; exact below_set (HB.out) GB8.out : Below w0.heap.size w0 w12)); replace HK := am (Kept.of_grown (S := (fun k_ => P0_ k_)) hg (pk HK.out) (fun k_ e_ => ((Kd.S_R HO0.out).1 k_ e_))); replace HO0 := am (hp_); clear hg hw hp_))
 (try simp only [Act.put, List.setIfInBounds_toArray, List.set_cons_zero, List.set_cons_succ])
 go_cut [8] (fun v8 wc => ∃ (kq : Nat) (x8_8 : Int), v8 = .int .i64 x8_8 ∧ Aside0 (spec_l2Wipe.j0 kq y128 a1 x8_8 = some (r1, r2)) ∧ Aside0 (kq ≤ k) ∧ Aside0 (Kd.S k42 42 wc w0.heap.size (fun k_ => (P0_ k_ ∨ w.heap.size ≤ k_)) (.slice (some ⟨go8, 0, none⟩) l0.length co10) y128) ∧ Aside0 (Kept w wc (fun k_ => P0_ k_)) ∧ Aside0 (Below w0.heap.size w0 wc))
 case first =>
  have H := HC9.out
  clear HC9
  by_cases c13 : a2 = true
  · subst c13
    rw [if_pos rfl] at H
    have H' := am H
    clear H
    go_wp2
    go_meet
    case rel => exact ⟨_, (2), rf, H', ⟨by first | omega | exact Nat.le_refl _⟩, ⟨ps HO0.out⟩, ⟨pk HK.out⟩, ⟨ph HB.out⟩⟩
  replace c13 := Bool.eq_false_iff.mpr c13
  subst c13
  rw [if_neg (show ¬ (false = true) by decide)] at H
  have H' := am H
  clear H
  go_wp2
  go_meet
  case rel => exact ⟨_, (0), rf, H', ⟨by first | omega | exact Nat.le_refl _⟩, ⟨ps HO0.out⟩, ⟨pk HK.out⟩, ⟨ph HB.out⟩⟩
 case rest =>
  clear HC9
  obtain ⟨kq, x8_8, rfl, HA, HJ8, HO_0, HK, HB⟩ := hcut
  have hl0_8 := (Kd.S_reads' HO_0.out).1
  rw [hl0_8] at HO_0
  (try simp only [hl0_8])
  cases kq with
  | zero => exact absurd HA.out (by simp [spec_l2Wipe.j0])
  | succ kj8 =>
   have H := HA.out
   clear HA
   simp only [spec_l2Wipe.j0] at H
   have H' := am H
   clear H
   go_wp2
   go_loopg [9] kj8 (fun kq v9 w' => ∃ (x0_2 : List (S42)) (x9_2 : Int), v9 = .int .i64 x9_2 ∧ Aside0 (spec_l2Wipe.l0 kq x0_2 a1 x8_8 x9_2 = some (r1, r2)) ∧ Aside0 (kq ≤ kj8) ∧ Aside0 (Kd.S k42 42 w' w0.heap.size (fun k_ => (P0_ k_ ∨ w.heap.size ≤ k_)) (.slice (some ⟨go8, 0, none⟩) y128.length co10) x0_2) ∧ Aside0 (Kept w w' (fun k_ => P0_ k_)) ∧ Aside0 (Below w0.heap.size w0 w'))
   case atStart => exact ⟨(y128), (0), rf, H', ⟨Nat.le_refl _⟩, ⟨by (try simp only [hl0_8]); (with_reducible repeat (first | apply Kd.S_alloc | apply Kd.S_drewN | apply Kd.S_drew)); exact HO_0.out⟩, ⟨pk HK.out⟩, ⟨ph HB.out⟩⟩
   case round =>
    clear H'
    obtain ⟨x0_2, x9_2, rfl, HA, HK2, HO_0, HK, HB⟩ := hrel
    have hl0_2 := (Kd.S_reads' HO_0.out).1
    rw [hl0_2] at HO_0
    (try simp only [hl0_2])
    cases gk with
    | zero => exact absurd HA.out (by simp [spec_l2Wipe.l0])
    | succ k2 =>
     have H := HA.out
     clear HA
     simp only [spec_l2Wipe.l0] at H
     by_cases c14 : x9_2 < 4
     rotate_left
     · rw [if_neg c14] at H
       have c14b0 := decide_eq_false c14
       clear c14
       simp only [Option.some.injEq, Prod.mk.injEq] at H
       obtain ⟨rfl, rfl⟩ := H
       go_wp2
       go_ret2
       exact ⟨_, rq ⟨ps HO_0.out, ph HB.out, pk HK.out⟩⟩
     rw [if_pos c14] at H
     have c14b0 := decide_eq_true c14
     clear c14
     obtain ⟨c15b0, H⟩ := ifd H
     obtain ⟨c16b0, H⟩ := ifd H
     obtain ⟨c17b0, H⟩ := ifd H
     obtain ⟨c18b0, H⟩ := ifd H
     obtain ⟨y130, hy130⟩ : ∃ y_ : List (S39), y_ = (((rd_T42 x0_2 a1).f0).set (x9_2 : Int).toNat (⟨x8_8, (⟨0, 0, 0, 0⟩ : S32)⟩ : S39)) := ⟨_, rfl⟩
     replace H : (spec_l2Wipe.l0 k2 (x0_2.set (a1 : Int).toNat (⟨y130, (rd_T42 x0_2 a1).f1⟩ : S42)) a1 x8_8 (wrap64 (x9_2 + 1))) = some (r1, r2) := yy hy130 H
     have Ny130 := am hy130
     clear hy130
     obtain ⟨y132, hy132⟩ : ∃ y_ : List (S42), y_ = (x0_2.set (a1 : Int).toNat (⟨y130, (rd_T42 x0_2 a1).f1⟩ : S42)) := ⟨_, rfl⟩
     replace H : (spec_l2Wipe.l0 k2 y132 a1 x8_8 (wrap64 (x9_2 + 1))) = some (r1, r2) := yy hy132 H
     have Ny132 := am hy132
     clear hy132
     have H' := am H
     clear H
     have p129 : 0 ≤ (a1 : Int) := ofb
     have q129 : a1 < (x0_2.length : Int) := ofb
     obtain ⟨ad129, A129_0, c129_0, e129, hx129_0, hx129_1, hl129_0, hi129_0⟩ := at_T42 (Kd.S_reads' HO_0.out).2.2 a1 p129 q129
     obtain rfl : (⟨go8, 0, none⟩ : Addr) = ad129 := (by injection e129)
     obtain ⟨ce129, hce129, hMe129, hcc129⟩ := Kd.S_get HO_0.out z42 a1 p129 (by first | exact q129 | exact ofb | (have e_ := (Kd.S_reads' HO_0.out).1; omega))
     obtain ⟨ve129_0, rfl, ge129_0⟩ := k42_openM hMe129
     have hv129_0 := hcc129 0 _ rfl
     rw [Nat.add_zero] at hv129_0
     replace hv129_0 := Option.some.inj (hv129_0.symm.trans hx129_0)
     rw [hv129_0] at ge129_0
     have HL129_0 := am (show Kd.R k39 39 _ _ _ _ ((rd_T42 x0_2 a1).f0) from ge129_0)
     clear hv129_0 ge129_0
     have HX129_0 := am hx129_0
     clear hcc129 hce129
     (first | simp only [add_plain] at hx129_0 | simp only [add_at] at hx129_0 | simp only [Addr.add, Nat.zero_add] at hx129_0 | skip)
     (first | simp only [add_plain] at hx129_1 | simp only [add_at] at hx129_1 | simp only [Addr.add, Nat.zero_add] at hx129_1 | skip)
     have HR129_0 := am hi129_0
     have HC129_0 := am hl129_0
     clear hi129_0 hl129_0
     replace p129 := eq_true p129
     replace q129 := eq_true q129
     have p19 : 0 ≤ (x9_2 : Int) := ofb
     have q19 : (x9_2 : Int) < ((((rd_T42 x0_2 a1).f0).length : Int) : Int) := ofb
     obtain ⟨go19, co19, eo19, gb19, gl19, cl19, HG19⟩ := Kd.R_form HL129_0.out (by omega)
     (first | cases eo19 | (injection eo19 with ea_ en_ ec_; (first | subst ea_ | (injection ea_ with ea_; subst ea_)); subst ec_; clear en_))
     have GB19 := am gb19
     have GG19 := am HG19
     clear gb19 gl19 HG19
     have HMgo19 := am (show (P0_ go19 ∨ w.heap.size ≤ go19) from (HL129_0.out.1 _ rfl).1)
     obtain ⟨ce19, hcl19, hM19, hcc19, hfr19⟩ := Kd.R_elem HL129_0.out z39 (x9_2 : Int) p19 q19
     obtain rfl := k39_openM hM19
     have hx19_0 : wr.cell? ⟨go19, (x9_2 : Int).toNat * 5, none⟩ = some (.int .i64 ((rd_T39 ((rd_T42 x0_2 a1).f0) x9_2).f0)) := hcc19 0 _ rfl
     have hx19_1 : wr.cell? ⟨go19, (x9_2 : Int).toNat * 5 + 1, none⟩ = some (.int .i64 ((rd_T39 ((rd_T42 x0_2 a1).f0) x9_2).f1.f0)) := hcc19 1 _ rfl
     have hx19_2 : wr.cell? ⟨go19, (x9_2 : Int).toNat * 5 + 2, none⟩ = some (.int .i64 ((rd_T39 ((rd_T42 x0_2 a1).f0) x9_2).f1.f1)) := hcc19 2 _ rfl
     have hx19_3 : wr.cell? ⟨go19, (x9_2 : Int).toNat * 5 + 3, none⟩ = some (.int .i64 ((rd_T39 ((rd_T42 x0_2 a1).f0) x9_2).f1.f2)) := hcc19 3 _ rfl
     have hx19_4 : wr.cell? ⟨go19, (x9_2 : Int).toNat * 5 + 4, none⟩ = some (.int .i64 ((rd_T39 ((rd_T42 x0_2 a1).f0) x9_2).f1.f3)) := hcc19 4 _ rfl
     have hf19_0 : wr.frozen? ⟨go19, (x9_2 : Int).toNat * 5, none⟩ = false := hfr19 0
     have hf19_1 : wr.frozen? ⟨go19, (x9_2 : Int).toNat * 5 + 1, none⟩ = false := hfr19 1
     have hf19_2 : wr.frozen? ⟨go19, (x9_2 : Int).toNat * 5 + 2, none⟩ = false := hfr19 2
     have hf19_3 : wr.frozen? ⟨go19, (x9_2 : Int).toNat * 5 + 3, none⟩ = false := hfr19 3
     have hf19_4 : wr.frozen? ⟨go19, (x9_2 : Int).toNat * 5 + 4, none⟩ = false := hfr19 4
     clear hcl19 hcc19 hfr19 hM19
     replace p19 := eq_true p19
     replace q19 := eq_true q19
     have hq20 : (a1 : Int) < (x0_2.length : Int) := (by have h_ : (a1 : Int) < ((x0_2.length : Int) : Int) := ofb; first | exact h_ | (have e_ := (Kd.S_reads' HO_0.out).1; omega) | simpa only [List.length_set, List.length_set] using h_)
     obtain ⟨oki20, ce20, hcl20, hM20, hcc20, hok20, hbk20⟩ := Kd.S_borrow HO_0.out z42 (a1 : Int) (ofb) hq20
     obtain ⟨ve20_0, rfl, ge20_0⟩ := k42_openM hM20
     have hv20 := hcc20 0 _ rfl
     rw [Nat.add_zero] at hv20
     replace hv20 := Option.some.inj (hv20.symm.trans HX129_0.out)
     subst hv20
     clear hcc20 hcl20
     replace ge20_0 := (show Kd.R k39 39 _ _ _ _ ((rd_T42 x0_2 a1).f0) from ge20_0)
     obtain ⟨cf20, hcl20, hN20, hcc20, hfr20⟩ := Kd.R_elem ge20_0 z39 (x9_2 : Int) (ofb) (by have h_ : (x9_2 : Int) < ((((rd_T42 x0_2 a1).f0).length : Int) : Int) := ofb; first | exact h_ | (have e_ := (Kd.R_reads' HR129_0.out).1; omega) | simpa using h_)
     obtain rfl := k39_openM hN20
     have HP20 := Kd.R_seg ge20_0 (x9_2 : Int) (ofb) (by have h_ : (x9_2 : Int) < ((((rd_T42 x0_2 a1).f0).length : Int) : Int) := ofb; first | exact h_ | (have e_ := (Kd.R_reads' HR129_0.out).1; omega) | simpa using h_) (seg := [.int .i64 x8_8, .int .i64 0, .int .i64 0, .int .i64 0, .int .i64 0]) (j := 0) hcl20 hcc20 (show 5 ≤ 5 from by decide) (x' := (⟨x8_8, (⟨0, 0, 0, 0⟩ : S32)⟩ : S39)) (k39_mkM _ _ _ (⟨x8_8, (⟨0, 0, 0, 0⟩ : S32)⟩ : S39)) (fun _ hk => hk)
     clear hcl20 hcc20 hfr20 hN20
     go_wp2_with (first | ((with_reducible refine gate_store (t := 39) (p := 40) rfl ?_); refine store_event (t := 39) (p := 40) (v := ?vo_w21) (w1 := (((((wr.setCell ⟨go19, (x9_2 : Int).toNat * 5, none⟩ (.int .i64 x8_8)).setCell ⟨go19, (x9_2 : Int).toNat * 5 + 1, none⟩ (.int .i64 0)).setCell ⟨go19, (x9_2 : Int).toNat * 5 + 2, none⟩ (.int .i64 0)).setCell ⟨go19, (x9_2 : Int).toNat * 5 + 3, none⟩ (.int .i64 0)).setCell ⟨go19, (x9_2 : Int).toNat * 5 + 4, none⟩ (.int .i64 0))) ?hg ?ho ?hn ?hr ?_; (case ho => rfl); (case hg => rfl); (case hn => rfl); (case hr => first | (go_simp; done) | (go_simp; rfl)); intro w21 hw; have hg : wr.grownBy w21 (some go19) := (by rw [hw]; exact HP20.2); have hz_ : Kd.R k39 39 w21 w0.heap.size oki20 (.slice (some ⟨go19, 0, none⟩) ((rd_T42 x0_2 a1).f0).length c129_0) y130 := (by rw [hw, Ny130.out]; exact HP20.1); have hp_ : Kd.S k42 42 w21 w0.heap.size (fun k_ => (P0_ k_ ∨ w.heap.size ≤ k_)) (.slice (some ⟨go8, 0, none⟩) x0_2.length co10) y132 := (by rw [Ny132.out]; exact hbk20 hg (fun k_ e_ => by injection e_ with e_; subst e_; exact ge20_0.1 _ rfl) (k42_mkM _ _ _ (⟨y130, (rd_T42 x0_2 a1).f1⟩ : S42) hz_)); have hm_ := Kd.R_mono hz_ hok20; clear HP20 hbk20; replace HO_0 := am (hp_); replace HB := am ((by rw [hw]; exact below_set (below_set (below_set (below_set (below_set (HB.out) GB19.out) GB19.out) GB19.out) GB19.out) GB19.out : Below w0.heap.size w0 w21)); replace HK := am (Kept.of_grown (S := (fun k_ => P0_ k_)) hg (pk HK.out) (fun k_ e_ => (HL129_0.out.1 k_ e_).1)); have HL133 := am (hm_); have HC131 := am ((Kd.R_reads' hm_).2.1); clear HL129_0; clear hg hw hp_ hz_ hm_ hok20))
     (try simp only [← hl0_2])
     go_roundg k2
     case measure => have := HJ8.out; have := HK2.out; omega
     case rel => exact ⟨(y132), (wrap64 (x9_2 + 1)), rf, H', ⟨by have := HJ8.out; have := HK2.out; omega⟩, ⟨by (try simp only [hl0_8]); (try simp only [hl0_2]); (with_reducible repeat (first | apply Kd.S_alloc | apply Kd.S_drewN | apply Kd.S_drew)); exact HO_0.out⟩, ⟨pk HK.out⟩, ⟨ph HB.out⟩⟩
mutual
def spec_l2Seq.l0 : Nat → List (S42) → Int → Int → Option (Bool)
 | 0, _, _, _ => none
 | k + 1, x0, x1, x5 => if x5 < (x0.length : Int) then (spec_l2Seq.l1 k x0 x1 x5 0) else (some false)
def spec_l2Seq.l1 : Nat → List (S42) → Int → Int → Int → Option (Bool)
 | 0, _, _, _, _ => none
 | k + 1, x0, x1, x5, x6 => if 0 ≤ x5 then (if x5 < (x0.length : Int) then (if x6 < (((rd_T42 x0 x5).f0).length : Int) then (if 0 ≤ x6 then (if ((rd_T39 ((rd_T42 x0 x5).f0) x6).f0) = 1 then (if ((rd_T39 ((rd_T42 x0 x5).f0) x6).f1.f1) = x1 then (some true) else (spec_l2Seq.l1 k x0 x1 x5 (wrap64 (x6 + 1)))) else (spec_l2Seq.l1 k x0 x1 x5 (wrap64 (x6 + 1)))) else (none)) else (spec_l2Seq.l0 k x0 x1 (wrap64 (x5 + 1)))) else (none)) else (none)
end
def spec_l2Seq.f (k : Nat) (l0 : List (S42)) (a1 : Int) : Option (Bool) := spec_l2Seq.l0 k l0 a1 0
theorem spec_l2Seq.calls (k : Nat) (A0 : Option Addr) (c0 : Nat) (l0 : List (S42)) (a1 : Int) (r : Bool) (w : World) (hr0 : Kd.C k42 w A0 l0.length l0) (hc0 : l0.length ≤ c0) (h : spec_l2Seq.f k l0 a1 = some r) :
 Calls Try.prog 68 #[.slice A0 l0.length c0, .int .i64 a1] w fun e w' => e = .returned (.bool r) ∧ Drawn0 w w' := by
 have HR0 := am hr0
 have HC0 := am hc0
 clear hr0 hc0
 have H : (spec_l2Seq.l0 k l0 a1 0) = some r := h
 clear h
 have H' := am H
 clear H
 go_enter Try.func68, Try.ntmps68
 go_wp2
 go_loopg [5] k (fun kq v5 w' => ∃ (x5_1 : Int), v5 = .int .i64 x5_1 ∧ Aside0 (spec_l2Seq.l0 kq l0 a1 x5_1 = some r) ∧ Aside0 (kq ≤ k) ∧ Drawn0 w w')
 case atStart => exact ⟨(0), rf, H', ⟨Nat.le_refl _⟩, by repeat (first | exact Drawn0.refl _ | apply Drawn0.step)⟩
 case round =>
  clear H'
  obtain ⟨x5_1, rfl, HA, HK1, ⟨m1, rfl⟩⟩ := hrel
  cases gk with
  | zero => exact absurd HA.out (by simp [spec_l2Seq.l0])
  | succ k1 =>
   have H := HA.out
   clear HA
   simp only [spec_l2Seq.l0] at H
   by_cases c3 : x5_1 < (l0.length : Int)
   rotate_left
   · rw [if_neg c3] at H
     have c3b0 := decide_eq_false c3
     clear c3
     obtain rfl := Option.some.inj H
     go_wp2
     go_ret
     exact ⟨by first | rfl | (simp; done) | (simp [*]; done), by repeat (first | exact Drawn0.refl _ | apply Drawn0.step)⟩
   rw [if_pos c3] at H
   have c3b0 := decide_eq_true c3
   clear c3
   have H' := am H
   clear H
   go_wp2
   go_loopg [6] k1 (fun kq v6 w' => ∃ (x6_2 : Int), v6 = .int .i64 x6_2 ∧ Aside0 (spec_l2Seq.l1 kq l0 a1 x5_1 x6_2 = some r) ∧ Aside0 (kq ≤ k1) ∧ Drawn0 w w')
   case atStart => exact ⟨(0), rf, H', ⟨Nat.le_refl _⟩, by repeat (first | exact Drawn0.refl _ | apply Drawn0.step)⟩
   case round =>
    clear H'
    obtain ⟨x6_2, rfl, HA, HK2, ⟨m2, rfl⟩⟩ := hrel
    cases gk with
    | zero => exact absurd HA.out (by simp [spec_l2Seq.l1])
    | succ k2 =>
     have H := HA.out
     clear HA
     simp only [spec_l2Seq.l1] at H
     obtain ⟨c4b0, H⟩ := ifd H
     obtain ⟨c5b0, H⟩ := ifd H
     by_cases c6 : x6_2 < (((rd_T42 l0 x5_1).f0).length : Int)
     rotate_left
     · rw [if_neg c6] at H
       have c6b0 := decide_eq_false c6
       clear c6
       have H' := am H
       clear H
       have p134 : 0 ≤ (x5_1 : Int) := ofb
       have q134 : x5_1 < (l0.length : Int) := ofb
       obtain ⟨ad134, A134_0, c134_0, e134, hx134_0, hx134_1, hl134_0, hi134_0⟩ := at_T42 HR0.out x5_1 p134 q134
       cases e134
       have HR134_0 := am hi134_0
       have HC134_0 := am hl134_0
       clear hi134_0 hl134_0
       replace p134 := eq_true p134
       replace q134 := eq_true q134
       go_wp2
       go_roundg k2
       case measure => have := HK1.out; have := HK2.out; omega
       case rel => exact ⟨(wrap64 (x5_1 + 1)), rf, H', ⟨by have := HK1.out; have := HK2.out; omega⟩, by repeat (first | exact Drawn0.refl _ | apply Drawn0.step)⟩
     rw [if_pos c6] at H
     have c6b0 := decide_eq_true c6
     clear c6
     obtain ⟨c7b0, H⟩ := ifd H
     by_cases c8 : ((rd_T39 ((rd_T42 l0 x5_1).f0) x6_2).f0) = 1
     rotate_left
     · rw [if_neg c8] at H
       have c8b0 : (((rd_T39 ((rd_T42 l0 x5_1).f0) x6_2).f0) == 1) = false := beq_eq_false_iff_ne.mpr c8
       have c8b1 : (((rd_T39 ((rd_T42 l0 x5_1).f0) x6_2).f0) != 1) = true := bne_iff_ne.mpr c8
       have H' := am H
       clear H
       have p134 : 0 ≤ (x5_1 : Int) := ofb
       have q134 : x5_1 < (l0.length : Int) := ofb
       obtain ⟨ad134, A134_0, c134_0, e134, hx134_0, hx134_1, hl134_0, hi134_0⟩ := at_T42 HR0.out x5_1 p134 q134
       cases e134
       have HR134_0 := am hi134_0
       have HC134_0 := am hl134_0
       clear hi134_0 hl134_0
       replace p134 := eq_true p134
       replace q134 := eq_true q134
       have p135 : 0 ≤ (x5_1 : Int) := ofb
       have q135 : x5_1 < (l0.length : Int) := ofb
       obtain ⟨ad135, A135_0, c135_0, e135, hx135_0, hx135_1, hl135_0, hi135_0⟩ := at_T42 HR0.out x5_1 p135 q135
       obtain rfl : ad134 = ad135 := (by injection e135)
       have HR135_0 := am hi135_0
       have HC135_0 := am hl135_0
       clear hi135_0 hl135_0
       replace p135 := eq_true p135
       replace q135 := eq_true q135
       have ea_ := Option.some.inj (hx134_0.symm.trans hx135_0)
       injection ea_ with ea_ en_ ec_
       subst ea_
       subst ec_
       clear en_
       have p136 : 0 ≤ (x6_2 : Int) := ofb
       have q136 : x6_2 < (((rd_T42 l0 x5_1).f0).length : Int) := ofb
       obtain ⟨ad136, e136, hx136_0, hx136_1, hx136_2, hx136_3, hx136_4⟩ := at_T39 HR135_0.out x6_2 p136 q136
       cases e136
       replace p136 := eq_true p136
       replace q136 := eq_true q136
       go_wp2
       go_roundg k2
       case measure => have := HK1.out; have := HK2.out; omega
       case rel => exact ⟨(wrap64 (x6_2 + 1)), rf, H', ⟨by have := HK1.out; have := HK2.out; omega⟩, by repeat (first | exact Drawn0.refl _ | apply Drawn0.step)⟩
     rw [if_pos c8] at H
     have c8b0 : (((rd_T39 ((rd_T42 l0 x5_1).f0) x6_2).f0) == 1) = true := beq_iff_eq.mpr c8
     have c8b1 : (((rd_T39 ((rd_T42 l0 x5_1).f0) x6_2).f0) != 1) = false := bne_eq_false_iff_eq.mpr c8
     clear c8
     by_cases c9 : ((rd_T39 ((rd_T42 l0 x5_1).f0) x6_2).f1.f1) = a1
     · rw [if_pos c9] at H
       have c9b0 : (((rd_T39 ((rd_T42 l0 x5_1).f0) x6_2).f1.f1) == a1) = true := beq_iff_eq.mpr c9
       have c9b1 : (((rd_T39 ((rd_T42 l0 x5_1).f0) x6_2).f1.f1) != a1) = false := bne_eq_false_iff_eq.mpr c9
       clear c9
       obtain rfl := Option.some.inj H
       have p134 : 0 ≤ (x5_1 : Int) := ofb
       have q134 : x5_1 < (l0.length : Int) := ofb
       obtain ⟨ad134, A134_0, c134_0, e134, hx134_0, hx134_1, hl134_0, hi134_0⟩ := at_T42 HR0.out x5_1 p134 q134
       cases e134
       have HR134_0 := am hi134_0
       have HC134_0 := am hl134_0
       clear hi134_0 hl134_0
       replace p134 := eq_true p134
       replace q134 := eq_true q134
       have p135 : 0 ≤ (x5_1 : Int) := ofb
       have q135 : x5_1 < (l0.length : Int) := ofb
       obtain ⟨ad135, A135_0, c135_0, e135, hx135_0, hx135_1, hl135_0, hi135_0⟩ := at_T42 HR0.out x5_1 p135 q135
       obtain rfl : ad134 = ad135 := (by injection e135)
       have HR135_0 := am hi135_0
       have HC135_0 := am hl135_0
       clear hi135_0 hl135_0
       replace p135 := eq_true p135
       replace q135 := eq_true q135
       have ea_ := Option.some.inj (hx134_0.symm.trans hx135_0)
       injection ea_ with ea_ en_ ec_
       subst ea_
       subst ec_
       clear en_
       have p136 : 0 ≤ (x6_2 : Int) := ofb
       have q136 : x6_2 < (((rd_T42 l0 x5_1).f0).length : Int) := ofb
       obtain ⟨ad136, e136, hx136_0, hx136_1, hx136_2, hx136_3, hx136_4⟩ := at_T39 HR135_0.out x6_2 p136 q136
       cases e136
       replace p136 := eq_true p136
       replace q136 := eq_true q136
       have p137 : 0 ≤ (x5_1 : Int) := ofb
       have q137 : x5_1 < (l0.length : Int) := ofb
       obtain ⟨ad137, A137_0, c137_0, e137, hx137_0, hx137_1, hl137_0, hi137_0⟩ := at_T42 HR0.out x5_1 p137 q137
       obtain rfl : ad134 = ad137 := (by injection e137)
       have HR137_0 := am hi137_0
       have HC137_0 := am hl137_0
       clear hi137_0 hl137_0
       replace p137 := eq_true p137
       replace q137 := eq_true q137
       have ea_ := Option.some.inj (hx134_0.symm.trans hx137_0)
       injection ea_ with ea_ en_ ec_
       subst ea_
       subst ec_
       clear en_
       have p138 : 0 ≤ (x6_2 : Int) := ofb
       have q138 : x6_2 < (((rd_T42 l0 x5_1).f0).length : Int) := ofb
       obtain ⟨ad138, e138, hx138_0, hx138_1, hx138_2, hx138_3, hx138_4⟩ := at_T39 HR137_0.out x6_2 p138 q138
       cases e138
       replace p138 := eq_true p138
       replace q138 := eq_true q138
       go_wp2
       go_ret
       exact ⟨by first | rfl | (simp; done) | (simp [*]; done), by repeat (first | exact Drawn0.refl _ | apply Drawn0.step)⟩
     rw [if_neg c9] at H
     have c9b0 : (((rd_T39 ((rd_T42 l0 x5_1).f0) x6_2).f1.f1) == a1) = false := beq_eq_false_iff_ne.mpr c9
     have c9b1 : (((rd_T39 ((rd_T42 l0 x5_1).f0) x6_2).f1.f1) != a1) = true := bne_iff_ne.mpr c9
     have H' := am H
     clear H
     have p134 : 0 ≤ (x5_1 : Int) := ofb
     have q134 : x5_1 < (l0.length : Int) := ofb
     obtain ⟨ad134, A134_0, c134_0, e134, hx134_0, hx134_1, hl134_0, hi134_0⟩ := at_T42 HR0.out x5_1 p134 q134
     cases e134
     have HR134_0 := am hi134_0
     have HC134_0 := am hl134_0
     clear hi134_0 hl134_0
     replace p134 := eq_true p134
     replace q134 := eq_true q134
     have p135 : 0 ≤ (x5_1 : Int) := ofb
     have q135 : x5_1 < (l0.length : Int) := ofb
     obtain ⟨ad135, A135_0, c135_0, e135, hx135_0, hx135_1, hl135_0, hi135_0⟩ := at_T42 HR0.out x5_1 p135 q135
     obtain rfl : ad134 = ad135 := (by injection e135)
     have HR135_0 := am hi135_0
     have HC135_0 := am hl135_0
     clear hi135_0 hl135_0
     replace p135 := eq_true p135
     replace q135 := eq_true q135
     have ea_ := Option.some.inj (hx134_0.symm.trans hx135_0)
     injection ea_ with ea_ en_ ec_
     subst ea_
     subst ec_
     clear en_
     have p136 : 0 ≤ (x6_2 : Int) := ofb
     have q136 : x6_2 < (((rd_T42 l0 x5_1).f0).length : Int) := ofb
     obtain ⟨ad136, e136, hx136_0, hx136_1, hx136_2, hx136_3, hx136_4⟩ := at_T39 HR135_0.out x6_2 p136 q136
     cases e136
     replace p136 := eq_true p136
     replace q136 := eq_true q136
     have p137 : 0 ≤ (x5_1 : Int) := ofb
     have q137 : x5_1 < (l0.length : Int) := ofb
     obtain ⟨ad137, A137_0, c137_0, e137, hx137_0, hx137_1, hl137_0, hi137_0⟩ := at_T42 HR0.out x5_1 p137 q137
     obtain rfl : ad134 = ad137 := (by injection e137)
     have HR137_0 := am hi137_0
     have HC137_0 := am hl137_0
     clear hi137_0 hl137_0
     replace p137 := eq_true p137
     replace q137 := eq_true q137
     have ea_ := Option.some.inj (hx134_0.symm.trans hx137_0)
     injection ea_ with ea_ en_ ec_
     subst ea_
     subst ec_
     clear en_
     have p138 : 0 ≤ (x6_2 : Int) := ofb
     have q138 : x6_2 < (((rd_T42 l0 x5_1).f0).length : Int) := ofb
     obtain ⟨ad138, e138, hx138_0, hx138_1, hx138_2, hx138_3, hx138_4⟩ := at_T39 HR137_0.out x6_2 p138 q138
     cases e138
     replace p138 := eq_true p138
     replace q138 := eq_true q138
     go_wp2
     go_roundg k2
     case measure => have := HK1.out; have := HK2.out; omega
     case rel => exact ⟨(wrap64 (x6_2 + 1)), rf, H', ⟨by have := HK1.out; have := HK2.out; omega⟩, by repeat (first | exact Drawn0.refl _ | apply Drawn0.step)⟩
def spec_l2Write.j0 : Nat → List (S42) → Int → Bool → Int → Bool → Int → Int → Int → Int → Option ((List (S42)) × Bool)
 | 0, _, _, _, _, _, _, _, _, _ => none
 | k + 1, x0, x1, x3, x10, x24, x140000, x140001, x140002, x140003 => if x24 = true then (some (x0, false)) else (if x3 = true then (if 0 ≤ x1 then (if x1 < (x0.length : Int) then (if 0 ≤ (wrap64 (4 - x10)) then (if (wrap64 (4 - x10)) < (((rd_T42 x0 x1).f0).length : Int) then (some ((x0.set (x1 : Int).toNat (⟨(((rd_T42 x0 x1).f0).set ((wrap64 (4 - x10)) : Int).toNat (⟨2, (⟨0, 0, 0, 0⟩ : S32)⟩ : S39)), (rd_T42 x0 x1).f1⟩ : S42)), true)) else (none)) else (none)) else (none)) else (none)) else (if 0 ≤ x1 then (if x1 < (x0.length : Int) then (if 0 ≤ (wrap64 (4 - x10)) then (if (wrap64 (4 - x10)) < (((rd_T42 x0 x1).f0).length : Int) then (some ((x0.set (x1 : Int).toNat (⟨(((rd_T42 x0 x1).f0).set ((wrap64 (4 - x10)) : Int).toNat (⟨1, (⟨x140000, x140001, x140002, x140003⟩ : S32)⟩ : S39)), (rd_T42 x0 x1).f1⟩ : S42)), true)) else (none)) else (none)) else (none)) else (none)))
def spec_l2Write.f (k : Nat) (l0 : List (S42)) (a1 : Int) (a2_0 : Int) (a2_1 : Int) (a2_2 : Int) (a2_3 : Int) (a3 : Bool) : Option ((List (S42)) × Bool) := if 0 ≤ a1 then (if a1 < (l0.length : Int) then ((spec_l2Clean.f k ((rd_T42 l0 a1).f0) ((rd_T42 l0 a1).f1)).bind fun t141 => (if t141 = 0 then (spec_l2Write.j0 k l0 a1 a3 t141 true a2_0 a2_1 a2_2 a2_3) else ((spec_l2Seq.f k l0 a2_1).bind fun t142 => (spec_l2Write.j0 k l0 a1 a3 t141 t142 a2_0 a2_1 a2_2 a2_3)))) else (none)) else (none)
def spec_l2Write.T7 : Bool × List (List Nat × List Nat) := (true, [([], []), ([], []), ([0, 1], [0, 1]), ([2], [2]), ([3], [3]), ([], []), ([5], [5]), ([], []), ([4, 6, 0, 1, 2, 3, 4, 5, 6, 7], [4, 6]), ([8, 7, 0, 1, 2, 3, 4, 5, 6, 7], [7, 8])])
def spec_l2Write.B7 : List Nat := [0, 0, 3, 7, 15, 0, 32, 0, 255, 511]
theorem spec_l2Write.tab7 : rtab .any (opsOf Try.f67 7) = spec_l2Write.T7 := by kernel_rfl
theorem spec_l2Write.bits7 : waitsOk spec_l2Write.T7.2 spec_l2Write.B7 = true := by kernel_rfl
theorem spec_l2Write.calls (k : Nat) (P0_ : Nat → Prop) (u9000_ : Value) (l0 : List (S42)) (a1 : Int) (a2_0 : Int) (a2_1 : Int) (a2_2 : Int) (a2_3 : Int) (a3 : Bool) (r1 : List (S42)) (r2 : Bool) (w0 w : World) (hB : Below w0.heap.size w0 w) (ho0 : Kd.S k42 42 w w0.heap.size P0_ u9000_ l0) (h : spec_l2Write.f k l0 a1 a2_0 a2_1 a2_2 a2_3 a3 = some (r1, r2)) :
 Calls Try.prog 67 #[u9000_, .int .i64 a1, .agg #[.int .i64 a2_0, .int .i64 a2_1, .int .i64 a2_2, .int .i64 a2_3], .bool a3] w fun e w' => ∃ v0_ : Value, e = .returned (.tuple #[v0_, .bool r2]) ∧ Kd.S k42 42 w' w0.heap.size (fun k_ => (P0_ k_ ∨ w.heap.size ≤ k_)) v0_ r1 ∧ Below w0.heap.size w0 w' ∧ Kept w w' (fun k_ => P0_ k_) := by
 have hu32 := Try.underlying32
 have hu42 := Try.underlying42
 have hu39 := Try.underlying39
 have HO0 := am (show Kd.S k42 42 w w0.heap.size (fun k_ => (P0_ k_ ∨ w.heap.size ≤ k_)) u9000_ l0 from Kd.S_mono ho0 (fun k_ hk => (.inl hk)))
 have HK := am (Kept.refl w (fun k_ => P0_ k_))
 have HW0 := am hB.size
 have HB := am hB
 clear hB
 have H : (if 0 ≤ a1 then (if a1 < (l0.length : Int) then ((spec_l2Clean.f k ((rd_T42 l0 a1).f0) ((rd_T42 l0 a1).f1)).bind fun t141 => (if t141 = 0 then (spec_l2Write.j0 k l0 a1 a3 t141 true a2_0 a2_1 a2_2 a2_3) else ((spec_l2Seq.f k l0 a2_1).bind fun t142 => (spec_l2Write.j0 k l0 a1 a3 t141 t142 a2_0 a2_1 a2_2 a2_3)))) else (none)) else (none)) = some (r1, r2) := h
 clear h
 obtain ⟨c5b0, H⟩ := ifd H
 obtain ⟨c6b0, H⟩ := ifd H
 replace H := Option.bind_eq_some_iff.mp H
 obtain ⟨t141, A70, H⟩ := H
 have A7 := am A70
 clear A70
 have HC8 := am H
 clear H
 go_enter Try.func67, Try.ntmps67
 go_upto_region 2 with (first | (refine bx 6 #[.int .i64 a2_0, .int .i64 a2_1, .int .i64 a2_2, .int .i64 a2_3] 32 rfl ?_; intro gb139 hg w9 hbox hb; replace HO0 := am (Kd.S_below (ps HO0.out) hb); have BK139 := am (hbox); have GW139 := am (gw hg (pk HK.out)); replace HK := am (Kept.below (pk HK.out) hb); have GE139 := am (ge hg (ph HB.out)); replace HB := am (below_step (ph HB.out) hb); clear hb hbox hg; obtain ⟨Ao10, co10, eo10⟩ := Kd.S_slice HO0.out; subst eo10; have p140 : 0 ≤ (a1 : Int) := ofb; have q140 : a1 < (l0.length : Int) := ofb; obtain ⟨ad140, A140_0, c140_0, e140, hx140_0, hx140_1, hl140_0, hi140_0⟩ := at_T42 (Kd.S_reads' HO0.out).2.2 a1 p140 q140; cases e140; obtain ⟨ce140, hce140, hMe140, hcc140⟩ := Kd.S_get HO0.out z42 a1 p140 (by first | exact q140 | exact ofb | (have e_ := (Kd.S_reads' HO0.out).1; omega)); obtain ⟨ve140_0, rfl, ge140_0⟩ := k42_openM hMe140; have hv140_0 := hcc140 0 _ rfl; rw [Nat.add_zero] at hv140_0; replace hv140_0 := Option.some.inj (hv140_0.symm.trans hx140_0); rw [hv140_0] at ge140_0; have HL140_0 := am (show Kd.R k39 39 _ _ _ _ ((rd_T42 l0 a1).f0) from ge140_0); clear hv140_0 ge140_0; have HX140_0 := am hx140_0; clear hcc140 hce140; have HR140_0 := am hi140_0; have HC140_0 := am hl140_0; clear hi140_0 hl140_0; replace p140 := eq_true p140; replace q140 := eq_true q140) | (refine gl 16 Try.func46 #[.agg #[.slice A140_0 ((rd_T42 l0 a1).f0).length c140_0, .int .i64 ((rd_T42 l0 a1).f1)]] rfl ?_; (with_reducible refine (spec_l2Clean.calls k _ _ ((rd_T42 l0 a1).f0) ((rd_T42 l0 a1).f1) t141 _ ?side1 ?side2 A7.out).mono ?_); (case side1 => exact pc HR140_0.out); (case side2 => exact HC140_0.out); rintro e w11 ⟨rfl, hb⟩; refine ⟨_, rfl, ?_⟩; replace HO0 := am (Kd.S_below (ps HO0.out) hb); replace HL140_0 := am (Kd.R_below (pr HL140_0.out) hb); replace BK139 := am (blk_below (pb BK139.out) hb); replace HR140_0 := am (Kd.C_below (pc HR140_0.out) hb); replace HX140_0 := am (pw_cell_below hb HX140_0.out); replace HK := am (Kept.below (kg1 HK.out (.inr GW139.out)) hb); replace HB := am (below_step (bg1 HB.out GE139.out) hb); clear hb))
 (try simp only [Act.put, List.setIfInBounds_toArray, List.set_cons_zero, List.set_cons_succ])
 go_cut [24] (fun v24 wc => ∃ (kq : Nat) (x24_7 : Bool), v24 = .bool x24_7 ∧ Aside0 (spec_l2Write.j0 kq l0 a1 a3 t141 x24_7 a2_0 a2_1 a2_2 a2_3 = some (r1, r2)) ∧ Aside0 (kq ≤ k) ∧ Aside0 (Kd.S k42 42 wc w0.heap.size (fun k_ => (P0_ k_ ∨ w.heap.size ≤ k_)) (.slice (some ad140) l0.length co10) l0) ∧ Aside0 (wc.heap[gb139]? = some (.cells #[.int .i64 a2_0, .int .i64 a2_1, .int .i64 a2_2, .int .i64 a2_3] 32 (0, 0))) ∧ Aside0 (Kd.C k39 wc A140_0 ((rd_T42 l0 a1).f0).length ((rd_T42 l0 a1).f0)) ∧ Aside0 (Kept w wc (fun k_ => P0_ k_)) ∧ Aside0 (Below w0.heap.size w0 wc))
 case first =>
  have H := HC8.out
  clear HC8
  by_cases c12 : t141 = 0
  · rw [if_pos c12] at H
    have c12b0 : (t141 == 0) = true := beq_iff_eq.mpr c12
    have c12b1 : (t141 != 0) = false := bne_eq_false_iff_eq.mpr c12
    clear c12
    (first | rw [c12b0] | (simp only [i64_w, i32_w]; rw [c12b0]) | skip)
    have H' := am H
    clear H
    go_wp2
    go_meet
    case rel => exact ⟨_, (true), rf, H', ⟨by first | omega | exact Nat.le_refl _⟩, ⟨ps HO0.out⟩, ⟨pb BK139.out⟩, ⟨pc HR140_0.out⟩, ⟨kg1 HK.out (.inr GW139.out)⟩, ⟨bg1 HB.out GE139.out⟩⟩
  rw [if_neg c12] at H
  have c12b0 : (t141 == 0) = false := beq_eq_false_iff_ne.mpr c12
  have c12b1 : (t141 != 0) = true := bne_iff_ne.mpr c12
  (first | rw [c12b0] | (simp only [i64_w, i32_w]; rw [c12b0]) | skip)
  replace H := Option.bind_eq_some_iff.mp H
  obtain ⟨t142, A130, H⟩ := H
  have A13 := am A130
  clear A130
  have H' := am H
  clear H
  obtain ⟨hcz14_0, hcz14_1, hcz14_2, hcz14_3⟩ := b4 BK139.out
  obtain ⟨hfz14_0, hfz14_1, hfz14_2, hfz14_3⟩ := f4 BK139.out
  go_wp2_with (first | (go_at_call 68; (with_reducible refine (spec_l2Seq.calls k _ _ l0 a2_1 t142 _ ?side1 ?side2 A13.out).mono ?_); (case side1 => exact pc ((Kd.S_reads' HO0.out).2.2)); (case side2 => exact (Kd.S_reads' HO0.out).2.1); rintro e w' ⟨rfl, ⟨nd, rfl⟩⟩))
  go_meet
  case rel => exact ⟨_, (t142), rf, H', ⟨by first | omega | exact Nat.le_refl _⟩, ⟨ps HO0.out⟩, ⟨pb BK139.out⟩, ⟨pc HR140_0.out⟩, ⟨kg1 HK.out (.inr GW139.out)⟩, ⟨bg1 HB.out GE139.out⟩⟩
 case rest =>
  clear HC8
  obtain ⟨kq, x24_7, rfl, HA, HJ7, HO_0, BK139, HR140_0, HK, HB⟩ := hcut
  cases kq with
  | zero => exact absurd HA.out (by simp [spec_l2Write.j0])
  | succ kj7 =>
   have H := HA.out
   clear HA
   simp only [spec_l2Write.j0] at H
   by_cases c15 : x24_7 = true
   · subst c15
     rw [if_pos rfl] at H
     simp only [Option.some.injEq, Prod.mk.injEq] at H
     obtain ⟨rfl, rfl⟩ := H
     go_wp2
     go_ret2
     exact ⟨_, rq ⟨ps HO_0.out, bg1 HB.out GE139.out, kg1 HK.out (.inr GW139.out)⟩⟩
   replace c15 := Bool.eq_false_iff.mpr c15
   subst c15
   rw [if_neg (show ¬ (false = true) by decide)] at H
   by_cases c16 : a3 = true
   rotate_left
   · replace c16 := Bool.eq_false_iff.mpr c16
     subst c16
     rw [if_neg (show ¬ (false = true) by decide)] at H
     obtain ⟨c31b0, H⟩ := ifd H
     obtain ⟨c32b0, H⟩ := ifd H
     obtain ⟨ji33, hji33⟩ : ∃ j_ : Int, (wrap64 (4 - t141)) = j_ := ⟨_, rfl⟩
     replace H : (if 0 ≤ (ji33) then (if (ji33) < (((rd_T42 l0 a1).f0).length : Int) then (some ((l0.set (a1 : Int).toNat (⟨(((rd_T42 l0 a1).f0).set ((ji33) : Int).toNat (⟨1, (⟨a2_0, a2_1, a2_2, a2_3⟩ : S32)⟩ : S39)), (rd_T42 l0 a1).f1⟩ : S42)), true)) else (none)) else (none)) = some (r1, r2) := by first | (rw [hji33] at H; exact H) | (simp only [hji33] at H ⊢; exact H)
     have hji33w : (IntKind.i64.wrap (4 - t141)) = ji33 := (i64_w _).trans hji33
     obtain ⟨c34b0, H⟩ := ifd H
     obtain ⟨c35b0, H⟩ := ifd H
     obtain ⟨y149, hy149⟩ : ∃ y_ : List (S39), y_ = (((rd_T42 l0 a1).f0).set ((ji33) : Int).toNat (⟨1, (⟨a2_0, a2_1, a2_2, a2_3⟩ : S32)⟩ : S39)) := ⟨_, rfl⟩
     replace H : (some ((l0.set (a1 : Int).toNat (⟨y149, (rd_T42 l0 a1).f1⟩ : S42)), true)) = some (r1, r2) := yy hy149 H
     have Ny149 := am hy149
     clear hy149
     obtain ⟨y151, hy151⟩ : ∃ y_ : List (S42), y_ = (l0.set (a1 : Int).toNat (⟨y149, (rd_T42 l0 a1).f1⟩ : S42)) := ⟨_, rfl⟩
     replace H : (some (y151, true)) = some (r1, r2) := yy hy151 H
     have Ny151 := am hy151
     clear hy151
     simp only [Option.some.injEq, Prod.mk.injEq] at H
     obtain ⟨rfl, rfl⟩ := H
     obtain ⟨hcz37_0, hcz37_1, hcz37_2, hcz37_3⟩ := b4 BK139.out
     obtain ⟨hfz37_0, hfz37_1, hfz37_2, hfz37_3⟩ := f4 BK139.out
     try go_wp2_with (first | (refine bx 11 #[.int .i64 0, .int .i64 0, .int .i64 0, .int .i64 0, .int .i64 0] 39 rfl ?_; intro gb143 hg w38 hbox hb; replace HO_0 := am (Kd.S_below (Kd.S_elderB (ps HO_0.out) gb143 (Nat.le_of_eq hg.symm)) hb); replace HR140_0 := am (Kd.C_below (pc HR140_0.out) hb); have BK143 := am (hbox); have GW143 := am (gw hg (kg1 HK.out (.inr GW139.out))); replace HK := am (Kept.below (kg1 HK.out (.inr GW139.out)) hb); have GE143 := am (ge hg (bg1 HB.out GE139.out)); replace HB := am (below_step (bg1 HB.out GE139.out) hb); have NB139_143 := am (nb hg (pb BK139.out)); have NB143_139 := am (Ne.symm NB139_143.out); replace BK139 := am (blk_below (pb BK139.out) hb); clear hb hbox hg; have hnb39 := NB143_139.out; have hnc39 := NB139_143.out; obtain ⟨hcz40_0, hcz40_1, hcz40_2, hcz40_3, hcz40_4⟩ := b5 BK143.out; obtain ⟨hfz40_0, hfz40_1, hfz40_2, hfz40_3, hfz40_4⟩ := f5 BK143.out))
     have n0_ : Aside0 (Kd.S k42 42 (((((w38.setCell ⟨gb143, 0, none⟩ (.int .i64 1)).setCell ⟨gb143, 1, none⟩ (.int .i64 a2_0)).setCell ⟨gb143, 2, none⟩ (.int .i64 a2_1)).setCell ⟨gb143, 3, none⟩ (.int .i64 a2_2)).setCell ⟨gb143, 4, none⟩ (.int .i64 a2_3)) w0.heap.size (fun k_ => (P0_ k_ ∨ w.heap.size ≤ k_) ∧ k_ ≠ gb143) (.slice (some ad140) l0.length co10) l0) := ⟨ps (Kd.S_mono (Kd.S_far (p := ⟨gb143, 4, none⟩) (Kd.S_far (p := ⟨gb143, 3, none⟩) (Kd.S_far (p := ⟨gb143, 2, none⟩) (Kd.S_far (p := ⟨gb143, 1, none⟩) (Kd.S_far (p := ⟨gb143, 0, none⟩) (Kd.S_mono HO_0.out (fun k_ hk => (⟨hk, hk.2⟩ : _ ∧ k_ ≠ gb143))) (fun _ hk => hk.2) (.int .i64 1)) (fun _ hk => hk.2) (.int .i64 a2_0)) (fun _ hk => hk.2) (.int .i64 a2_1)) (fun _ hk => hk.2) (.int .i64 a2_2)) (fun _ hk => hk.2) (.int .i64 a2_3)) (fun _ hk => ⟨hk.1.1, hk.1.2⟩))⟩
     have n1_ : Aside0 ((((((w38.setCell ⟨gb143, 0, none⟩ (.int .i64 1)).setCell ⟨gb143, 1, none⟩ (.int .i64 a2_0)).setCell ⟨gb143, 2, none⟩ (.int .i64 a2_1)).setCell ⟨gb143, 3, none⟩ (.int .i64 a2_2)).setCell ⟨gb143, 4, none⟩ (.int .i64 a2_3)).heap[gb139]? = some (.cells #[.int .i64 a2_0, .int .i64 a2_1, .int .i64 a2_2, .int .i64 a2_3] 32 (0, 0))) := ⟨bf5 (pb BK139.out) NB139_143.out⟩
     have n2_ : Aside0 ((((((w38.setCell ⟨gb143, 0, none⟩ (.int .i64 1)).setCell ⟨gb143, 1, none⟩ (.int .i64 a2_0)).setCell ⟨gb143, 2, none⟩ (.int .i64 a2_1)).setCell ⟨gb143, 3, none⟩ (.int .i64 a2_2)).setCell ⟨gb143, 4, none⟩ (.int .i64 a2_3)).heap[gb143]? = some (.cells #[.int .i64 1, .int .i64 a2_0, .int .i64 a2_1, .int .i64 a2_2, .int .i64 a2_3] 39 (0, 0))) := ⟨bp5 (pb BK143.out)⟩
     have n3_ : Aside0 (Kept w (((((w38.setCell ⟨gb143, 0, none⟩ (.int .i64 1)).setCell ⟨gb143, 1, none⟩ (.int .i64 a2_0)).setCell ⟨gb143, 2, none⟩ (.int .i64 a2_1)).setCell ⟨gb143, 3, none⟩ (.int .i64 a2_2)).setCell ⟨gb143, 4, none⟩ (.int .i64 a2_3)) (fun k_ => P0_ k_)) := ⟨kg2 HK.out (.inr GW139.out) (.inr GW143.out)⟩
     have n4_ : Aside0 (Below w0.heap.size w0 (((((w38.setCell ⟨gb143, 0, none⟩ (.int .i64 1)).setCell ⟨gb143, 1, none⟩ (.int .i64 a2_0)).setCell ⟨gb143, 2, none⟩ (.int .i64 a2_1)).setCell ⟨gb143, 3, none⟩ (.int .i64 a2_2)).setCell ⟨gb143, 4, none⟩ (.int .i64 a2_3))) := ⟨bg2 HB.out GE139.out GE143.out⟩
     (try clear HO_0)
     (try clear BK139)
     (try clear BK143)
     (try clear HK)
     (try clear HB)
     generalize (((((w38.setCell ⟨gb143, 0, none⟩ (.int .i64 1)).setCell ⟨gb143, 1, none⟩ (.int .i64 a2_0)).setCell ⟨gb143, 2, none⟩ (.int .i64 a2_1)).setCell ⟨gb143, 3, none⟩ (.int .i64 a2_2)).setCell ⟨gb143, 4, none⟩ (.int .i64 a2_3)) = w41 at n0_ n1_ n2_ n3_ n4_ ⊢
     have HO_0 := n0_
     have BK139 := n1_
     have BK143 := n2_
     have HK := n3_
     have HB := n4_
     clear n0_ n1_ n2_ n3_ n4_
     replace HO_0 := am (Kd.S_drew HO_0.out)
     replace BK139 := am (blk_drew BK139.out)
     replace BK143 := am (blk_drew BK143.out)
     replace HK := am (Kept.drew HK.out)
     replace HB := am (below_drew1 HB.out)
     have p148 : 0 ≤ (a1 : Int) := ofb
     have q148 : a1 < (l0.length : Int) := ofb
     obtain ⟨ad148, A148_0, c148_0, e148, hx148_0, hx148_1, hl148_0, hi148_0⟩ := at_T42 (Kd.S_reads' HO_0.out).2.2 a1 p148 q148
     obtain rfl : ad140 = ad148 := (by injection e148)
     obtain ⟨ce148, hce148, hMe148, hcc148⟩ := Kd.S_get HO_0.out z42 a1 p148 (by first | exact q148 | exact ofb | (have e_ := (Kd.S_reads' HO_0.out).1; omega))
     obtain ⟨ve148_0, rfl, ge148_0⟩ := k42_openM hMe148
     have hv148_0 := hcc148 0 _ rfl
     rw [Nat.add_zero] at hv148_0
     replace hv148_0 := Option.some.inj (hv148_0.symm.trans hx148_0)
     rw [hv148_0] at ge148_0
     have HL148_0 := am (show Kd.R k39 39 _ _ _ _ ((rd_T42 l0 a1).f0) from ge148_0)
     clear hv148_0 ge148_0
     have HX148_0 := am hx148_0
     clear hcc148 hce148
     have HR148_0 := am hi148_0
     have HC148_0 := am hl148_0
     clear hi148_0 hl148_0
     replace p148 := eq_true p148
     replace q148 := eq_true q148
     have p36 : 0 ≤ ((ji33) : Int) := ofb
     have q36 : ((ji33) : Int) < ((((rd_T42 l0 a1).f0).length : Int) : Int) := ofb
     obtain ⟨go36, co36, eo36, gb36, gl36, cl36, HG36⟩ := Kd.R_form HL148_0.out (by omega)
     (first | cases eo36 | (injection eo36 with ea_ en_ ec_; (first | subst ea_ | (injection ea_ with ea_; subst ea_)); subst ec_; clear en_))
     have GB36 := am gb36
     have GG36 := am HG36
     clear gb36 gl36 HG36
     have HMgo36 := am (show (P0_ go36 ∨ w.heap.size ≤ go36) from (HL148_0.out.1 _ rfl).1.1)
     obtain ⟨ce36, hcl36, hM36, hcc36, hfr36⟩ := Kd.R_elem HL148_0.out z39 ((ji33) : Int) p36 q36
     obtain rfl := k39_openM hM36
     have hx36_0 : World.cell? _ ⟨go36, ((ji33) : Int).toNat * 5, none⟩ = some (.int .i64 ((rd_T39 ((rd_T42 l0 a1).f0) (ji33)).f0)) := hcc36 0 _ rfl
     have hx36_1 : World.cell? _ ⟨go36, ((ji33) : Int).toNat * 5 + 1, none⟩ = some (.int .i64 ((rd_T39 ((rd_T42 l0 a1).f0) (ji33)).f1.f0)) := hcc36 1 _ rfl
     have hx36_2 : World.cell? _ ⟨go36, ((ji33) : Int).toNat * 5 + 2, none⟩ = some (.int .i64 ((rd_T39 ((rd_T42 l0 a1).f0) (ji33)).f1.f1)) := hcc36 2 _ rfl
     have hx36_3 : World.cell? _ ⟨go36, ((ji33) : Int).toNat * 5 + 3, none⟩ = some (.int .i64 ((rd_T39 ((rd_T42 l0 a1).f0) (ji33)).f1.f2)) := hcc36 3 _ rfl
     have hx36_4 : World.cell? _ ⟨go36, ((ji33) : Int).toNat * 5 + 4, none⟩ = some (.int .i64 ((rd_T39 ((rd_T42 l0 a1).f0) (ji33)).f1.f3)) := hcc36 4 _ rfl
     have hf36_0 : World.frozen? _ ⟨go36, ((ji33) : Int).toNat * 5, none⟩ = false := hfr36 0
     have hf36_1 : World.frozen? _ ⟨go36, ((ji33) : Int).toNat * 5 + 1, none⟩ = false := hfr36 1
     have hf36_2 : World.frozen? _ ⟨go36, ((ji33) : Int).toNat * 5 + 2, none⟩ = false := hfr36 2
     have hf36_3 : World.frozen? _ ⟨go36, ((ji33) : Int).toNat * 5 + 3, none⟩ = false := hfr36 3
     have hf36_4 : World.frozen? _ ⟨go36, ((ji33) : Int).toNat * 5 + 4, none⟩ = false := hfr36 4
     clear hcl36 hcc36 hfr36 hM36
     replace p36 := eq_true p36
     replace q36 := eq_true q36
     have hq43 : (a1 : Int) < (l0.length : Int) := (by have h_ : (a1 : Int) < ((l0.length : Int) : Int) := ofb; first | exact h_ | (have e_ := (Kd.S_reads' HO_0.out).1; omega) | simpa only [List.length_set, List.length_set] using h_)
     obtain ⟨oki43, ce43, hcl43, hM43, hcc43, hok43, hbk43⟩ := Kd.S_borrow HO_0.out z42 (a1 : Int) (ofb) hq43
     obtain ⟨ve43_0, rfl, ge43_0⟩ := k42_openM hM43
     have hv43 := hcc43 0 _ rfl
     rw [Nat.add_zero] at hv43
     replace hv43 := Option.some.inj (hv43.symm.trans HX148_0.out)
     subst hv43
     clear hcc43 hcl43
     replace ge43_0 := (show Kd.R k39 39 _ _ _ _ ((rd_T42 l0 a1).f0) from ge43_0)
     obtain ⟨cf43, hcl43, hN43, hcc43, hfr43⟩ := Kd.R_elem ge43_0 z39 ((ji33) : Int) (ofb) (by have h_ : ((ji33) : Int) < ((((rd_T42 l0 a1).f0).length : Int) : Int) := ofb; first | exact h_ | (have e_ := (Kd.R_reads' HR148_0.out).1; omega) | simpa using h_)
     obtain rfl := k39_openM hN43
     have HP43 := Kd.R_seg ge43_0 ((ji33) : Int) (ofb) (by have h_ : ((ji33) : Int) < ((((rd_T42 l0 a1).f0).length : Int) : Int) := ofb; first | exact h_ | (have e_ := (Kd.R_reads' HR148_0.out).1; omega) | simpa using h_) (seg := [.int .i64 1, .int .i64 a2_0, .int .i64 a2_1, .int .i64 a2_2, .int .i64 a2_3]) (j := 0) hcl43 hcc43 (show 5 ≤ 5 from by decide) (x' := (⟨1, (⟨a2_0, a2_1, a2_2, a2_3⟩ : S32)⟩ : S39)) (k39_mkM _ _ _ (⟨1, (⟨a2_0, a2_1, a2_2, a2_3⟩ : S32)⟩ : S39)) (fun _ hk => hk)
     clear hcl43 hcc43 hfr43 hN43
     rw [← Ny149.out] at HP43
     have HS43 := hbk43 HP43.2 (fun k_ e_ => by injection e_ with e_; subst e_; exact ge43_0.1 _ rfl) (x' := (⟨y149, (rd_T42 l0 a1).f1⟩ : S42)) (k42_mkM _ _ _ (⟨y149, (rd_T42 l0 a1).f1⟩ : S42) HP43.1)
     rw [← Ny151.out] at HS43
     have HQ43 := am HS43
     clear HP43 HS43 hbk43 hok43
     refine start_ (n := 10) (S := fun w' => w'.cell? ⟨gb143, 0, none⟩ = some (.int .i64 1) ∧ w'.cell? ⟨gb143, 1, none⟩ = some (.int .i64 a2_0) ∧ w'.cell? ⟨gb143, 2, none⟩ = some (.int .i64 a2_1) ∧ w'.cell? ⟨gb143, 3, none⟩ = some (.int .i64 a2_2) ∧ w'.cell? ⟨gb143, 4, none⟩ = some (.int .i64 a2_3) ∧ w'.cell? (ad140.add ((a1).toNat * 2)) = some (.slice (some ⟨go36, 0, none⟩) ((rd_T42 l0 a1).f0).length c148_0) ∧ w'.cell? ⟨(ad140.add ((a1).toNat * 2)).block, (ad140.add ((a1).toNat * 2)).off + 1, none⟩ = some (.int .i64 ((rd_T42 l0 a1).f1))) (ds := [9]) (bt 10 0) (by kernel_rfl) rfl rfl ⟨(blk_cell BK143.out 0).trans rfl, (blk_cell BK143.out 1).trans rfl, (blk_cell BK143.out 2).trans rfl, (blk_cell BK143.out 3).trans rfl, (blk_cell BK143.out 4).trans rfl, hx148_0, hx148_1⟩ (fun hHeld => ?_); refine with_tabW spec_l2Write.tab7 spec_l2Write.bits7 (fun HT_ HW_ => ?_)
     generalize w41.drew = w42 at HO_0 BK139 BK143 HK HB GG36 HL148_0 HQ43 HR148_0 HX148_0 hf36_0 hf36_1 hf36_2 hf36_3 hf36_4 hx148_0 hx148_1 hx36_0 hx36_1 hx36_2 hx36_3 hx36_4 hHeld ⊢
     refine qj 0 30 (bt 10 1) rfl rfl HT_.out ?_
     refine qj 1 31 (bt 10 3) rfl rfl HT_.out ?_
     refine qj 2 32 (bt 10 7) rfl rfl HT_.out ?_
     refine qj 3 33 (bt 10 15) rfl rfl HT_.out ?_
     refine qj 5 35 (bt 10 47) rfl rfl HT_.out ?_
     refine qj 6 36 (bt 10 111) rfl rfl HT_.out ?_
     refine qm 4 34 (bt 10 127) rfl rfl HT_.out HW_.out hHeld ?_
     refine qm 7 37 (bt 10 255) rfl rfl HT_.out HW_.out hHeld ?_
     refine qj 8 38 (bt 10 511) rfl rfl HT_.out ?_
     refine last_ (i := 9) (N := none) (bt 10 1023) rfl rfl (one_of HT_.out (by kernel_rfl)) (by decide) (fun K hK => ?_)
     refine qs rfl ?_
     refine hK.out _ _ ?_
     clear hK K
     refine done_ (done_of HT_.out (by kernel_rfl)) ?_
     try go_wp2
     go_ret2
     exact ⟨_, by first | rfl | (simp [errW_none, errW_some] <;> rfl) | (simp only [← hji33]; first | rfl | (simp [errW_none, errW_some] <;> rfl)) | (simp [*, errW_none, errW_some] <;> rfl), Kd.S_mono HQ43.out (fun _ hk => hk.1), bg3 HB.out GB36.out GE139.out GE143.out, kg3 HK.out HMgo36.out (.inr GW139.out) (.inr GW143.out)⟩
   subst c16
   rw [if_pos rfl] at H
   obtain ⟨c17b0, H⟩ := ifd H
   obtain ⟨c18b0, H⟩ := ifd H
   obtain ⟨ji19, hji19⟩ : ∃ j_ : Int, (wrap64 (4 - t141)) = j_ := ⟨_, rfl⟩
   replace H : (if 0 ≤ (ji19) then (if (ji19) < (((rd_T42 l0 a1).f0).length : Int) then (some ((l0.set (a1 : Int).toNat (⟨(((rd_T42 l0 a1).f0).set ((ji19) : Int).toNat (⟨2, (⟨0, 0, 0, 0⟩ : S32)⟩ : S39)), (rd_T42 l0 a1).f1⟩ : S42)), true)) else (none)) else (none)) = some (r1, r2) := by first | (rw [hji19] at H; exact H) | (simp only [hji19] at H ⊢; exact H)
   have hji19w : (IntKind.i64.wrap (4 - t141)) = ji19 := (i64_w _).trans hji19
   obtain ⟨c20b0, H⟩ := ifd H
   obtain ⟨c21b0, H⟩ := ifd H
   obtain ⟨y145, hy145⟩ : ∃ y_ : List (S39), y_ = (((rd_T42 l0 a1).f0).set ((ji19) : Int).toNat (⟨2, (⟨0, 0, 0, 0⟩ : S32)⟩ : S39)) := ⟨_, rfl⟩
   replace H : (some ((l0.set (a1 : Int).toNat (⟨y145, (rd_T42 l0 a1).f1⟩ : S42)), true)) = some (r1, r2) := yy hy145 H
   have Ny145 := am hy145
   clear hy145
   obtain ⟨y147, hy147⟩ : ∃ y_ : List (S42), y_ = (l0.set (a1 : Int).toNat (⟨y145, (rd_T42 l0 a1).f1⟩ : S42)) := ⟨_, rfl⟩
   replace H : (some (y147, true)) = some (r1, r2) := yy hy147 H
   have Ny147 := am hy147
   clear hy147
   simp only [Option.some.injEq, Prod.mk.injEq] at H
   obtain ⟨rfl, rfl⟩ := H
   obtain ⟨hcz23_0, hcz23_1, hcz23_2, hcz23_3⟩ := b4 BK139.out
   obtain ⟨hfz23_0, hfz23_1, hfz23_2, hfz23_3⟩ := f4 BK139.out
   try go_wp2_with (first | (refine bx 11 #[.int .i64 0, .int .i64 0, .int .i64 0, .int .i64 0, .int .i64 0] 39 rfl ?_; intro gb143 hg w24 hbox hb; replace HO_0 := am (Kd.S_below (Kd.S_elderB (ps HO_0.out) gb143 (Nat.le_of_eq hg.symm)) hb); replace HR140_0 := am (Kd.C_below (pc HR140_0.out) hb); have BK143 := am (hbox); have GW143 := am (gw hg (kg1 HK.out (.inr GW139.out))); replace HK := am (Kept.below (kg1 HK.out (.inr GW139.out)) hb); have GE143 := am (ge hg (bg1 HB.out GE139.out)); replace HB := am (below_step (bg1 HB.out GE139.out) hb); have NB139_143 := am (nb hg (pb BK139.out)); have NB143_139 := am (Ne.symm NB139_143.out); replace BK139 := am (blk_below (pb BK139.out) hb); clear hb hbox hg; have hnb25 := NB143_139.out; have hnc25 := NB139_143.out; obtain ⟨hcz26_0, hcz26_1, hcz26_2, hcz26_3, hcz26_4⟩ := b5 BK143.out; obtain ⟨hfz26_0, hfz26_1, hfz26_2, hfz26_3, hfz26_4⟩ := f5 BK143.out))
   have n0_ : Aside0 (Kd.S k42 42 ((((((((((w24.setCell ⟨gb143, 0, none⟩ (.int .i64 1)).setCell ⟨gb143, 1, none⟩ (.int .i64 a2_0)).setCell ⟨gb143, 2, none⟩ (.int .i64 a2_1)).setCell ⟨gb143, 3, none⟩ (.int .i64 a2_2)).setCell ⟨gb143, 4, none⟩ (.int .i64 a2_3)).setCell ⟨gb143, 0, none⟩ (.int .i64 2)).setCell ⟨gb143, 1, none⟩ (.int .i64 0)).setCell ⟨gb143, 2, none⟩ (.int .i64 0)).setCell ⟨gb143, 3, none⟩ (.int .i64 0)).setCell ⟨gb143, 4, none⟩ (.int .i64 0)) w0.heap.size (fun k_ => (P0_ k_ ∨ w.heap.size ≤ k_) ∧ k_ ≠ gb143) (.slice (some ad140) l0.length co10) l0) := ⟨ps (Kd.S_mono (Kd.S_far (p := ⟨gb143, 4, none⟩) (Kd.S_far (p := ⟨gb143, 3, none⟩) (Kd.S_far (p := ⟨gb143, 2, none⟩) (Kd.S_far (p := ⟨gb143, 1, none⟩) (Kd.S_far (p := ⟨gb143, 0, none⟩) (Kd.S_far (p := ⟨gb143, 4, none⟩) (Kd.S_far (p := ⟨gb143, 3, none⟩) (Kd.S_far (p := ⟨gb143, 2, none⟩) (Kd.S_far (p := ⟨gb143, 1, none⟩) (Kd.S_far (p := ⟨gb143, 0, none⟩) (Kd.S_mono HO_0.out (fun k_ hk => (⟨hk, hk.2⟩ : _ ∧ k_ ≠ gb143))) (fun _ hk => hk.2) (.int .i64 1)) (fun _ hk => hk.2) (.int .i64 a2_0)) (fun _ hk => hk.2) (.int .i64 a2_1)) (fun _ hk => hk.2) (.int .i64 a2_2)) (fun _ hk => hk.2) (.int .i64 a2_3)) (fun _ hk => hk.2) (.int .i64 2)) (fun _ hk => hk.2) (.int .i64 0)) (fun _ hk => hk.2) (.int .i64 0)) (fun _ hk => hk.2) (.int .i64 0)) (fun _ hk => hk.2) (.int .i64 0)) (fun _ hk => ⟨hk.1.1, hk.1.2⟩))⟩
   have n1_ : Aside0 (((((((((((w24.setCell ⟨gb143, 0, none⟩ (.int .i64 1)).setCell ⟨gb143, 1, none⟩ (.int .i64 a2_0)).setCell ⟨gb143, 2, none⟩ (.int .i64 a2_1)).setCell ⟨gb143, 3, none⟩ (.int .i64 a2_2)).setCell ⟨gb143, 4, none⟩ (.int .i64 a2_3)).setCell ⟨gb143, 0, none⟩ (.int .i64 2)).setCell ⟨gb143, 1, none⟩ (.int .i64 0)).setCell ⟨gb143, 2, none⟩ (.int .i64 0)).setCell ⟨gb143, 3, none⟩ (.int .i64 0)).setCell ⟨gb143, 4, none⟩ (.int .i64 0)).heap[gb139]? = some (.cells #[.int .i64 a2_0, .int .i64 a2_1, .int .i64 a2_2, .int .i64 a2_3] 32 (0, 0))) := ⟨bf5 (bf5 (pb BK139.out) NB139_143.out) NB139_143.out⟩
   have n2_ : Aside0 (((((((((((w24.setCell ⟨gb143, 0, none⟩ (.int .i64 1)).setCell ⟨gb143, 1, none⟩ (.int .i64 a2_0)).setCell ⟨gb143, 2, none⟩ (.int .i64 a2_1)).setCell ⟨gb143, 3, none⟩ (.int .i64 a2_2)).setCell ⟨gb143, 4, none⟩ (.int .i64 a2_3)).setCell ⟨gb143, 0, none⟩ (.int .i64 2)).setCell ⟨gb143, 1, none⟩ (.int .i64 0)).setCell ⟨gb143, 2, none⟩ (.int .i64 0)).setCell ⟨gb143, 3, none⟩ (.int .i64 0)).setCell ⟨gb143, 4, none⟩ (.int .i64 0)).heap[gb143]? = some (.cells #[.int .i64 2, .int .i64 0, .int .i64 0, .int .i64 0, .int .i64 0] 39 (0, 0))) := ⟨bp5 (bp5 (pb BK143.out))⟩
   have n3_ : Aside0 (Kept w ((((((((((w24.setCell ⟨gb143, 0, none⟩ (.int .i64 1)).setCell ⟨gb143, 1, none⟩ (.int .i64 a2_0)).setCell ⟨gb143, 2, none⟩ (.int .i64 a2_1)).setCell ⟨gb143, 3, none⟩ (.int .i64 a2_2)).setCell ⟨gb143, 4, none⟩ (.int .i64 a2_3)).setCell ⟨gb143, 0, none⟩ (.int .i64 2)).setCell ⟨gb143, 1, none⟩ (.int .i64 0)).setCell ⟨gb143, 2, none⟩ (.int .i64 0)).setCell ⟨gb143, 3, none⟩ (.int .i64 0)).setCell ⟨gb143, 4, none⟩ (.int .i64 0)) (fun k_ => P0_ k_)) := ⟨kg2 HK.out (.inr GW139.out) (.inr GW143.out)⟩
   have n4_ : Aside0 (Below w0.heap.size w0 ((((((((((w24.setCell ⟨gb143, 0, none⟩ (.int .i64 1)).setCell ⟨gb143, 1, none⟩ (.int .i64 a2_0)).setCell ⟨gb143, 2, none⟩ (.int .i64 a2_1)).setCell ⟨gb143, 3, none⟩ (.int .i64 a2_2)).setCell ⟨gb143, 4, none⟩ (.int .i64 a2_3)).setCell ⟨gb143, 0, none⟩ (.int .i64 2)).setCell ⟨gb143, 1, none⟩ (.int .i64 0)).setCell ⟨gb143, 2, none⟩ (.int .i64 0)).setCell ⟨gb143, 3, none⟩ (.int .i64 0)).setCell ⟨gb143, 4, none⟩ (.int .i64 0))) := ⟨bg2 HB.out GE139.out GE143.out⟩
   (try clear HO_0)
   (try clear BK139)
   (try clear BK143)
   (try clear HK)
   (try clear HB)
   generalize ((((((((((w24.setCell ⟨gb143, 0, none⟩ (.int .i64 1)).setCell ⟨gb143, 1, none⟩ (.int .i64 a2_0)).setCell ⟨gb143, 2, none⟩ (.int .i64 a2_1)).setCell ⟨gb143, 3, none⟩ (.int .i64 a2_2)).setCell ⟨gb143, 4, none⟩ (.int .i64 a2_3)).setCell ⟨gb143, 0, none⟩ (.int .i64 2)).setCell ⟨gb143, 1, none⟩ (.int .i64 0)).setCell ⟨gb143, 2, none⟩ (.int .i64 0)).setCell ⟨gb143, 3, none⟩ (.int .i64 0)).setCell ⟨gb143, 4, none⟩ (.int .i64 0)) = w27 at n0_ n1_ n2_ n3_ n4_ ⊢
   have HO_0 := n0_
   have BK139 := n1_
   have BK143 := n2_
   have HK := n3_
   have HB := n4_
   clear n0_ n1_ n2_ n3_ n4_
   replace HO_0 := am (Kd.S_drew HO_0.out)
   replace BK139 := am (blk_drew BK139.out)
   replace BK143 := am (blk_drew BK143.out)
   replace HK := am (Kept.drew HK.out)
   replace HB := am (below_drew1 HB.out)
   have p144 : 0 ≤ (a1 : Int) := ofb
   have q144 : a1 < (l0.length : Int) := ofb
   obtain ⟨ad144, A144_0, c144_0, e144, hx144_0, hx144_1, hl144_0, hi144_0⟩ := at_T42 (Kd.S_reads' HO_0.out).2.2 a1 p144 q144
   obtain rfl : ad140 = ad144 := (by injection e144)
   obtain ⟨ce144, hce144, hMe144, hcc144⟩ := Kd.S_get HO_0.out z42 a1 p144 (by first | exact q144 | exact ofb | (have e_ := (Kd.S_reads' HO_0.out).1; omega))
   obtain ⟨ve144_0, rfl, ge144_0⟩ := k42_openM hMe144
   have hv144_0 := hcc144 0 _ rfl
   rw [Nat.add_zero] at hv144_0
   replace hv144_0 := Option.some.inj (hv144_0.symm.trans hx144_0)
   rw [hv144_0] at ge144_0
   have HL144_0 := am (show Kd.R k39 39 _ _ _ _ ((rd_T42 l0 a1).f0) from ge144_0)
   clear hv144_0 ge144_0
   have HX144_0 := am hx144_0
   clear hcc144 hce144
   have HR144_0 := am hi144_0
   have HC144_0 := am hl144_0
   clear hi144_0 hl144_0
   replace p144 := eq_true p144
   replace q144 := eq_true q144
   have p22 : 0 ≤ ((ji19) : Int) := ofb
   have q22 : ((ji19) : Int) < ((((rd_T42 l0 a1).f0).length : Int) : Int) := ofb
   obtain ⟨go22, co22, eo22, gb22, gl22, cl22, HG22⟩ := Kd.R_form HL144_0.out (by omega)
   (first | cases eo22 | (injection eo22 with ea_ en_ ec_; (first | subst ea_ | (injection ea_ with ea_; subst ea_)); subst ec_; clear en_))
   have GB22 := am gb22
   have GG22 := am HG22
   clear gb22 gl22 HG22
   have HMgo22 := am (show (P0_ go22 ∨ w.heap.size ≤ go22) from (HL144_0.out.1 _ rfl).1.1)
   obtain ⟨ce22, hcl22, hM22, hcc22, hfr22⟩ := Kd.R_elem HL144_0.out z39 ((ji19) : Int) p22 q22
   obtain rfl := k39_openM hM22
   have hx22_0 : World.cell? _ ⟨go22, ((ji19) : Int).toNat * 5, none⟩ = some (.int .i64 ((rd_T39 ((rd_T42 l0 a1).f0) (ji19)).f0)) := hcc22 0 _ rfl
   have hx22_1 : World.cell? _ ⟨go22, ((ji19) : Int).toNat * 5 + 1, none⟩ = some (.int .i64 ((rd_T39 ((rd_T42 l0 a1).f0) (ji19)).f1.f0)) := hcc22 1 _ rfl
   have hx22_2 : World.cell? _ ⟨go22, ((ji19) : Int).toNat * 5 + 2, none⟩ = some (.int .i64 ((rd_T39 ((rd_T42 l0 a1).f0) (ji19)).f1.f1)) := hcc22 2 _ rfl
   have hx22_3 : World.cell? _ ⟨go22, ((ji19) : Int).toNat * 5 + 3, none⟩ = some (.int .i64 ((rd_T39 ((rd_T42 l0 a1).f0) (ji19)).f1.f2)) := hcc22 3 _ rfl
   have hx22_4 : World.cell? _ ⟨go22, ((ji19) : Int).toNat * 5 + 4, none⟩ = some (.int .i64 ((rd_T39 ((rd_T42 l0 a1).f0) (ji19)).f1.f3)) := hcc22 4 _ rfl
   have hf22_0 : World.frozen? _ ⟨go22, ((ji19) : Int).toNat * 5, none⟩ = false := hfr22 0
   have hf22_1 : World.frozen? _ ⟨go22, ((ji19) : Int).toNat * 5 + 1, none⟩ = false := hfr22 1
   have hf22_2 : World.frozen? _ ⟨go22, ((ji19) : Int).toNat * 5 + 2, none⟩ = false := hfr22 2
   have hf22_3 : World.frozen? _ ⟨go22, ((ji19) : Int).toNat * 5 + 3, none⟩ = false := hfr22 3
   have hf22_4 : World.frozen? _ ⟨go22, ((ji19) : Int).toNat * 5 + 4, none⟩ = false := hfr22 4
   clear hcl22 hcc22 hfr22 hM22
   replace p22 := eq_true p22
   replace q22 := eq_true q22
   have hq29 : (a1 : Int) < (l0.length : Int) := (by have h_ : (a1 : Int) < ((l0.length : Int) : Int) := ofb; first | exact h_ | (have e_ := (Kd.S_reads' HO_0.out).1; omega) | simpa only [List.length_set, List.length_set] using h_)
   obtain ⟨oki29, ce29, hcl29, hM29, hcc29, hok29, hbk29⟩ := Kd.S_borrow HO_0.out z42 (a1 : Int) (ofb) hq29
   obtain ⟨ve29_0, rfl, ge29_0⟩ := k42_openM hM29
   have hv29 := hcc29 0 _ rfl
   rw [Nat.add_zero] at hv29
   replace hv29 := Option.some.inj (hv29.symm.trans HX144_0.out)
   subst hv29
   clear hcc29 hcl29
   replace ge29_0 := (show Kd.R k39 39 _ _ _ _ ((rd_T42 l0 a1).f0) from ge29_0)
   obtain ⟨cf29, hcl29, hN29, hcc29, hfr29⟩ := Kd.R_elem ge29_0 z39 ((ji19) : Int) (ofb) (by have h_ : ((ji19) : Int) < ((((rd_T42 l0 a1).f0).length : Int) : Int) := ofb; first | exact h_ | (have e_ := (Kd.R_reads' HR144_0.out).1; omega) | simpa using h_)
   obtain rfl := k39_openM hN29
   have HP29 := Kd.R_seg ge29_0 ((ji19) : Int) (ofb) (by have h_ : ((ji19) : Int) < ((((rd_T42 l0 a1).f0).length : Int) : Int) := ofb; first | exact h_ | (have e_ := (Kd.R_reads' HR144_0.out).1; omega) | simpa using h_) (seg := [.int .i64 2, .int .i64 0, .int .i64 0, .int .i64 0, .int .i64 0]) (j := 0) hcl29 hcc29 (show 5 ≤ 5 from by decide) (x' := (⟨2, (⟨0, 0, 0, 0⟩ : S32)⟩ : S39)) (k39_mkM _ _ _ (⟨2, (⟨0, 0, 0, 0⟩ : S32)⟩ : S39)) (fun _ hk => hk)
   clear hcl29 hcc29 hfr29 hN29
   rw [← Ny145.out] at HP29
   have HS29 := hbk29 HP29.2 (fun k_ e_ => by injection e_ with e_; subst e_; exact ge29_0.1 _ rfl) (x' := (⟨y145, (rd_T42 l0 a1).f1⟩ : S42)) (k42_mkM _ _ _ (⟨y145, (rd_T42 l0 a1).f1⟩ : S42) HP29.1)
   rw [← Ny147.out] at HS29
   have HQ29 := am HS29
   clear HP29 HS29 hbk29 hok29
   refine start_ (n := 10) (S := fun w' => w'.cell? ⟨gb143, 0, none⟩ = some (.int .i64 2) ∧ w'.cell? ⟨gb143, 1, none⟩ = some (.int .i64 0) ∧ w'.cell? ⟨gb143, 2, none⟩ = some (.int .i64 0) ∧ w'.cell? ⟨gb143, 3, none⟩ = some (.int .i64 0) ∧ w'.cell? ⟨gb143, 4, none⟩ = some (.int .i64 0) ∧ w'.cell? (ad140.add ((a1).toNat * 2)) = some (.slice (some ⟨go22, 0, none⟩) ((rd_T42 l0 a1).f0).length c144_0) ∧ w'.cell? ⟨(ad140.add ((a1).toNat * 2)).block, (ad140.add ((a1).toNat * 2)).off + 1, none⟩ = some (.int .i64 ((rd_T42 l0 a1).f1))) (ds := [9]) (bt 10 0) (by kernel_rfl) rfl rfl ⟨(blk_cell BK143.out 0).trans rfl, (blk_cell BK143.out 1).trans rfl, (blk_cell BK143.out 2).trans rfl, (blk_cell BK143.out 3).trans rfl, (blk_cell BK143.out 4).trans rfl, hx144_0, hx144_1⟩ (fun hHeld => ?_); refine with_tabW spec_l2Write.tab7 spec_l2Write.bits7 (fun HT_ HW_ => ?_)
   generalize w27.drew = w28 at HO_0 BK139 BK143 HK HB GG22 HL144_0 HQ29 HR144_0 HX144_0 hf22_0 hf22_1 hf22_2 hf22_3 hf22_4 hx144_0 hx144_1 hx22_0 hx22_1 hx22_2 hx22_3 hx22_4 hHeld ⊢
   refine qj 0 30 (bt 10 1) rfl rfl HT_.out ?_
   refine qj 1 31 (bt 10 3) rfl rfl HT_.out ?_
   refine qj 2 32 (bt 10 7) rfl rfl HT_.out ?_
   refine qj 3 33 (bt 10 15) rfl rfl HT_.out ?_
   refine qj 5 35 (bt 10 47) rfl rfl HT_.out ?_
   refine qj 6 36 (bt 10 111) rfl rfl HT_.out ?_
   refine qm 4 34 (bt 10 127) rfl rfl HT_.out HW_.out hHeld ?_
   refine qm 7 37 (bt 10 255) rfl rfl HT_.out HW_.out hHeld ?_
   refine qj 8 38 (bt 10 511) rfl rfl HT_.out ?_
   refine last_ (i := 9) (N := none) (bt 10 1023) rfl rfl (one_of HT_.out (by kernel_rfl)) (by decide) (fun K hK => ?_)
   refine qs rfl ?_
   refine hK.out _ _ ?_
   clear hK K
   refine done_ (done_of HT_.out (by kernel_rfl)) ?_
   try go_wp2
   go_ret2
   exact ⟨_, by first | rfl | (simp [errW_none, errW_some] <;> rfl) | (simp only [← hji19]; first | rfl | (simp [errW_none, errW_some] <;> rfl)) | (simp [*, errW_none, errW_some] <;> rfl), Kd.S_mono HQ29.out (fun _ hk => hk.1), bg3 HB.out GB22.out GE139.out GE143.out, kg3 HK.out HMgo22.out (.inr GW139.out) (.inr GW143.out)⟩
end Go.Proofs.Ytenmnclkbleglaa.P2
