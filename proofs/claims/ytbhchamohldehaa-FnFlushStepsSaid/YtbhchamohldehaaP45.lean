-- printed by wip/pp/pp.py
import Derived.Test.YtbhchamohldehaaP40
import Derived.Test.YtbhchamohldehaaP41
namespace Go.Proofs.Ytbhchamohldehaa.P4
set_option maxHeartbeats 8000000
set_option maxRecDepth 100000
open Go.RowKit Go.Proofs.YtbhchamohldehaaW.PrintWords Go.Proofs.YtbhchamohldehaaW.PrintLast Go.Proofs.YtbhchamohldehaaW.PrintMore
attribute [local go_sem] max2_int min2_int max_two min_two max_three min_three max_four min_four
set_option linter.unusedVariables false
set_option linter.unusedSimpArgs false
mutual
def spec_l2Wipe.j0 : Nat → List (S73) → Int → Int → Option ((List (S73)) × Bool)
 | 0, _, _, _ => none
 | k + 1, x0, x1, x8 => spec_l2Wipe.l0 k x0 x1 x8 0
def spec_l2Wipe.l0 : Nat → List (S73) → Int → Int → Int → Option ((List (S73)) × Bool)
 | 0, _, _, _, _ => none
 | k + 1, x0, x1, x8, x9 => if x9 < 4 then (if 0 ≤ x1 then (if x1 < (x0.length : Int) then (if 0 ≤ x9 then (if x9 < (((rd_T73 x0 x1).f0).length : Int) then (spec_l2Wipe.l0 k (x0.set (x1 : Int).toNat (⟨(((rd_T73 x0 x1).f0).set (x9 : Int).toNat (⟨x8, (⟨0, 0, 0, 0⟩ : S36)⟩ : S69)), (rd_T73 x0 x1).f1⟩ : S73)) x1 x8 (wrap64 (x9 + 1))) else (none)) else (none)) else (none)) else (none)) else (some (x0, true))
end
def spec_l2Wipe.f (k : Nat) (l0 : List (S73)) (a1 : Int) (a2 : Bool) : Option ((List (S73)) × Bool) := if 0 ≤ a1 then (if a1 < (l0.length : Int) then (if ((rd_T73 l0 a1).f1) ≥ 200 then (some (l0, false)) else ((some (l0.set (a1 : Int).toNat (⟨(rd_T73 l0 a1).f0, wrap64 (((rd_T73 l0 a1).f1) + 1)⟩ : S73) : List (S73))).bind fun y212 => (if a2 = true then (spec_l2Wipe.j0 k y212 a1 2) else (spec_l2Wipe.j0 k y212 a1 0)))) else (none)) else (none)
theorem spec_l2Wipe.calls (k : Nat) (P0_ : Nat → Prop) (u9000_ : Value) (l0 : List (S73)) (a1 : Int) (a2 : Bool) (r1 : List (S73)) (r2 : Bool) (w0 w : World) (hB : Below w0.heap.size w0 w) (ho0 : Kd.S k73 73 w w0.heap.size P0_ u9000_ l0) (h : spec_l2Wipe.f k l0 a1 a2 = some (r1, r2)) :
 Calls Try.prog 70 #[u9000_, .int .i64 a1, .bool a2] w fun e w' => ∃ v0_ : Value, e = .returned (.tuple #[v0_, .bool r2]) ∧ Kd.S k73 73 w' w0.heap.size (fun k_ => (P0_ k_ ∨ w.heap.size ≤ k_)) v0_ r1 ∧ Below w0.heap.size w0 w' ∧ Kept w w' (fun k_ => P0_ k_) := by
 have hu69 := Try.underlying69
 have HO0 := am (show Kd.S k73 73 w w0.heap.size (fun k_ => (P0_ k_ ∨ w.heap.size ≤ k_)) u9000_ l0 from Kd.S_mono ho0 (fun k_ hk => (.inl hk)))
 have HK := am (Kept.refl w (fun k_ => P0_ k_))
 have HW0 := am hB.size
 have HB := am hB
 clear hB
 have H : (if 0 ≤ a1 then (if a1 < (l0.length : Int) then (if ((rd_T73 l0 a1).f1) ≥ 200 then (some (l0, false)) else ((some (l0.set (a1 : Int).toNat (⟨(rd_T73 l0 a1).f0, wrap64 (((rd_T73 l0 a1).f1) + 1)⟩ : S73) : List (S73))).bind fun y212 => (if a2 = true then (spec_l2Wipe.j0 k y212 a1 2) else (spec_l2Wipe.j0 k y212 a1 0)))) else (none)) else (none)) = some (r1, r2) := h
 clear h
 obtain ⟨c4b0, H⟩ := ifd H
 obtain ⟨c5b0, H⟩ := ifd H
 by_cases c6 : ((rd_T73 l0 a1).f1) ≥ 200
 · rw [if_pos c6] at H
   have c6b0 := decide_eq_true c6
   clear c6
   simp only [Option.some.injEq, Prod.mk.injEq] at H
   obtain ⟨rfl, rfl⟩ := H
   obtain ⟨Ao7, co7, eo7⟩ := Kd.S_slice HO0.out
   subst eo7
   have p210 : 0 ≤ (a1 : Int) := ofb
   have q210 : a1 < (l0.length : Int) := ofb
   obtain ⟨ad210, A210_0, c210_0, e210, hx210_0, hx210_1, hl210_0, hi210_0⟩ := at_T73 (Kd.S_reads' HO0.out).2.2 a1 p210 q210
   cases e210
   obtain ⟨ce210, hce210, hMe210, hcc210⟩ := Kd.S_get HO0.out z73 a1 p210 (by first | exact q210 | exact ofb | (have e_ := (Kd.S_reads' HO0.out).1; omega))
   obtain ⟨ve210_0, rfl, ge210_0⟩ := k73_openM hMe210
   have hv210_0 := hcc210 0 _ rfl
   rw [Nat.add_zero] at hv210_0
   replace hv210_0 := Option.some.inj (hv210_0.symm.trans hx210_0)
   rw [hv210_0] at ge210_0
   have HL210_0 := am (show Kd.R k69 69 _ _ _ _ ((rd_T73 l0 a1).f0) from ge210_0)
   clear hv210_0 ge210_0
   have HX210_0 := am hx210_0
   clear hcc210 hce210
   have HR210_0 := am hi210_0
   have HC210_0 := am hl210_0
   clear hi210_0 hl210_0
   replace p210 := eq_true p210
   replace q210 := eq_true q210
   go_enter Try.func70, Try.ntmps70
   go_wp2
   go_ret2
   exact ⟨_, rq ⟨ps HO0.out, ph HB.out, pk HK.out⟩⟩
 rw [if_neg c6] at H
 have c6b0 := decide_eq_false c6
 clear c6
 obtain ⟨y212, hy212⟩ : ∃ y_ : List (S73), y_ = (l0.set (a1 : Int).toNat (⟨(rd_T73 l0 a1).f0, wrap64 (((rd_T73 l0 a1).f1) + 1)⟩ : S73)) := ⟨_, rfl⟩
 replace H : (if a2 = true then (spec_l2Wipe.j0 k y212 a1 2) else (spec_l2Wipe.j0 k y212 a1 0)) = some (r1, r2) := yy hy212 H
 have Ny212 := am hy212
 clear hy212
 have HC9 := am H
 clear H
 obtain ⟨Ao10, co10, eo10⟩ := Kd.S_slice HO0.out
 subst eo10
 have p210 : 0 ≤ (a1 : Int) := ofb
 have q210 : a1 < (l0.length : Int) := ofb
 obtain ⟨ad210, A210_0, c210_0, e210, hx210_0, hx210_1, hl210_0, hi210_0⟩ := at_T73 (Kd.S_reads' HO0.out).2.2 a1 p210 q210
 cases e210
 obtain ⟨ce210, hce210, hMe210, hcc210⟩ := Kd.S_get HO0.out z73 a1 p210 (by first | exact q210 | exact ofb | (have e_ := (Kd.S_reads' HO0.out).1; omega))
 obtain ⟨ve210_0, rfl, ge210_0⟩ := k73_openM hMe210
 have hv210_0 := hcc210 0 _ rfl
 rw [Nat.add_zero] at hv210_0
 replace hv210_0 := Option.some.inj (hv210_0.symm.trans hx210_0)
 rw [hv210_0] at ge210_0
 have HL210_0 := am (show Kd.R k69 69 _ _ _ _ ((rd_T73 l0 a1).f0) from ge210_0)
 clear hv210_0 ge210_0
 have HX210_0 := am hx210_0
 clear hcc210 hce210
 have HR210_0 := am hi210_0
 have HC210_0 := am hl210_0
 clear hi210_0 hl210_0
 replace p210 := eq_true p210
 replace q210 := eq_true q210
 have p211 : 0 ≤ (a1 : Int) := ofb
 have q211 : a1 < (l0.length : Int) := ofb
 obtain ⟨ad211, A211_0, c211_0, e211, hx211_0, hx211_1, hl211_0, hi211_0⟩ := at_T73 (Kd.S_reads' HO0.out).2.2 a1 p211 q211
 obtain rfl : ad210 = ad211 := (by injection e211)
 obtain ⟨ce211, hce211, hMe211, hcc211⟩ := Kd.S_get HO0.out z73 a1 p211 (by first | exact q211 | exact ofb | (have e_ := (Kd.S_reads' HO0.out).1; omega))
 obtain ⟨ve211_0, rfl, ge211_0⟩ := k73_openM hMe211
 have hv211_0 := hcc211 0 _ rfl
 rw [Nat.add_zero] at hv211_0
 replace hv211_0 := Option.some.inj (hv211_0.symm.trans hx211_0)
 rw [hv211_0] at ge211_0
 have HL211_0 := am (show Kd.R k69 69 _ _ _ _ ((rd_T73 l0 a1).f0) from ge211_0)
 clear hv211_0 ge211_0
 have HX211_0 := am hx211_0
 clear hcc211 hce211
 have HR211_0 := am hi211_0
 have HC211_0 := am hl211_0
 clear hi211_0 hl211_0
 replace p211 := eq_true p211
 replace q211 := eq_true q211
 have ea_ := Option.some.inj (hx210_0.symm.trans hx211_0)
 injection ea_ with ea_ en_ ec_
 subst ea_
 subst ec_
 clear en_
 have p8 : 0 ≤ (a1 : Int) := ofb
 have q8 : (a1 : Int) < ((l0.length : Int) : Int) := ofb
 obtain ⟨go8, co8, eo8, gb8, gl8, cl8, HG8⟩ := Kd.S_form HO0.out (by omega)
 (first | cases eo8 | (injection eo8 with ea_ en_ ec_; (first | subst ea_ | (injection ea_ with ea_; subst ea_)); subst ec_; clear en_))
 have GB8 := am gb8
 have GG8 := am HG8
 clear gb8 gl8 HG8
 have HMgo8 := am (show (P0_ go8 ∨ w.heap.size ≤ go8) from ((Kd.S_R HO0.out).1 _ rfl))
 (first | simp only [add_plain] at hx210_0 | skip)
 (first | simp only [add_plain] at hx210_1 | skip)
 (first | simp only [add_plain] at hx211_0 | skip)
 (first | simp only [add_plain] at hx211_1 | skip)
 obtain ⟨_, ce8, hcl8, hM8, hcc8, hfr8, _, _⟩ := Kd.S_elem HO0.out z73 (a1 : Int) p8 q8
 obtain ⟨ve8_0, rfl, ge8_0⟩ := k73_openM hM8
 have hx8_0 : w.cell? ⟨go8, (a1 : Int).toNat * 2, none⟩ = some (ve8_0) := hcc8 0 _ rfl
 have hx8_1 : w.cell? ⟨go8, (a1 : Int).toNat * 2 + 1, none⟩ = some (.int .i64 ((rd_T73 l0 a1).f1)) := hcc8 1 _ rfl
 have hf8_0 : w.frozen? ⟨go8, (a1 : Int).toNat * 2, none⟩ = false := hfr8 0
 have hf8_1 : w.frozen? ⟨go8, (a1 : Int).toNat * 2 + 1, none⟩ = false := hfr8 1
 clear hcl8 hcc8 hfr8 hM8
 replace p8 := eq_true p8
 replace q8 := eq_true q8
 have HX11 := am (show Kd.S k73 73 w w0.heap.size (fun k_ => ((fun k_ => (P0_ k_ ∨ w.heap.size ≤ k_))) k_ ∧ ¬ ((fun _ => False)) k_) (.slice (some ⟨go8, 0, none⟩) l0.length co10) l0 from (ps (Kd.S_mono HO0.out (fun k_ hk => ⟨hk, fun e_ => e_⟩))))
 obtain ⟨oki11, ce11, hcl11, hM11, hcc11, hfr11, hoki11, hH11⟩ := Kd.S_elem HX11.out z73 (a1 : Int) (ofb) (by have h_ : (a1 : Int) < ((l0.length : Int) : Int) := ofb; first | exact h_ | (have e_ := (Kd.S_reads' HO0.out).1; omega) | simpa using h_)
 obtain ⟨ve11_0, rfl, ge11_0⟩ := k73_openM hM11
 have HP11 := Kd.S_seg hH11 (ofb) (by have h_ : (a1 : Int) < ((l0.length : Int) : Int) := ofb; first | exact h_ | (have e_ := (Kd.S_reads' HO0.out).1; omega) | simpa using h_) (seg := [.int .i64 (wrap64 (((rd_T73 l0 a1).f1) + 1))]) (j := 1) (show 2 ≤ 2 from by decide) (x' := (⟨(rd_T73 l0 a1).f0, wrap64 (((rd_T73 l0 a1).f1) + 1)⟩ : S73)) (k73_mkM _ _ _ (⟨(rd_T73 l0 a1).f0, wrap64 (((rd_T73 l0 a1).f1) + 1)⟩ : S73) (Kd.R_mono ge11_0 (fun _ h_ => Or.inl h_))) (fun _ hk => hk) (fun k_ hk_ => hk_.elim)
 have hx11_1 := hcc11 1 _ rfl
 (try simp only [show (k73).sz = 2 from rfl, Nat.mul_one, Nat.add_zero] at hx11_1)
 have hf11_1 := hfr11 1
 (try simp only [show (k73).sz = 2 from rfl, Nat.mul_one, Nat.add_zero] at hf11_1)
 clear hcl11 hcc11 hfr11 hM11 hoki11 hH11
 go_enter Try.func70, Try.ntmps70
 go_upto_if 27 with (first | ((with_reducible refine gate_store (t := 3) (p := 26) rfl ?_); refine store_event (t := 3) (p := 26) (v := ?vo_w12) (w1 := (w.setCell ⟨go8, (a1 : Int).toNat * 2 + 1, none⟩ (.int .i64 (wrap64 (((rd_T73 l0 a1).f1) + 1))))) ?hg ?ho ?hn ?hr ?_; (case ho => rfl); (case hg => rfl); (case hn => rfl); (case hr => first | (go_simp; done) | (go_simp; rfl)); intro w12 hw; have hg : w.grownBy w12 (some go8) := (by rw [hw]; exact HP11.2); have hp_ : Kd.S k73 73 w12 w0.heap.size (fun k_ => (P0_ k_ ∨ w.heap.size ≤ k_)) (.slice (some ⟨go8, 0, none⟩) l0.length co10) y212 := (by rw [hw, Ny212.out]; exact HP11.1); clear HP11; replace HL210_0 := am (Kd.R_after (v := (.slice (some ⟨go8, 0, none⟩) l0.length co10)) (v1 := (.slice (some ⟨go8, 0, none⟩) l0.length co10)) (ok := (fun k_ => (P0_ k_ ∨ w.heap.size ≤ k_))) (pr HL210_0.out) hg (.inl rfl)); replace HL211_0 := am (Kd.R_after (v := (.slice (some ⟨go8, 0, none⟩) l0.length co10)) (v1 := (.slice (some ⟨go8, 0, none⟩) l0.length co10)) (ok := (fun k_ => (P0_ k_ ∨ w.heap.size ≤ k_))) (pr HL211_0.out) hg (.inl rfl)); replace HB := am ((by rw [hw]; exact below_set (HB.out) GB8.out : Below w0.heap.size w0 w12)); replace HK := am (Kept.of_grown (S := (fun k_ => P0_ k_)) hg (pk HK.out) (fun k_ e_ => ((Kd.S_R HO0.out).1 k_ e_))); replace HO0 := am (hp_); clear hg hw hp_))
 (try simp only [Act.put, List.setIfInBounds_toArray, List.set_cons_zero, List.set_cons_succ])
 go_cut [8] (fun v8 wc => ∃ (kq : Nat) (x8_8 : Int), v8 = .int .i64 x8_8 ∧ Aside0 (spec_l2Wipe.j0 kq y212 a1 x8_8 = some (r1, r2)) ∧ Aside0 (kq ≤ k) ∧ Aside0 (Kd.S k73 73 wc w0.heap.size (fun k_ => (P0_ k_ ∨ w.heap.size ≤ k_)) (.slice (some ⟨go8, 0, none⟩) l0.length co10) y212) ∧ Aside0 (Kept w wc (fun k_ => P0_ k_)) ∧ Aside0 (Below w0.heap.size w0 wc))
 case first =>
  have H := HC9.out
  clear HC9
  by_cases c13 : a2 = true
  · subst c13
    rw [if_pos rfl] at H
    have H' := am H
    clear H
    go_wp2
    go_meet
    case rel => exact ⟨_, (2), rf, H', ⟨by first | omega | exact Nat.le_refl _⟩, ⟨ps HO0.out⟩, ⟨pk HK.out⟩, ⟨ph HB.out⟩⟩
  replace c13 := Bool.eq_false_iff.mpr c13
  subst c13
  rw [if_neg (show ¬ (false = true) by decide)] at H
  have H' := am H
  clear H
  go_wp2
  go_meet
  case rel => exact ⟨_, (0), rf, H', ⟨by first | omega | exact Nat.le_refl _⟩, ⟨ps HO0.out⟩, ⟨pk HK.out⟩, ⟨ph HB.out⟩⟩
 case rest =>
  clear HC9
  obtain ⟨kq, x8_8, rfl, HA, HJ8, HO_0, HK, HB⟩ := hcut
  have hl0_8 := (Kd.S_reads' HO_0.out).1
  rw [hl0_8] at HO_0
  (try simp only [hl0_8])
  cases kq with
  | zero => exact absurd HA.out (by simp [spec_l2Wipe.j0])
  | succ kj8 =>
   have H := HA.out
   clear HA
   simp only [spec_l2Wipe.j0] at H
   have H' := am H
   clear H
   go_wp2
   go_loopg [9] kj8 (fun kq v9 w' => ∃ (x0_2 : List (S73)) (x9_2 : Int), v9 = .int .i64 x9_2 ∧ Aside0 (spec_l2Wipe.l0 kq x0_2 a1 x8_8 x9_2 = some (r1, r2)) ∧ Aside0 (kq ≤ kj8) ∧ Aside0 (Kd.S k73 73 w' w0.heap.size (fun k_ => (P0_ k_ ∨ w.heap.size ≤ k_)) (.slice (some ⟨go8, 0, none⟩) y212.length co10) x0_2) ∧ Aside0 (Kept w w' (fun k_ => P0_ k_)) ∧ Aside0 (Below w0.heap.size w0 w'))
   case atStart => exact ⟨(y212), (0), rf, H', ⟨Nat.le_refl _⟩, ⟨by (try simp only [hl0_8]); (with_reducible repeat (first | apply Kd.S_alloc | apply Kd.S_drewN | apply Kd.S_drew)); exact HO_0.out⟩, ⟨pk HK.out⟩, ⟨ph HB.out⟩⟩
   case round =>
    clear H'
    obtain ⟨x0_2, x9_2, rfl, HA, HK2, HO_0, HK, HB⟩ := hrel
    have hl0_2 := (Kd.S_reads' HO_0.out).1
    rw [hl0_2] at HO_0
    (try simp only [hl0_2])
    cases gk with
    | zero => exact absurd HA.out (by simp [spec_l2Wipe.l0])
    | succ k2 =>
     have H := HA.out
     clear HA
     simp only [spec_l2Wipe.l0] at H
     by_cases c14 : x9_2 < 4
     rotate_left
     · rw [if_neg c14] at H
       have c14b0 := decide_eq_false c14
       clear c14
       simp only [Option.some.injEq, Prod.mk.injEq] at H
       obtain ⟨rfl, rfl⟩ := H
       go_wp2
       go_ret2
       exact ⟨_, rq ⟨ps HO_0.out, ph HB.out, pk HK.out⟩⟩
     rw [if_pos c14] at H
     have c14b0 := decide_eq_true c14
     clear c14
     obtain ⟨c15b0, H⟩ := ifd H
     obtain ⟨c16b0, H⟩ := ifd H
     obtain ⟨c17b0, H⟩ := ifd H
     obtain ⟨c18b0, H⟩ := ifd H
     obtain ⟨y214, hy214⟩ : ∃ y_ : List (S69), y_ = (((rd_T73 x0_2 a1).f0).set (x9_2 : Int).toNat (⟨x8_8, (⟨0, 0, 0, 0⟩ : S36)⟩ : S69)) := ⟨_, rfl⟩
     replace H : (spec_l2Wipe.l0 k2 (x0_2.set (a1 : Int).toNat (⟨y214, (rd_T73 x0_2 a1).f1⟩ : S73)) a1 x8_8 (wrap64 (x9_2 + 1))) = some (r1, r2) := yy hy214 H
     have Ny214 := am hy214
     clear hy214
     obtain ⟨y216, hy216⟩ : ∃ y_ : List (S73), y_ = (x0_2.set (a1 : Int).toNat (⟨y214, (rd_T73 x0_2 a1).f1⟩ : S73)) := ⟨_, rfl⟩
     replace H : (spec_l2Wipe.l0 k2 y216 a1 x8_8 (wrap64 (x9_2 + 1))) = some (r1, r2) := yy hy216 H
     have Ny216 := am hy216
     clear hy216
     have H' := am H
     clear H
     have p213 : 0 ≤ (a1 : Int) := ofb
     have q213 : a1 < (x0_2.length : Int) := ofb
     obtain ⟨ad213, A213_0, c213_0, e213, hx213_0, hx213_1, hl213_0, hi213_0⟩ := at_T73 (Kd.S_reads' HO_0.out).2.2 a1 p213 q213
     obtain rfl : (⟨go8, 0, none⟩ : Addr) = ad213 := (by injection e213)
     obtain ⟨ce213, hce213, hMe213, hcc213⟩ := Kd.S_get HO_0.out z73 a1 p213 (by first | exact q213 | exact ofb | (have e_ := (Kd.S_reads' HO_0.out).1; omega))
     obtain ⟨ve213_0, rfl, ge213_0⟩ := k73_openM hMe213
     have hv213_0 := hcc213 0 _ rfl
     rw [Nat.add_zero] at hv213_0
     replace hv213_0 := Option.some.inj (hv213_0.symm.trans hx213_0)
     rw [hv213_0] at ge213_0
     have HL213_0 := am (show Kd.R k69 69 _ _ _ _ ((rd_T73 x0_2 a1).f0) from ge213_0)
     clear hv213_0 ge213_0
     have HX213_0 := am hx213_0
     clear hcc213 hce213
     (first | simp only [add_plain] at hx213_0 | simp only [add_at] at hx213_0 | simp only [Addr.add, Nat.zero_add] at hx213_0 | skip)
     (first | simp only [add_plain] at hx213_1 | simp only [add_at] at hx213_1 | simp only [Addr.add, Nat.zero_add] at hx213_1 | skip)
     have HR213_0 := am hi213_0
     have HC213_0 := am hl213_0
     clear hi213_0 hl213_0
     replace p213 := eq_true p213
     replace q213 := eq_true q213
     have p19 : 0 ≤ (x9_2 : Int) := ofb
     have q19 : (x9_2 : Int) < ((((rd_T73 x0_2 a1).f0).length : Int) : Int) := ofb
     obtain ⟨go19, co19, eo19, gb19, gl19, cl19, HG19⟩ := Kd.R_form HL213_0.out (by omega)
     (first | cases eo19 | (injection eo19 with ea_ en_ ec_; (first | subst ea_ | (injection ea_ with ea_; subst ea_)); subst ec_; clear en_))
     have GB19 := am gb19
     have GG19 := am HG19
     clear gb19 gl19 HG19
     have HMgo19 := am (show (P0_ go19 ∨ w.heap.size ≤ go19) from (HL213_0.out.1 _ rfl).1)
     obtain ⟨ce19, hcl19, hM19, hcc19, hfr19⟩ := Kd.R_elem HL213_0.out z69 (x9_2 : Int) p19 q19
     obtain rfl := k69_openM hM19
     have hx19_0 : wr.cell? ⟨go19, (x9_2 : Int).toNat * 5, none⟩ = some (.int .i64 ((rd_T69 ((rd_T73 x0_2 a1).f0) x9_2).f0)) := hcc19 0 _ rfl
     have hx19_1 : wr.cell? ⟨go19, (x9_2 : Int).toNat * 5 + 1, none⟩ = some (.int .i64 ((rd_T69 ((rd_T73 x0_2 a1).f0) x9_2).f1.f0)) := hcc19 1 _ rfl
     have hx19_2 : wr.cell? ⟨go19, (x9_2 : Int).toNat * 5 + 2, none⟩ = some (.int .i64 ((rd_T69 ((rd_T73 x0_2 a1).f0) x9_2).f1.f1)) := hcc19 2 _ rfl
     have hx19_3 : wr.cell? ⟨go19, (x9_2 : Int).toNat * 5 + 3, none⟩ = some (.int .i64 ((rd_T69 ((rd_T73 x0_2 a1).f0) x9_2).f1.f2)) := hcc19 3 _ rfl
     have hx19_4 : wr.cell? ⟨go19, (x9_2 : Int).toNat * 5 + 4, none⟩ = some (.int .i64 ((rd_T69 ((rd_T73 x0_2 a1).f0) x9_2).f1.f3)) := hcc19 4 _ rfl
     have hf19_0 : wr.frozen? ⟨go19, (x9_2 : Int).toNat * 5, none⟩ = false := hfr19 0
     have hf19_1 : wr.frozen? ⟨go19, (x9_2 : Int).toNat * 5 + 1, none⟩ = false := hfr19 1
     have hf19_2 : wr.frozen? ⟨go19, (x9_2 : Int).toNat * 5 + 2, none⟩ = false := hfr19 2
     have hf19_3 : wr.frozen? ⟨go19, (x9_2 : Int).toNat * 5 + 3, none⟩ = false := hfr19 3
     have hf19_4 : wr.frozen? ⟨go19, (x9_2 : Int).toNat * 5 + 4, none⟩ = false := hfr19 4
     clear hcl19 hcc19 hfr19 hM19
     replace p19 := eq_true p19
     replace q19 := eq_true q19
     have hq20 : (a1 : Int) < (x0_2.length : Int) := (by have h_ : (a1 : Int) < ((x0_2.length : Int) : Int) := ofb; first | exact h_ | (have e_ := (Kd.S_reads' HO_0.out).1; omega) | simpa only [List.length_set, List.length_set] using h_)
     obtain ⟨oki20, ce20, hcl20, hM20, hcc20, hok20, hbk20⟩ := Kd.S_borrow HO_0.out z73 (a1 : Int) (ofb) hq20
     obtain ⟨ve20_0, rfl, ge20_0⟩ := k73_openM hM20
     have hv20 := hcc20 0 _ rfl
     rw [Nat.add_zero] at hv20
     replace hv20 := Option.some.inj (hv20.symm.trans HX213_0.out)
     subst hv20
     clear hcc20 hcl20
     replace ge20_0 := (show Kd.R k69 69 _ _ _ _ ((rd_T73 x0_2 a1).f0) from ge20_0)
     obtain ⟨cf20, hcl20, hN20, hcc20, hfr20⟩ := Kd.R_elem ge20_0 z69 (x9_2 : Int) (ofb) (by have h_ : (x9_2 : Int) < ((((rd_T73 x0_2 a1).f0).length : Int) : Int) := ofb; first | exact h_ | (have e_ := (Kd.R_reads' HR213_0.out).1; omega) | simpa using h_)
     obtain rfl := k69_openM hN20
     have HP20 := Kd.R_seg ge20_0 (x9_2 : Int) (ofb) (by have h_ : (x9_2 : Int) < ((((rd_T73 x0_2 a1).f0).length : Int) : Int) := ofb; first | exact h_ | (have e_ := (Kd.R_reads' HR213_0.out).1; omega) | simpa using h_) (seg := [.int .i64 x8_8, .int .i64 0, .int .i64 0, .int .i64 0, .int .i64 0]) (j := 0) hcl20 hcc20 (show 5 ≤ 5 from by decide) (x' := (⟨x8_8, (⟨0, 0, 0, 0⟩ : S36)⟩ : S69)) (k69_mkM _ _ _ (⟨x8_8, (⟨0, 0, 0, 0⟩ : S36)⟩ : S69)) (fun _ hk => hk)
     clear hcl20 hcc20 hfr20 hN20
     go_wp2_with (first | ((with_reducible refine gate_store (t := 69) (p := 40) rfl ?_); refine store_event (t := 69) (p := 40) (v := ?vo_w21) (w1 := (((((wr.setCell ⟨go19, (x9_2 : Int).toNat * 5, none⟩ (.int .i64 x8_8)).setCell ⟨go19, (x9_2 : Int).toNat * 5 + 1, none⟩ (.int .i64 0)).setCell ⟨go19, (x9_2 : Int).toNat * 5 + 2, none⟩ (.int .i64 0)).setCell ⟨go19, (x9_2 : Int).toNat * 5 + 3, none⟩ (.int .i64 0)).setCell ⟨go19, (x9_2 : Int).toNat * 5 + 4, none⟩ (.int .i64 0))) ?hg ?ho ?hn ?hr ?_; (case ho => rfl); (case hg => rfl); (case hn => rfl); (case hr => first | (go_simp; done) | (go_simp; rfl)); intro w21 hw; have hg : wr.grownBy w21 (some go19) := (by rw [hw]; exact HP20.2); have hz_ : Kd.R k69 69 w21 w0.heap.size oki20 (.slice (some ⟨go19, 0, none⟩) ((rd_T73 x0_2 a1).f0).length c213_0) y214 := (by rw [hw, Ny214.out]; exact HP20.1); have hp_ : Kd.S k73 73 w21 w0.heap.size (fun k_ => (P0_ k_ ∨ w.heap.size ≤ k_)) (.slice (some ⟨go8, 0, none⟩) x0_2.length co10) y216 := (by rw [Ny216.out]; exact hbk20 hg (fun k_ e_ => by injection e_ with e_; subst e_; exact ge20_0.1 _ rfl) (k73_mkM _ _ _ (⟨y214, (rd_T73 x0_2 a1).f1⟩ : S73) hz_)); have hm_ := Kd.R_mono hz_ hok20; clear HP20 hbk20; replace HO_0 := am (hp_); replace HB := am ((by rw [hw]; exact below_set (below_set (below_set (below_set (below_set (HB.out) GB19.out) GB19.out) GB19.out) GB19.out) GB19.out : Below w0.heap.size w0 w21)); replace HK := am (Kept.of_grown (S := (fun k_ => P0_ k_)) hg (pk HK.out) (fun k_ e_ => (HL213_0.out.1 k_ e_).1)); have HL217 := am (hm_); have HC215 := am ((Kd.R_reads' hm_).2.1); clear HL213_0; clear hg hw hp_ hz_ hm_ hok20))
     (try simp only [← hl0_2])
     go_roundg k2
     case measure => have := HJ8.out; have := HK2.out; omega
     case rel => exact ⟨(y216), (wrap64 (x9_2 + 1)), rf, H', ⟨by have := HJ8.out; have := HK2.out; omega⟩, ⟨by (try simp only [hl0_8]); (try simp only [hl0_2]); (with_reducible repeat (first | apply Kd.S_alloc | apply Kd.S_drewN | apply Kd.S_drew)); exact HO_0.out⟩, ⟨pk HK.out⟩, ⟨ph HB.out⟩⟩
mutual
def spec_l2Seq.l0 : Nat → List (S73) → Int → Int → Option (Bool)
 | 0, _, _, _ => none
 | k + 1, x0, x1, x5 => if x5 < (x0.length : Int) then (spec_l2Seq.l1 k x0 x1 x5 0) else (some false)
def spec_l2Seq.l1 : Nat → List (S73) → Int → Int → Int → Option (Bool)
 | 0, _, _, _, _ => none
 | k + 1, x0, x1, x5, x6 => if 0 ≤ x5 then (if x5 < (x0.length : Int) then (if x6 < (((rd_T73 x0 x5).f0).length : Int) then (if 0 ≤ x6 then (if ((rd_T69 ((rd_T73 x0 x5).f0) x6).f0) = 1 then (if ((rd_T69 ((rd_T73 x0 x5).f0) x6).f1.f1) = x1 then (some true) else (spec_l2Seq.l1 k x0 x1 x5 (wrap64 (x6 + 1)))) else (spec_l2Seq.l1 k x0 x1 x5 (wrap64 (x6 + 1)))) else (none)) else (spec_l2Seq.l0 k x0 x1 (wrap64 (x5 + 1)))) else (none)) else (none)
end
def spec_l2Seq.f (k : Nat) (l0 : List (S73)) (a1 : Int) : Option (Bool) := spec_l2Seq.l0 k l0 a1 0
theorem spec_l2Seq.calls (k : Nat) (A0 : Option Addr) (c0 : Nat) (l0 : List (S73)) (a1 : Int) (r : Bool) (w : World) (hr0 : Kd.C k73 w A0 l0.length l0) (hc0 : l0.length ≤ c0) (h : spec_l2Seq.f k l0 a1 = some r) :
 Calls Try.prog 72 #[.slice A0 l0.length c0, .int .i64 a1] w fun e w' => e = .returned (.bool r) ∧ Drawn0 w w' := by
 have HR0 := am hr0
 have HC0 := am hc0
 clear hr0 hc0
 have H : (spec_l2Seq.l0 k l0 a1 0) = some r := h
 clear h
 have H' := am H
 clear H
 go_enter Try.func72, Try.ntmps72
 go_wp2
 go_loopg [5] k (fun kq v5 w' => ∃ (x5_1 : Int), v5 = .int .i64 x5_1 ∧ Aside0 (spec_l2Seq.l0 kq l0 a1 x5_1 = some r) ∧ Aside0 (kq ≤ k) ∧ Drawn0 w w')
 case atStart => exact ⟨(0), rf, H', ⟨Nat.le_refl _⟩, by repeat (first | exact Drawn0.refl _ | apply Drawn0.step)⟩
 case round =>
  clear H'
  obtain ⟨x5_1, rfl, HA, HK1, ⟨m1, rfl⟩⟩ := hrel
  cases gk with
  | zero => exact absurd HA.out (by simp [spec_l2Seq.l0])
  | succ k1 =>
   have H := HA.out
   clear HA
   simp only [spec_l2Seq.l0] at H
   by_cases c3 : x5_1 < (l0.length : Int)
   rotate_left
   · rw [if_neg c3] at H
     have c3b0 := decide_eq_false c3
     clear c3
     obtain rfl := Option.some.inj H
     go_wp2
     go_ret
     exact ⟨by first | rfl | (simp; done) | (simp [*]; done), by repeat (first | exact Drawn0.refl _ | apply Drawn0.step)⟩
   rw [if_pos c3] at H
   have c3b0 := decide_eq_true c3
   clear c3
   have H' := am H
   clear H
   go_wp2
   go_loopg [6] k1 (fun kq v6 w' => ∃ (x6_2 : Int), v6 = .int .i64 x6_2 ∧ Aside0 (spec_l2Seq.l1 kq l0 a1 x5_1 x6_2 = some r) ∧ Aside0 (kq ≤ k1) ∧ Drawn0 w w')
   case atStart => exact ⟨(0), rf, H', ⟨Nat.le_refl _⟩, by repeat (first | exact Drawn0.refl _ | apply Drawn0.step)⟩
   case round =>
    clear H'
    obtain ⟨x6_2, rfl, HA, HK2, ⟨m2, rfl⟩⟩ := hrel
    cases gk with
    | zero => exact absurd HA.out (by simp [spec_l2Seq.l1])
    | succ k2 =>
     have H := HA.out
     clear HA
     simp only [spec_l2Seq.l1] at H
     obtain ⟨c4b0, H⟩ := ifd H
     obtain ⟨c5b0, H⟩ := ifd H
     by_cases c6 : x6_2 < (((rd_T73 l0 x5_1).f0).length : Int)
     rotate_left
     · rw [if_neg c6] at H
       have c6b0 := decide_eq_false c6
       clear c6
       have H' := am H
       clear H
       have p218 : 0 ≤ (x5_1 : Int) := ofb
       have q218 : x5_1 < (l0.length : Int) := ofb
       obtain ⟨ad218, A218_0, c218_0, e218, hx218_0, hx218_1, hl218_0, hi218_0⟩ := at_T73 HR0.out x5_1 p218 q218
       cases e218
       have HR218_0 := am hi218_0
       have HC218_0 := am hl218_0
       clear hi218_0 hl218_0
       replace p218 := eq_true p218
       replace q218 := eq_true q218
       go_wp2
       go_roundg k2
       case measure => have := HK1.out; have := HK2.out; omega
       case rel => exact ⟨(wrap64 (x5_1 + 1)), rf, H', ⟨by have := HK1.out; have := HK2.out; omega⟩, by repeat (first | exact Drawn0.refl _ | apply Drawn0.step)⟩
     rw [if_pos c6] at H
     have c6b0 := decide_eq_true c6
     clear c6
     obtain ⟨c7b0, H⟩ := ifd H
     by_cases c8 : ((rd_T69 ((rd_T73 l0 x5_1).f0) x6_2).f0) = 1
     rotate_left
     · rw [if_neg c8] at H
       have c8b0 : (((rd_T69 ((rd_T73 l0 x5_1).f0) x6_2).f0) == 1) = false := beq_eq_false_iff_ne.mpr c8
       have c8b1 : (((rd_T69 ((rd_T73 l0 x5_1).f0) x6_2).f0) != 1) = true := bne_iff_ne.mpr c8
       have H' := am H
       clear H
       have p218 : 0 ≤ (x5_1 : Int) := ofb
       have q218 : x5_1 < (l0.length : Int) := ofb
       obtain ⟨ad218, A218_0, c218_0, e218, hx218_0, hx218_1, hl218_0, hi218_0⟩ := at_T73 HR0.out x5_1 p218 q218
       cases e218
       have HR218_0 := am hi218_0
       have HC218_0 := am hl218_0
       clear hi218_0 hl218_0
       replace p218 := eq_true p218
       replace q218 := eq_true q218
       have p219 : 0 ≤ (x5_1 : Int) := ofb
       have q219 : x5_1 < (l0.length : Int) := ofb
       obtain ⟨ad219, A219_0, c219_0, e219, hx219_0, hx219_1, hl219_0, hi219_0⟩ := at_T73 HR0.out x5_1 p219 q219
       obtain rfl : ad218 = ad219 := (by injection e219)
       have HR219_0 := am hi219_0
       have HC219_0 := am hl219_0
       clear hi219_0 hl219_0
       replace p219 := eq_true p219
       replace q219 := eq_true q219
       have ea_ := Option.some.inj (hx218_0.symm.trans hx219_0)
       injection ea_ with ea_ en_ ec_
       subst ea_
       subst ec_
       clear en_
       have p220 : 0 ≤ (x6_2 : Int) := ofb
       have q220 : x6_2 < (((rd_T73 l0 x5_1).f0).length : Int) := ofb
       obtain ⟨ad220, e220, hx220_0, hx220_1, hx220_2, hx220_3, hx220_4⟩ := at_T69 HR219_0.out x6_2 p220 q220
       cases e220
       replace p220 := eq_true p220
       replace q220 := eq_true q220
       go_wp2
       go_roundg k2
       case measure => have := HK1.out; have := HK2.out; omega
       case rel => exact ⟨(wrap64 (x6_2 + 1)), rf, H', ⟨by have := HK1.out; have := HK2.out; omega⟩, by repeat (first | exact Drawn0.refl _ | apply Drawn0.step)⟩
     rw [if_pos c8] at H
     have c8b0 : (((rd_T69 ((rd_T73 l0 x5_1).f0) x6_2).f0) == 1) = true := beq_iff_eq.mpr c8
     have c8b1 : (((rd_T69 ((rd_T73 l0 x5_1).f0) x6_2).f0) != 1) = false := bne_eq_false_iff_eq.mpr c8
     clear c8
     by_cases c9 : ((rd_T69 ((rd_T73 l0 x5_1).f0) x6_2).f1.f1) = a1
     · rw [if_pos c9] at H
       have c9b0 : (((rd_T69 ((rd_T73 l0 x5_1).f0) x6_2).f1.f1) == a1) = true := beq_iff_eq.mpr c9
       have c9b1 : (((rd_T69 ((rd_T73 l0 x5_1).f0) x6_2).f1.f1) != a1) = false := bne_eq_false_iff_eq.mpr c9
       clear c9
       obtain rfl := Option.some.inj H
       have p218 : 0 ≤ (x5_1 : Int) := ofb
       have q218 : x5_1 < (l0.length : Int) := ofb
       obtain ⟨ad218, A218_0, c218_0, e218, hx218_0, hx218_1, hl218_0, hi218_0⟩ := at_T73 HR0.out x5_1 p218 q218
       cases e218
       have HR218_0 := am hi218_0
       have HC218_0 := am hl218_0
       clear hi218_0 hl218_0
       replace p218 := eq_true p218
       replace q218 := eq_true q218
       have p219 : 0 ≤ (x5_1 : Int) := ofb
       have q219 : x5_1 < (l0.length : Int) := ofb
       obtain ⟨ad219, A219_0, c219_0, e219, hx219_0, hx219_1, hl219_0, hi219_0⟩ := at_T73 HR0.out x5_1 p219 q219
       obtain rfl : ad218 = ad219 := (by injection e219)
       have HR219_0 := am hi219_0
       have HC219_0 := am hl219_0
       clear hi219_0 hl219_0
       replace p219 := eq_true p219
       replace q219 := eq_true q219
       have ea_ := Option.some.inj (hx218_0.symm.trans hx219_0)
       injection ea_ with ea_ en_ ec_
       subst ea_
       subst ec_
       clear en_
       have p220 : 0 ≤ (x6_2 : Int) := ofb
       have q220 : x6_2 < (((rd_T73 l0 x5_1).f0).length : Int) := ofb
       obtain ⟨ad220, e220, hx220_0, hx220_1, hx220_2, hx220_3, hx220_4⟩ := at_T69 HR219_0.out x6_2 p220 q220
       cases e220
       replace p220 := eq_true p220
       replace q220 := eq_true q220
       have p221 : 0 ≤ (x5_1 : Int) := ofb
       have q221 : x5_1 < (l0.length : Int) := ofb
       obtain ⟨ad221, A221_0, c221_0, e221, hx221_0, hx221_1, hl221_0, hi221_0⟩ := at_T73 HR0.out x5_1 p221 q221
       obtain rfl : ad218 = ad221 := (by injection e221)
       have HR221_0 := am hi221_0
       have HC221_0 := am hl221_0
       clear hi221_0 hl221_0
       replace p221 := eq_true p221
       replace q221 := eq_true q221
       have ea_ := Option.some.inj (hx218_0.symm.trans hx221_0)
       injection ea_ with ea_ en_ ec_
       subst ea_
       subst ec_
       clear en_
       have p222 : 0 ≤ (x6_2 : Int) := ofb
       have q222 : x6_2 < (((rd_T73 l0 x5_1).f0).length : Int) := ofb
       obtain ⟨ad222, e222, hx222_0, hx222_1, hx222_2, hx222_3, hx222_4⟩ := at_T69 HR221_0.out x6_2 p222 q222
       cases e222
       replace p222 := eq_true p222
       replace q222 := eq_true q222
       go_wp2
       go_ret
       exact ⟨by first | rfl | (simp; done) | (simp [*]; done), by repeat (first | exact Drawn0.refl _ | apply Drawn0.step)⟩
     rw [if_neg c9] at H
     have c9b0 : (((rd_T69 ((rd_T73 l0 x5_1).f0) x6_2).f1.f1) == a1) = false := beq_eq_false_iff_ne.mpr c9
     have c9b1 : (((rd_T69 ((rd_T73 l0 x5_1).f0) x6_2).f1.f1) != a1) = true := bne_iff_ne.mpr c9
     have H' := am H
     clear H
     have p218 : 0 ≤ (x5_1 : Int) := ofb
     have q218 : x5_1 < (l0.length : Int) := ofb
     obtain ⟨ad218, A218_0, c218_0, e218, hx218_0, hx218_1, hl218_0, hi218_0⟩ := at_T73 HR0.out x5_1 p218 q218
     cases e218
     have HR218_0 := am hi218_0
     have HC218_0 := am hl218_0
     clear hi218_0 hl218_0
     replace p218 := eq_true p218
     replace q218 := eq_true q218
     have p219 : 0 ≤ (x5_1 : Int) := ofb
     have q219 : x5_1 < (l0.length : Int) := ofb
     obtain ⟨ad219, A219_0, c219_0, e219, hx219_0, hx219_1, hl219_0, hi219_0⟩ := at_T73 HR0.out x5_1 p219 q219
     obtain rfl : ad218 = ad219 := (by injection e219)
     have HR219_0 := am hi219_0
     have HC219_0 := am hl219_0
     clear hi219_0 hl219_0
     replace p219 := eq_true p219
     replace q219 := eq_true q219
     have ea_ := Option.some.inj (hx218_0.symm.trans hx219_0)
     injection ea_ with ea_ en_ ec_
     subst ea_
     subst ec_
     clear en_
     have p220 : 0 ≤ (x6_2 : Int) := ofb
     have q220 : x6_2 < (((rd_T73 l0 x5_1).f0).length : Int) := ofb
     obtain ⟨ad220, e220, hx220_0, hx220_1, hx220_2, hx220_3, hx220_4⟩ := at_T69 HR219_0.out x6_2 p220 q220
     cases e220
     replace p220 := eq_true p220
     replace q220 := eq_true q220
     have p221 : 0 ≤ (x5_1 : Int) := ofb
     have q221 : x5_1 < (l0.length : Int) := ofb
     obtain ⟨ad221, A221_0, c221_0, e221, hx221_0, hx221_1, hl221_0, hi221_0⟩ := at_T73 HR0.out x5_1 p221 q221
     obtain rfl : ad218 = ad221 := (by injection e221)
     have HR221_0 := am hi221_0
     have HC221_0 := am hl221_0
     clear hi221_0 hl221_0
     replace p221 := eq_true p221
     replace q221 := eq_true q221
     have ea_ := Option.some.inj (hx218_0.symm.trans hx221_0)
     injection ea_ with ea_ en_ ec_
     subst ea_
     subst ec_
     clear en_
     have p222 : 0 ≤ (x6_2 : Int) := ofb
     have q222 : x6_2 < (((rd_T73 l0 x5_1).f0).length : Int) := ofb
     obtain ⟨ad222, e222, hx222_0, hx222_1, hx222_2, hx222_3, hx222_4⟩ := at_T69 HR221_0.out x6_2 p222 q222
     cases e222
     replace p222 := eq_true p222
     replace q222 := eq_true q222
     go_wp2
     go_roundg k2
     case measure => have := HK1.out; have := HK2.out; omega
     case rel => exact ⟨(wrap64 (x6_2 + 1)), rf, H', ⟨by have := HK1.out; have := HK2.out; omega⟩, by repeat (first | exact Drawn0.refl _ | apply Drawn0.step)⟩
def spec_l2Write.j0 : Nat → List (S73) → Int → Bool → Int → Bool → Int → Int → Int → Int → Option ((List (S73)) × Bool)
 | 0, _, _, _, _, _, _, _, _, _ => none
 | k + 1, x0, x1, x3, x10, x24, x224000, x224001, x224002, x224003 => if x24 = true then (some (x0, false)) else (if x3 = true then (if 0 ≤ x1 then (if x1 < (x0.length : Int) then (if 0 ≤ (wrap64 (4 - x10)) then (if (wrap64 (4 - x10)) < (((rd_T73 x0 x1).f0).length : Int) then (some ((x0.set (x1 : Int).toNat (⟨(((rd_T73 x0 x1).f0).set ((wrap64 (4 - x10)) : Int).toNat (⟨2, (⟨0, 0, 0, 0⟩ : S36)⟩ : S69)), (rd_T73 x0 x1).f1⟩ : S73)), true)) else (none)) else (none)) else (none)) else (none)) else (if 0 ≤ x1 then (if x1 < (x0.length : Int) then (if 0 ≤ (wrap64 (4 - x10)) then (if (wrap64 (4 - x10)) < (((rd_T73 x0 x1).f0).length : Int) then (some ((x0.set (x1 : Int).toNat (⟨(((rd_T73 x0 x1).f0).set ((wrap64 (4 - x10)) : Int).toNat (⟨1, (⟨x224000, x224001, x224002, x224003⟩ : S36)⟩ : S69)), (rd_T73 x0 x1).f1⟩ : S73)), true)) else (none)) else (none)) else (none)) else (none)))
def spec_l2Write.f (k : Nat) (l0 : List (S73)) (a1 : Int) (a2_0 : Int) (a2_1 : Int) (a2_2 : Int) (a2_3 : Int) (a3 : Bool) : Option ((List (S73)) × Bool) := if 0 ≤ a1 then (if a1 < (l0.length : Int) then ((spec_l2Clean.f k ((rd_T73 l0 a1).f0) ((rd_T73 l0 a1).f1)).bind fun t225 => (if t225 = 0 then (spec_l2Write.j0 k l0 a1 a3 t225 true a2_0 a2_1 a2_2 a2_3) else ((spec_l2Seq.f k l0 a2_1).bind fun t226 => (spec_l2Write.j0 k l0 a1 a3 t225 t226 a2_0 a2_1 a2_2 a2_3)))) else (none)) else (none)
def spec_l2Write.T7 : Bool × List (List Nat × List Nat) := (true, [([], []), ([], []), ([0, 1], [0, 1]), ([2], [2]), ([3], [3]), ([], []), ([5], [5]), ([], []), ([4, 6, 0, 1, 2, 3, 4, 5, 6, 7], [4, 6]), ([8, 7, 0, 1, 2, 3, 4, 5, 6, 7], [7, 8])])
def spec_l2Write.B7 : List Nat := [0, 0, 3, 7, 15, 0, 32, 0, 255, 511]
theorem spec_l2Write.tab7 : rtab .any (opsOf Try.f71 7) = spec_l2Write.T7 := by kernel_rfl
theorem spec_l2Write.bits7 : waitsOk spec_l2Write.T7.2 spec_l2Write.B7 = true := by kernel_rfl
theorem spec_l2Write.calls (k : Nat) (P0_ : Nat → Prop) (u9000_ : Value) (l0 : List (S73)) (a1 : Int) (a2_0 : Int) (a2_1 : Int) (a2_2 : Int) (a2_3 : Int) (a3 : Bool) (r1 : List (S73)) (r2 : Bool) (w0 w : World) (hB : Below w0.heap.size w0 w) (ho0 : Kd.S k73 73 w w0.heap.size P0_ u9000_ l0) (h : spec_l2Write.f k l0 a1 a2_0 a2_1 a2_2 a2_3 a3 = some (r1, r2)) :
 Calls Try.prog 71 #[u9000_, .int .i64 a1, .agg #[.int .i64 a2_0, .int .i64 a2_1, .int .i64 a2_2, .int .i64 a2_3], .bool a3] w fun e w' => ∃ v0_ : Value, e = .returned (.tuple #[v0_, .bool r2]) ∧ Kd.S k73 73 w' w0.heap.size (fun k_ => (P0_ k_ ∨ w.heap.size ≤ k_)) v0_ r1 ∧ Below w0.heap.size w0 w' ∧ Kept w w' (fun k_ => P0_ k_) := by
 have hu36 := Try.underlying36
 have hu73 := Try.underlying73
 have hu69 := Try.underlying69
 have HO0 := am (show Kd.S k73 73 w w0.heap.size (fun k_ => (P0_ k_ ∨ w.heap.size ≤ k_)) u9000_ l0 from Kd.S_mono ho0 (fun k_ hk => (.inl hk)))
 have HK := am (Kept.refl w (fun k_ => P0_ k_))
 have HW0 := am hB.size
 have HB := am hB
 clear hB
 have H : (if 0 ≤ a1 then (if a1 < (l0.length : Int) then ((spec_l2Clean.f k ((rd_T73 l0 a1).f0) ((rd_T73 l0 a1).f1)).bind fun t225 => (if t225 = 0 then (spec_l2Write.j0 k l0 a1 a3 t225 true a2_0 a2_1 a2_2 a2_3) else ((spec_l2Seq.f k l0 a2_1).bind fun t226 => (spec_l2Write.j0 k l0 a1 a3 t225 t226 a2_0 a2_1 a2_2 a2_3)))) else (none)) else (none)) = some (r1, r2) := h
 clear h
 obtain ⟨c5b0, H⟩ := ifd H
 obtain ⟨c6b0, H⟩ := ifd H
 replace H := Option.bind_eq_some_iff.mp H
 obtain ⟨t225, A70, H⟩ := H
 have A7 := am A70
 clear A70
 have HC8 := am H
 clear H
 go_enter Try.func71, Try.ntmps71
 go_upto_region 2 with (first | (refine bx 6 #[.int .i64 a2_0, .int .i64 a2_1, .int .i64 a2_2, .int .i64 a2_3] 36 rfl ?_; intro gb223 hg w9 hbox hb; replace HO0 := am (Kd.S_below (ps HO0.out) hb); have BK223 := am (hbox); have GW223 := am (gw hg (pk HK.out)); replace HK := am (Kept.below (pk HK.out) hb); have GE223 := am (ge hg (ph HB.out)); replace HB := am (below_step (ph HB.out) hb); clear hb hbox hg; obtain ⟨Ao10, co10, eo10⟩ := Kd.S_slice HO0.out; subst eo10; have p224 : 0 ≤ (a1 : Int) := ofb; have q224 : a1 < (l0.length : Int) := ofb; obtain ⟨ad224, A224_0, c224_0, e224, hx224_0, hx224_1, hl224_0, hi224_0⟩ := at_T73 (Kd.S_reads' HO0.out).2.2 a1 p224 q224; cases e224; obtain ⟨ce224, hce224, hMe224, hcc224⟩ := Kd.S_get HO0.out z73 a1 p224 (by first | exact q224 | exact ofb | (have e_ := (Kd.S_reads' HO0.out).1; omega)); obtain ⟨ve224_0, rfl, ge224_0⟩ := k73_openM hMe224; have hv224_0 := hcc224 0 _ rfl; rw [Nat.add_zero] at hv224_0; replace hv224_0 := Option.some.inj (hv224_0.symm.trans hx224_0); rw [hv224_0] at ge224_0; have HL224_0 := am (show Kd.R k69 69 _ _ _ _ ((rd_T73 l0 a1).f0) from ge224_0); clear hv224_0 ge224_0; have HX224_0 := am hx224_0; clear hcc224 hce224; have HR224_0 := am hi224_0; have HC224_0 := am hl224_0; clear hi224_0 hl224_0; replace p224 := eq_true p224; replace q224 := eq_true q224) | (refine gl 16 Try.func44 #[.agg #[.slice A224_0 ((rd_T73 l0 a1).f0).length c224_0, .int .i64 ((rd_T73 l0 a1).f1)]] rfl ?_; (with_reducible refine (spec_l2Clean.calls k _ _ ((rd_T73 l0 a1).f0) ((rd_T73 l0 a1).f1) t225 _ ?side1 ?side2 A7.out).mono ?_); (case side1 => exact pc HR224_0.out); (case side2 => exact HC224_0.out); rintro e w11 ⟨rfl, hb⟩; refine ⟨_, rfl, ?_⟩; replace HO0 := am (Kd.S_below (ps HO0.out) hb); replace HL224_0 := am (Kd.R_below (pr HL224_0.out) hb); replace BK223 := am (blk_below (pb BK223.out) hb); replace HR224_0 := am (Kd.C_below (pc HR224_0.out) hb); replace HX224_0 := am (pw_cell_below hb HX224_0.out); replace HK := am (Kept.below (kg1 HK.out (.inr GW223.out)) hb); replace HB := am (below_step (bg1 HB.out GE223.out) hb); clear hb))
 (try simp only [Act.put, List.setIfInBounds_toArray, List.set_cons_zero, List.set_cons_succ])
 go_cut [24] (fun v24 wc => ∃ (kq : Nat) (x24_7 : Bool), v24 = .bool x24_7 ∧ Aside0 (spec_l2Write.j0 kq l0 a1 a3 t225 x24_7 a2_0 a2_1 a2_2 a2_3 = some (r1, r2)) ∧ Aside0 (kq ≤ k) ∧ Aside0 (Kd.S k73 73 wc w0.heap.size (fun k_ => (P0_ k_ ∨ w.heap.size ≤ k_)) (.slice (some ad224) l0.length co10) l0) ∧ Aside0 (wc.heap[gb223]? = some (.cells #[.int .i64 a2_0, .int .i64 a2_1, .int .i64 a2_2, .int .i64 a2_3] 36 (0, 0))) ∧ Aside0 (Kd.C k69 wc A224_0 ((rd_T73 l0 a1).f0).length ((rd_T73 l0 a1).f0)) ∧ Aside0 (Kept w wc (fun k_ => P0_ k_)) ∧ Aside0 (Below w0.heap.size w0 wc))
 case first =>
  have H := HC8.out
  clear HC8
  by_cases c12 : t225 = 0
  · rw [if_pos c12] at H
    have c12b0 : (t225 == 0) = true := beq_iff_eq.mpr c12
    have c12b1 : (t225 != 0) = false := bne_eq_false_iff_eq.mpr c12
    clear c12
    (first | rw [c12b0] | (simp only [i64_w, i32_w]; rw [c12b0]) | skip)
    have H' := am H
    clear H
    go_wp2
    go_meet
    case rel => exact ⟨_, (true), rf, H', ⟨by first | omega | exact Nat.le_refl _⟩, ⟨ps HO0.out⟩, ⟨pb BK223.out⟩, ⟨pc HR224_0.out⟩, ⟨kg1 HK.out (.inr GW223.out)⟩, ⟨bg1 HB.out GE223.out⟩⟩
  rw [if_neg c12] at H
  have c12b0 : (t225 == 0) = false := beq_eq_false_iff_ne.mpr c12
  have c12b1 : (t225 != 0) = true := bne_iff_ne.mpr c12
  (first | rw [c12b0] | (simp only [i64_w, i32_w]; rw [c12b0]) | skip)
  replace H := Option.bind_eq_some_iff.mp H
  obtain ⟨t226, A130, H⟩ := H
  have A13 := am A130
  clear A130
  have H' := am H
  clear H
  obtain ⟨hcz14_0, hcz14_1, hcz14_2, hcz14_3⟩ := b4 BK223.out
  obtain ⟨hfz14_0, hfz14_1, hfz14_2, hfz14_3⟩ := f4 BK223.out
  go_wp2_with (first | (go_at_call 72; (with_reducible refine (spec_l2Seq.calls k _ _ l0 a2_1 t226 _ ?side1 ?side2 A13.out).mono ?_); (case side1 => exact pc ((Kd.S_reads' HO0.out).2.2)); (case side2 => exact (Kd.S_reads' HO0.out).2.1); rintro e w' ⟨rfl, ⟨nd, rfl⟩⟩))
  go_meet
  case rel => exact ⟨_, (t226), rf, H', ⟨by first | omega | exact Nat.le_refl _⟩, ⟨ps HO0.out⟩, ⟨pb BK223.out⟩, ⟨pc HR224_0.out⟩, ⟨kg1 HK.out (.inr GW223.out)⟩, ⟨bg1 HB.out GE223.out⟩⟩
 case rest =>
  clear HC8
  obtain ⟨kq, x24_7, rfl, HA, HJ7, HO_0, BK223, HR224_0, HK, HB⟩ := hcut
  cases kq with
  | zero => exact absurd HA.out (by simp [spec_l2Write.j0])
  | succ kj7 =>
   have H := HA.out
   clear HA
   simp only [spec_l2Write.j0] at H
   by_cases c15 : x24_7 = true
   · subst c15
     rw [if_pos rfl] at H
     simp only [Option.some.injEq, Prod.mk.injEq] at H
     obtain ⟨rfl, rfl⟩ := H
     go_wp2
     go_ret2
     exact ⟨_, rq ⟨ps HO_0.out, bg1 HB.out GE223.out, kg1 HK.out (.inr GW223.out)⟩⟩
   replace c15 := Bool.eq_false_iff.mpr c15
   subst c15
   rw [if_neg (show ¬ (false = true) by decide)] at H
   by_cases c16 : a3 = true
   rotate_left
   · replace c16 := Bool.eq_false_iff.mpr c16
     subst c16
     rw [if_neg (show ¬ (false = true) by decide)] at H
     obtain ⟨c31b0, H⟩ := ifd H
     obtain ⟨c32b0, H⟩ := ifd H
     obtain ⟨ji33, hji33⟩ : ∃ j_ : Int, (wrap64 (4 - t225)) = j_ := ⟨_, rfl⟩
     replace H : (if 0 ≤ (ji33) then (if (ji33) < (((rd_T73 l0 a1).f0).length : Int) then (some ((l0.set (a1 : Int).toNat (⟨(((rd_T73 l0 a1).f0).set ((ji33) : Int).toNat (⟨1, (⟨a2_0, a2_1, a2_2, a2_3⟩ : S36)⟩ : S69)), (rd_T73 l0 a1).f1⟩ : S73)), true)) else (none)) else (none)) = some (r1, r2) := by first | (rw [hji33] at H; exact H) | (simp only [hji33] at H ⊢; exact H)
     have hji33w : (IntKind.i64.wrap (4 - t225)) = ji33 := (i64_w _).trans hji33
     obtain ⟨c34b0, H⟩ := ifd H
     obtain ⟨c35b0, H⟩ := ifd H
     obtain ⟨y233, hy233⟩ : ∃ y_ : List (S69), y_ = (((rd_T73 l0 a1).f0).set ((ji33) : Int).toNat (⟨1, (⟨a2_0, a2_1, a2_2, a2_3⟩ : S36)⟩ : S69)) := ⟨_, rfl⟩
     replace H : (some ((l0.set (a1 : Int).toNat (⟨y233, (rd_T73 l0 a1).f1⟩ : S73)), true)) = some (r1, r2) := yy hy233 H
     have Ny233 := am hy233
     clear hy233
     obtain ⟨y235, hy235⟩ : ∃ y_ : List (S73), y_ = (l0.set (a1 : Int).toNat (⟨y233, (rd_T73 l0 a1).f1⟩ : S73)) := ⟨_, rfl⟩
     replace H : (some (y235, true)) = some (r1, r2) := yy hy235 H
     have Ny235 := am hy235
     clear hy235
     simp only [Option.some.injEq, Prod.mk.injEq] at H
     obtain ⟨rfl, rfl⟩ := H
     obtain ⟨hcz37_0, hcz37_1, hcz37_2, hcz37_3⟩ := b4 BK223.out
     obtain ⟨hfz37_0, hfz37_1, hfz37_2, hfz37_3⟩ := f4 BK223.out
     try go_wp2_with (first | (refine bx 11 #[.int .i64 0, .int .i64 0, .int .i64 0, .int .i64 0, .int .i64 0] 69 rfl ?_; intro gb227 hg w38 hbox hb; replace HO_0 := am (Kd.S_below (Kd.S_elderB (ps HO_0.out) gb227 (Nat.le_of_eq hg.symm)) hb); replace HR224_0 := am (Kd.C_below (pc HR224_0.out) hb); have BK227 := am (hbox); have GW227 := am (gw hg (kg1 HK.out (.inr GW223.out))); replace HK := am (Kept.below (kg1 HK.out (.inr GW223.out)) hb); have GE227 := am (ge hg (bg1 HB.out GE223.out)); replace HB := am (below_step (bg1 HB.out GE223.out) hb); have NB223_227 := am (nb hg (pb BK223.out)); have NB227_223 := am (Ne.symm NB223_227.out); replace BK223 := am (blk_below (pb BK223.out) hb); clear hb hbox hg; have hnb39 := NB227_223.out; have hnc39 := NB223_227.out; obtain ⟨hcz40_0, hcz40_1, hcz40_2, hcz40_3, hcz40_4⟩ := b5 BK227.out; obtain ⟨hfz40_0, hfz40_1, hfz40_2, hfz40_3, hfz40_4⟩ := f5 BK227.out))
     have n0_ : Aside0 (Kd.S k73 73 (((((w38.setCell ⟨gb227, 0, none⟩ (.int .i64 1)).setCell ⟨gb227, 1, none⟩ (.int .i64 a2_0)).setCell ⟨gb227, 2, none⟩ (.int .i64 a2_1)).setCell ⟨gb227, 3, none⟩ (.int .i64 a2_2)).setCell ⟨gb227, 4, none⟩ (.int .i64 a2_3)) w0.heap.size (fun k_ => (P0_ k_ ∨ w.heap.size ≤ k_) ∧ k_ ≠ gb227) (.slice (some ad224) l0.length co10) l0) := ⟨ps (Kd.S_mono (Kd.S_far (p := ⟨gb227, 4, none⟩) (Kd.S_far (p := ⟨gb227, 3, none⟩) (Kd.S_far (p := ⟨gb227, 2, none⟩) (Kd.S_far (p := ⟨gb227, 1, none⟩) (Kd.S_far (p := ⟨gb227, 0, none⟩) (Kd.S_mono HO_0.out (fun k_ hk => (⟨hk, hk.2⟩ : _ ∧ k_ ≠ gb227))) (fun _ hk => hk.2) (.int .i64 1)) (fun _ hk => hk.2) (.int .i64 a2_0)) (fun _ hk => hk.2) (.int .i64 a2_1)) (fun _ hk => hk.2) (.int .i64 a2_2)) (fun _ hk => hk.2) (.int .i64 a2_3)) (fun _ hk => ⟨hk.1.1, hk.1.2⟩))⟩
     have n1_ : Aside0 ((((((w38.setCell ⟨gb227, 0, none⟩ (.int .i64 1)).setCell ⟨gb227, 1, none⟩ (.int .i64 a2_0)).setCell ⟨gb227, 2, none⟩ (.int .i64 a2_1)).setCell ⟨gb227, 3, none⟩ (.int .i64 a2_2)).setCell ⟨gb227, 4, none⟩ (.int .i64 a2_3)).heap[gb223]? = some (.cells #[.int .i64 a2_0, .int .i64 a2_1, .int .i64 a2_2, .int .i64 a2_3] 36 (0, 0))) := ⟨bf5 (pb BK223.out) NB223_227.out⟩
     have n2_ : Aside0 ((((((w38.setCell ⟨gb227, 0, none⟩ (.int .i64 1)).setCell ⟨gb227, 1, none⟩ (.int .i64 a2_0)).setCell ⟨gb227, 2, none⟩ (.int .i64 a2_1)).setCell ⟨gb227, 3, none⟩ (.int .i64 a2_2)).setCell ⟨gb227, 4, none⟩ (.int .i64 a2_3)).heap[gb227]? = some (.cells #[.int .i64 1, .int .i64 a2_0, .int .i64 a2_1, .int .i64 a2_2, .int .i64 a2_3] 69 (0, 0))) := ⟨bp5 (pb BK227.out)⟩
     have n3_ : Aside0 (Kept w (((((w38.setCell ⟨gb227, 0, none⟩ (.int .i64 1)).setCell ⟨gb227, 1, none⟩ (.int .i64 a2_0)).setCell ⟨gb227, 2, none⟩ (.int .i64 a2_1)).setCell ⟨gb227, 3, none⟩ (.int .i64 a2_2)).setCell ⟨gb227, 4, none⟩ (.int .i64 a2_3)) (fun k_ => P0_ k_)) := ⟨kg2 HK.out (.inr GW223.out) (.inr GW227.out)⟩
     have n4_ : Aside0 (Below w0.heap.size w0 (((((w38.setCell ⟨gb227, 0, none⟩ (.int .i64 1)).setCell ⟨gb227, 1, none⟩ (.int .i64 a2_0)).setCell ⟨gb227, 2, none⟩ (.int .i64 a2_1)).setCell ⟨gb227, 3, none⟩ (.int .i64 a2_2)).setCell ⟨gb227, 4, none⟩ (.int .i64 a2_3))) := ⟨bg2 HB.out GE223.out GE227.out⟩
     (try clear HO_0)
     (try clear BK223)
     (try clear BK227)
     (try clear HK)
     (try clear HB)
     generalize (((((w38.setCell ⟨gb227, 0, none⟩ (.int .i64 1)).setCell ⟨gb227, 1, none⟩ (.int .i64 a2_0)).setCell ⟨gb227, 2, none⟩ (.int .i64 a2_1)).setCell ⟨gb227, 3, none⟩ (.int .i64 a2_2)).setCell ⟨gb227, 4, none⟩ (.int .i64 a2_3)) = w41 at n0_ n1_ n2_ n3_ n4_ ⊢
     have HO_0 := n0_
     have BK223 := n1_
     have BK227 := n2_
     have HK := n3_
     have HB := n4_
     clear n0_ n1_ n2_ n3_ n4_
     replace HO_0 := am (Kd.S_drew HO_0.out)
     replace BK223 := am (blk_drew BK223.out)
     replace BK227 := am (blk_drew BK227.out)
     replace HK := am (Kept.drew HK.out)
     replace HB := am (below_drew1 HB.out)
     have p232 : 0 ≤ (a1 : Int) := ofb
     have q232 : a1 < (l0.length : Int) := ofb
     obtain ⟨ad232, A232_0, c232_0, e232, hx232_0, hx232_1, hl232_0, hi232_0⟩ := at_T73 (Kd.S_reads' HO_0.out).2.2 a1 p232 q232
     obtain rfl : ad224 = ad232 := (by injection e232)
     obtain ⟨ce232, hce232, hMe232, hcc232⟩ := Kd.S_get HO_0.out z73 a1 p232 (by first | exact q232 | exact ofb | (have e_ := (Kd.S_reads' HO_0.out).1; omega))
     obtain ⟨ve232_0, rfl, ge232_0⟩ := k73_openM hMe232
     have hv232_0 := hcc232 0 _ rfl
     rw [Nat.add_zero] at hv232_0
     replace hv232_0 := Option.some.inj (hv232_0.symm.trans hx232_0)
     rw [hv232_0] at ge232_0
     have HL232_0 := am (show Kd.R k69 69 _ _ _ _ ((rd_T73 l0 a1).f0) from ge232_0)
     clear hv232_0 ge232_0
     have HX232_0 := am hx232_0
     clear hcc232 hce232
     have HR232_0 := am hi232_0
     have HC232_0 := am hl232_0
     clear hi232_0 hl232_0
     replace p232 := eq_true p232
     replace q232 := eq_true q232
     have p36 : 0 ≤ ((ji33) : Int) := ofb
     have q36 : ((ji33) : Int) < ((((rd_T73 l0 a1).f0).length : Int) : Int) := ofb
     obtain ⟨go36, co36, eo36, gb36, gl36, cl36, HG36⟩ := Kd.R_form HL232_0.out (by omega)
     (first | cases eo36 | (injection eo36 with ea_ en_ ec_; (first | subst ea_ | (injection ea_ with ea_; subst ea_)); subst ec_; clear en_))
     have GB36 := am gb36
     have GG36 := am HG36
     clear gb36 gl36 HG36
     have HMgo36 := am (show (P0_ go36 ∨ w.heap.size ≤ go36) from (HL232_0.out.1 _ rfl).1.1)
     obtain ⟨ce36, hcl36, hM36, hcc36, hfr36⟩ := Kd.R_elem HL232_0.out z69 ((ji33) : Int) p36 q36
     obtain rfl := k69_openM hM36
     have hx36_0 : World.cell? _ ⟨go36, ((ji33) : Int).toNat * 5, none⟩ = some (.int .i64 ((rd_T69 ((rd_T73 l0 a1).f0) (ji33)).f0)) := hcc36 0 _ rfl
     have hx36_1 : World.cell? _ ⟨go36, ((ji33) : Int).toNat * 5 + 1, none⟩ = some (.int .i64 ((rd_T69 ((rd_T73 l0 a1).f0) (ji33)).f1.f0)) := hcc36 1 _ rfl
     have hx36_2 : World.cell? _ ⟨go36, ((ji33) : Int).toNat * 5 + 2, none⟩ = some (.int .i64 ((rd_T69 ((rd_T73 l0 a1).f0) (ji33)).f1.f1)) := hcc36 2 _ rfl
     have hx36_3 : World.cell? _ ⟨go36, ((ji33) : Int).toNat * 5 + 3, none⟩ = some (.int .i64 ((rd_T69 ((rd_T73 l0 a1).f0) (ji33)).f1.f2)) := hcc36 3 _ rfl
     have hx36_4 : World.cell? _ ⟨go36, ((ji33) : Int).toNat * 5 + 4, none⟩ = some (.int .i64 ((rd_T69 ((rd_T73 l0 a1).f0) (ji33)).f1.f3)) := hcc36 4 _ rfl
     have hf36_0 : World.frozen? _ ⟨go36, ((ji33) : Int).toNat * 5, none⟩ = false := hfr36 0
     have hf36_1 : World.frozen? _ ⟨go36, ((ji33) : Int).toNat * 5 + 1, none⟩ = false := hfr36 1
     have hf36_2 : World.frozen? _ ⟨go36, ((ji33) : Int).toNat * 5 + 2, none⟩ = false := hfr36 2
     have hf36_3 : World.frozen? _ ⟨go36, ((ji33) : Int).toNat * 5 + 3, none⟩ = false := hfr36 3
     have hf36_4 : World.frozen? _ ⟨go36, ((ji33) : Int).toNat * 5 + 4, none⟩ = false := hfr36 4
     clear hcl36 hcc36 hfr36 hM36
     replace p36 := eq_true p36
     replace q36 := eq_true q36
     have hq43 : (a1 : Int) < (l0.length : Int) := (by have h_ : (a1 : Int) < ((l0.length : Int) : Int) := ofb; first | exact h_ | (have e_ := (Kd.S_reads' HO_0.out).1; omega) | simpa only [List.length_set, List.length_set] using h_)
     obtain ⟨oki43, ce43, hcl43, hM43, hcc43, hok43, hbk43⟩ := Kd.S_borrow HO_0.out z73 (a1 : Int) (ofb) hq43
     obtain ⟨ve43_0, rfl, ge43_0⟩ := k73_openM hM43
     have hv43 := hcc43 0 _ rfl
     rw [Nat.add_zero] at hv43
     replace hv43 := Option.some.inj (hv43.symm.trans HX232_0.out)
     subst hv43
     clear hcc43 hcl43
     replace ge43_0 := (show Kd.R k69 69 _ _ _ _ ((rd_T73 l0 a1).f0) from ge43_0)
     obtain ⟨cf43, hcl43, hN43, hcc43, hfr43⟩ := Kd.R_elem ge43_0 z69 ((ji33) : Int) (ofb) (by have h_ : ((ji33) : Int) < ((((rd_T73 l0 a1).f0).length : Int) : Int) := ofb; first | exact h_ | (have e_ := (Kd.R_reads' HR232_0.out).1; omega) | simpa using h_)
     obtain rfl := k69_openM hN43
     have HP43 := Kd.R_seg ge43_0 ((ji33) : Int) (ofb) (by have h_ : ((ji33) : Int) < ((((rd_T73 l0 a1).f0).length : Int) : Int) := ofb; first | exact h_ | (have e_ := (Kd.R_reads' HR232_0.out).1; omega) | simpa using h_) (seg := [.int .i64 1, .int .i64 a2_0, .int .i64 a2_1, .int .i64 a2_2, .int .i64 a2_3]) (j := 0) hcl43 hcc43 (show 5 ≤ 5 from by decide) (x' := (⟨1, (⟨a2_0, a2_1, a2_2, a2_3⟩ : S36)⟩ : S69)) (k69_mkM _ _ _ (⟨1, (⟨a2_0, a2_1, a2_2, a2_3⟩ : S36)⟩ : S69)) (fun _ hk => hk)
     clear hcl43 hcc43 hfr43 hN43
     rw [← Ny233.out] at HP43
     have HS43 := hbk43 HP43.2 (fun k_ e_ => by injection e_ with e_; subst e_; exact ge43_0.1 _ rfl) (x' := (⟨y233, (rd_T73 l0 a1).f1⟩ : S73)) (k73_mkM _ _ _ (⟨y233, (rd_T73 l0 a1).f1⟩ : S73) HP43.1)
     rw [← Ny235.out] at HS43
     have HQ43 := am HS43
     clear HP43 HS43 hbk43 hok43
     refine start_ (n := 10) (S := fun w' => w'.cell? ⟨gb227, 0, none⟩ = some (.int .i64 1) ∧ w'.cell? ⟨gb227, 1, none⟩ = some (.int .i64 a2_0) ∧ w'.cell? ⟨gb227, 2, none⟩ = some (.int .i64 a2_1) ∧ w'.cell? ⟨gb227, 3, none⟩ = some (.int .i64 a2_2) ∧ w'.cell? ⟨gb227, 4, none⟩ = some (.int .i64 a2_3) ∧ w'.cell? (ad224.add ((a1).toNat * 2)) = some (.slice (some ⟨go36, 0, none⟩) ((rd_T73 l0 a1).f0).length c232_0) ∧ w'.cell? ⟨(ad224.add ((a1).toNat * 2)).block, (ad224.add ((a1).toNat * 2)).off + 1, none⟩ = some (.int .i64 ((rd_T73 l0 a1).f1))) (ds := [9]) (bt 10 0) (by kernel_rfl) rfl rfl ⟨(blk_cell BK227.out 0).trans rfl, (blk_cell BK227.out 1).trans rfl, (blk_cell BK227.out 2).trans rfl, (blk_cell BK227.out 3).trans rfl, (blk_cell BK227.out 4).trans rfl, hx232_0, hx232_1⟩ (fun hHeld => ?_); refine with_tabW spec_l2Write.tab7 spec_l2Write.bits7 (fun HT_ HW_ => ?_)
     generalize w41.drew = w42 at HO_0 BK223 BK227 HK HB GG36 HL232_0 HQ43 HR232_0 HX232_0 hf36_0 hf36_1 hf36_2 hf36_3 hf36_4 hx232_0 hx232_1 hx36_0 hx36_1 hx36_2 hx36_3 hx36_4 hHeld ⊢
     refine qj 0 30 (bt 10 1) rfl rfl HT_.out ?_
     refine qj 1 31 (bt 10 3) rfl rfl HT_.out ?_
     refine qj 2 32 (bt 10 7) rfl rfl HT_.out ?_
     refine qj 3 33 (bt 10 15) rfl rfl HT_.out ?_
     refine qj 5 35 (bt 10 47) rfl rfl HT_.out ?_
     refine qj 6 36 (bt 10 111) rfl rfl HT_.out ?_
     refine qm 4 34 (bt 10 127) rfl rfl HT_.out HW_.out hHeld ?_
     refine qm 7 37 (bt 10 255) rfl rfl HT_.out HW_.out hHeld ?_
     refine qj 8 38 (bt 10 511) rfl rfl HT_.out ?_
     refine last_ (i := 9) (N := none) (bt 10 1023) rfl rfl (one_of HT_.out (by kernel_rfl)) (by decide) (fun K hK => ?_)
     refine qs rfl ?_
     refine hK.out _ _ ?_
     clear hK K
     refine done_ (done_of HT_.out (by kernel_rfl)) ?_
     try go_wp2
     go_ret2
     exact ⟨_, by first | rfl | (simp [errW_none, errW_some] <;> rfl) | (simp only [← hji33]; first | rfl | (simp [errW_none, errW_some] <;> rfl)) | (simp [*, errW_none, errW_some] <;> rfl), Kd.S_mono HQ43.out (fun _ hk => hk.1), bg3 HB.out GB36.out GE223.out GE227.out, kg3 HK.out HMgo36.out (.inr GW223.out) (.inr GW227.out)⟩
   subst c16
   rw [if_pos rfl] at H
   obtain ⟨c17b0, H⟩ := ifd H
   obtain ⟨c18b0, H⟩ := ifd H
   obtain ⟨ji19, hji19⟩ : ∃ j_ : Int, (wrap64 (4 - t225)) = j_ := ⟨_, rfl⟩
   replace H : (if 0 ≤ (ji19) then (if (ji19) < (((rd_T73 l0 a1).f0).length : Int) then (some ((l0.set (a1 : Int).toNat (⟨(((rd_T73 l0 a1).f0).set ((ji19) : Int).toNat (⟨2, (⟨0, 0, 0, 0⟩ : S36)⟩ : S69)), (rd_T73 l0 a1).f1⟩ : S73)), true)) else (none)) else (none)) = some (r1, r2) := by first | (rw [hji19] at H; exact H) | (simp only [hji19] at H ⊢; exact H)
   have hji19w : (IntKind.i64.wrap (4 - t225)) = ji19 := (i64_w _).trans hji19
   obtain ⟨c20b0, H⟩ := ifd H
   obtain ⟨c21b0, H⟩ := ifd H
   obtain ⟨y229, hy229⟩ : ∃ y_ : List (S69), y_ = (((rd_T73 l0 a1).f0).set ((ji19) : Int).toNat (⟨2, (⟨0, 0, 0, 0⟩ : S36)⟩ : S69)) := ⟨_, rfl⟩
   replace H : (some ((l0.set (a1 : Int).toNat (⟨y229, (rd_T73 l0 a1).f1⟩ : S73)), true)) = some (r1, r2) := yy hy229 H
   have Ny229 := am hy229
   clear hy229
   obtain ⟨y231, hy231⟩ : ∃ y_ : List (S73), y_ = (l0.set (a1 : Int).toNat (⟨y229, (rd_T73 l0 a1).f1⟩ : S73)) := ⟨_, rfl⟩
   replace H : (some (y231, true)) = some (r1, r2) := yy hy231 H
   have Ny231 := am hy231
   clear hy231
   simp only [Option.some.injEq, Prod.mk.injEq] at H
   obtain ⟨rfl, rfl⟩ := H
   obtain ⟨hcz23_0, hcz23_1, hcz23_2, hcz23_3⟩ := b4 BK223.out
   obtain ⟨hfz23_0, hfz23_1, hfz23_2, hfz23_3⟩ := f4 BK223.out
   try go_wp2_with (first | (refine bx 11 #[.int .i64 0, .int .i64 0, .int .i64 0, .int .i64 0, .int .i64 0] 69 rfl ?_; intro gb227 hg w24 hbox hb; replace HO_0 := am (Kd.S_below (Kd.S_elderB (ps HO_0.out) gb227 (Nat.le_of_eq hg.symm)) hb); replace HR224_0 := am (Kd.C_below (pc HR224_0.out) hb); have BK227 := am (hbox); have GW227 := am (gw hg (kg1 HK.out (.inr GW223.out))); replace HK := am (Kept.below (kg1 HK.out (.inr GW223.out)) hb); have GE227 := am (ge hg (bg1 HB.out GE223.out)); replace HB := am (below_step (bg1 HB.out GE223.out) hb); have NB223_227 := am (nb hg (pb BK223.out)); have NB227_223 := am (Ne.symm NB223_227.out); replace BK223 := am (blk_below (pb BK223.out) hb); clear hb hbox hg; have hnb25 := NB227_223.out; have hnc25 := NB223_227.out; obtain ⟨hcz26_0, hcz26_1, hcz26_2, hcz26_3, hcz26_4⟩ := b5 BK227.out; obtain ⟨hfz26_0, hfz26_1, hfz26_2, hfz26_3, hfz26_4⟩ := f5 BK227.out))
   have n0_ : Aside0 (Kd.S k73 73 ((((((((((w24.setCell ⟨gb227, 0, none⟩ (.int .i64 1)).setCell ⟨gb227, 1, none⟩ (.int .i64 a2_0)).setCell ⟨gb227, 2, none⟩ (.int .i64 a2_1)).setCell ⟨gb227, 3, none⟩ (.int .i64 a2_2)).setCell ⟨gb227, 4, none⟩ (.int .i64 a2_3)).setCell ⟨gb227, 0, none⟩ (.int .i64 2)).setCell ⟨gb227, 1, none⟩ (.int .i64 0)).setCell ⟨gb227, 2, none⟩ (.int .i64 0)).setCell ⟨gb227, 3, none⟩ (.int .i64 0)).setCell ⟨gb227, 4, none⟩ (.int .i64 0)) w0.heap.size (fun k_ => (P0_ k_ ∨ w.heap.size ≤ k_) ∧ k_ ≠ gb227) (.slice (some ad224) l0.length co10) l0) := ⟨ps (Kd.S_mono (Kd.S_far (p := ⟨gb227, 4, none⟩) (Kd.S_far (p := ⟨gb227, 3, none⟩) (Kd.S_far (p := ⟨gb227, 2, none⟩) (Kd.S_far (p := ⟨gb227, 1, none⟩) (Kd.S_far (p := ⟨gb227, 0, none⟩) (Kd.S_far (p := ⟨gb227, 4, none⟩) (Kd.S_far (p := ⟨gb227, 3, none⟩) (Kd.S_far (p := ⟨gb227, 2, none⟩) (Kd.S_far (p := ⟨gb227, 1, none⟩) (Kd.S_far (p := ⟨gb227, 0, none⟩) (Kd.S_mono HO_0.out (fun k_ hk => (⟨hk, hk.2⟩ : _ ∧ k_ ≠ gb227))) (fun _ hk => hk.2) (.int .i64 1)) (fun _ hk => hk.2) (.int .i64 a2_0)) (fun _ hk => hk.2) (.int .i64 a2_1)) (fun _ hk => hk.2) (.int .i64 a2_2)) (fun _ hk => hk.2) (.int .i64 a2_3)) (fun _ hk => hk.2) (.int .i64 2)) (fun _ hk => hk.2) (.int .i64 0)) (fun _ hk => hk.2) (.int .i64 0)) (fun _ hk => hk.2) (.int .i64 0)) (fun _ hk => hk.2) (.int .i64 0)) (fun _ hk => ⟨hk.1.1, hk.1.2⟩))⟩
   have n1_ : Aside0 (((((((((((w24.setCell ⟨gb227, 0, none⟩ (.int .i64 1)).setCell ⟨gb227, 1, none⟩ (.int .i64 a2_0)).setCell ⟨gb227, 2, none⟩ (.int .i64 a2_1)).setCell ⟨gb227, 3, none⟩ (.int .i64 a2_2)).setCell ⟨gb227, 4, none⟩ (.int .i64 a2_3)).setCell ⟨gb227, 0, none⟩ (.int .i64 2)).setCell ⟨gb227, 1, none⟩ (.int .i64 0)).setCell ⟨gb227, 2, none⟩ (.int .i64 0)).setCell ⟨gb227, 3, none⟩ (.int .i64 0)).setCell ⟨gb227, 4, none⟩ (.int .i64 0)).heap[gb223]? = some (.cells #[.int .i64 a2_0, .int .i64 a2_1, .int .i64 a2_2, .int .i64 a2_3] 36 (0, 0))) := ⟨bf5 (bf5 (pb BK223.out) NB223_227.out) NB223_227.out⟩
   have n2_ : Aside0 (((((((((((w24.setCell ⟨gb227, 0, none⟩ (.int .i64 1)).setCell ⟨gb227, 1, none⟩ (.int .i64 a2_0)).setCell ⟨gb227, 2, none⟩ (.int .i64 a2_1)).setCell ⟨gb227, 3, none⟩ (.int .i64 a2_2)).setCell ⟨gb227, 4, none⟩ (.int .i64 a2_3)).setCell ⟨gb227, 0, none⟩ (.int .i64 2)).setCell ⟨gb227, 1, none⟩ (.int .i64 0)).setCell ⟨gb227, 2, none⟩ (.int .i64 0)).setCell ⟨gb227, 3, none⟩ (.int .i64 0)).setCell ⟨gb227, 4, none⟩ (.int .i64 0)).heap[gb227]? = some (.cells #[.int .i64 2, .int .i64 0, .int .i64 0, .int .i64 0, .int .i64 0] 69 (0, 0))) := ⟨bp5 (bp5 (pb BK227.out))⟩
   have n3_ : Aside0 (Kept w ((((((((((w24.setCell ⟨gb227, 0, none⟩ (.int .i64 1)).setCell ⟨gb227, 1, none⟩ (.int .i64 a2_0)).setCell ⟨gb227, 2, none⟩ (.int .i64 a2_1)).setCell ⟨gb227, 3, none⟩ (.int .i64 a2_2)).setCell ⟨gb227, 4, none⟩ (.int .i64 a2_3)).setCell ⟨gb227, 0, none⟩ (.int .i64 2)).setCell ⟨gb227, 1, none⟩ (.int .i64 0)).setCell ⟨gb227, 2, none⟩ (.int .i64 0)).setCell ⟨gb227, 3, none⟩ (.int .i64 0)).setCell ⟨gb227, 4, none⟩ (.int .i64 0)) (fun k_ => P0_ k_)) := ⟨kg2 HK.out (.inr GW223.out) (.inr GW227.out)⟩
   have n4_ : Aside0 (Below w0.heap.size w0 ((((((((((w24.setCell ⟨gb227, 0, none⟩ (.int .i64 1)).setCell ⟨gb227, 1, none⟩ (.int .i64 a2_0)).setCell ⟨gb227, 2, none⟩ (.int .i64 a2_1)).setCell ⟨gb227, 3, none⟩ (.int .i64 a2_2)).setCell ⟨gb227, 4, none⟩ (.int .i64 a2_3)).setCell ⟨gb227, 0, none⟩ (.int .i64 2)).setCell ⟨gb227, 1, none⟩ (.int .i64 0)).setCell ⟨gb227, 2, none⟩ (.int .i64 0)).setCell ⟨gb227, 3, none⟩ (.int .i64 0)).setCell ⟨gb227, 4, none⟩ (.int .i64 0))) := ⟨bg2 HB.out GE223.out GE227.out⟩
   (try clear HO_0)
   (try clear BK223)
   (try clear BK227)
   (try clear HK)
   (try clear HB)
   generalize ((((((((((w24.setCell ⟨gb227, 0, none⟩ (.int .i64 1)).setCell ⟨gb227, 1, none⟩ (.int .i64 a2_0)).setCell ⟨gb227, 2, none⟩ (.int .i64 a2_1)).setCell ⟨gb227, 3, none⟩ (.int .i64 a2_2)).setCell ⟨gb227, 4, none⟩ (.int .i64 a2_3)).setCell ⟨gb227, 0, none⟩ (.int .i64 2)).setCell ⟨gb227, 1, none⟩ (.int .i64 0)).setCell ⟨gb227, 2, none⟩ (.int .i64 0)).setCell ⟨gb227, 3, none⟩ (.int .i64 0)).setCell ⟨gb227, 4, none⟩ (.int .i64 0)) = w27 at n0_ n1_ n2_ n3_ n4_ ⊢
   have HO_0 := n0_
   have BK223 := n1_
   have BK227 := n2_
   have HK := n3_
   have HB := n4_
   clear n0_ n1_ n2_ n3_ n4_
   replace HO_0 := am (Kd.S_drew HO_0.out)
   replace BK223 := am (blk_drew BK223.out)
   replace BK227 := am (blk_drew BK227.out)
   replace HK := am (Kept.drew HK.out)
   replace HB := am (below_drew1 HB.out)
   have p228 : 0 ≤ (a1 : Int) := ofb
   have q228 : a1 < (l0.length : Int) := ofb
   obtain ⟨ad228, A228_0, c228_0, e228, hx228_0, hx228_1, hl228_0, hi228_0⟩ := at_T73 (Kd.S_reads' HO_0.out).2.2 a1 p228 q228
   obtain rfl : ad224 = ad228 := (by injection e228)
   obtain ⟨ce228, hce228, hMe228, hcc228⟩ := Kd.S_get HO_0.out z73 a1 p228 (by first | exact q228 | exact ofb | (have e_ := (Kd.S_reads' HO_0.out).1; omega))
   obtain ⟨ve228_0, rfl, ge228_0⟩ := k73_openM hMe228
   have hv228_0 := hcc228 0 _ rfl
   rw [Nat.add_zero] at hv228_0
   replace hv228_0 := Option.some.inj (hv228_0.symm.trans hx228_0)
   rw [hv228_0] at ge228_0
   have HL228_0 := am (show Kd.R k69 69 _ _ _ _ ((rd_T73 l0 a1).f0) from ge228_0)
   clear hv228_0 ge228_0
   have HX228_0 := am hx228_0
   clear hcc228 hce228
   have HR228_0 := am hi228_0
   have HC228_0 := am hl228_0
   clear hi228_0 hl228_0
   replace p228 := eq_true p228
   replace q228 := eq_true q228
   have p22 : 0 ≤ ((ji19) : Int) := ofb
   have q22 : ((ji19) : Int) < ((((rd_T73 l0 a1).f0).length : Int) : Int) := ofb
   obtain ⟨go22, co22, eo22, gb22, gl22, cl22, HG22⟩ := Kd.R_form HL228_0.out (by omega)
   (first | cases eo22 | (injection eo22 with ea_ en_ ec_; (first | subst ea_ | (injection ea_ with ea_; subst ea_)); subst ec_; clear en_))
   have GB22 := am gb22
   have GG22 := am HG22
   clear gb22 gl22 HG22
   have HMgo22 := am (show (P0_ go22 ∨ w.heap.size ≤ go22) from (HL228_0.out.1 _ rfl).1.1)
   obtain ⟨ce22, hcl22, hM22, hcc22, hfr22⟩ := Kd.R_elem HL228_0.out z69 ((ji19) : Int) p22 q22
   obtain rfl := k69_openM hM22
   have hx22_0 : World.cell? _ ⟨go22, ((ji19) : Int).toNat * 5, none⟩ = some (.int .i64 ((rd_T69 ((rd_T73 l0 a1).f0) (ji19)).f0)) := hcc22 0 _ rfl
   have hx22_1 : World.cell? _ ⟨go22, ((ji19) : Int).toNat * 5 + 1, none⟩ = some (.int .i64 ((rd_T69 ((rd_T73 l0 a1).f0) (ji19)).f1.f0)) := hcc22 1 _ rfl
   have hx22_2 : World.cell? _ ⟨go22, ((ji19) : Int).toNat * 5 + 2, none⟩ = some (.int .i64 ((rd_T69 ((rd_T73 l0 a1).f0) (ji19)).f1.f1)) := hcc22 2 _ rfl
   have hx22_3 : World.cell? _ ⟨go22, ((ji19) : Int).toNat * 5 + 3, none⟩ = some (.int .i64 ((rd_T69 ((rd_T73 l0 a1).f0) (ji19)).f1.f2)) := hcc22 3 _ rfl
   have hx22_4 : World.cell? _ ⟨go22, ((ji19) : Int).toNat * 5 + 4, none⟩ = some (.int .i64 ((rd_T69 ((rd_T73 l0 a1).f0) (ji19)).f1.f3)) := hcc22 4 _ rfl
   have hf22_0 : World.frozen? _ ⟨go22, ((ji19) : Int).toNat * 5, none⟩ = false := hfr22 0
   have hf22_1 : World.frozen? _ ⟨go22, ((ji19) : Int).toNat * 5 + 1, none⟩ = false := hfr22 1
   have hf22_2 : World.frozen? _ ⟨go22, ((ji19) : Int).toNat * 5 + 2, none⟩ = false := hfr22 2
   have hf22_3 : World.frozen? _ ⟨go22, ((ji19) : Int).toNat * 5 + 3, none⟩ = false := hfr22 3
   have hf22_4 : World.frozen? _ ⟨go22, ((ji19) : Int).toNat * 5 + 4, none⟩ = false := hfr22 4
   clear hcl22 hcc22 hfr22 hM22
   replace p22 := eq_true p22
   replace q22 := eq_true q22
   have hq29 : (a1 : Int) < (l0.length : Int) := (by have h_ : (a1 : Int) < ((l0.length : Int) : Int) := ofb; first | exact h_ | (have e_ := (Kd.S_reads' HO_0.out).1; omega) | simpa only [List.length_set, List.length_set] using h_)
   obtain ⟨oki29, ce29, hcl29, hM29, hcc29, hok29, hbk29⟩ := Kd.S_borrow HO_0.out z73 (a1 : Int) (ofb) hq29
   obtain ⟨ve29_0, rfl, ge29_0⟩ := k73_openM hM29
   have hv29 := hcc29 0 _ rfl
   rw [Nat.add_zero] at hv29
   replace hv29 := Option.some.inj (hv29.symm.trans HX228_0.out)
   subst hv29
   clear hcc29 hcl29
   replace ge29_0 := (show Kd.R k69 69 _ _ _ _ ((rd_T73 l0 a1).f0) from ge29_0)
   obtain ⟨cf29, hcl29, hN29, hcc29, hfr29⟩ := Kd.R_elem ge29_0 z69 ((ji19) : Int) (ofb) (by have h_ : ((ji19) : Int) < ((((rd_T73 l0 a1).f0).length : Int) : Int) := ofb; first | exact h_ | (have e_ := (Kd.R_reads' HR228_0.out).1; omega) | simpa using h_)
   obtain rfl := k69_openM hN29
   have HP29 := Kd.R_seg ge29_0 ((ji19) : Int) (ofb) (by have h_ : ((ji19) : Int) < ((((rd_T73 l0 a1).f0).length : Int) : Int) := ofb; first | exact h_ | (have e_ := (Kd.R_reads' HR228_0.out).1; omega) | simpa using h_) (seg := [.int .i64 2, .int .i64 0, .int .i64 0, .int .i64 0, .int .i64 0]) (j := 0) hcl29 hcc29 (show 5 ≤ 5 from by decide) (x' := (⟨2, (⟨0, 0, 0, 0⟩ : S36)⟩ : S69)) (k69_mkM _ _ _ (⟨2, (⟨0, 0, 0, 0⟩ : S36)⟩ : S69)) (fun _ hk => hk)
   clear hcl29 hcc29 hfr29 hN29
   rw [← Ny229.out] at HP29
   have HS29 := hbk29 HP29.2 (fun k_ e_ => by injection e_ with e_; subst e_; exact ge29_0.1 _ rfl) (x' := (⟨y229, (rd_T73 l0 a1).f1⟩ : S73)) (k73_mkM _ _ _ (⟨y229, (rd_T73 l0 a1).f1⟩ : S73) HP29.1)
   rw [← Ny231.out] at HS29
   have HQ29 := am HS29
   clear HP29 HS29 hbk29 hok29
   refine start_ (n := 10) (S := fun w' => w'.cell? ⟨gb227, 0, none⟩ = some (.int .i64 2) ∧ w'.cell? ⟨gb227, 1, none⟩ = some (.int .i64 0) ∧ w'.cell? ⟨gb227, 2, none⟩ = some (.int .i64 0) ∧ w'.cell? ⟨gb227, 3, none⟩ = some (.int .i64 0) ∧ w'.cell? ⟨gb227, 4, none⟩ = some (.int .i64 0) ∧ w'.cell? (ad224.add ((a1).toNat * 2)) = some (.slice (some ⟨go22, 0, none⟩) ((rd_T73 l0 a1).f0).length c228_0) ∧ w'.cell? ⟨(ad224.add ((a1).toNat * 2)).block, (ad224.add ((a1).toNat * 2)).off + 1, none⟩ = some (.int .i64 ((rd_T73 l0 a1).f1))) (ds := [9]) (bt 10 0) (by kernel_rfl) rfl rfl ⟨(blk_cell BK227.out 0).trans rfl, (blk_cell BK227.out 1).trans rfl, (blk_cell BK227.out 2).trans rfl, (blk_cell BK227.out 3).trans rfl, (blk_cell BK227.out 4).trans rfl, hx228_0, hx228_1⟩ (fun hHeld => ?_); refine with_tabW spec_l2Write.tab7 spec_l2Write.bits7 (fun HT_ HW_ => ?_)
   generalize w27.drew = w28 at HO_0 BK223 BK227 HK HB GG22 HL228_0 HQ29 HR228_0 HX228_0 hf22_0 hf22_1 hf22_2 hf22_3 hf22_4 hx228_0 hx228_1 hx22_0 hx22_1 hx22_2 hx22_3 hx22_4 hHeld ⊢
   refine qj 0 30 (bt 10 1) rfl rfl HT_.out ?_
   refine qj 1 31 (bt 10 3) rfl rfl HT_.out ?_
   refine qj 2 32 (bt 10 7) rfl rfl HT_.out ?_
   refine qj 3 33 (bt 10 15) rfl rfl HT_.out ?_
   refine qj 5 35 (bt 10 47) rfl rfl HT_.out ?_
   refine qj 6 36 (bt 10 111) rfl rfl HT_.out ?_
   refine qm 4 34 (bt 10 127) rfl rfl HT_.out HW_.out hHeld ?_
   refine qm 7 37 (bt 10 255) rfl rfl HT_.out HW_.out hHeld ?_
   refine qj 8 38 (bt 10 511) rfl rfl HT_.out ?_
   refine last_ (i := 9) (N := none) (bt 10 1023) rfl rfl (one_of HT_.out (by kernel_rfl)) (by decide) (fun K hK => ?_)
   refine qs rfl ?_
   refine hK.out _ _ ?_
   clear hK K
   refine done_ (done_of HT_.out (by kernel_rfl)) ?_
   try go_wp2
   go_ret2
   exact ⟨_, by first | rfl | (simp [errW_none, errW_some] <;> rfl) | (simp only [← hji19]; first | rfl | (simp [errW_none, errW_some] <;> rfl)) | (simp [*, errW_none, errW_some] <;> rfl), Kd.S_mono HQ29.out (fun _ hk => hk.1), bg3 HB.out GB22.out GE223.out GE227.out, kg3 HK.out HMgo22.out (.inr GW223.out) (.inr GW227.out)⟩
end Go.Proofs.Ytbhchamohldehaa.P4
