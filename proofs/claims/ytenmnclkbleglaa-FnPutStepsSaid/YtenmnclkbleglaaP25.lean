-- printed by wip/pp/pp.py
import Derived.Test.YtenmnclkbleglaaP20
import Derived.Test.YtenmnclkbleglaaP21
import Derived.Test.YtenmnclkbleglaaP22
import Derived.Test.YtenmnclkbleglaaP24
set_option maxHeartbeats 8000000
set_option maxRecDepth 100000
namespace Go.Proofs.Ytenmnclkbleglaa.P2
open Go.RowKit Go.Proofs.YtenmnclkbleglaaW.PrintWords Go.Proofs.YtenmnclkbleglaaW.PrintLast Go.Proofs.YtenmnclkbleglaaW.PrintMore
attribute [local go_sem] max2_int min2_int max_two min_two max_three min_three max_four min_four
set_option linter.unusedVariables false
set_option linter.unusedSimpArgs false
attribute [local go_sem high] eqA32
def spec_l3Old.l0 : Nat → List (S42) → Int → Int → Option (Int)
 | 0, _, _, _ => none
 | k + 1, x0, x3, x4 => if x4 < (x0.length : Int) then (if 0 ≤ x4 then ((spec_l3Most.f k ((rd_T42 x0 x4).f0) ((rd_T42 x0 x4).f1)).bind fun t176 => (if 0 ≤ x3 then (if x3 < (x0.length : Int) then ((spec_l3Most.f k ((rd_T42 x0 x3).f0) ((rd_T42 x0 x3).f1)).bind fun t178 => (if t176 < t178 then (spec_l3Old.l0 k x0 x4 (wrap64 (x4 + 1))) else (spec_l3Old.l0 k x0 x3 (wrap64 (x4 + 1))))) else (none)) else (none))) else (none)) else (some x3)
def spec_l3Old.f (k : Nat) (l0 : List (S42)) : Option (Int) := spec_l3Old.l0 k l0 0 1
def spec_l3Old.T5 : Bool × List (List Nat × List Nat) := (true, [([], []), ([], []), ([0, 1], [0, 1]), ([2], [2]), ([3], [3]), ([], []), ([], []), ([5, 6], [5, 6]), ([7], [7]), ([8, 4], [8]), ([4, 9], [4, 9])])
def spec_l3Old.B5 : List Nat := [0, 0, 3, 7, 15, 0, 0, 96, 224, 511, 1023]
theorem spec_l3Old.tab5 : rtab .any (opsOf Try.f54 5) = spec_l3Old.T5 := by kernel_rfl
theorem spec_l3Old.bits5 : waitsOk spec_l3Old.T5.2 spec_l3Old.B5 = true := by kernel_rfl
theorem spec_l3Old.calls (k : Nat) (A0 : Option Addr) (c0 : Nat) (l0 : List (S42)) (r : Int) (w : World) (hr0 : Kd.C k42 w A0 l0.length l0) (hc0 : l0.length ≤ c0) (h : spec_l3Old.f k l0 = some r) :
 Calls Try.prog 54 #[.slice A0 l0.length c0] w fun e w' => e = .returned (.int .i64 r) ∧ Below w.heap.size w w' := by
 have hu42 := Try.underlying42
 have HR0 := am hr0
 have HC0 := am hc0
 clear hr0 hc0
 have HB := am (Below.refl w.heap.size w)
 have H : (spec_l3Old.l0 k l0 0 1) = some r := h
 clear h
 have H' := am H
 clear H
 go_enter Try.func54, Try.ntmps54
 go_wp2
 go_loopg [3, 4] k (fun kq v3 v4 w' => ∃ (x3_1 : Int) (x4_1 : Int), v3 = .int .i64 x3_1 ∧ v4 = .int .i64 x4_1 ∧ Aside0 (spec_l3Old.l0 kq l0 x3_1 x4_1 = some r) ∧ Aside0 (kq ≤ k) ∧ Aside0 (Below w.heap.size w w'))
 case atStart => exact ⟨(0), (1), rf, rf, H', ⟨Nat.le_refl _⟩, ⟨ph HB.out⟩⟩
 case round =>
  clear H'
  obtain ⟨x3_1, x4_1, rfl, rfl, HA, HK1, HB⟩ := hrel
  cases gk with
  | zero => exact absurd HA.out (by simp [spec_l3Old.l0])
  | succ k1 =>
   have H := HA.out
   clear HA
   simp only [spec_l3Old.l0] at H
   by_cases c2 : x4_1 < (l0.length : Int)
   rotate_left
   · rw [if_neg c2] at H
     have c2b0 := decide_eq_false c2
     clear c2
     obtain rfl := Option.some.inj H
     go_wp2
     go_ret
     exact (rq (ph HB.out))
   rw [if_pos c2] at H
   have c2b0 := decide_eq_true c2
   clear c2
   obtain ⟨c3b0, H⟩ := ifd H
   replace H := Option.bind_eq_some_iff.mp H
   obtain ⟨t176, A40, H⟩ := H
   have A4 := am A40
   clear A40
   obtain ⟨c5b0, H⟩ := ifd H
   obtain ⟨c6b0, H⟩ := ifd H
   replace H := Option.bind_eq_some_iff.mp H
   obtain ⟨t178, A70, H⟩ := H
   have A7 := am A70
   clear A70
   by_cases c8 : t176 < t178
   · rw [if_pos c8] at H
     have c8b0 := decide_eq_true c8
     clear c8
     have H' := am H
     clear H
     try go_wp2
     replace HB := am (below_drew1 HB.out)
     have p175 : 0 ≤ (x4_1 : Int) := ofb
     have q175 : x4_1 < (l0.length : Int) := ofb
     obtain ⟨ad175, A175_0, c175_0, e175, hx175_0, hx175_1, hl175_0, hi175_0⟩ := at_T42 HR0.out x4_1 p175 q175
     have hw175_1 := hx175_1
     have hw175_0 := hx175_0
     cases e175
     replace hx175_0 := up HB.out hx175_0
     replace hx175_1 := up HB.out hx175_1
     have HR175_0 := am hi175_0
     have HC175_0 := am hl175_0
     clear hi175_0 hl175_0
     replace p175 := eq_true p175
     replace q175 := eq_true q175
     have p177 : 0 ≤ (x3_1 : Int) := ofb
     have q177 : x3_1 < (l0.length : Int) := ofb
     obtain ⟨ad177, A177_0, c177_0, e177, hx177_0, hx177_1, hl177_0, hi177_0⟩ := at_T42 HR0.out x3_1 p177 q177
     have hw177_1 := hx177_1
     have hw177_0 := hx177_0
     obtain rfl : ad175 = ad177 := (by injection e177)
     replace hx177_0 := up HB.out hx177_0
     replace hx177_1 := up HB.out hx177_1
     have HR177_0 := am hi177_0
     have HC177_0 := am hl177_0
     clear hi177_0 hl177_0
     replace p177 := eq_true p177
     replace q177 := eq_true q177
     refine start_ (n := 11) (S := fun w' => w'.cell? (ad175.add ((x4_1).toNat * 2)) = some (.slice A175_0 ((rd_T42 l0 x4_1).f0).length c175_0) ∧ w'.cell? ⟨(ad175.add ((x4_1).toNat * 2)).block, (ad175.add ((x4_1).toNat * 2)).off + 1, none⟩ = some (.int .i64 ((rd_T42 l0 x4_1).f1)) ∧ w'.cell? (ad175.add ((x3_1).toNat * 2)) = some (.slice A177_0 ((rd_T42 l0 x3_1).f0).length c177_0) ∧ w'.cell? ⟨(ad175.add ((x3_1).toNat * 2)).block, (ad175.add ((x3_1).toNat * 2)).off + 1, none⟩ = some (.int .i64 ((rd_T42 l0 x3_1).f1))) (ds := []) (bt 11 0) (by kernel_rfl) rfl rfl ⟨((HB.out.cell (World.block_lt_of_cell? w _ hw175_0)).trans hw175_0), ((HB.out.cell (World.block_lt_of_cell? w _ hw175_1)).trans hw175_1), ((HB.out.cell (World.block_lt_of_cell? w _ hw177_0)).trans hw177_0), ((HB.out.cell (World.block_lt_of_cell? w _ hw177_1)).trans hw177_1)⟩ (fun hHeld => ?_); refine with_tabW spec_l3Old.tab5 spec_l3Old.bits5 (fun HT_ HW_ => ?_)
     generalize wr.drew = w9 at HB HR175_0 HR177_0 hx175_0 hx175_1 hx177_0 hx177_1 hHeld ⊢
     refine qj 0 11 (bt 11 1) rfl rfl HT_.out ?_
     refine qj 1 12 (bt 11 3) rfl rfl HT_.out ?_
     refine qj 2 13 (bt 11 7) rfl rfl HT_.out ?_
     refine qj 5 16 (bt 11 39) rfl rfl HT_.out ?_
     refine qj 6 17 (bt 11 103) rfl rfl HT_.out ?_
     refine qj 7 18 (bt 11 231) rfl rfl HT_.out ?_
     refine qm 3 14 (bt 11 239) rfl rfl HT_.out HW_.out hHeld ?_
     refine qm 8 19 (bt 11 495) rfl rfl HT_.out HW_.out hHeld ?_
     refine qo 4 (some 15) (bt 11 511) rfl rfl HT_.out fun K hK => ?_
     refine qg Try.func52 #[.agg #[.slice A175_0 ((rd_T42 l0 x4_1).f0).length c175_0, .int .i64 ((rd_T42 l0 x4_1).f1)]] rfl rfl ?_
     with_reducible refine (spec_l3Most.calls k1 _ _ ((rd_T42 l0 x4_1).f0) ((rd_T42 l0 x4_1).f1) t176 _ ?side1 ?side2 A4.out).mono ?_
     (case side1 => exact pc (Kd.C_below HR175_0.out HB.out))
     (case side2 => exact HC175_0.out)
     rintro e w10 ⟨rfl, hb⟩
     refine ⟨_, rfl, ?_⟩
     replace HB := am (below_step (ph HB.out) hb)
     clear hb
     refine hK.out _ _ ⟨((HB.out.cell (World.block_lt_of_cell? w _ hw175_0)).trans hw175_0), ((HB.out.cell (World.block_lt_of_cell? w _ hw175_1)).trans hw175_1), ((HB.out.cell (World.block_lt_of_cell? w _ hw177_0)).trans hw177_0), ((HB.out.cell (World.block_lt_of_cell? w _ hw177_1)).trans hw177_1)⟩ (fun hHeld => ?_)
     clear hK K
     refine qn (some 15) ?_
     refine qo 9 (some 20) (bt 11 1023) rfl rfl HT_.out fun K hK => ?_
     refine qg Try.func52 #[.agg #[.slice A177_0 ((rd_T42 l0 x3_1).f0).length c177_0, .int .i64 ((rd_T42 l0 x3_1).f1)]] rfl rfl ?_
     with_reducible refine (spec_l3Most.calls k1 _ _ ((rd_T42 l0 x3_1).f0) ((rd_T42 l0 x3_1).f1) t178 _ ?side1 ?side2 A7.out).mono ?_
     (case side1 => exact pc (Kd.C_below HR177_0.out HB.out))
     (case side2 => exact HC177_0.out)
     rintro e w11 ⟨rfl, hb⟩
     refine ⟨_, rfl, ?_⟩
     replace HB := am (below_step (ph HB.out) hb)
     clear hb
     refine hK.out _ _ ⟨((HB.out.cell (World.block_lt_of_cell? w _ hw175_0)).trans hw175_0), ((HB.out.cell (World.block_lt_of_cell? w _ hw175_1)).trans hw175_1), ((HB.out.cell (World.block_lt_of_cell? w _ hw177_0)).trans hw177_0), ((HB.out.cell (World.block_lt_of_cell? w _ hw177_1)).trans hw177_1)⟩ (fun hHeld => ?_)
     clear hK K
     refine qn (some 20) ?_
     refine qj 10 21 (bt 11 2047) rfl rfl HT_.out ?_
     refine done_ (done_of HT_.out (by kernel_rfl)) ?_
     try go_wp2
     go_roundg k1
     case measure => have := HK1.out; omega
     case rel => exact ⟨(x4_1), (wrap64 (x4_1 + 1)), rf, rf, H', ⟨by have := HK1.out; omega⟩, ⟨ph HB.out⟩⟩
   rw [if_neg c8] at H
   have c8b0 := decide_eq_false c8
   clear c8
   have H' := am H
   clear H
   try go_wp2
   replace HB := am (below_drew1 HB.out)
   have p175 : 0 ≤ (x4_1 : Int) := ofb
   have q175 : x4_1 < (l0.length : Int) := ofb
   obtain ⟨ad175, A175_0, c175_0, e175, hx175_0, hx175_1, hl175_0, hi175_0⟩ := at_T42 HR0.out x4_1 p175 q175
   have hw175_1 := hx175_1
   have hw175_0 := hx175_0
   cases e175
   replace hx175_0 := up HB.out hx175_0
   replace hx175_1 := up HB.out hx175_1
   have HR175_0 := am hi175_0
   have HC175_0 := am hl175_0
   clear hi175_0 hl175_0
   replace p175 := eq_true p175
   replace q175 := eq_true q175
   have p177 : 0 ≤ (x3_1 : Int) := ofb
   have q177 : x3_1 < (l0.length : Int) := ofb
   obtain ⟨ad177, A177_0, c177_0, e177, hx177_0, hx177_1, hl177_0, hi177_0⟩ := at_T42 HR0.out x3_1 p177 q177
   have hw177_1 := hx177_1
   have hw177_0 := hx177_0
   obtain rfl : ad175 = ad177 := (by injection e177)
   replace hx177_0 := up HB.out hx177_0
   replace hx177_1 := up HB.out hx177_1
   have HR177_0 := am hi177_0
   have HC177_0 := am hl177_0
   clear hi177_0 hl177_0
   replace p177 := eq_true p177
   replace q177 := eq_true q177
   refine start_ (n := 11) (S := fun w' => w'.cell? (ad175.add ((x4_1).toNat * 2)) = some (.slice A175_0 ((rd_T42 l0 x4_1).f0).length c175_0) ∧ w'.cell? ⟨(ad175.add ((x4_1).toNat * 2)).block, (ad175.add ((x4_1).toNat * 2)).off + 1, none⟩ = some (.int .i64 ((rd_T42 l0 x4_1).f1)) ∧ w'.cell? (ad175.add ((x3_1).toNat * 2)) = some (.slice A177_0 ((rd_T42 l0 x3_1).f0).length c177_0) ∧ w'.cell? ⟨(ad175.add ((x3_1).toNat * 2)).block, (ad175.add ((x3_1).toNat * 2)).off + 1, none⟩ = some (.int .i64 ((rd_T42 l0 x3_1).f1))) (ds := []) (bt 11 0) (by kernel_rfl) rfl rfl ⟨((HB.out.cell (World.block_lt_of_cell? w _ hw175_0)).trans hw175_0), ((HB.out.cell (World.block_lt_of_cell? w _ hw175_1)).trans hw175_1), ((HB.out.cell (World.block_lt_of_cell? w _ hw177_0)).trans hw177_0), ((HB.out.cell (World.block_lt_of_cell? w _ hw177_1)).trans hw177_1)⟩ (fun hHeld => ?_); refine with_tabW spec_l3Old.tab5 spec_l3Old.bits5 (fun HT_ HW_ => ?_)
   generalize wr.drew = w12 at HB HR175_0 HR177_0 hx175_0 hx175_1 hx177_0 hx177_1 hHeld ⊢
   refine qj 0 11 (bt 11 1) rfl rfl HT_.out ?_
   refine qj 1 12 (bt 11 3) rfl rfl HT_.out ?_
   refine qj 2 13 (bt 11 7) rfl rfl HT_.out ?_
   refine qj 5 16 (bt 11 39) rfl rfl HT_.out ?_
   refine qj 6 17 (bt 11 103) rfl rfl HT_.out ?_
   refine qj 7 18 (bt 11 231) rfl rfl HT_.out ?_
   refine qm 3 14 (bt 11 239) rfl rfl HT_.out HW_.out hHeld ?_
   refine qm 8 19 (bt 11 495) rfl rfl HT_.out HW_.out hHeld ?_
   refine qo 4 (some 15) (bt 11 511) rfl rfl HT_.out fun K hK => ?_
   refine qg Try.func52 #[.agg #[.slice A175_0 ((rd_T42 l0 x4_1).f0).length c175_0, .int .i64 ((rd_T42 l0 x4_1).f1)]] rfl rfl ?_
   with_reducible refine (spec_l3Most.calls k1 _ _ ((rd_T42 l0 x4_1).f0) ((rd_T42 l0 x4_1).f1) t176 _ ?side1 ?side2 A4.out).mono ?_
   (case side1 => exact pc (Kd.C_below HR175_0.out HB.out))
   (case side2 => exact HC175_0.out)
   rintro e w13 ⟨rfl, hb⟩
   refine ⟨_, rfl, ?_⟩
   replace HB := am (below_step (ph HB.out) hb)
   clear hb
   refine hK.out _ _ ⟨((HB.out.cell (World.block_lt_of_cell? w _ hw175_0)).trans hw175_0), ((HB.out.cell (World.block_lt_of_cell? w _ hw175_1)).trans hw175_1), ((HB.out.cell (World.block_lt_of_cell? w _ hw177_0)).trans hw177_0), ((HB.out.cell (World.block_lt_of_cell? w _ hw177_1)).trans hw177_1)⟩ (fun hHeld => ?_)
   clear hK K
   refine qn (some 15) ?_
   refine qo 9 (some 20) (bt 11 1023) rfl rfl HT_.out fun K hK => ?_
   refine qg Try.func52 #[.agg #[.slice A177_0 ((rd_T42 l0 x3_1).f0).length c177_0, .int .i64 ((rd_T42 l0 x3_1).f1)]] rfl rfl ?_
   with_reducible refine (spec_l3Most.calls k1 _ _ ((rd_T42 l0 x3_1).f0) ((rd_T42 l0 x3_1).f1) t178 _ ?side1 ?side2 A7.out).mono ?_
   (case side1 => exact pc (Kd.C_below HR177_0.out HB.out))
   (case side2 => exact HC177_0.out)
   rintro e w14 ⟨rfl, hb⟩
   refine ⟨_, rfl, ?_⟩
   replace HB := am (below_step (ph HB.out) hb)
   clear hb
   refine hK.out _ _ ⟨((HB.out.cell (World.block_lt_of_cell? w _ hw175_0)).trans hw175_0), ((HB.out.cell (World.block_lt_of_cell? w _ hw175_1)).trans hw175_1), ((HB.out.cell (World.block_lt_of_cell? w _ hw177_0)).trans hw177_0), ((HB.out.cell (World.block_lt_of_cell? w _ hw177_1)).trans hw177_1)⟩ (fun hHeld => ?_)
   clear hK K
   refine qn (some 20) ?_
   refine qj 10 21 (bt 11 2047) rfl rfl HT_.out ?_
   refine done_ (done_of HT_.out (by kernel_rfl)) ?_
   try go_wp2
   go_roundg k1
   case measure => have := HK1.out; omega
   case rel => exact ⟨(x3_1), (wrap64 (x4_1 + 1)), rf, rf, H', ⟨by have := HK1.out; omega⟩, ⟨ph HB.out⟩⟩
def spec_l3Live.f (k : Nat) (l0 : List (S42)) (a1_0 : Int) (a1_1 : Int) (a1_2 : Int) (a1_3 : Int) (a1_4 : Int) : Option (Bool) := if a1_0 = 1 then ((spec_l3Last.f k l0 a1_3).bind fun bt180 => (some (bt180.1 == a1_1 && (bt180.2.1 == a1_2 && (bt180.2.2.1 == a1_3 && (bt180.2.2.2.1 == a1_4)))))) else (some false)
theorem spec_l3Live.calls (k : Nat) (A0 : Option Addr) (c0 : Nat) (l0 : List (S42)) (a1_0 : Int) (a1_1 : Int) (a1_2 : Int) (a1_3 : Int) (a1_4 : Int) (r : Bool) (w : World) (hr0 : Kd.C k42 w A0 l0.length l0) (hc0 : l0.length ≤ c0) (h : spec_l3Live.f k l0 a1_0 a1_1 a1_2 a1_3 a1_4 = some r) :
 Calls Try.prog 55 #[.slice A0 l0.length c0, .agg #[.int .i64 a1_0, .int .i64 a1_1, .int .i64 a1_2, .int .i64 a1_3, .int .i64 a1_4]] w fun e w' => e = .returned (.bool r) ∧ Below w.heap.size w w' := by
 have hu39 := Try.underlying39
 have hu32 := Try.underlying32
 have HR0 := am hr0
 have HC0 := am hc0
 clear hr0 hc0
 have HB := am (Below.refl w.heap.size w)
 have H : (if a1_0 = 1 then ((spec_l3Last.f k l0 a1_3).bind fun bt180 => (some (bt180.1 == a1_1 && (bt180.2.1 == a1_2 && (bt180.2.2.1 == a1_3 && (bt180.2.2.2.1 == a1_4)))))) else (some false)) = some r := h
 clear h
 by_cases c3 : a1_0 = 1
 rotate_left
 · rw [if_neg c3] at H
   have c3b0 : (a1_0 == 1) = false := beq_eq_false_iff_ne.mpr c3
   have c3b1 : (a1_0 != 1) = true := bne_iff_ne.mpr c3
   obtain rfl := Option.some.inj H
   go_enter Try.func55, Try.ntmps55
   go_wp2_with (first | (refine bx 3 #[.int .i64 a1_0, .int .i64 a1_1, .int .i64 a1_2, .int .i64 a1_3, .int .i64 a1_4] 39 rfl ?_; intro gb179 hg w12 hbox hb; have BK179 := am (hbox); have GW179 := am (ge hg (ph HB.out)); have GE179 := GW179; replace HB := am (below_step (ph HB.out) hb); clear hb hbox hg; obtain ⟨hcz13_0, hcz13_1, hcz13_2, hcz13_3, hcz13_4⟩ := b5 BK179.out; obtain ⟨hfz13_0, hfz13_1, hfz13_2, hfz13_3, hfz13_4⟩ := f5 BK179.out))
   go_ret
   exact (rq (bg1 HB.out GE179.out))
 rw [if_pos c3] at H
 have c3b0 : (a1_0 == 1) = true := beq_iff_eq.mpr c3
 have c3b1 : (a1_0 != 1) = false := bne_eq_false_iff_eq.mpr c3
 clear c3
 replace H := Option.bind_eq_some_iff.mp H
 obtain ⟨⟨t180, t181, t182, t183, t184⟩, A40, H⟩ := H
 have A4 := am A40
 clear A40
 obtain rfl := Option.some.inj H
 go_enter Try.func55, Try.ntmps55
 go_wp2_with (first | (refine bx 3 #[.int .i64 a1_0, .int .i64 a1_1, .int .i64 a1_2, .int .i64 a1_3, .int .i64 a1_4] 39 rfl ?_; intro gb179 hg w5 hbox hb; have BK179 := am (hbox); have GW179 := am (ge hg (ph HB.out)); have GE179 := GW179; replace HB := am (below_step (ph HB.out) hb); clear hb hbox hg; obtain ⟨hcz6_0, hcz6_1, hcz6_2, hcz6_3, hcz6_4⟩ := b5 BK179.out; obtain ⟨hfz6_0, hfz6_1, hfz6_2, hfz6_3, hfz6_4⟩ := f5 BK179.out) | (refine gl 15 Try.func35 #[.slice A0 l0.length c0, .int .i64 a1_3] rfl ?_; (with_reducible refine (spec_l3Last.calls k _ _ l0 a1_3 t180 t181 t182 t183 t184 _ ?side1 ?side2 A4.out).mono ?_); (case side1 => exact pc (Kd.C_below HR0.out HB.out)); (case side2 => exact HC0.out); rintro e w7 ⟨rfl, hb⟩; refine ⟨_, rfl, ?_⟩; replace BK179 := am (blk_below (pb BK179.out) hb); replace HB := am (below_step (bg1 HB.out GE179.out) hb); clear hb) | (refine bx 5 #[.int .i64 0, .int .i64 0, .int .i64 0, .int .i64 0] 32 rfl ?_; intro gb185 hg w8 hbox hb; have BK185 := am (hbox); have GW185 := am (ge hg (bg1 HB.out GE179.out)); have GE185 := GW185; replace HB := am (below_step (bg1 HB.out GE179.out) hb); have NB179_185 := am (nb hg (pb BK179.out)); have NB185_179 := am (Ne.symm NB179_185.out); replace BK179 := am (blk_below (pb BK179.out) hb); clear hb hbox hg; have hnb9 := NB185_179.out; have hnc9 := NB179_185.out; obtain ⟨hcz10_0, hcz10_1, hcz10_2, hcz10_3⟩ := b4 BK185.out; obtain ⟨hfz10_0, hfz10_1, hfz10_2, hfz10_3⟩ := f4 BK185.out; obtain ⟨hcz11_0, hcz11_1, hcz11_2, hcz11_3, hcz11_4⟩ := b5 BK179.out; obtain ⟨hfz11_0, hfz11_1, hfz11_2, hfz11_3, hfz11_4⟩ := f5 BK179.out))
 go_ret
 exact (rq (bg2 HB.out GE179.out GE185.out))
end Go.Proofs.Ytenmnclkbleglaa.P2
namespace Go.Proofs.Ytenmnclkbleglaa.P2
open Go.RowKit Go.Proofs.YtenmnclkbleglaaW.PrintWords Go.Proofs.YtenmnclkbleglaaW.PrintLast Go.Proofs.YtenmnclkbleglaaW.PrintMore
attribute [local go_sem] max2_int min2_int max_two min_two max_three min_three max_four min_four
set_option linter.unusedVariables false
set_option linter.unusedSimpArgs false
def spec_l12Room.l0 : Nat → List (S34) → Int → Int → List (S42) → List Int → Option ((List (S34)) × Int × Bool)
 | 0, _, _, _, _, _ => none
 | k + 1, x5, x8, x9, x187000, x187001 => if x9 < 4 then (if 0 ≤ x8 then (if x8 < (x187000.length : Int) then (if 0 ≤ x9 then (if x9 < (((rd_T42 x187000 x8).f0).length : Int) then ((spec_l3Live.f k x187000 ((rd_T39 ((rd_T42 x187000 x8).f0) x9).f0) ((rd_T39 ((rd_T42 x187000 x8).f0) x9).f1.f0) ((rd_T39 ((rd_T42 x187000 x8).f0) x9).f1.f1) ((rd_T39 ((rd_T42 x187000 x8).f0) x9).f1.f2) ((rd_T39 ((rd_T42 x187000 x8).f0) x9).f1.f3)).bind fun t196 => (if t196 = true then (if ((rd_T39 ((rd_T42 x187000 x8).f0) x9).f1.f0) = 1 then (if x5.length < 2199023255552 then (spec_l12Room.l0 k (x5 ++ [(⟨1, (rd_T39 ((rd_T42 x187000 x8).f0) x9).f1.f2, (rd_T39 ((rd_T42 x187000 x8).f0) x9).f1.f3, 0, (⟨0, 0, 0, 0⟩ : S32)⟩ : S34)]) x8 (wrap64 (x9 + 1)) x187000 x187001) else (none)) else (spec_l12Room.l0 k x5 x8 (wrap64 (x9 + 1)) x187000 x187001)) else (spec_l12Room.l0 k x5 x8 (wrap64 (x9 + 1)) x187000 x187001))) else (none)) else (none)) else (none)) else (none)) else (if x5.length < 2199023255552 then (if 0 ≤ x8 then (if x8 < (x187000.length : Int) then (some ((x5 ++ [(⟨2, 0, 0, x8, (⟨0, 0, 0, 0⟩ : S32)⟩ : S34)]), x8, decide (((rd_T42 x187000 x8).f1) < 200))) else (none)) else (none)) else (none))
def spec_l12Room.f (k : Nat) (l0_0 : List (S42)) (l0_1 : List Int) : Option ((List (S34)) × Int × Bool) := (some (([] : List (S34)) : List (S34))).bind fun y187 => ((spec_l3Open.f k l0_0).bind fun bt190 => (if bt190.2 = true then (some (y187, bt190.1, true)) else ((spec_l3Old.f k l0_0).bind fun t192 => (spec_l12Room.l0 k y187 t192 0 l0_0 l0_1))))
def spec_l12Room.T12 : Bool × List (List Nat × List Nat) := (true, [([], []), ([], []), ([1], [1]), ([2], [2]), ([0, 3], [0, 3]), ([], []), ([], []), ([6], [6]), ([], []), ([7, 8], [7, 8]), ([9], [9]), ([10], [10]), ([11], [11]), ([4, 4, 0, 1, 2, 3, 4], [4]), ([5, 13, 0, 1, 2, 3, 4, 5, 13], [5]), ([12, 14, 0, 1, 2, 3, 4, 5, 6, 7, 8, 9, 10, 11, 12, 13, 14], [12])])
def spec_l12Room.B12 : List Nat := [0, 0, 2, 6, 15, 0, 0, 64, 0, 448, 960, 1984, 4032, 31, 8255, 32767]
theorem spec_l12Room.tab12 : rtab .any (opsOf Try.f38 12) = spec_l12Room.T12 := by kernel_rfl
theorem spec_l12Room.bits12 : waitsOk spec_l12Room.T12.2 spec_l12Room.B12 = true := by kernel_rfl
theorem spec_l12Room.calls (k : Nat) (A0_0 : Option Addr) (c0_0 : Nat) (l0_0 : List (S42)) (A0_1 : Option Addr) (c0_1 : Nat) (l0_1 : List Int) (r1 : List (S34)) (r2 : Int) (r3 : Bool) (w : World) (hr0_0 : Kd.C k42 w A0_0 l0_0.length l0_0) (hc0_0 : l0_0.length ≤ c0_0) (hr0_1 : Kd.C (Kd.int .i64) w A0_1 l0_1.length l0_1) (hc0_1 : l0_1.length ≤ c0_1) (h : spec_l12Room.f k l0_0 l0_1 = some (r1, r2, r3)) :
 Calls Try.prog 38 #[.agg #[.slice A0_0 l0_0.length c0_0, .slice A0_1 l0_1.length c0_1]] w fun e w' => ∃ v0_ : Value, e = .returned (.tuple #[v0_, .int .i64 r2, .bool r3]) ∧ Kd.R k34 34 w' w.heap.size (fun _ => True) v0_ r1 ∧ Below w.heap.size w w' := by
 have hu26 := Try.underlying26
 have hu39 := Try.underlying39
 have hu34 := Try.underlying34
 have HR0_0 := am hr0_0
 have HC0_0 := am hc0_0
 clear hr0_0 hc0_0
 have HR0_1 := am hr0_1
 have HC0_1 := am hc0_1
 clear hr0_1 hc0_1
 have HB := am (Below.refl w.heap.size w)
 have H : ((some (([] : List (S34)) : List (S34))).bind fun y187 => ((spec_l3Open.f k l0_0).bind fun bt190 => (if bt190.2 = true then (some (y187, bt190.1, true)) else ((spec_l3Old.f k l0_0).bind fun t192 => (spec_l12Room.l0 k y187 t192 0 l0_0 l0_1))))) = some (r1, r2, r3) := h
 clear h
 obtain ⟨y187, hy187⟩ : ∃ y_ : List (S34), y_ = (([] : List (S34))) := ⟨_, rfl⟩
 replace H : ((spec_l3Open.f k l0_0).bind fun bt190 => (if bt190.2 = true then (some (y187, bt190.1, true)) else ((spec_l3Old.f k l0_0).bind fun t192 => (spec_l12Room.l0 k y187 t192 0 l0_0 l0_1)))) = some (r1, r2, r3) := yy hy187 H
 have Ny187 := am hy187
 clear hy187
 replace H := Option.bind_eq_some_iff.mp H
 obtain ⟨⟨t190, t191⟩, A20, H⟩ := H
 have A2 := am A20
 clear A20
 by_cases c3 : t191 = true
 · subst c3
   rw [if_pos rfl] at H
   simp only [Option.some.injEq, Prod.mk.injEq] at H
   obtain ⟨rfl, rfl, rfl⟩ := H
   go_enter Try.func38, Try.ntmps38
   go_wp2_with (first | (refine bx 1 #[.slice A0_0 l0_0.length c0_0, .slice A0_1 l0_1.length c0_1] 26 rfl ?_; intro gb186 hg w4 hbox hb; have BK186 := am (hbox); have GW186 := am (ge hg (ph HB.out)); have GE186 := GW186; replace HB := am (below_step (ph HB.out) hb); clear hb hbox hg) | ((with_reducible refine gate_dst (N := 11) rfl ?_); refine Kd.R_lit k34 _ 34 ?hg (N := 11) ?hd (xs := ([] : List (S34))) (inner := []) (ok := fun _ => True) (okp := fun _ => True) ?hr ?hp (fun _ hk => hk) trivial (Below.refl _ _) (Nat.le_refl _) (by simp) ?_; (case hd => rfl); (case hg => rfl); (case hr => first | (go_simp; done) | (go_simp; rfl)); (case hp => exact (Reps.none _ _)); intro v188 w5 ho6 hb hg_ hnew_; clear hg_ hnew_; (first | rw [← Ny187.out] at ho6 | (simp only [Int.reduceToNat] at ho6; rw [← Ny187.out] at ho6)); have HO189 := am (Kd.R_lower ho6 (below_size (bg1 HB.out GE186.out))); replace BK186 := am (blk_below (pb BK186.out) hb); replace HB := am (below_step (bg1 HB.out GE186.out) hb); clear hb ho6; obtain ⟨hcz7_0, hcz7_1⟩ := b2 BK186.out; obtain ⟨hfz7_0, hfz7_1⟩ := f2 BK186.out) | (refine gl 15 Try.func26 #[.slice A0_0 l0_0.length c0_0] rfl ?_; (with_reducible refine (spec_l3Open.calls k _ _ l0_0 t190 true _ ?side1 ?side2 A2.out).mono ?_); (case side1 => exact pc (Kd.C_below HR0_0.out HB.out)); (case side2 => exact HC0_0.out); rintro e w8 ⟨rfl, hb⟩; refine ⟨_, rfl, ?_⟩; replace HO189 := am (Kd.R_below (pr HO189.out) hb); replace BK186 := am (blk_below (pb BK186.out) hb); replace HB := am (below_step (bg1 HB.out GE186.out) hb); clear hb))
   go_ret3
   exact ⟨_, rq ⟨pr HO189.out, bg1 HB.out GE186.out⟩⟩
 replace c3 := Bool.eq_false_iff.mpr c3
 subst c3
 rw [if_neg (show ¬ (false = true) by decide)] at H
 replace H := Option.bind_eq_some_iff.mp H
 obtain ⟨t192, A90, H⟩ := H
 have A9 := am A90
 clear A90
 have H' := am H
 clear H
 go_enter Try.func38, Try.ntmps38
 go_wp2_with (first | (refine bx 1 #[.slice A0_0 l0_0.length c0_0, .slice A0_1 l0_1.length c0_1] 26 rfl ?_; intro gb186 hg w10 hbox hb; have BK186 := am (hbox); have GW186 := am (ge hg (ph HB.out)); have GE186 := GW186; replace HB := am (below_step (ph HB.out) hb); clear hb hbox hg) | ((with_reducible refine gate_dst (N := 11) rfl ?_); refine Kd.R_lit k34 _ 34 ?hg (N := 11) ?hd (xs := ([] : List (S34))) (inner := []) (ok := fun _ => True) (okp := fun _ => True) ?hr ?hp (fun _ hk => hk) trivial (Below.refl _ _) (Nat.le_refl _) (by simp) ?_; (case hd => rfl); (case hg => rfl); (case hr => first | (go_simp; done) | (go_simp; rfl)); (case hp => exact (Reps.none _ _)); intro v188 w11 ho12 hb hg_ hnew_; clear hg_ hnew_; (first | rw [← Ny187.out] at ho12 | (simp only [Int.reduceToNat] at ho12; rw [← Ny187.out] at ho12)); have HO189 := am (Kd.R_lower ho12 (below_size (bg1 HB.out GE186.out))); replace BK186 := am (blk_below (pb BK186.out) hb); replace HB := am (below_step (bg1 HB.out GE186.out) hb); clear hb ho12; obtain ⟨hcz13_0, hcz13_1⟩ := b2 BK186.out; obtain ⟨hfz13_0, hfz13_1⟩ := f2 BK186.out) | (refine gl 15 Try.func26 #[.slice A0_0 l0_0.length c0_0] rfl ?_; (with_reducible refine (spec_l3Open.calls k _ _ l0_0 t190 false _ ?side1 ?side2 A2.out).mono ?_); (case side1 => exact pc (Kd.C_below HR0_0.out HB.out)); (case side2 => exact HC0_0.out); rintro e w14 ⟨rfl, hb⟩; refine ⟨_, rfl, ?_⟩; replace HO189 := am (Kd.R_below (pr HO189.out) hb); replace BK186 := am (blk_below (pb BK186.out) hb); replace HB := am (below_step (bg1 HB.out GE186.out) hb); clear hb; obtain ⟨hcz15_0, hcz15_1⟩ := b2 BK186.out; obtain ⟨hfz15_0, hfz15_1⟩ := f2 BK186.out) | (refine gl 23 Try.func54 #[.slice A0_0 l0_0.length c0_0] rfl ?_; (with_reducible refine (spec_l3Old.calls k _ _ l0_0 t192 _ ?side1 ?side2 A9.out).mono ?_); (case side1 => exact pc (Kd.C_below HR0_0.out HB.out)); (case side2 => exact HC0_0.out); rintro e w16 ⟨rfl, hb⟩; refine ⟨_, rfl, ?_⟩; replace HO189 := am (Kd.R_below (pr HO189.out) hb); replace BK186 := am (blk_below (pb BK186.out) hb); replace HB := am (below_step (bg1 HB.out GE186.out) hb); clear hb))
 go_loopg [5, 9] k (fun kq v5 v9 w' => ∃ (x5_1 : List (S34)) (x9_1 : Int), v9 = .int .i64 x9_1 ∧ Aside0 (spec_l12Room.l0 kq x5_1 t192 x9_1 l0_0 l0_1 = some (r1, r2, r3)) ∧ Aside0 (kq ≤ k) ∧ Aside0 (Kd.R k34 34 w' w.heap.size (fun _ => True) v5 x5_1) ∧ Aside0 (w'.heap[gb186]? = some (.cells #[(.slice A0_0 l0_0.length c0_0), (.slice A0_1 l0_1.length c0_1)] 26 (0, 0))) ∧ Aside0 (Below w.heap.size w w'))
 case atStart => exact ⟨(y187), (0), rf, H', ⟨Nat.le_refl _⟩, ⟨pr HO189.out⟩, ⟨pb BK186.out⟩, ⟨bg1 HB.out GE186.out⟩⟩
 case round =>
  clear H'
  obtain ⟨x5_1, x9_1, rfl, HA, HK1, HO_5, BK186, HB⟩ := hrel
  cases gk with
  | zero => exact absurd HA.out (by simp [spec_l12Room.l0])
  | succ k1 =>
   have H := HA.out
   clear HA
   simp only [spec_l12Room.l0] at H
   by_cases c17 : x9_1 < 4
   rotate_left
   · rw [if_neg c17] at H
     have c17b0 := decide_eq_false c17
     clear c17
     by_cases c47 : x5_1.length < 2199023255552
     rotate_left
     · rw [if_neg c47] at H
       exact absurd H (by simp)
     rw [if_pos c47] at H
     have LMc47 := am c47
     clear c47
     obtain ⟨y200, hy200⟩ : ∃ y_ : List (S34), y_ = (x5_1 ++ [(⟨2, 0, 0, t192, (⟨0, 0, 0, 0⟩ : S32)⟩ : S34)]) := ⟨_, rfl⟩
     replace H : (if 0 ≤ t192 then (if t192 < (l0_0.length : Int) then (some (y200, t192, decide (((rd_T42 l0_0 t192).f1) < 200))) else (none)) else (none)) = some (r1, r2, r3) := yy hy200 H
     have Ny200 := am hy200
     clear hy200
     obtain ⟨c48b0, H⟩ := ifd H
     obtain ⟨c49b0, H⟩ := ifd H
     simp only [Option.some.injEq, Prod.mk.injEq] at H
     obtain ⟨rfl, rfl, rfl⟩ := H
     try go_wp2
     replace HO_5 := am (Kd.R_drew HO_5.out)
     replace BK186 := am (blk_drew BK186.out)
     replace HB := am (below_drew1 HB.out)
     have p203 : 0 ≤ (t192 : Int) := ofb
     have q203 : t192 < (l0_0.length : Int) := ofb
     obtain ⟨ad203, A203_0, c203_0, e203, hx203_0, hx203_1, hl203_0, hi203_0⟩ := at_T42 HR0_0.out t192 p203 q203
     have hw203_1 := hx203_1
     have hw203_0 := hx203_0
     cases e203
     replace hx203_0 := up HB.out hx203_0
     replace hx203_1 := up HB.out hx203_1
     have HR203_0 := am hi203_0
     have HC203_0 := am hl203_0
     clear hi203_0 hl203_0
     replace p203 := eq_true p203
     replace q203 := eq_true q203
     refine start_ (n := 16) (S := fun w' => w'.cell? ⟨gb186, 0, none⟩ = some (.slice (some ad203) l0_0.length c0_0) ∧ w'.cell? ⟨gb186, 1, none⟩ = some (.slice A0_1 l0_1.length c0_1) ∧ w'.cell? (ad203.add ((t192).toNat * 2)) = some (.slice A203_0 ((rd_T42 l0_0 t192).f0).length c203_0) ∧ w'.cell? ⟨(ad203.add ((t192).toNat * 2)).block, (ad203.add ((t192).toNat * 2)).off + 1, none⟩ = some (.int .i64 ((rd_T42 l0_0 t192).f1))) (ds := []) (bt 16 0) (by kernel_rfl) rfl rfl ⟨(blk_cell BK186.out 0).trans rfl, (blk_cell BK186.out 1).trans rfl, ((HB.out.cell (World.block_lt_of_cell? w _ hw203_0)).trans hw203_0), ((HB.out.cell (World.block_lt_of_cell? w _ hw203_1)).trans hw203_1)⟩ (fun hHeld => ?_); refine with_tabW spec_l12Room.tab12 spec_l12Room.bits12 (fun HT_ HW_ => ?_)
     generalize wr.drew = w50 at HO_5 BK186 HB HR203_0 hx203_0 hx203_1 hHeld ⊢
     refine qj 0 57 (bt 16 1) rfl rfl HT_.out ?_
     refine qj 1 58 (bt 16 3) rfl rfl HT_.out ?_
     refine qj 2 59 (bt 16 7) rfl rfl HT_.out ?_
     refine qj 5 62 (bt 16 39) rfl rfl HT_.out ?_
     refine qj 6 63 (bt 16 103) rfl rfl HT_.out ?_
     refine qj 8 65 (bt 16 359) rfl rfl HT_.out ?_
     refine qm 7 64 (bt 16 487) rfl rfl HT_.out HW_.out hHeld ?_
     refine qj 9 66 (bt 16 999) rfl rfl HT_.out ?_
     refine qj 10 67 (bt 16 2023) rfl rfl HT_.out ?_
     refine qm 11 68 (bt 16 4071) rfl rfl HT_.out HW_.out hHeld ?_
     refine qj 12 69 (bt 16 8167) rfl rfl HT_.out ?_
     refine qo 3 (some 60) (bt 16 8175) rfl rfl HT_.out fun K hK => ?_
     refine value_ (w1 := ?_) (v := ?_) (by rfl) rfl ?_ ?_
     rotate_left 2
     · go_simp
       constructor
       · rfl
       · rfl
     refine hK.out _ _ ⟨(blk_cell (blk_alloc BK186.out _) 0).trans rfl, (blk_cell (blk_alloc BK186.out _) 1).trans rfl, (World.cell?_alloc_lt _ _ _ (World.block_lt_of_cell? _ _ (((HB.out.cell (World.block_lt_of_cell? w _ hw203_0)).trans hw203_0)))).trans (((HB.out.cell (World.block_lt_of_cell? w _ hw203_0)).trans hw203_0)), (World.cell?_alloc_lt _ _ _ (World.block_lt_of_cell? _ _ (((HB.out.cell (World.block_lt_of_cell? w _ hw203_1)).trans hw203_1)))).trans (((HB.out.cell (World.block_lt_of_cell? w _ hw203_1)).trans hw203_1))⟩ (fun hHeld => ?_)
     clear hK K
     refine qn (some 60) ?_
     refine qo 4 (some 61) (bt 16 8191) rfl rfl HT_.out fun K hK => ?_
     refine Kd.R_append_step k34 (w0 := w) w.heap.size (by rfl) (.tmp 57) (.tmp 60) 29 34 (.agg #[(.int .i64 0), (.int .i64 0), (.int .i64 0), (.int .i64 0), (.int .i64 0), (.int .i64 0), (.int .i64 0), (.int .i64 0)]) 64 rfl Try.underlying29 info34 rfl (by decide) (by omega) u5 x5_1 (⟨2, 0, 0, t192, (⟨0, 0, 0, 0⟩ : S32)⟩ : S34) [.int .i64 2, .int .i64 0, .int .i64 0, .int .i64 t192, .int .i64 0, .int .i64 0, .int .i64 0, .int .i64 0] (fun _ => True) (fun _ => False) rfl rfl ?aP (fun _ hk => hk.elim) ?aF ?aO ?aB ?aS ?aL ?_
     (case aP => exact k34_mkM _ _ _ (⟨2, 0, 0, t192, (⟨0, 0, 0, 0⟩ : S32)⟩ : S34))
     (case aB => exact (bg1 HB.out GE186.out))
     (case aF => exact (fun _ _ => trivial))
     (case aO => exact (pr HO_5.out))
     (case aS => exact (below_size (bg1 HB.out GE186.out)))
     (case aL => have := LMc47.out; omega)
     intro v201 w51 ho hb hg hat
     rw [← Ny200.out] at ho
     replace BK186 := am (blk_grown (g := gb186) (o := .cells #[.slice (some ad203) l0_0.length c0_0, .slice A0_1 l0_1.length c0_1] 26 (0, 0)) (pb BK186.out) hg (Kd.R_ne HO_5.out BK186.out (by decide)))
     replace HB := am (hb)
     have HO202 := am (ho)
     clear HO_5 ho hb hg hat
     refine hK.out _ _ ⟨(blk_cell BK186.out 0).trans rfl, (blk_cell BK186.out 1).trans rfl, ((HB.out.cell (World.block_lt_of_cell? w _ hw203_0)).trans hw203_0), ((HB.out.cell (World.block_lt_of_cell? w _ hw203_1)).trans hw203_1)⟩ (fun hHeld => ?_)
     clear hK K
     refine qn (some 61) ?_
     refine qj 13 2 (bt 16 16383) rfl rfl HT_.out ?_
     refine qj 14 3 (bt 16 32767) rfl rfl HT_.out ?_
     refine qj 15 4 (bt 16 65535) rfl rfl HT_.out ?_
     refine done_ (done_of HT_.out (by kernel_rfl)) ?_
     try go_wp2
     go_ret3
     exact ⟨_, rq ⟨pr HO202.out, bg1 HB.out GE186.out⟩⟩
   rw [if_pos c17] at H
   have c17b0 := decide_eq_true c17
   clear c17
   obtain ⟨c18b0, H⟩ := ifd H
   obtain ⟨c19b0, H⟩ := ifd H
   obtain ⟨c20b0, H⟩ := ifd H
   obtain ⟨c21b0, H⟩ := ifd H
   replace H := Option.bind_eq_some_iff.mp H
   obtain ⟨t196, A220, H⟩ := H
   have A22 := am A220
   clear A220
   by_cases c23 : t196 = true
   rotate_left
   · replace c23 := Bool.eq_false_iff.mpr c23
     subst c23
     rw [if_neg (show ¬ (false = true) by decide)] at H
     have H' := am H
     clear H
     obtain ⟨hcz41_0, hcz41_1⟩ := b2 BK186.out
     obtain ⟨hfz41_0, hfz41_1⟩ := f2 BK186.out
     have p193 : 0 ≤ (t192 : Int) := ofb
     have q193 : t192 < (l0_0.length : Int) := ofb
     obtain ⟨ad193, A193_0, c193_0, e193, hx193_0, hx193_1, hl193_0, hi193_0⟩ := at_T42 HR0_0.out t192 p193 q193
     cases e193
     replace hx193_0 := up HB.out hx193_0
     replace hx193_1 := up HB.out hx193_1
     have HR193_0 := am hi193_0
     have HC193_0 := am hl193_0
     clear hi193_0 hl193_0
     replace p193 := eq_true p193
     replace q193 := eq_true q193
     have p194 : 0 ≤ (x9_1 : Int) := ofb
     have q194 : x9_1 < (((rd_T42 l0_0 t192).f0).length : Int) := ofb
     obtain ⟨ad194, e194, hx194_0, hx194_1, hx194_2, hx194_3, hx194_4⟩ := at_T39 HR193_0.out x9_1 p194 q194
     cases e194
     replace hx194_0 := up HB.out hx194_0
     replace hx194_1 := up HB.out hx194_1
     replace hx194_2 := up HB.out hx194_2
     replace hx194_3 := up HB.out hx194_3
     replace hx194_4 := up HB.out hx194_4
     replace p194 := eq_true p194
     replace q194 := eq_true q194
     go_wp2_with (first | (refine bx 10 #[.int .i64 0, .int .i64 0, .int .i64 0, .int .i64 0, .int .i64 0] 39 rfl ?_; intro gb195 hg w42 hbox hb; replace HO_5 := am (Kd.R_below (pr HO_5.out) hb); have BK195 := am (hbox); have GW195 := am (ge hg (bg1 HB.out GE186.out)); have GE195 := GW195; replace HB := am (below_step (bg1 HB.out GE186.out) hb); have NB186_195 := am (nb hg (pb BK186.out)); have NB195_186 := am (Ne.symm NB186_195.out); replace BK186 := am (blk_below (pb BK186.out) hb); clear hb hbox hg; have hnb43 := NB195_186.out; have hnc43 := NB186_195.out; obtain ⟨hcz44_0, hcz44_1, hcz44_2, hcz44_3, hcz44_4⟩ := b5 BK195.out; obtain ⟨hfz44_0, hfz44_1, hfz44_2, hfz44_3, hfz44_4⟩ := f5 BK195.out; obtain ⟨hcz45_0, hcz45_1⟩ := b2 BK186.out; obtain ⟨hfz45_0, hfz45_1⟩ := f2 BK186.out) | (refine gl 40 Try.func55 #[.slice (some ad193) l0_0.length c0_0, .agg #[.int .i64 ((rd_T39 ((rd_T42 l0_0 t192).f0) x9_1).f0), .int .i64 ((rd_T39 ((rd_T42 l0_0 t192).f0) x9_1).f1.f0), .int .i64 ((rd_T39 ((rd_T42 l0_0 t192).f0) x9_1).f1.f1), .int .i64 ((rd_T39 ((rd_T42 l0_0 t192).f0) x9_1).f1.f2), .int .i64 ((rd_T39 ((rd_T42 l0_0 t192).f0) x9_1).f1.f3)]] rfl ?_; (with_reducible refine (spec_l3Live.calls k1 _ _ l0_0 ((rd_T39 ((rd_T42 l0_0 t192).f0) x9_1).f0) ((rd_T39 ((rd_T42 l0_0 t192).f0) x9_1).f1.f0) ((rd_T39 ((rd_T42 l0_0 t192).f0) x9_1).f1.f1) ((rd_T39 ((rd_T42 l0_0 t192).f0) x9_1).f1.f2) ((rd_T39 ((rd_T42 l0_0 t192).f0) x9_1).f1.f3) false _ ?side1 ?side2 A22.out).mono ?_); (case side1 => exact Kd.C_below HR0_0.out (bg2 HB.out GE186.out GE195.out)); (case side2 => exact HC0_0.out); rintro e w46 ⟨rfl, hb⟩; refine ⟨_, rfl, ?_⟩; replace HO_5 := am (Kd.R_below (pr ((Kd.R_mono (Kd.R_far (p := ⟨gb195, 4, none⟩) (Kd.R_far (p := ⟨gb195, 3, none⟩) (Kd.R_far (p := ⟨gb195, 2, none⟩) (Kd.R_far (p := ⟨gb195, 1, none⟩) (Kd.R_far (p := ⟨gb195, 0, none⟩) (Kd.R_types HO_5.out BK195.out (by decide)) (fun _ hk => hk.2) (.int .i64 ((rd_T39 ((rd_T42 l0_0 t192).f0) x9_1).f0))) (fun _ hk => hk.2) (.int .i64 ((rd_T39 ((rd_T42 l0_0 t192).f0) x9_1).f1.f0))) (fun _ hk => hk.2) (.int .i64 ((rd_T39 ((rd_T42 l0_0 t192).f0) x9_1).f1.f1))) (fun _ hk => hk.2) (.int .i64 ((rd_T39 ((rd_T42 l0_0 t192).f0) x9_1).f1.f2))) (fun _ hk => hk.2) (.int .i64 ((rd_T39 ((rd_T42 l0_0 t192).f0) x9_1).f1.f3))) (fun _ h_ => h_.1)))) hb); replace BK186 := am (blk_below (bf5 (pb BK186.out) NB186_195.out) hb); replace BK195 := am (blk_below (bp5 (pb BK195.out)) hb); replace HB := am (below_step (bg2 HB.out GE186.out GE195.out) hb); clear hb))
     go_roundg k1
     case measure => have := HK1.out; omega
     case rel => exact ⟨(x5_1), (wrap64 (x9_1 + 1)), rf, H', ⟨by have := HK1.out; omega⟩, ⟨pr HO_5.out⟩, ⟨pb BK186.out⟩, ⟨bg2 HB.out GE186.out GE195.out⟩⟩
   subst c23
   rw [if_pos rfl] at H
   by_cases c24 : ((rd_T39 ((rd_T42 l0_0 t192).f0) x9_1).f1.f0) = 1
   rotate_left
   · rw [if_neg c24] at H
     have c24b0 : (((rd_T39 ((rd_T42 l0_0 t192).f0) x9_1).f1.f0) == 1) = false := beq_eq_false_iff_ne.mpr c24
     have c24b1 : (((rd_T39 ((rd_T42 l0_0 t192).f0) x9_1).f1.f0) != 1) = true := bne_iff_ne.mpr c24
     have H' := am H
     clear H
     obtain ⟨hcz34_0, hcz34_1⟩ := b2 BK186.out
     obtain ⟨hfz34_0, hfz34_1⟩ := f2 BK186.out
     have p193 : 0 ≤ (t192 : Int) := ofb
     have q193 : t192 < (l0_0.length : Int) := ofb
     obtain ⟨ad193, A193_0, c193_0, e193, hx193_0, hx193_1, hl193_0, hi193_0⟩ := at_T42 HR0_0.out t192 p193 q193
     cases e193
     replace hx193_0 := up HB.out hx193_0
     replace hx193_1 := up HB.out hx193_1
     have HR193_0 := am hi193_0
     have HC193_0 := am hl193_0
     clear hi193_0 hl193_0
     replace p193 := eq_true p193
     replace q193 := eq_true q193
     have p194 : 0 ≤ (x9_1 : Int) := ofb
     have q194 : x9_1 < (((rd_T42 l0_0 t192).f0).length : Int) := ofb
     obtain ⟨ad194, e194, hx194_0, hx194_1, hx194_2, hx194_3, hx194_4⟩ := at_T39 HR193_0.out x9_1 p194 q194
     cases e194
     replace hx194_0 := up HB.out hx194_0
     replace hx194_1 := up HB.out hx194_1
     replace hx194_2 := up HB.out hx194_2
     replace hx194_3 := up HB.out hx194_3
     replace hx194_4 := up HB.out hx194_4
     replace p194 := eq_true p194
     replace q194 := eq_true q194
     go_wp2_with (first | (refine bx 10 #[.int .i64 0, .int .i64 0, .int .i64 0, .int .i64 0, .int .i64 0] 39 rfl ?_; intro gb195 hg w35 hbox hb; replace HO_5 := am (Kd.R_below (pr HO_5.out) hb); have BK195 := am (hbox); have GW195 := am (ge hg (bg1 HB.out GE186.out)); have GE195 := GW195; replace HB := am (below_step (bg1 HB.out GE186.out) hb); have NB186_195 := am (nb hg (pb BK186.out)); have NB195_186 := am (Ne.symm NB186_195.out); replace BK186 := am (blk_below (pb BK186.out) hb); clear hb hbox hg; have hnb36 := NB195_186.out; have hnc36 := NB186_195.out; obtain ⟨hcz37_0, hcz37_1, hcz37_2, hcz37_3, hcz37_4⟩ := b5 BK195.out; obtain ⟨hfz37_0, hfz37_1, hfz37_2, hfz37_3, hfz37_4⟩ := f5 BK195.out; obtain ⟨hcz38_0, hcz38_1⟩ := b2 BK186.out; obtain ⟨hfz38_0, hfz38_1⟩ := f2 BK186.out) | (refine gl 40 Try.func55 #[.slice (some ad193) l0_0.length c0_0, .agg #[.int .i64 ((rd_T39 ((rd_T42 l0_0 t192).f0) x9_1).f0), .int .i64 ((rd_T39 ((rd_T42 l0_0 t192).f0) x9_1).f1.f0), .int .i64 ((rd_T39 ((rd_T42 l0_0 t192).f0) x9_1).f1.f1), .int .i64 ((rd_T39 ((rd_T42 l0_0 t192).f0) x9_1).f1.f2), .int .i64 ((rd_T39 ((rd_T42 l0_0 t192).f0) x9_1).f1.f3)]] rfl ?_; (with_reducible refine (spec_l3Live.calls k1 _ _ l0_0 ((rd_T39 ((rd_T42 l0_0 t192).f0) x9_1).f0) ((rd_T39 ((rd_T42 l0_0 t192).f0) x9_1).f1.f0) ((rd_T39 ((rd_T42 l0_0 t192).f0) x9_1).f1.f1) ((rd_T39 ((rd_T42 l0_0 t192).f0) x9_1).f1.f2) ((rd_T39 ((rd_T42 l0_0 t192).f0) x9_1).f1.f3) true _ ?side1 ?side2 A22.out).mono ?_); (case side1 => exact Kd.C_below HR0_0.out (bg2 HB.out GE186.out GE195.out)); (case side2 => exact HC0_0.out); rintro e w39 ⟨rfl, hb⟩; refine ⟨_, rfl, ?_⟩; replace HO_5 := am (Kd.R_below (pr ((Kd.R_mono (Kd.R_far (p := ⟨gb195, 4, none⟩) (Kd.R_far (p := ⟨gb195, 3, none⟩) (Kd.R_far (p := ⟨gb195, 2, none⟩) (Kd.R_far (p := ⟨gb195, 1, none⟩) (Kd.R_far (p := ⟨gb195, 0, none⟩) (Kd.R_types HO_5.out BK195.out (by decide)) (fun _ hk => hk.2) (.int .i64 ((rd_T39 ((rd_T42 l0_0 t192).f0) x9_1).f0))) (fun _ hk => hk.2) (.int .i64 ((rd_T39 ((rd_T42 l0_0 t192).f0) x9_1).f1.f0))) (fun _ hk => hk.2) (.int .i64 ((rd_T39 ((rd_T42 l0_0 t192).f0) x9_1).f1.f1))) (fun _ hk => hk.2) (.int .i64 ((rd_T39 ((rd_T42 l0_0 t192).f0) x9_1).f1.f2))) (fun _ hk => hk.2) (.int .i64 ((rd_T39 ((rd_T42 l0_0 t192).f0) x9_1).f1.f3))) (fun _ h_ => h_.1)))) hb); replace BK186 := am (blk_below (bf5 (pb BK186.out) NB186_195.out) hb); replace BK195 := am (blk_below (bp5 (pb BK195.out)) hb); replace HB := am (below_step (bg2 HB.out GE186.out GE195.out) hb); clear hb; have hcz40_0 : w39.cell? ⟨gb195, 0, none⟩ = some (.int .i64 ((rd_T39 ((rd_T42 l0_0 t192).f0) x9_1).f0)) := (blk_cell BK195.out 0).trans rfl; have hcz40_1 : w39.cell? ⟨gb195, 1, none⟩ = some (.int .i64 ((rd_T39 ((rd_T42 l0_0 t192).f0) x9_1).f1.f0)) := (blk_cell BK195.out 1).trans rfl; have hcz40_2 : w39.cell? ⟨gb195, 2, none⟩ = some (.int .i64 ((rd_T39 ((rd_T42 l0_0 t192).f0) x9_1).f1.f1)) := (blk_cell BK195.out 2).trans rfl; have hcz40_3 : w39.cell? ⟨gb195, 3, none⟩ = some (.int .i64 ((rd_T39 ((rd_T42 l0_0 t192).f0) x9_1).f1.f2)) := (blk_cell BK195.out 3).trans rfl; have hcz40_4 : w39.cell? ⟨gb195, 4, none⟩ = some (.int .i64 ((rd_T39 ((rd_T42 l0_0 t192).f0) x9_1).f1.f3)) := (blk_cell BK195.out 4).trans rfl; obtain ⟨hfz40_0, hfz40_1, hfz40_2, hfz40_3, hfz40_4⟩ := f5 BK195.out))
     go_roundg k1
     case measure => have := HK1.out; omega
     case rel => exact ⟨(x5_1), (wrap64 (x9_1 + 1)), rf, H', ⟨by have := HK1.out; omega⟩, ⟨pr HO_5.out⟩, ⟨pb BK186.out⟩, ⟨bg2 HB.out GE186.out GE195.out⟩⟩
   rw [if_pos c24] at H
   have c24b0 : (((rd_T39 ((rd_T42 l0_0 t192).f0) x9_1).f1.f0) == 1) = true := beq_iff_eq.mpr c24
   have c24b1 : (((rd_T39 ((rd_T42 l0_0 t192).f0) x9_1).f1.f0) != 1) = false := bne_eq_false_iff_eq.mpr c24
   clear c24
   by_cases c25 : x5_1.length < 2199023255552
   rotate_left
   · rw [if_neg c25] at H
     exact absurd H (by simp)
   rw [if_pos c25] at H
   have LMc25 := am c25
   clear c25
   obtain ⟨y197, hy197⟩ : ∃ y_ : List (S34), y_ = (x5_1 ++ [(⟨1, (rd_T39 ((rd_T42 l0_0 t192).f0) x9_1).f1.f2, (rd_T39 ((rd_T42 l0_0 t192).f0) x9_1).f1.f3, 0, (⟨0, 0, 0, 0⟩ : S32)⟩ : S34)]) := ⟨_, rfl⟩
   replace H : (spec_l12Room.l0 k1 y197 t192 (wrap64 (x9_1 + 1)) l0_0 l0_1) = some (r1, r2, r3) := yy hy197 H
   have Ny197 := am hy197
   clear hy197
   have H' := am H
   clear H
   obtain ⟨hcz26_0, hcz26_1⟩ := b2 BK186.out
   obtain ⟨hfz26_0, hfz26_1⟩ := f2 BK186.out
   have p193 : 0 ≤ (t192 : Int) := ofb
   have q193 : t192 < (l0_0.length : Int) := ofb
   obtain ⟨ad193, A193_0, c193_0, e193, hx193_0, hx193_1, hl193_0, hi193_0⟩ := at_T42 HR0_0.out t192 p193 q193
   cases e193
   replace hx193_0 := up HB.out hx193_0
   replace hx193_1 := up HB.out hx193_1
   have HR193_0 := am hi193_0
   have HC193_0 := am hl193_0
   clear hi193_0 hl193_0
   replace p193 := eq_true p193
   replace q193 := eq_true q193
   have p194 : 0 ≤ (x9_1 : Int) := ofb
   have q194 : x9_1 < (((rd_T42 l0_0 t192).f0).length : Int) := ofb
   obtain ⟨ad194, e194, hx194_0, hx194_1, hx194_2, hx194_3, hx194_4⟩ := at_T39 HR193_0.out x9_1 p194 q194
   cases e194
   replace hx194_0 := up HB.out hx194_0
   replace hx194_1 := up HB.out hx194_1
   replace hx194_2 := up HB.out hx194_2
   replace hx194_3 := up HB.out hx194_3
   replace hx194_4 := up HB.out hx194_4
   replace p194 := eq_true p194
   replace q194 := eq_true q194
   go_wp2_with (first | (refine bx 10 #[.int .i64 0, .int .i64 0, .int .i64 0, .int .i64 0, .int .i64 0] 39 rfl ?_; intro gb195 hg w27 hbox hb; replace HO_5 := am (Kd.R_below (pr HO_5.out) hb); have BK195 := am (hbox); have GW195 := am (ge hg (bg1 HB.out GE186.out)); have GE195 := GW195; replace HB := am (below_step (bg1 HB.out GE186.out) hb); have NB186_195 := am (nb hg (pb BK186.out)); have NB195_186 := am (Ne.symm NB186_195.out); replace BK186 := am (blk_below (pb BK186.out) hb); clear hb hbox hg; have hnb28 := NB195_186.out; have hnc28 := NB186_195.out; obtain ⟨hcz29_0, hcz29_1, hcz29_2, hcz29_3, hcz29_4⟩ := b5 BK195.out; obtain ⟨hfz29_0, hfz29_1, hfz29_2, hfz29_3, hfz29_4⟩ := f5 BK195.out; obtain ⟨hcz30_0, hcz30_1⟩ := b2 BK186.out; obtain ⟨hfz30_0, hfz30_1⟩ := f2 BK186.out) | (refine gl 40 Try.func55 #[.slice (some ad193) l0_0.length c0_0, .agg #[.int .i64 ((rd_T39 ((rd_T42 l0_0 t192).f0) x9_1).f0), .int .i64 ((rd_T39 ((rd_T42 l0_0 t192).f0) x9_1).f1.f0), .int .i64 ((rd_T39 ((rd_T42 l0_0 t192).f0) x9_1).f1.f1), .int .i64 ((rd_T39 ((rd_T42 l0_0 t192).f0) x9_1).f1.f2), .int .i64 ((rd_T39 ((rd_T42 l0_0 t192).f0) x9_1).f1.f3)]] rfl ?_; (with_reducible refine (spec_l3Live.calls k1 _ _ l0_0 ((rd_T39 ((rd_T42 l0_0 t192).f0) x9_1).f0) ((rd_T39 ((rd_T42 l0_0 t192).f0) x9_1).f1.f0) ((rd_T39 ((rd_T42 l0_0 t192).f0) x9_1).f1.f1) ((rd_T39 ((rd_T42 l0_0 t192).f0) x9_1).f1.f2) ((rd_T39 ((rd_T42 l0_0 t192).f0) x9_1).f1.f3) true _ ?side1 ?side2 A22.out).mono ?_); (case side1 => exact Kd.C_below HR0_0.out (bg2 HB.out GE186.out GE195.out)); (case side2 => exact HC0_0.out); rintro e w31 ⟨rfl, hb⟩; refine ⟨_, rfl, ?_⟩; replace HO_5 := am (Kd.R_below (pr ((Kd.R_mono (Kd.R_far (p := ⟨gb195, 4, none⟩) (Kd.R_far (p := ⟨gb195, 3, none⟩) (Kd.R_far (p := ⟨gb195, 2, none⟩) (Kd.R_far (p := ⟨gb195, 1, none⟩) (Kd.R_far (p := ⟨gb195, 0, none⟩) (Kd.R_types HO_5.out BK195.out (by decide)) (fun _ hk => hk.2) (.int .i64 ((rd_T39 ((rd_T42 l0_0 t192).f0) x9_1).f0))) (fun _ hk => hk.2) (.int .i64 ((rd_T39 ((rd_T42 l0_0 t192).f0) x9_1).f1.f0))) (fun _ hk => hk.2) (.int .i64 ((rd_T39 ((rd_T42 l0_0 t192).f0) x9_1).f1.f1))) (fun _ hk => hk.2) (.int .i64 ((rd_T39 ((rd_T42 l0_0 t192).f0) x9_1).f1.f2))) (fun _ hk => hk.2) (.int .i64 ((rd_T39 ((rd_T42 l0_0 t192).f0) x9_1).f1.f3))) (fun _ h_ => h_.1)))) hb); replace BK186 := am (blk_below (bf5 (pb BK186.out) NB186_195.out) hb); replace BK195 := am (blk_below (bp5 (pb BK195.out)) hb); replace HB := am (below_step (bg2 HB.out GE186.out GE195.out) hb); clear hb; have hcz32_0 : w31.cell? ⟨gb195, 0, none⟩ = some (.int .i64 ((rd_T39 ((rd_T42 l0_0 t192).f0) x9_1).f0)) := (blk_cell BK195.out 0).trans rfl; have hcz32_1 : w31.cell? ⟨gb195, 1, none⟩ = some (.int .i64 ((rd_T39 ((rd_T42 l0_0 t192).f0) x9_1).f1.f0)) := (blk_cell BK195.out 1).trans rfl; have hcz32_2 : w31.cell? ⟨gb195, 2, none⟩ = some (.int .i64 ((rd_T39 ((rd_T42 l0_0 t192).f0) x9_1).f1.f1)) := (blk_cell BK195.out 2).trans rfl; have hcz32_3 : w31.cell? ⟨gb195, 3, none⟩ = some (.int .i64 ((rd_T39 ((rd_T42 l0_0 t192).f0) x9_1).f1.f2)) := (blk_cell BK195.out 3).trans rfl; have hcz32_4 : w31.cell? ⟨gb195, 4, none⟩ = some (.int .i64 ((rd_T39 ((rd_T42 l0_0 t192).f0) x9_1).f1.f3)) := (blk_cell BK195.out 4).trans rfl; obtain ⟨hfz32_0, hfz32_1, hfz32_2, hfz32_3, hfz32_4⟩ := f5 BK195.out) | ((with_reducible refine gate_builtin (b := .append) (xs := #[.tmp 47, .tmp 55]) rfl ?_); at_builtin; refine Kd.R_append k34 (w0 := w) w.heap.size rfl (.tmp 47) (.tmp 55) 29 34 (.agg #[(.int .i64 0), (.int .i64 0), (.int .i64 0), (.int .i64 0), (.int .i64 0), (.int .i64 0), (.int .i64 0), (.int .i64 0)]) 64 rfl Try.underlying29 info34 rfl (by decide) (by omega) u5 x5_1 (⟨1, (rd_T39 ((rd_T42 l0_0 t192).f0) x9_1).f1.f2, (rd_T39 ((rd_T42 l0_0 t192).f0) x9_1).f1.f3, 0, (⟨0, 0, 0, 0⟩ : S32)⟩ : S34) [.int .i64 1, .int .i64 ((rd_T39 ((rd_T42 l0_0 t192).f0) x9_1).f1.f2), .int .i64 ((rd_T39 ((rd_T42 l0_0 t192).f0) x9_1).f1.f3), .int .i64 0, .int .i64 0, .int .i64 0, .int .i64 0, .int .i64 0] (fun _ => True) (fun _ => False) rfl rfl ?aP (fun _ hk => hk.elim) ?aF ?aO ?aB ?aS ?aL ?_; (case aP => exact k34_mkM _ _ _ (⟨1, (rd_T39 ((rd_T42 l0_0 t192).f0) x9_1).f1.f2, (rd_T39 ((rd_T42 l0_0 t192).f0) x9_1).f1.f3, 0, (⟨0, 0, 0, 0⟩ : S32)⟩ : S34)); (case aB => exact (bg2 HB.out GE186.out GE195.out)); (case aF => exact (fun _ _ => trivial)); (case aO => exact (pr HO_5.out)); (case aS => exact (below_size (bg2 HB.out GE186.out GE195.out))); (case aL => have := LMc25.out; omega); intro v198 w33 ho hb hg hat; rw [← Ny197.out] at ho; replace BK186 := am (blk_grown (g := gb186) (o := .cells #[.slice (some ad193) l0_0.length c0_0, .slice A0_1 l0_1.length c0_1] 26 (0, 0)) (pb BK186.out) hg (Kd.R_ne HO_5.out BK186.out (by decide))); replace BK195 := am (blk_grown (g := gb195) (o := .cells #[.int .i64 ((rd_T39 ((rd_T42 l0_0 t192).f0) x9_1).f0), .int .i64 ((rd_T39 ((rd_T42 l0_0 t192).f0) x9_1).f1.f0), .int .i64 ((rd_T39 ((rd_T42 l0_0 t192).f0) x9_1).f1.f1), .int .i64 ((rd_T39 ((rd_T42 l0_0 t192).f0) x9_1).f1.f2), .int .i64 ((rd_T39 ((rd_T42 l0_0 t192).f0) x9_1).f1.f3)] 39 (0, 0)) (pb BK195.out) hg (Kd.R_ne HO_5.out BK195.out (by decide))); replace HB := am (hb); have HO199 := am (ho); clear HO_5; clear ho hb hg hat))
   go_roundg k1
   case measure => have := HK1.out; omega
   case rel => exact ⟨(y197), (wrap64 (x9_1 + 1)), rf, H', ⟨by have := HK1.out; omega⟩, ⟨pr HO199.out⟩, ⟨pb BK186.out⟩, ⟨bg2 HB.out GE186.out GE195.out⟩⟩
end Go.Proofs.Ytenmnclkbleglaa.P2
