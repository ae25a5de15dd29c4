-- printed by wip/pp/pp.py
import Derived.Test.YtbhchamohldehaaP40
import Derived.Test.YtbhchamohldehaaP412
import Derived.Test.YtbhchamohldehaaP414
set_option maxHeartbeats 8000000
set_option maxRecDepth 100000
namespace Go.Proofs.Ytbhchamohldehaa.P4
open Go.RowKit Go.Proofs.YtbhchamohldehaaW.PrintWords Go.Proofs.YtbhchamohldehaaW.PrintLast Go.Proofs.YtbhchamohldehaaW.PrintMore
attribute [local go_sem] max2_int min2_int max_two min_two max_three min_three max_four min_four
set_option linter.unusedVariables false
set_option linter.unusedSimpArgs false
attribute [local go_sem high] eqA36
def impl_blockOk.f (a0 : Int) : Option (Bool) := if a0 ≥ 0 then (some (decide (a0 < 4))) else (some false)
theorem impl_blockOk.calls (a0 : Int) (r : Bool) (w : World) (h : impl_blockOk.f a0 = some r) :
 Calls Try.prog 57 #[.int .i64 a0] w fun e w' => e = .returned (.bool r) ∧ Drawn0 w w' := by
 have H : (if a0 ≥ 0 then (some (decide (a0 < 4))) else (some false)) = some r := h
 clear h
 by_cases c2 : a0 ≥ 0
 · rw [if_pos c2] at H
   have c2b0 := decide_eq_true c2
   clear c2
   obtain rfl := Option.some.inj H
   go_enter Try.func57, Try.ntmps57
   go_wp2
   go_ret
   exact ⟨by first | rfl | (simp; done) | (simp [*]; done), by repeat (first | exact Drawn0.refl _ | apply Drawn0.step)⟩
 rw [if_neg c2] at H
 have c2b0 := decide_eq_false c2
 clear c2
 obtain rfl := Option.some.inj H
 go_enter Try.func57, Try.ntmps57
 go_wp2
 go_ret
 exact ⟨by first | rfl | (simp; done) | (simp [*]; done), by repeat (first | exact Drawn0.refl _ | apply Drawn0.step)⟩
def impl_FindLive.j0 : Nat → List (S73) → Int → Int → Bool → Option (Bool)
 | 0, _, _, _, _ => none
 | k + 1, x0, x1, x2, x25 => if x25 = true then (some false) else (if 0 ≤ x1 then (if x1 < (x0.length : Int) then (if 0 ≤ x2 then (if x2 < (((rd_T73 x0 x1).f0).length : Int) then (if ((rd_T69 ((rd_T73 x0 x1).f0) x2).f0) = 1 then ((impl_FindLast.f x0 ((rd_T69 ((rd_T73 x0 x1).f0) x2).f1.f2)).bind fun bt418 => (if bt418.2.2.2.2 = true then (some (bt418.1 == ((rd_T69 ((rd_T73 x0 x1).f0) x2).f1.f0) && (bt418.2.1 == ((rd_T69 ((rd_T73 x0 x1).f0) x2).f1.f1) && (bt418.2.2.1 == ((rd_T69 ((rd_T73 x0 x1).f0) x2).f1.f2) && (bt418.2.2.2.1 == ((rd_T69 ((rd_T73 x0 x1).f0) x2).f1.f3)))))) else (some false))) else (some false)) else (none)) else (none)) else (none)) else (none))
def impl_FindLive.f (k : Nat) (l0 : List (S73)) (a1 : Int) (a2 : Int) : Option (Bool) := (impl_FlashOk.f l0).bind fun t413 => (if t413 = true then ((impl_blockOk.f a1).bind fun t414 => (if t414 = true then (if a2 < 0 then (impl_FindLive.j0 k l0 a1 a2 true) else (impl_FindLive.j0 k l0 a1 a2 (decide (a2 ≥ 4)))) else (impl_FindLive.j0 k l0 a1 a2 true))) else (impl_FindLive.j0 k l0 a1 a2 true))
theorem impl_FindLive.calls (k : Nat) (A0 : Option Addr) (c0 : Nat) (l0 : List (S73)) (a1 : Int) (a2 : Int) (r : Bool) (w : World) (hr0 : Kd.C k73 w A0 l0.length l0) (hc0 : l0.length ≤ c0) (h : impl_FindLive.f k l0 a1 a2 = some r) :
 Calls Try.prog 38 #[.slice A0 l0.length c0, .int .i64 a1, .int .i64 a2] w fun e w' => e = .returned (.bool r) ∧ Below w.heap.size w w' := by
 have hu69 := Try.underlying69
 have hu36 := Try.underlying36
 have HR0 := am hr0
 have HC0 := am hc0
 clear hr0 hc0
 have HB := am (Below.refl w.heap.size w)
 have H : ((impl_FlashOk.f l0).bind fun t413 => (if t413 = true then ((impl_blockOk.f a1).bind fun t414 => (if t414 = true then (if a2 < 0 then (impl_FindLive.j0 k l0 a1 a2 true) else (impl_FindLive.j0 k l0 a1 a2 (decide (a2 ≥ 4)))) else (impl_FindLive.j0 k l0 a1 a2 true))) else (impl_FindLive.j0 k l0 a1 a2 true))) = some r := h
 clear h
 have HC4 := am H
 clear H
 go_enter Try.func38, Try.ntmps38
 go_upto_region 1 with (fail)
 go_cut [25] (fun v25 wc => ∃ (kq : Nat) (x25_3 : Bool), v25 = .bool x25_3 ∧ Aside0 (impl_FindLive.j0 kq l0 a1 a2 x25_3 = some r) ∧ Aside0 (kq ≤ k) ∧ Aside0 (Below w.heap.size w wc))
 case first =>
  have H := HC4.out
  clear HC4
  replace H := Option.bind_eq_some_iff.mp H
  obtain ⟨t413, A50, H⟩ := H
  have A5 := am A50
  clear A50
  by_cases c6 : t413 = true
  rotate_left
  · replace c6 := Bool.eq_false_iff.mpr c6
    subst c6
    rw [if_neg (show ¬ (false = true) by decide)] at H
    have H' := am H
    clear H
    go_wp2_with (first | (refine gl 11 Try.func32 #[.slice A0 l0.length c0] rfl ?_; (with_reducible refine (impl_FlashOk.calls _ _ l0 false _ ?side1 ?side2 A5.out).mono ?_); (case side1 => exact pc (Kd.C_below HR0.out HB.out)); (case side2 => exact HC0.out); rintro e w13 ⟨rfl, hb⟩; refine ⟨_, rfl, ?_⟩; replace HB := am (below_step (ph HB.out) hb); clear hb))
    go_meet
    case rel => exact ⟨_, (true), rf, H', ⟨by first | omega | exact Nat.le_refl _⟩, ⟨ph HB.out⟩⟩
  subst c6
  rw [if_pos rfl] at H
  replace H := Option.bind_eq_some_iff.mp H
  obtain ⟨t414, A70, H⟩ := H
  have A7 := am A70
  clear A70
  by_cases c8 : t414 = true
  rotate_left
  · replace c8 := Bool.eq_false_iff.mpr c8
    subst c8
    rw [if_neg (show ¬ (false = true) by decide)] at H
    have H' := am H
    clear H
    go_wp2_with (first | (refine gl 11 Try.func32 #[.slice A0 l0.length c0] rfl ?_; (with_reducible refine (impl_FlashOk.calls _ _ l0 true _ ?side1 ?side2 A5.out).mono ?_); (case side1 => exact pc (Kd.C_below HR0.out HB.out)); (case side2 => exact HC0.out); rintro e w12 ⟨rfl, hb⟩; refine ⟨_, rfl, ?_⟩; replace HB := am (below_step (ph HB.out) hb); clear hb) | (go_at_call 57; (with_reducible refine (impl_blockOk.calls a1 false _ A7.out).mono ?_); rintro e w' ⟨rfl, ⟨nd, rfl⟩⟩))
    go_meet
    case rel => exact ⟨_, (true), rf, H', ⟨by first | omega | exact Nat.le_refl _⟩, ⟨ph HB.out⟩⟩
  subst c8
  rw [if_pos rfl] at H
  by_cases c9 : a2 < 0
  · rw [if_pos c9] at H
    have c9b0 := decide_eq_true c9
    clear c9
    (first | rw [c9b0] | (simp only [i64_w, i32_w]; rw [c9b0]) | skip)
    have H' := am H
    clear H
    go_wp2_with (first | (refine gl 11 Try.func32 #[.slice A0 l0.length c0] rfl ?_; (with_reducible refine (impl_FlashOk.calls _ _ l0 true _ ?side1 ?side2 A5.out).mono ?_); (case side1 => exact pc (Kd.C_below HR0.out HB.out)); (case side2 => exact HC0.out); rintro e w10 ⟨rfl, hb⟩; refine ⟨_, rfl, ?_⟩; replace HB := am (below_step (ph HB.out) hb); clear hb) | (go_at_call 57; (with_reducible refine (impl_blockOk.calls a1 true _ A7.out).mono ?_); rintro e w' ⟨rfl, ⟨nd, rfl⟩⟩))
    go_meet
    case rel => exact ⟨_, (true), rf, H', ⟨by first | omega | exact Nat.le_refl _⟩, ⟨ph HB.out⟩⟩
  rw [if_neg c9] at H
  have c9b0 := decide_eq_false c9
  clear c9
  (first | rw [c9b0] | (simp only [i64_w, i32_w]; rw [c9b0]) | skip)
  have H' := am H
  clear H
  go_wp2_with (first | (refine gl 11 Try.func32 #[.slice A0 l0.length c0] rfl ?_; (with_reducible refine (impl_FlashOk.calls _ _ l0 true _ ?side1 ?side2 A5.out).mono ?_); (case side1 => exact pc (Kd.C_below HR0.out HB.out)); (case side2 => exact HC0.out); rintro e w11 ⟨rfl, hb⟩; refine ⟨_, rfl, ?_⟩; replace HB := am (below_step (ph HB.out) hb); clear hb) | (go_at_call 57; (with_reducible refine (impl_blockOk.calls a1 true _ A7.out).mono ?_); rintro e w' ⟨rfl, ⟨nd, rfl⟩⟩))
  go_meet
  case rel => exact ⟨_, (decide (a2 ≥ 4)), rf, H', ⟨by first | omega | exact Nat.le_refl _⟩, ⟨ph HB.out⟩⟩
 case rest =>
  clear HC4
  obtain ⟨kq, x25_3, rfl, HA, HJ3, HB⟩ := hcut
  cases kq with
  | zero => exact absurd HA.out (by simp [impl_FindLive.j0])
  | succ kj3 =>
   have H := HA.out
   clear HA
   simp only [impl_FindLive.j0] at H
   by_cases c14 : x25_3 = true
   · subst c14
     rw [if_pos rfl] at H
     obtain rfl := Option.some.inj H
     go_wp2
     go_ret
     exact (rq (ph HB.out))
   replace c14 := Bool.eq_false_iff.mpr c14
   subst c14
   rw [if_neg (show ¬ (false = true) by decide)] at H
   obtain ⟨c15b0, H⟩ := ifd H
   obtain ⟨c16b0, H⟩ := ifd H
   obtain ⟨c17b0, H⟩ := ifd H
   obtain ⟨c18b0, H⟩ := ifd H
   by_cases c19 : ((rd_T69 ((rd_T73 l0 a1).f0) a2).f0) = 1
   rotate_left
   · rw [if_neg c19] at H
     have c19b0 : (((rd_T69 ((rd_T73 l0 a1).f0) a2).f0) == 1) = false := beq_eq_false_iff_ne.mpr c19
     have c19b1 : (((rd_T69 ((rd_T73 l0 a1).f0) a2).f0) != 1) = true := bne_iff_ne.mpr c19
     obtain rfl := Option.some.inj H
     have p415 : 0 ≤ (a1 : Int) := ofb
     have q415 : a1 < (l0.length : Int) := ofb
     obtain ⟨ad415, A415_0, c415_0, e415, hx415_0, hx415_1, hl415_0, hi415_0⟩ := at_T73 HR0.out a1 p415 q415
     cases e415
     replace hx415_0 := up HB.out hx415_0
     replace hx415_1 := up HB.out hx415_1
     have HR415_0 := am hi415_0
     have HC415_0 := am hl415_0
     clear hi415_0 hl415_0
     replace p415 := eq_true p415
     replace q415 := eq_true q415
     have p416 : 0 ≤ (a2 : Int) := ofb
     have q416 : a2 < (((rd_T73 l0 a1).f0).length : Int) := ofb
     obtain ⟨ad416, e416, hx416_0, hx416_1, hx416_2, hx416_3, hx416_4⟩ := at_T69 HR415_0.out a2 p416 q416
     cases e416
     replace hx416_0 := up HB.out hx416_0
     replace hx416_1 := up HB.out hx416_1
     replace hx416_2 := up HB.out hx416_2
     replace hx416_3 := up HB.out hx416_3
     replace hx416_4 := up HB.out hx416_4
     replace p416 := eq_true p416
     replace q416 := eq_true q416
     go_wp2_with (first | (refine bx 7 #[.int .i64 0, .int .i64 0, .int .i64 0, .int .i64 0, .int .i64 0] 69 rfl ?_; intro gb417 hg w35 hbox hb; have BK417 := am (hbox); have GW417 := am (ge hg (ph HB.out)); have GE417 := GW417; replace HB := am (below_step (ph HB.out) hb); clear hb hbox hg; obtain ⟨hcz36_0, hcz36_1, hcz36_2, hcz36_3, hcz36_4⟩ := b5 BK417.out; obtain ⟨hfz36_0, hfz36_1, hfz36_2, hfz36_3, hfz36_4⟩ := f5 BK417.out))
     go_ret
     exact (rq (bg1 HB.out GE417.out))
   rw [if_pos c19] at H
   have c19b0 : (((rd_T69 ((rd_T73 l0 a1).f0) a2).f0) == 1) = true := beq_iff_eq.mpr c19
   have c19b1 : (((rd_T69 ((rd_T73 l0 a1).f0) a2).f0) != 1) = false := bne_eq_false_iff_eq.mpr c19
   clear c19
   replace H := Option.bind_eq_some_iff.mp H
   obtain ⟨⟨t418, t419, t420, t421, t422⟩, A200, H⟩ := H
   have A20 := am A200
   clear A200
   by_cases c21 : t422 = true
   rotate_left
   · replace c21 := Bool.eq_false_iff.mpr c21
     subst c21
     rw [if_neg (show ¬ (false = true) by decide)] at H
     obtain rfl := Option.some.inj H
     have p415 : 0 ≤ (a1 : Int) := ofb
     have q415 : a1 < (l0.length : Int) := ofb
     obtain ⟨ad415, A415_0, c415_0, e415, hx415_0, hx415_1, hl415_0, hi415_0⟩ := at_T73 HR0.out a1 p415 q415
     cases e415
     replace hx415_0 := up HB.out hx415_0
     replace hx415_1 := up HB.out hx415_1
     have HR415_0 := am hi415_0
     have HC415_0 := am hl415_0
     clear hi415_0 hl415_0
     replace p415 := eq_true p415
     replace q415 := eq_true q415
     have p416 : 0 ≤ (a2 : Int) := ofb
     have q416 : a2 < (((rd_T73 l0 a1).f0).length : Int) := ofb
     obtain ⟨ad416, e416, hx416_0, hx416_1, hx416_2, hx416_3, hx416_4⟩ := at_T69 HR415_0.out a2 p416 q416
     cases e416
     replace hx416_0 := up HB.out hx416_0
     replace hx416_1 := up HB.out hx416_1
     replace hx416_2 := up HB.out hx416_2
     replace hx416_3 := up HB.out hx416_3
     replace hx416_4 := up HB.out hx416_4
     replace p416 := eq_true p416
     replace q416 := eq_true q416
     go_wp2_with (first | (refine bx 7 #[.int .i64 0, .int .i64 0, .int .i64 0, .int .i64 0, .int .i64 0] 69 rfl ?_; intro gb417 hg w29 hbox hb; have BK417 := am (hbox); have GW417 := am (ge hg (ph HB.out)); have GE417 := GW417; replace HB := am (below_step (ph HB.out) hb); clear hb hbox hg; obtain ⟨hcz30_0, hcz30_1, hcz30_2, hcz30_3, hcz30_4⟩ := b5 BK417.out; obtain ⟨hfz30_0, hfz30_1, hfz30_2, hfz30_3, hfz30_4⟩ := f5 BK417.out) | (refine gl 42 Try.func16 #[.slice (some ad415) l0.length c0, .int .i64 ((rd_T69 ((rd_T73 l0 a1).f0) a2).f1.f2)] rfl ?_; (with_reducible refine (impl_FindLast.calls _ _ l0 ((rd_T69 ((rd_T73 l0 a1).f0) a2).f1.f2) t418 t419 t420 t421 false _ ?side1 ?side2 A20.out).mono ?_); (case side1 => exact Kd.C_below HR0.out (bg1 HB.out GE417.out)); (case side2 => exact HC0.out); rintro e w31 ⟨rfl, hb⟩; refine ⟨_, rfl, ?_⟩; replace BK417 := am (blk_below (bp5 (pb BK417.out)) hb); replace HB := am (below_step (bg1 HB.out GE417.out) hb); clear hb) | (refine bx 8 #[.int .i64 0, .int .i64 0, .int .i64 0, .int .i64 0] 36 rfl ?_; intro gb423 hg w32 hbox hb; have BK423 := am (hbox); have GW423 := am (ge hg (bg1 HB.out GE417.out)); have GE423 := GW423; replace HB := am (below_step (bg1 HB.out GE417.out) hb); have NB417_423 := am (nb hg (pb BK417.out)); have NB423_417 := am (Ne.symm NB417_423.out); replace BK417 := am (blk_below (pb BK417.out) hb); clear hb hbox hg; have hnb33 := NB423_417.out; have hnc33 := NB417_423.out; obtain ⟨hcz34_0, hcz34_1, hcz34_2, hcz34_3⟩ := b4 BK423.out; obtain ⟨hfz34_0, hfz34_1, hfz34_2, hfz34_3⟩ := f4 BK423.out))
     go_ret
     exact (rq (bg2 HB.out GE417.out GE423.out))
   subst c21
   rw [if_pos rfl] at H
   obtain rfl := Option.some.inj H
   have p415 : 0 ≤ (a1 : Int) := ofb
   have q415 : a1 < (l0.length : Int) := ofb
   obtain ⟨ad415, A415_0, c415_0, e415, hx415_0, hx415_1, hl415_0, hi415_0⟩ := at_T73 HR0.out a1 p415 q415
   cases e415
   replace hx415_0 := up HB.out hx415_0
   replace hx415_1 := up HB.out hx415_1
   have HR415_0 := am hi415_0
   have HC415_0 := am hl415_0
   clear hi415_0 hl415_0
   replace p415 := eq_true p415
   replace q415 := eq_true q415
   have p416 : 0 ≤ (a2 : Int) := ofb
   have q416 : a2 < (((rd_T73 l0 a1).f0).length : Int) := ofb
   obtain ⟨ad416, e416, hx416_0, hx416_1, hx416_2, hx416_3, hx416_4⟩ := at_T69 HR415_0.out a2 p416 q416
   cases e416
   replace hx416_0 := up HB.out hx416_0
   replace hx416_1 := up HB.out hx416_1
   replace hx416_2 := up HB.out hx416_2
   replace hx416_3 := up HB.out hx416_3
   replace hx416_4 := up HB.out hx416_4
   replace p416 := eq_true p416
   replace q416 := eq_true q416
   go_wp2_with (first | (refine bx 7 #[.int .i64 0, .int .i64 0, .int .i64 0, .int .i64 0, .int .i64 0] 69 rfl ?_; intro gb417 hg w22 hbox hb; have BK417 := am (hbox); have GW417 := am (ge hg (ph HB.out)); have GE417 := GW417; replace HB := am (below_step (ph HB.out) hb); clear hb hbox hg; obtain ⟨hcz23_0, hcz23_1, hcz23_2, hcz23_3, hcz23_4⟩ := b5 BK417.out; obtain ⟨hfz23_0, hfz23_1, hfz23_2, hfz23_3, hfz23_4⟩ := f5 BK417.out) | (refine gl 42 Try.func16 #[.slice (some ad415) l0.length c0, .int .i64 ((rd_T69 ((rd_T73 l0 a1).f0) a2).f1.f2)] rfl ?_; (with_reducible refine (impl_FindLast.calls _ _ l0 ((rd_T69 ((rd_T73 l0 a1).f0) a2).f1.f2) t418 t419 t420 t421 true _ ?side1 ?side2 A20.out).mono ?_); (case side1 => exact Kd.C_below HR0.out (bg1 HB.out GE417.out)); (case side2 => exact HC0.out); rintro e w24 ⟨rfl, hb⟩; refine ⟨_, rfl, ?_⟩; replace BK417 := am (blk_below (bp5 (pb BK417.out)) hb); replace HB := am (below_step (bg1 HB.out GE417.out) hb); clear hb) | (refine bx 8 #[.int .i64 0, .int .i64 0, .int .i64 0, .int .i64 0] 36 rfl ?_; intro gb423 hg w25 hbox hb; have BK423 := am (hbox); have GW423 := am (ge hg (bg1 HB.out GE417.out)); have GE423 := GW423; replace HB := am (below_step (bg1 HB.out GE417.out) hb); have NB417_423 := am (nb hg (pb BK417.out)); have NB423_417 := am (Ne.symm NB417_423.out); replace BK417 := am (blk_below (pb BK417.out) hb); clear hb hbox hg; have hnb26 := NB423_417.out; have hnc26 := NB417_423.out; obtain ⟨hcz27_0, hcz27_1, hcz27_2, hcz27_3⟩ := b4 BK423.out; obtain ⟨hfz27_0, hfz27_1, hfz27_2, hfz27_3⟩ := f4 BK423.out; have hcz28_0 : w25.cell? ⟨gb417, 0, none⟩ = some (.int .i64 ((rd_T69 ((rd_T73 l0 a1).f0) a2).f0)) := (blk_cell BK417.out 0).trans rfl; have hcz28_1 : w25.cell? ⟨gb417, 1, none⟩ = some (.int .i64 ((rd_T69 ((rd_T73 l0 a1).f0) a2).f1.f0)) := (blk_cell BK417.out 1).trans rfl; have hcz28_2 : w25.cell? ⟨gb417, 2, none⟩ = some (.int .i64 ((rd_T69 ((rd_T73 l0 a1).f0) a2).f1.f1)) := (blk_cell BK417.out 2).trans rfl; have hcz28_3 : w25.cell? ⟨gb417, 3, none⟩ = some (.int .i64 ((rd_T69 ((rd_T73 l0 a1).f0) a2).f1.f2)) := (blk_cell BK417.out 3).trans rfl; have hcz28_4 : w25.cell? ⟨gb417, 4, none⟩ = some (.int .i64 ((rd_T69 ((rd_T73 l0 a1).f0) a2).f1.f3)) := (blk_cell BK417.out 4).trans rfl; obtain ⟨hfz28_0, hfz28_1, hfz28_2, hfz28_3, hfz28_4⟩ := f5 BK417.out))
   go_ret
   exact (rq (bg2 HB.out GE417.out GE423.out))
end Go.Proofs.Ytbhchamohldehaa.P4
namespace Go.Proofs.Ytbhchamohldehaa.P4
open Go.RowKit Go.Proofs.YtbhchamohldehaaW.PrintWords Go.Proofs.YtbhchamohldehaaW.PrintLast Go.Proofs.YtbhchamohldehaaW.PrintMore
attribute [local go_sem] max2_int min2_int max_two min_two max_three min_three max_four min_four
set_option linter.unusedVariables false
set_option linter.unusedSimpArgs false
def impl_stepsWrite.l0 : Nat → List (S73) → Int → List (S38) → List (S69) → Int → Int → Int → Int → Int → Int → Option ((List (S38)))
 | 0, _, _, _, _, _, _, _, _, _, _ => none
 | k + 1, x0, x12, x13, x47, x48, x49, x426000, x426001, x426002, x426003 => if x49 < x48 then (if 0 ≤ x49 then (if x49 < (x47.length : Int) then ((impl_Rec_isDirty.f ((rd_T69 x47 x49).f1.f0) ((rd_T69 x47 x49).f1.f1) ((rd_T69 x47 x49).f1.f2) ((rd_T69 x47 x49).f1.f3)).bind fun t443 => (if t443 = true then ((impl_FindLive.f k x0 x12 x49).bind fun t444 => (if t444 = true then ((impl_diskStep.f ((rd_T69 x47 x49).f1.f0) ((rd_T69 x47 x49).f1.f1) ((rd_T69 x47 x49).f1.f2) ((rd_T69 x47 x49).f1.f3)).bind fun bt445 => (if x13.length < 2199023255552 then (impl_stepsWrite.l0 k x0 x12 (x13 ++ [(⟨bt445.1, bt445.2.1, bt445.2.2.1, bt445.2.2.2.1, (⟨bt445.2.2.2.2.1, bt445.2.2.2.2.2.1, bt445.2.2.2.2.2.2.1, bt445.2.2.2.2.2.2.2⟩ : S36)⟩ : S38)]) x47 x48 (wrap64 (x49 + 1)) x426000 x426001 x426002 x426003) else (none))) else (impl_stepsWrite.l0 k x0 x12 x13 x47 x48 (wrap64 (x49 + 1)) x426000 x426001 x426002 x426003))) else (impl_stepsWrite.l0 k x0 x12 x13 x47 x48 (wrap64 (x49 + 1)) x426000 x426001 x426002 x426003))) else (none)) else (none)) else (if x13.length < 2199023255552 then ((some (x13 ++ [(⟨2, 0, 0, x12, (⟨0, 0, 0, 0⟩ : S36)⟩ : S38)] : List (S38))).bind fun y435 => (if y435.length < 2199023255552 then (some (y435 ++ [(⟨3, 0, 0, x12, (⟨x426000, x426001, x426002, x426003⟩ : S36)⟩ : S38)])) else (none))) else (none))
def impl_stepsWrite.f (k : Nat) (l0 : List (S73)) (a1 : Int) (a2 : Int) (a3 : Int) : Option ((List (S38))) := (impl_FindNext.f l0).bind fun t424 => ((impl_RecOk.f a1 t424 a2 a3).bind fun t426 => (if t426 = true then ((impl_FindOpen.f k l0).bind fun bt427 => (if bt427.2 = true then (some (([(⟨3, 0, 0, bt427.1, (⟨a1, t424, a2, a3⟩ : S36)⟩ : S38)] : List (S38)))) else ((impl_FindOld.f l0).bind fun t432 => (if 0 ≤ t432 then (if t432 < (l0.length : Int) then (if ((rd_T73 l0 t432).f1) = 200 then (some ([] : List (S38))) else (impl_stepsWrite.l0 k l0 t432 ([] : List (S38)) ((rd_T73 l0 t432).f0) (((rd_T73 l0 t432).f0).length : Int) 0 a1 t424 a2 a3)) else (none)) else (none))))) else (some ([] : List (S38)))))
theorem impl_stepsWrite.calls (k : Nat) (A0 : Option Addr) (c0 : Nat) (l0 : List (S73)) (a1 : Int) (a2 : Int) (a3 : Int) (r : List (S38)) (w : World) (hr0 : Kd.C k73 w A0 l0.length l0) (hc0 : l0.length ≤ c0) (h : impl_stepsWrite.f k l0 a1 a2 a3 = some r) :
 Calls Try.prog 18 #[.slice A0 l0.length c0, .int .i64 a1, .int .i64 a2, .int .i64 a3] w fun e w' => ∃ v0_ : Value, e = .returned (v0_) ∧ Kd.R k38 38 w' w.heap.size (fun _ => True) v0_ r ∧ Below w.heap.size w w' := by
 have hu36 := Try.underlying36
 have hu38 := Try.underlying38
 have hu69 := Try.underlying69
 have HR0 := am hr0
 have HC0 := am hc0
 clear hr0 hc0
 have HB := am (Below.refl w.heap.size w)
 have H : ((impl_FindNext.f l0).bind fun t424 => ((impl_RecOk.f a1 t424 a2 a3).bind fun t426 => (if t426 = true then ((impl_FindOpen.f k l0).bind fun bt427 => (if bt427.2 = true then (some (([(⟨3, 0, 0, bt427.1, (⟨a1, t424, a2, a3⟩ : S36)⟩ : S38)] : List (S38)))) else ((impl_FindOld.f l0).bind fun t432 => (if 0 ≤ t432 then (if t432 < (l0.length : Int) then (if ((rd_T73 l0 t432).f1) = 200 then (some ([] : List (S38))) else (impl_stepsWrite.l0 k l0 t432 ([] : List (S38)) ((rd_T73 l0 t432).f0) (((rd_T73 l0 t432).f0).length : Int) 0 a1 t424 a2 a3)) else (none)) else (none))))) else (some ([] : List (S38)))))) = some r := h
 clear h
 replace H := Option.bind_eq_some_iff.mp H
 obtain ⟨t424, A50, H⟩ := H
 have A5 := am A50
 clear A50
 replace H := Option.bind_eq_some_iff.mp H
 obtain ⟨t426, A60, H⟩ := H
 have A6 := am A60
 clear A60
 by_cases c7 : t426 = true
 rotate_left
 · replace c7 := Bool.eq_false_iff.mpr c7
   subst c7
   rw [if_neg (show ¬ (false = true) by decide)] at H
   obtain rfl := Option.some.inj H
   go_enter Try.func18, Try.ntmps18
   go_wp2_with (first | (refine gl 18 Try.func34 #[.slice A0 l0.length c0] rfl ?_; (with_reducible refine (impl_FindNext.calls _ _ l0 t424 _ ?side1 ?side2 A5.out).mono ?_); (case side1 => exact pc HR0.out); (case side2 => exact HC0.out); rintro e w65 ⟨rfl, hb⟩; refine ⟨_, rfl, ?_⟩; replace HB := am (below_step (ph HB.out) hb); clear hb) | (refine bx 9 #[.int .i64 0, .int .i64 0, .int .i64 0, .int .i64 0] 36 rfl ?_; intro gb425 hg w66 hbox hb; have BK425 := am (hbox); have GW425 := am (ge hg (ph HB.out)); have GE425 := GW425; replace HB := am (below_step (ph HB.out) hb); clear hb hbox hg; obtain ⟨hcz67_0, hcz67_1, hcz67_2, hcz67_3⟩ := b4 BK425.out; obtain ⟨hfz67_0, hfz67_1, hfz67_2, hfz67_3⟩ := f4 BK425.out) | (refine gl 23 Try.func35 #[.agg #[.int .i64 a1, .int .i64 t424, .int .i64 a2, .int .i64 a3]] rfl ?_; (with_reducible refine (impl_RecOk.calls a1 t424 a2 a3 false _ A6.out).mono ?_); rintro e w68 ⟨rfl, hb⟩; refine ⟨_, rfl, ?_⟩; replace BK425 := am (blk_below (bp4 (pb BK425.out)) hb); replace HB := am (below_step (bg1 HB.out GE425.out) hb); clear hb))
   go_ret
   exact ⟨_, rq ⟨by first | exact Kd.R_nil _ _ _ _ _ | exact Kd.N_nil _ _ _ _ _ | exact Kd.V_nil _ _ _ _ _ | exact Kd.Q_nil _ _ _ _ _ | exact Kd.S_nil _ _ _ _ _, bg1 HB.out GE425.out⟩⟩
 subst c7
 rw [if_pos rfl] at H
 replace H := Option.bind_eq_some_iff.mp H
 obtain ⟨⟨t427, t428⟩, A80, H⟩ := H
 have A8 := am A80
 clear A80
 by_cases c9 : t428 = true
 · subst c9
   rw [if_pos rfl] at H
   obtain ⟨y429, hy429⟩ : ∃ y_ : List (S38), y_ = (([(⟨3, 0, 0, t427, (⟨a1, t424, a2, a3⟩ : S36)⟩ : S38)] : List (S38))) := ⟨_, rfl⟩
   replace H : (some y429) = some r := yy hy429 H
   have Ny429 := am hy429
   clear hy429
   obtain rfl := Option.some.inj H
   go_enter Try.func18, Try.ntmps18
   go_wp2_with (first | (refine gl 18 Try.func34 #[.slice A0 l0.length c0] rfl ?_; (with_reducible refine (impl_FindNext.calls _ _ l0 t424 _ ?side1 ?side2 A5.out).mono ?_); (case side1 => exact pc HR0.out); (case side2 => exact HC0.out); rintro e w10 ⟨rfl, hb⟩; refine ⟨_, rfl, ?_⟩; replace HB := am (below_step (ph HB.out) hb); clear hb) | (refine bx 9 #[.int .i64 0, .int .i64 0, .int .i64 0, .int .i64 0] 36 rfl ?_; intro gb425 hg w11 hbox hb; have BK425 := am (hbox); have GW425 := am (ge hg (ph HB.out)); have GE425 := GW425; replace HB := am (below_step (ph HB.out) hb); clear hb hbox hg; obtain ⟨hcz12_0, hcz12_1, hcz12_2, hcz12_3⟩ := b4 BK425.out; obtain ⟨hfz12_0, hfz12_1, hfz12_2, hfz12_3⟩ := f4 BK425.out) | (refine gl 23 Try.func35 #[.agg #[.int .i64 a1, .int .i64 t424, .int .i64 a2, .int .i64 a3]] rfl ?_; (with_reducible refine (impl_RecOk.calls a1 t424 a2 a3 true _ A6.out).mono ?_); rintro e w13 ⟨rfl, hb⟩; refine ⟨_, rfl, ?_⟩; replace BK425 := am (blk_below (bp4 (pb BK425.out)) hb); replace HB := am (below_step (bg1 HB.out GE425.out) hb); clear hb) | (refine gl 27 Try.func36 #[.slice A0 l0.length c0] rfl ?_; (with_reducible refine (impl_FindOpen.calls k _ _ l0 t427 true _ ?side1 ?side2 A8.out).mono ?_); (case side1 => exact pc (Kd.C_below HR0.out HB.out)); (case side2 => exact HC0.out); rintro e w14 ⟨rfl, hb⟩; refine ⟨_, rfl, ?_⟩; replace BK425 := am (blk_below (pb BK425.out) hb); replace HB := am (below_step (bg1 HB.out GE425.out) hb); clear hb; obtain ⟨hcz15_0, hcz15_1, hcz15_2, hcz15_3⟩ := b4 BK425.out; obtain ⟨hfz15_0, hfz15_1, hfz15_2, hfz15_3⟩ := f4 BK425.out) | ((with_reducible refine gate_dst (N := 34) rfl ?_); refine Kd.R_lit k38 _ 38 ?hg (N := 34) ?hd (xs := ([(⟨3, 0, 0, t427, (⟨a1, t424, a2, a3⟩ : S36)⟩ : S38)] : List (S38))) (inner := [.int .i64 3, .int .i64 0, .int .i64 0, .int .i64 t427, .int .i64 a1, .int .i64 t424, .int .i64 a2, .int .i64 a3]) (ok := fun _ => True) (okp := fun _ => True) ?hr ?hp (fun _ hk => hk) trivial (Below.refl _ _) (Nat.le_refl _) (by simp) ?_; (case hd => rfl); (case hg => rfl); (case hr => first | (go_simp; done) | (go_simp; rfl)); (case hp => exact (Reps.c8 (show Kd.M k38 _ _ _ (⟨3, 0, 0, t427, (⟨a1, t424, a2, a3⟩ : S36)⟩ : S38) [.int .i64 3, .int .i64 0, .int .i64 0, .int .i64 t427, .int .i64 a1, .int .i64 t424, .int .i64 a2, .int .i64 a3] from (k38_mkM _ _ _ (⟨3, 0, 0, t427, (⟨a1, t424, a2, a3⟩ : S36)⟩ : S38) )) (Reps.none _ _))); intro v430 w16 ho17 hb hg_ hnew_; clear hg_ hnew_; (first | rw [← Ny429.out] at ho17 | (simp only [Int.reduceToNat] at ho17; rw [← Ny429.out] at ho17)); have HO431 := am (Kd.R_lower ho17 (below_size (bg1 HB.out GE425.out))); replace BK425 := am (blk_below (pb BK425.out) hb); replace HB := am (below_step (bg1 HB.out GE425.out) hb); clear hb ho17))
   go_ret
   exact ⟨_, rq ⟨pr HO431.out, bg1 HB.out GE425.out⟩⟩
 replace c9 := Bool.eq_false_iff.mpr c9
 subst c9
 rw [if_neg (show ¬ (false = true) by decide)] at H
 replace H := Option.bind_eq_some_iff.mp H
 obtain ⟨t432, A180, H⟩ := H
 have A18 := am A180
 clear A180
 obtain ⟨c19b0, H⟩ := ifd H
 obtain ⟨c20b0, H⟩ := ifd H
 by_cases c21 : ((rd_T73 l0 t432).f1) = 200
 · rw [if_pos c21] at H
   have c21b0 : (((rd_T73 l0 t432).f1) == 200) = true := beq_iff_eq.mpr c21
   have c21b1 : (((rd_T73 l0 t432).f1) != 200) = false := bne_eq_false_iff_eq.mpr c21
   clear c21
   obtain rfl := Option.some.inj H
   go_enter Try.func18, Try.ntmps18
   go_wp2_with (first | (refine gl 18 Try.func34 #[.slice A0 l0.length c0] rfl ?_; (with_reducible refine (impl_FindNext.calls _ _ l0 t424 _ ?side1 ?side2 A5.out).mono ?_); (case side1 => exact pc HR0.out); (case side2 => exact HC0.out); rintro e w22 ⟨rfl, hb⟩; refine ⟨_, rfl, ?_⟩; replace HB := am (below_step (ph HB.out) hb); clear hb) | (refine bx 9 #[.int .i64 0, .int .i64 0, .int .i64 0, .int .i64 0] 36 rfl ?_; intro gb425 hg w23 hbox hb; have BK425 := am (hbox); have GW425 := am (ge hg (ph HB.out)); have GE425 := GW425; replace HB := am (below_step (ph HB.out) hb); clear hb hbox hg; obtain ⟨hcz24_0, hcz24_1, hcz24_2, hcz24_3⟩ := b4 BK425.out; obtain ⟨hfz24_0, hfz24_1, hfz24_2, hfz24_3⟩ := f4 BK425.out) | (refine gl 23 Try.func35 #[.agg #[.int .i64 a1, .int .i64 t424, .int .i64 a2, .int .i64 a3]] rfl ?_; (with_reducible refine (impl_RecOk.calls a1 t424 a2 a3 true _ A6.out).mono ?_); rintro e w25 ⟨rfl, hb⟩; refine ⟨_, rfl, ?_⟩; replace BK425 := am (blk_below (bp4 (pb BK425.out)) hb); replace HB := am (below_step (bg1 HB.out GE425.out) hb); clear hb) | (refine gl 27 Try.func36 #[.slice A0 l0.length c0] rfl ?_; (with_reducible refine (impl_FindOpen.calls k _ _ l0 t427 false _ ?side1 ?side2 A8.out).mono ?_); (case side1 => exact pc (Kd.C_below HR0.out HB.out)); (case side2 => exact HC0.out); rintro e w26 ⟨rfl, hb⟩; refine ⟨_, rfl, ?_⟩; replace BK425 := am (blk_below (pb BK425.out) hb); replace HB := am (below_step (bg1 HB.out GE425.out) hb); clear hb) | (refine gl 36 Try.func37 #[.slice A0 l0.length c0] rfl ?_; (with_reducible refine (impl_FindOld.calls _ _ l0 t432 _ ?side1 ?side2 A18.out).mono ?_); (case side1 => exact pc (Kd.C_below HR0.out HB.out)); (case side2 => exact HC0.out); rintro e w27 ⟨rfl, hb⟩; refine ⟨_, rfl, ?_⟩; replace BK425 := am (blk_below (pb BK425.out) hb); replace HB := am (below_step (bg1 HB.out GE425.out) hb); clear hb; have p433 : 0 ≤ (t432 : Int) := ofb; have q433 : t432 < (l0.length : Int) := ofb; obtain ⟨ad433, A433_0, c433_0, e433, hx433_0, hx433_1, hl433_0, hi433_0⟩ := at_T73 HR0.out t432 p433 q433; cases e433; replace hx433_0 := up HB.out hx433_0; replace hx433_1 := up HB.out hx433_1; have HR433_0 := am hi433_0; have HC433_0 := am hl433_0; clear hi433_0 hl433_0; replace p433 := eq_true p433; replace q433 := eq_true q433))
   go_ret
   exact ⟨_, rq ⟨by first | exact Kd.R_nil _ _ _ _ _ | exact Kd.N_nil _ _ _ _ _ | exact Kd.V_nil _ _ _ _ _ | exact Kd.Q_nil _ _ _ _ _ | exact Kd.S_nil _ _ _ _ _, bg1 HB.out GE425.out⟩⟩
 rw [if_neg c21] at H
 have c21b0 : (((rd_T73 l0 t432).f1) == 200) = false := beq_eq_false_iff_ne.mpr c21
 have c21b1 : (((rd_T73 l0 t432).f1) != 200) = true := bne_iff_ne.mpr c21
 have H' := am H
 clear H
 go_enter Try.func18, Try.ntmps18
 go_wp2_with (first | (refine gl 18 Try.func34 #[.slice A0 l0.length c0] rfl ?_; (with_reducible refine (impl_FindNext.calls _ _ l0 t424 _ ?side1 ?side2 A5.out).mono ?_); (case side1 => exact pc HR0.out); (case side2 => exact HC0.out); rintro e w28 ⟨rfl, hb⟩; refine ⟨_, rfl, ?_⟩; replace HB := am (below_step (ph HB.out) hb); clear hb) | (refine bx 9 #[.int .i64 0, .int .i64 0, .int .i64 0, .int .i64 0] 36 rfl ?_; intro gb425 hg w29 hbox hb; have BK425 := am (hbox); have GW425 := am (ge hg (ph HB.out)); have GE425 := GW425; replace HB := am (below_step (ph HB.out) hb); clear hb hbox hg; obtain ⟨hcz30_0, hcz30_1, hcz30_2, hcz30_3⟩ := b4 BK425.out; obtain ⟨hfz30_0, hfz30_1, hfz30_2, hfz30_3⟩ := f4 BK425.out) | (refine gl 23 Try.func35 #[.agg #[.int .i64 a1, .int .i64 t424, .int .i64 a2, .int .i64 a3]] rfl ?_; (with_reducible refine (impl_RecOk.calls a1 t424 a2 a3 true _ A6.out).mono ?_); rintro e w31 ⟨rfl, hb⟩; refine ⟨_, rfl, ?_⟩; replace BK425 := am (blk_below (bp4 (pb BK425.out)) hb); replace HB := am (below_step (bg1 HB.out GE425.out) hb); clear hb) | (refine gl 27 Try.func36 #[.slice A0 l0.length c0] rfl ?_; (with_reducible refine (impl_FindOpen.calls k _ _ l0 t427 false _ ?side1 ?side2 A8.out).mono ?_); (case side1 => exact pc (Kd.C_below HR0.out HB.out)); (case side2 => exact HC0.out); rintro e w32 ⟨rfl, hb⟩; refine ⟨_, rfl, ?_⟩; replace BK425 := am (blk_below (pb BK425.out) hb); replace HB := am (below_step (bg1 HB.out GE425.out) hb); clear hb) | (refine gl 36 Try.func37 #[.slice A0 l0.length c0] rfl ?_; (with_reducible refine (impl_FindOld.calls _ _ l0 t432 _ ?side1 ?side2 A18.out).mono ?_); (case side1 => exact pc (Kd.C_below HR0.out HB.out)); (case side2 => exact HC0.out); rintro e w33 ⟨rfl, hb⟩; refine ⟨_, rfl, ?_⟩; replace BK425 := am (blk_below (pb BK425.out) hb); replace HB := am (below_step (bg1 HB.out GE425.out) hb); clear hb; have p433 : 0 ≤ (t432 : Int) := ofb; have q433 : t432 < (l0.length : Int) := ofb; obtain ⟨ad433, A433_0, c433_0, e433, hx433_0, hx433_1, hl433_0, hi433_0⟩ := at_T73 HR0.out t432 p433 q433; cases e433; replace hx433_0 := up HB.out hx433_0; replace hx433_1 := up HB.out hx433_1; have HR433_0 := am hi433_0; have HC433_0 := am hl433_0; clear hi433_0 hl433_0; replace p433 := eq_true p433; replace q433 := eq_true q433; have p434 : 0 ≤ (t432 : Int) := ofb; have q434 : t432 < (l0.length : Int) := ofb; obtain ⟨ad434, A434_0, c434_0, e434, hx434_0, hx434_1, hl434_0, hi434_0⟩ := at_T73 HR0.out t432 p434 q434; obtain rfl : ad433 = ad434 := (by injection e434); replace hx434_0 := up HB.out hx434_0; replace hx434_1 := up HB.out hx434_1; have HR434_0 := am hi434_0; have HC434_0 := am hl434_0; clear hi434_0 hl434_0; replace p434 := eq_true p434; replace q434 := eq_true q434; have ea_ := Option.some.inj (hx433_0.symm.trans hx434_0); injection ea_ with ea_ en_ ec_; subst ea_; subst ec_; clear en_))
 go_loopg [13, 49] k (fun kq v13 v49 w' => ∃ (x13_1 : List (S38)) (x49_1 : Int), v49 = .int .i64 x49_1 ∧ Aside0 (impl_stepsWrite.l0 kq l0 t432 x13_1 ((rd_T73 l0 t432).f0) (((rd_T73 l0 t432).f0).length : Int) x49_1 a1 t424 a2 a3 = some r) ∧ Aside0 (kq ≤ k) ∧ Aside0 (Kd.R k38 38 w' w.heap.size (fun _ => True) v13 x13_1) ∧ Aside0 (w'.heap[gb425]? = some (.cells #[.int .i64 a1, .int .i64 t424, .int .i64 a2, .int .i64 a3] 36 (0, 0))) ∧ Aside0 (Below w.heap.size w w'))
 case atStart => exact ⟨(([] : List (S38))), (0), rf, H', ⟨Nat.le_refl _⟩, ⟨by first | exact Kd.R_nil _ _ _ _ _ | exact Kd.N_nil _ _ _ _ _ | exact Kd.V_nil _ _ _ _ _ | exact Kd.Q_nil _ _ _ _ _ | exact Kd.S_nil _ _ _ _ _⟩, ⟨pb BK425.out⟩, ⟨bg1 HB.out GE425.out⟩⟩
 case round =>
  clear H'
  obtain ⟨x13_1, x49_1, rfl, HA, HK1, HO_13, BK425, HB⟩ := hrel
  cases gk with
  | zero => exact absurd HA.out (by simp [impl_stepsWrite.l0])
  | succ k1 =>
   have H := HA.out
   clear HA
   simp only [impl_stepsWrite.l0] at H
   by_cases c34 : x49_1 < (((rd_T73 l0 t432).f0).length : Int)
   rotate_left
   · rw [if_neg c34] at H
     have c34b0 := decide_eq_false c34
     clear c34
     by_cases c60 : x13_1.length < 2199023255552
     rotate_left
     · rw [if_neg c60] at H
       exact absurd H (by simp)
     rw [if_pos c60] at H
     have LMc60 := am c60
     clear c60
     obtain ⟨y435, hy435⟩ : ∃ y_ : List (S38), y_ = (x13_1 ++ [(⟨2, 0, 0, t432, (⟨0, 0, 0, 0⟩ : S36)⟩ : S38)]) := ⟨_, rfl⟩
     replace H : (if y435.length < 2199023255552 then (some (y435 ++ [(⟨3, 0, 0, t432, (⟨a1, t424, a2, a3⟩ : S36)⟩ : S38)])) else (none)) = some r := yy hy435 H
     have Ny435 := am hy435
     clear hy435
     by_cases c61 : y435.length < 2199023255552
     rotate_left
     · rw [if_neg c61] at H
       exact absurd H (by simp)
     rw [if_pos c61] at H
     have LMc61 := am c61
     clear c61
     obtain ⟨y438, hy438⟩ : ∃ y_ : List (S38), y_ = (y435 ++ [(⟨3, 0, 0, t432, (⟨a1, t424, a2, a3⟩ : S36)⟩ : S38)]) := ⟨_, rfl⟩
     replace H : (some y438) = some r := yy hy438 H
     have Ny438 := am hy438
     clear hy438
     obtain rfl := Option.some.inj H
     go_wp2_with (first | ((with_reducible refine gate_builtin (b := .append) (xs := #[.tmp 70, .tmp 73]) rfl ?_); at_builtin; refine Kd.R_append k38 (w0 := w) w.heap.size rfl (.tmp 70) (.tmp 73) 29 38 (.agg #[(.int .i64 0), (.int .i64 0), (.int .i64 0), (.int .i64 0), (.int .i64 0), (.int .i64 0), (.int .i64 0), (.int .i64 0)]) 64 rfl Try.underlying29 info38 rfl (by decide) (by omega) u13 x13_1 (⟨2, 0, 0, t432, (⟨0, 0, 0, 0⟩ : S36)⟩ : S38) [.int .i64 2, .int .i64 0, .int .i64 0, .int .i64 t432, .int .i64 0, .int .i64 0, .int .i64 0, .int .i64 0] (fun _ => True) (fun _ => False) rfl rfl ?aP (fun _ hk => hk.elim) ?aF ?aO ?aB ?aS ?aL ?_; (case aP => exact k38_mkM _ _ _ (⟨2, 0, 0, t432, (⟨0, 0, 0, 0⟩ : S36)⟩ : S38)); (case aB => exact (bg1 HB.out GE425.out)); (case aF => exact (fun _ _ => trivial)); (case aO => exact (pr HO_13.out)); (case aS => exact (below_size (bg1 HB.out GE425.out))); (case aL => have := LMc60.out; omega); intro v436 w62 ho hb hg hat; rw [← Ny435.out] at ho; replace BK425 := am (blk_grown (g := gb425) (o := .cells #[.int .i64 a1, .int .i64 t424, .int .i64 a2, .int .i64 a3] 36 (0, 0)) (pb BK425.out) hg (Kd.R_ne HO_13.out BK425.out (by decide))); replace HB := am (hb); have HO437 := am (ho); clear HO_13; clear ho hb hg hat; obtain ⟨hcz63_0, hcz63_1, hcz63_2, hcz63_3⟩ := b4 BK425.out; obtain ⟨hfz63_0, hfz63_1, hfz63_2, hfz63_3⟩ := f4 BK425.out) | ((with_reducible refine gate_builtin (b := .append) (xs := #[.tmp 75, .tmp 79]) rfl ?_); at_builtin; refine Kd.R_append k38 (w0 := w) w.heap.size rfl (.tmp 75) (.tmp 79) 29 38 (.agg #[(.int .i64 0), (.int .i64 0), (.int .i64 0), (.int .i64 0), (.int .i64 0), (.int .i64 0), (.int .i64 0), (.int .i64 0)]) 64 rfl Try.underlying29 info38 rfl (by decide) (by omega) v436 y435 (⟨3, 0, 0, t432, (⟨a1, t424, a2, a3⟩ : S36)⟩ : S38) [.int .i64 3, .int .i64 0, .int .i64 0, .int .i64 t432, .int .i64 a1, .int .i64 t424, .int .i64 a2, .int .i64 a3] (fun _ => True) (fun _ => False) rfl rfl ?aP (fun _ hk => hk.elim) ?aF ?aO ?aB ?aS ?aL ?_; (case aP => exact k38_mkM _ _ _ (⟨3, 0, 0, t432, (⟨a1, t424, a2, a3⟩ : S36)⟩ : S38)); (case aB => exact (bg1 HB.out GE425.out)); (case aF => exact (fun _ _ => trivial)); (case aO => exact (pr HO437.out)); (case aS => exact (below_size (bg1 HB.out GE425.out))); (case aL => have := LMc61.out; omega); intro v439 w64 ho hb hg hat; rw [← Ny438.out] at ho; replace BK425 := am (blk_grown (g := gb425) (o := .cells #[.int .i64 a1, .int .i64 t424, .int .i64 a2, .int .i64 a3] 36 (0, 0)) (pb BK425.out) hg (Kd.R_ne HO437.out BK425.out (by decide))); replace HB := am (hb); have HO440 := am (ho); clear HO437; clear ho hb hg hat))
     go_ret
     exact ⟨_, rq ⟨pr HO440.out, bg1 HB.out GE425.out⟩⟩
   rw [if_pos c34] at H
   have c34b0 := decide_eq_true c34
   clear c34
   obtain ⟨c35b0, H⟩ := ifd H
   obtain ⟨c36b0, H⟩ := ifd H
   replace H := Option.bind_eq_some_iff.mp H
   obtain ⟨t443, A370, H⟩ := H
   have A37 := am A370
   clear A370
   by_cases c38 : t443 = true
   rotate_left
   · replace c38 := Bool.eq_false_iff.mpr c38
     subst c38
     rw [if_neg (show ¬ (false = true) by decide)] at H
     have H' := am H
     clear H
     have p441 : 0 ≤ (x49_1 : Int) := ofb
     have q441 : x49_1 < (((rd_T73 l0 t432).f0).length : Int) := ofb
     obtain ⟨ad441, e441, hx441_0, hx441_1, hx441_2, hx441_3, hx441_4⟩ := at_T69 HR434_0.out x49_1 p441 q441
     cases e441
     replace hx441_0 := up HB.out hx441_0
     replace hx441_1 := up HB.out hx441_1
     replace hx441_2 := up HB.out hx441_2
     replace hx441_3 := up HB.out hx441_3
     replace hx441_4 := up HB.out hx441_4
     replace p441 := eq_true p441
     replace q441 := eq_true q441
     go_wp2_with (first | (refine bx 15 #[.int .i64 0, .int .i64 0, .int .i64 0, .int .i64 0, .int .i64 0] 69 rfl ?_; intro gb442 hg w56 hbox hb; replace HO_13 := am (Kd.R_below (pr HO_13.out) hb); have BK442 := am (hbox); have GW442 := am (ge hg (bg1 HB.out GE425.out)); have GE442 := GW442; replace HB := am (below_step (bg1 HB.out GE425.out) hb); have NB425_442 := am (nb hg (pb BK425.out)); have NB442_425 := am (Ne.symm NB425_442.out); replace BK425 := am (blk_below (pb BK425.out) hb); clear hb hbox hg; have hnb57 := NB442_425.out; have hnc57 := NB425_442.out; obtain ⟨hcz58_0, hcz58_1, hcz58_2, hcz58_3, hcz58_4⟩ := b5 BK442.out; obtain ⟨hfz58_0, hfz58_1, hfz58_2, hfz58_3, hfz58_4⟩ := f5 BK442.out) | (refine gl 56 Try.func17 #[.agg #[.int .i64 ((rd_T69 ((rd_T73 l0 t432).f0) x49_1).f1.f0), .int .i64 ((rd_T69 ((rd_T73 l0 t432).f0) x49_1).f1.f1), .int .i64 ((rd_T69 ((rd_T73 l0 t432).f0) x49_1).f1.f2), .int .i64 ((rd_T69 ((rd_T73 l0 t432).f0) x49_1).f1.f3)]] rfl ?_; (with_reducible refine (impl_Rec_isDirty.calls ((rd_T69 ((rd_T73 l0 t432).f0) x49_1).f1.f0) ((rd_T69 ((rd_T73 l0 t432).f0) x49_1).f1.f1) ((rd_T69 ((rd_T73 l0 t432).f0) x49_1).f1.f2) ((rd_T69 ((rd_T73 l0 t432).f0) x49_1).f1.f3) false _ A37.out).mono ?_); rintro e w59 ⟨rfl, hb⟩; refine ⟨_, rfl, ?_⟩; replace HO_13 := am (Kd.R_below (pr ((Kd.R_mono (Kd.R_far (p := ⟨gb442, 4, none⟩) (Kd.R_far (p := ⟨gb442, 3, none⟩) (Kd.R_far (p := ⟨gb442, 2, none⟩) (Kd.R_far (p := ⟨gb442, 1, none⟩) (Kd.R_far (p := ⟨gb442, 0, none⟩) (Kd.R_types HO_13.out BK442.out (by decide)) (fun _ hk => hk.2) (.int .i64 ((rd_T69 ((rd_T73 l0 t432).f0) x49_1).f0))) (fun _ hk => hk.2) (.int .i64 ((rd_T69 ((rd_T73 l0 t432).f0) x49_1).f1.f0))) (fun _ hk => hk.2) (.int .i64 ((rd_T69 ((rd_T73 l0 t432).f0) x49_1).f1.f1))) (fun _ hk => hk.2) (.int .i64 ((rd_T69 ((rd_T73 l0 t432).f0) x49_1).f1.f2))) (fun _ hk => hk.2) (.int .i64 ((rd_T69 ((rd_T73 l0 t432).f0) x49_1).f1.f3))) (fun _ h_ => h_.1)))) hb); replace BK425 := am (blk_below (bf5 (pb BK425.out) NB425_442.out) hb); replace BK442 := am (blk_below (bp5 (pb BK442.out)) hb); replace HB := am (below_step (bg2 HB.out GE425.out GE442.out) hb); clear hb))
     go_roundg k1
     case measure => have := HK1.out; omega
     case rel => exact ⟨(x13_1), (wrap64 (x49_1 + 1)), rf, H', ⟨by have := HK1.out; omega⟩, ⟨pr HO_13.out⟩, ⟨pb BK425.out⟩, ⟨bg2 HB.out GE425.out GE442.out⟩⟩
   subst c38
   rw [if_pos rfl] at H
   replace H := Option.bind_eq_some_iff.mp H
   obtain ⟨t444, A390, H⟩ := H
   have A39 := am A390
   clear A390
   by_cases c40 : t444 = true
   rotate_left
   · replace c40 := Bool.eq_false_iff.mpr c40
     subst c40
     rw [if_neg (show ¬ (false = true) by decide)] at H
     have H' := am H
     clear H
     have p441 : 0 ≤ (x49_1 : Int) := ofb
     have q441 : x49_1 < (((rd_T73 l0 t432).f0).length : Int) := ofb
     obtain ⟨ad441, e441, hx441_0, hx441_1, hx441_2, hx441_3, hx441_4⟩ := at_T69 HR434_0.out x49_1 p441 q441
     cases e441
     replace hx441_0 := up HB.out hx441_0
     replace hx441_1 := up HB.out hx441_1
     replace hx441_2 := up HB.out hx441_2
     replace hx441_3 := up HB.out hx441_3
     replace hx441_4 := up HB.out hx441_4
     replace p441 := eq_true p441
     replace q441 := eq_true q441
     go_wp2_with (first | (refine bx 15 #[.int .i64 0, .int .i64 0, .int .i64 0, .int .i64 0, .int .i64 0] 69 rfl ?_; intro gb442 hg w51 hbox hb; replace HO_13 := am (Kd.R_below (pr HO_13.out) hb); have BK442 := am (hbox); have GW442 := am (ge hg (bg1 HB.out GE425.out)); have GE442 := GW442; replace HB := am (below_step (bg1 HB.out GE425.out) hb); have NB425_442 := am (nb hg (pb BK425.out)); have NB442_425 := am (Ne.symm NB425_442.out); replace BK425 := am (blk_below (pb BK425.out) hb); clear hb hbox hg; have hnb52 := NB442_425.out; have hnc52 := NB425_442.out; obtain ⟨hcz53_0, hcz53_1, hcz53_2, hcz53_3, hcz53_4⟩ := b5 BK442.out; obtain ⟨hfz53_0, hfz53_1, hfz53_2, hfz53_3, hfz53_4⟩ := f5 BK442.out) | (refine gl 56 Try.func17 #[.agg #[.int .i64 ((rd_T69 ((rd_T73 l0 t432).f0) x49_1).f1.f0), .int .i64 ((rd_T69 ((rd_T73 l0 t432).f0) x49_1).f1.f1), .int .i64 ((rd_T69 ((rd_T73 l0 t432).f0) x49_1).f1.f2), .int .i64 ((rd_T69 ((rd_T73 l0 t432).f0) x49_1).f1.f3)]] rfl ?_; (with_reducible refine (impl_Rec_isDirty.calls ((rd_T69 ((rd_T73 l0 t432).f0) x49_1).f1.f0) ((rd_T69 ((rd_T73 l0 t432).f0) x49_1).f1.f1) ((rd_T69 ((rd_T73 l0 t432).f0) x49_1).f1.f2) ((rd_T69 ((rd_T73 l0 t432).f0) x49_1).f1.f3) true _ A37.out).mono ?_); rintro e w54 ⟨rfl, hb⟩; refine ⟨_, rfl, ?_⟩; replace HO_13 := am (Kd.R_below (pr ((Kd.R_mono (Kd.R_far (p := ⟨gb442, 4, none⟩) (Kd.R_far (p := ⟨gb442, 3, none⟩) (Kd.R_far (p := ⟨gb442, 2, none⟩) (Kd.R_far (p := ⟨gb442, 1, none⟩) (Kd.R_far (p := ⟨gb442, 0, none⟩) (Kd.R_types HO_13.out BK442.out (by decide)) (fun _ hk => hk.2) (.int .i64 ((rd_T69 ((rd_T73 l0 t432).f0) x49_1).f0))) (fun _ hk => hk.2) (.int .i64 ((rd_T69 ((rd_T73 l0 t432).f0) x49_1).f1.f0))) (fun _ hk => hk.2) (.int .i64 ((rd_T69 ((rd_T73 l0 t432).f0) x49_1).f1.f1))) (fun _ hk => hk.2) (.int .i64 ((rd_T69 ((rd_T73 l0 t432).f0) x49_1).f1.f2))) (fun _ hk => hk.2) (.int .i64 ((rd_T69 ((rd_T73 l0 t432).f0) x49_1).f1.f3))) (fun _ h_ => h_.1)))) hb); replace BK425 := am (blk_below (bf5 (pb BK425.out) NB425_442.out) hb); replace BK442 := am (blk_below (bp5 (pb BK442.out)) hb); replace HB := am (below_step (bg2 HB.out GE425.out GE442.out) hb); clear hb) | (go_at_call 38; (with_reducible refine (impl_FindLive.calls k1 _ _ l0 t432 x49_1 false _ ?side1 ?side2 A39.out).mono ?_); (case side1 => exact pc (Kd.C_below HR0.out HB.out)); (case side2 => exact HC0.out); rintro e w55 ⟨rfl, hb⟩; replace HO_13 := am (Kd.R_below (pr HO_13.out) hb); replace BK425 := am (blk_below (pb BK425.out) hb); replace BK442 := am (blk_below (pb BK442.out) hb); replace HB := am (below_step (bg2 HB.out GE425.out GE442.out) hb); clear hb))
     go_roundg k1
     case measure => have := HK1.out; omega
     case rel => exact ⟨(x13_1), (wrap64 (x49_1 + 1)), rf, H', ⟨by have := HK1.out; omega⟩, ⟨pr HO_13.out⟩, ⟨pb BK425.out⟩, ⟨bg2 HB.out GE425.out GE442.out⟩⟩
   subst c40
   rw [if_pos rfl] at H
   replace H := Option.bind_eq_some_iff.mp H
   obtain ⟨⟨t445, t446, t447, t448, t449, t450, t451, t452⟩, A410, H⟩ := H
   have A41 := am A410
   clear A410
   by_cases c42 : x13_1.length < 2199023255552
   rotate_left
   · rw [if_neg c42] at H
     exact absurd H (by simp)
   rw [if_pos c42] at H
   have LMc42 := am c42
   clear c42
   obtain ⟨y453, hy453⟩ : ∃ y_ : List (S38), y_ = (x13_1 ++ [(⟨t445, t446, t447, t448, (⟨t449, t450, t451, t452⟩ : S36)⟩ : S38)]) := ⟨_, rfl⟩
   replace H : (impl_stepsWrite.l0 k1 l0 t432 y453 ((rd_T73 l0 t432).f0) (((rd_T73 l0 t432).f0).length : Int) (wrap64 (x49_1 + 1)) a1 t424 a2 a3) = some r := yy hy453 H
   have Ny453 := am hy453
   clear hy453
   have H' := am H
   clear H
   have p441 : 0 ≤ (x49_1 : Int) := ofb
   have q441 : x49_1 < (((rd_T73 l0 t432).f0).length : Int) := ofb
   obtain ⟨ad441, e441, hx441_0, hx441_1, hx441_2, hx441_3, hx441_4⟩ := at_T69 HR434_0.out x49_1 p441 q441
   cases e441
   replace hx441_0 := up HB.out hx441_0
   replace hx441_1 := up HB.out hx441_1
   replace hx441_2 := up HB.out hx441_2
   replace hx441_3 := up HB.out hx441_3
   replace hx441_4 := up HB.out hx441_4
   replace p441 := eq_true p441
   replace q441 := eq_true q441
   go_wp2_with (first | (refine bx 15 #[.int .i64 0, .int .i64 0, .int .i64 0, .int .i64 0, .int .i64 0] 69 rfl ?_; intro gb442 hg w43 hbox hb; replace HO_13 := am (Kd.R_below (pr HO_13.out) hb); have BK442 := am (hbox); have GW442 := am (ge hg (bg1 HB.out GE425.out)); have GE442 := GW442; replace HB := am (below_step (bg1 HB.out GE425.out) hb); have NB425_442 := am (nb hg (pb BK425.out)); have NB442_425 := am (Ne.symm NB425_442.out); replace BK425 := am (blk_below (pb BK425.out) hb); clear hb hbox hg; have hnb44 := NB442_425.out; have hnc44 := NB425_442.out; obtain ⟨hcz45_0, hcz45_1, hcz45_2, hcz45_3, hcz45_4⟩ := b5 BK442.out; obtain ⟨hfz45_0, hfz45_1, hfz45_2, hfz45_3, hfz45_4⟩ := f5 BK442.out) | (refine gl 56 Try.func17 #[.agg #[.int .i64 ((rd_T69 ((rd_T73 l0 t432).f0) x49_1).f1.f0), .int .i64 ((rd_T69 ((rd_T73 l0 t432).f0) x49_1).f1.f1), .int .i64 ((rd_T69 ((rd_T73 l0 t432).f0) x49_1).f1.f2), .int .i64 ((rd_T69 ((rd_T73 l0 t432).f0) x49_1).f1.f3)]] rfl ?_; (with_reducible refine (impl_Rec_isDirty.calls ((rd_T69 ((rd_T73 l0 t432).f0) x49_1).f1.f0) ((rd_T69 ((rd_T73 l0 t432).f0) x49_1).f1.f1) ((rd_T69 ((rd_T73 l0 t432).f0) x49_1).f1.f2) ((rd_T69 ((rd_T73 l0 t432).f0) x49_1).f1.f3) true _ A37.out).mono ?_); rintro e w46 ⟨rfl, hb⟩; refine ⟨_, rfl, ?_⟩; replace HO_13 := am (Kd.R_below (pr ((Kd.R_mono (Kd.R_far (p := ⟨gb442, 4, none⟩) (Kd.R_far (p := ⟨gb442, 3, none⟩) (Kd.R_far (p := ⟨gb442, 2, none⟩) (Kd.R_far (p := ⟨gb442, 1, none⟩) (Kd.R_far (p := ⟨gb442, 0, none⟩) (Kd.R_types HO_13.out BK442.out (by decide)) (fun _ hk => hk.2) (.int .i64 ((rd_T69 ((rd_T73 l0 t432).f0) x49_1).f0))) (fun _ hk => hk.2) (.int .i64 ((rd_T69 ((rd_T73 l0 t432).f0) x49_1).f1.f0))) (fun _ hk => hk.2) (.int .i64 ((rd_T69 ((rd_T73 l0 t432).f0) x49_1).f1.f1))) (fun _ hk => hk.2) (.int .i64 ((rd_T69 ((rd_T73 l0 t432).f0) x49_1).f1.f2))) (fun _ hk => hk.2) (.int .i64 ((rd_T69 ((rd_T73 l0 t432).f0) x49_1).f1.f3))) (fun _ h_ => h_.1)))) hb); replace BK425 := am (blk_below (bf5 (pb BK425.out) NB425_442.out) hb); replace BK442 := am (blk_below (bp5 (pb BK442.out)) hb); replace HB := am (below_step (bg2 HB.out GE425.out GE442.out) hb); clear hb) | (go_at_call 38; (with_reducible refine (impl_FindLive.calls k1 _ _ l0 t432 x49_1 true _ ?side1 ?side2 A39.out).mono ?_); (case side1 => exact pc (Kd.C_below HR0.out HB.out)); (case side2 => exact HC0.out); rintro e w47 ⟨rfl, hb⟩; replace HO_13 := am (Kd.R_below (pr HO_13.out) hb); replace BK425 := am (blk_below (pb BK425.out) hb); replace BK442 := am (blk_below (pb BK442.out) hb); replace HB := am (below_step (bg2 HB.out GE425.out GE442.out) hb); clear hb; have hcz48_0 : w47.cell? ⟨gb442, 0, none⟩ = some (.int .i64 ((rd_T69 ((rd_T73 l0 t432).f0) x49_1).f0)) := (blk_cell BK442.out 0).trans rfl; have hcz48_1 : w47.cell? ⟨gb442, 1, none⟩ = some (.int .i64 ((rd_T69 ((rd_T73 l0 t432).f0) x49_1).f1.f0)) := (blk_cell BK442.out 1).trans rfl; have hcz48_2 : w47.cell? ⟨gb442, 2, none⟩ = some (.int .i64 ((rd_T69 ((rd_T73 l0 t432).f0) x49_1).f1.f1)) := (blk_cell BK442.out 2).trans rfl; have hcz48_3 : w47.cell? ⟨gb442, 3, none⟩ = some (.int .i64 ((rd_T69 ((rd_T73 l0 t432).f0) x49_1).f1.f2)) := (blk_cell BK442.out 3).trans rfl; have hcz48_4 : w47.cell? ⟨gb442, 4, none⟩ = some (.int .i64 ((rd_T69 ((rd_T73 l0 t432).f0) x49_1).f1.f3)) := (blk_cell BK442.out 4).trans rfl; obtain ⟨hfz48_0, hfz48_1, hfz48_2, hfz48_3, hfz48_4⟩ := f5 BK442.out) | (refine gl 66 Try.func19 #[.agg #[.int .i64 ((rd_T69 ((rd_T73 l0 t432).f0) x49_1).f1.f0), .int .i64 ((rd_T69 ((rd_T73 l0 t432).f0) x49_1).f1.f1), .int .i64 ((rd_T69 ((rd_T73 l0 t432).f0) x49_1).f1.f2), .int .i64 ((rd_T69 ((rd_T73 l0 t432).f0) x49_1).f1.f3)]] rfl ?_; (with_reducible refine (impl_diskStep.calls ((rd_T69 ((rd_T73 l0 t432).f0) x49_1).f1.f0) ((rd_T69 ((rd_T73 l0 t432).f0) x49_1).f1.f1) ((rd_T69 ((rd_T73 l0 t432).f0) x49_1).f1.f2) ((rd_T69 ((rd_T73 l0 t432).f0) x49_1).f1.f3) t445 t446 t447 t448 t449 t450 t451 t452 _ A41.out).mono ?_); rintro e w49 ⟨rfl, hb⟩; refine ⟨_, rfl, ?_⟩; replace HO_13 := am (Kd.R_below (pr HO_13.out) hb); replace BK425 := am (blk_below (pb BK425.out) hb); replace BK442 := am (blk_below (pb BK442.out) hb); replace HB := am (below_step (bg2 HB.out GE425.out GE442.out) hb); clear hb) | ((with_reducible refine gate_builtin (b := .append) (xs := #[.tmp 63, .tmp 67]) rfl ?_); at_builtin; refine Kd.R_append k38 (w0 := w) w.heap.size rfl (.tmp 63) (.tmp 67) 29 38 (.agg #[(.int .i64 0), (.int .i64 0), (.int .i64 0), (.int .i64 0), (.int .i64 0), (.int .i64 0), (.int .i64 0), (.int .i64 0)]) 64 rfl Try.underlying29 info38 rfl (by decide) (by omega) u13 x13_1 (⟨t445, t446, t447, t448, (⟨t449, t450, t451, t452⟩ : S36)⟩ : S38) [.int .i64 t445, .int .i64 t446, .int .i64 t447, .int .i64 t448, .int .i64 t449, .int .i64 t450, .int .i64 t451, .int .i64 t452] (fun _ => True) (fun _ => False) rfl rfl ?aP (fun _ hk => hk.elim) ?aF ?aO ?aB ?aS ?aL ?_; (case aP => exact k38_mkM _ _ _ (⟨t445, t446, t447, t448, (⟨t449, t450, t451, t452⟩ : S36)⟩ : S38)); (case aB => exact (bg2 HB.out GE425.out GE442.out)); (case aF => exact (fun _ _ => trivial)); (case aO => exact (pr HO_13.out)); (case aS => exact (below_size (bg2 HB.out GE425.out GE442.out))); (case aL => have := LMc42.out; omega); intro v454 w50 ho hb hg hat; rw [← Ny453.out] at ho; replace BK425 := am (blk_grown (g := gb425) (o := .cells #[.int .i64 a1, .int .i64 t424, .int .i64 a2, .int .i64 a3] 36 (0, 0)) (pb BK425.out) hg (Kd.R_ne HO_13.out BK425.out (by decide))); replace BK442 := am (blk_grown (g := gb442) (o := .cells #[.int .i64 ((rd_T69 ((rd_T73 l0 t432).f0) x49_1).f0), .int .i64 ((rd_T69 ((rd_T73 l0 t432).f0) x49_1).f1.f0), .int .i64 ((rd_T69 ((rd_T73 l0 t432).f0) x49_1).f1.f1), .int .i64 ((rd_T69 ((rd_T73 l0 t432).f0) x49_1).f1.f2), .int .i64 ((rd_T69 ((rd_T73 l0 t432).f0) x49_1).f1.f3)] 69 (0, 0)) (pb BK442.out) hg (Kd.R_ne HO_13.out BK442.out (by decide))); replace HB := am (hb); have HO455 := am (ho); clear HO_13; clear ho hb hg hat))
   go_roundg k1
   case measure => have := HK1.out; omega
   case rel => exact ⟨(y453), (wrap64 (x49_1 + 1)), rf, H', ⟨by have := HK1.out; omega⟩, ⟨pr HO455.out⟩, ⟨pb BK425.out⟩, ⟨bg2 HB.out GE425.out GE442.out⟩⟩
end Go.Proofs.Ytbhchamohldehaa.P4
