-- printed by wip/pp/pp.py
import Derived.Test.YtjlmndgpmhbdlaaRz0
import Derived.Test.YtjlmndgpmhbdlaaRz1
import Derived.Test.YtjlmndgpmhbdlaaRz3
namespace Go.Proofs.Ytjlmndgpmhbdlaa.Rz
open Go.RowKit Go.Proofs.YtjlmndgpmhbdlaaW.PrintWords Go.Proofs.YtjlmndgpmhbdlaaW.PrintLast Go.Proofs.YtjlmndgpmhbdlaaW.PrintMore
attribute [local go_sem] max2_int min2_int max_two min_two max_three min_three max_four min_four
set_option linter.unusedVariables false
set_option linter.unusedSimpArgs false
def spec_l11Dirty.f (k : Nat) (l0_0 : List (S62)) (l0_1 : List Int) (a1 : Int) : Option (Bool) := (spec_l3Last.f k l0_0 a1).bind fun bt172 => (if bt172.2.2.2.2 = true then (some (bt172.1 == 1)) else (some false))
theorem spec_l11Dirty.mono : ∀ a0 a1 a2 k, LeO (spec_l11Dirty.f k a0 a1 a2) (spec_l11Dirty.f (k + 1) a0 a1 a2) := by
 intro a0 a1 a2 k
 unfold spec_l11Dirty.f
 with_reducible repeat' first | exact spec_l3Last.mono _ _ _ | exact LeO.refl _ | exact LeO.none _ | refine LeO.ite ?_ ?_ | refine LeO.bind ?_ (fun _ => ?_)
set_option maxHeartbeats 8000000 in
set_option maxRecDepth 100000 in
theorem spec_l11Dirty.calls (k : Nat) (A0_0 : Option Addr) (c0_0 : Nat) (l0_0 : List (S62)) (A0_1 : Option Addr) (c0_1 : Nat) (l0_1 : List Int) (a1 : Int) (r : Bool) (w : World) (hr0_0 : Kd.C k62 w A0_0 l0_0.length l0_0) (hc0_0 : l0_0.length ≤ c0_0) (hr0_1 : Kd.C (Kd.int .i64) w A0_1 l0_1.length l0_1) (hc0_1 : l0_1.length ≤ c0_1) (h : spec_l11Dirty.f k l0_0 l0_1 a1 = some r) :
 Calls Try.prog 16 #[.agg #[.slice A0_0 l0_0.length c0_0, .slice A0_1 l0_1.length c0_1], .int .i64 a1] w fun e w' => e = .returned (.bool r) ∧ Below w.heap.size w w' := by
 have hu26 := Try.underlying26
 have hu32 := Try.underlying32
 have HR0_0 := am hr0_0
 have HC0_0 := am hc0_0
 clear hr0_0 hc0_0
 have HR0_1 := am hr0_1
 have HC0_1 := am hc0_1
 clear hr0_1 hc0_1
 have HB := am (Below.refl w.heap.size w)
 have H : ((spec_l3Last.f k l0_0 a1).bind fun bt172 => (if bt172.2.2.2.2 = true then (some (bt172.1 == 1)) else (some false))) = some r := h
 clear h
 replace H := Option.bind_eq_some_iff.mp H
 obtain ⟨⟨t172, t173, t174, t175, t176⟩, A30, H⟩ := H
 have A3 := am A30
 clear A30
 by_cases c4 : t176 = true
 · subst c4
   rw [if_pos rfl] at H
   obtain rfl := Option.some.inj H
   go_enter Try.func16, Try.ntmps16
   go_wp2_with (first | (refine bx 2 #[.slice A0_0 l0_0.length c0_0, .slice A0_1 l0_1.length c0_1] 26 rfl ?_; intro gb171 hg w5 hbox hb; have BK171 := am (hbox); have GW171 := am (ge hg (ph HB.out)); have GE171 := GW171; replace HB := am (below_step (ph HB.out) hb); clear hb hbox hg; obtain ⟨hcz6_0, hcz6_1⟩ := b2 BK171.out; obtain ⟨hfz6_0, hfz6_1⟩ := f2 BK171.out) | (refine gl 11 Try.func18 #[.slice A0_0 l0_0.length c0_0, .int .i64 a1] rfl ?_; (with_reducible refine (spec_l3Last.calls k _ _ l0_0 a1 t172 t173 t174 t175 true _ ?side1 ?side2 A3.out).mono ?_); (case side1 => exact pc (Kd.C_below HR0_0.out HB.out)); (case side2 => exact HC0_0.out); rintro e w7 ⟨rfl, hb⟩; refine ⟨_, rfl, ?_⟩; replace BK171 := am (blk_below (pb BK171.out) hb); replace HB := am (below_step (bg1 HB.out GE171.out) hb); (try clear hb); (try clear hb2); (try clear hk); (try clear hi)) | (refine bx 5 #[.int .i64 0, .int .i64 0, .int .i64 0, .int .i64 0] 32 rfl ?_; intro gb177 hg w8 hbox hb; have BK177 := am (hbox); have GW177 := am (ge hg (bg1 HB.out GE171.out)); have GE177 := GW177; replace HB := am (below_step (bg1 HB.out GE171.out) hb); have NB171_177 := am (nb hg (pb BK171.out)); have NB177_171 := am (Ne.symm NB171_177.out); replace BK171 := am (blk_below (pb BK171.out) hb); clear hb hbox hg; have hnb9 := NB177_171.out; have hnc9 := NB171_177.out; obtain ⟨hcz10_0, hcz10_1, hcz10_2, hcz10_3⟩ := b4 BK177.out; obtain ⟨hfz10_0, hfz10_1, hfz10_2, hfz10_3⟩ := f4 BK177.out))
   go_ret
   exact (rq (bg2 HB.out GE171.out GE177.out))
 replace c4 := Bool.eq_false_iff.mpr c4
 subst c4
 rw [if_neg (show ¬ (false = true) by decide)] at H
 obtain rfl := Option.some.inj H
 go_enter Try.func16, Try.ntmps16
 go_wp2_with (first | (refine bx 2 #[.slice A0_0 l0_0.length c0_0, .slice A0_1 l0_1.length c0_1] 26 rfl ?_; intro gb171 hg w11 hbox hb; have BK171 := am (hbox); have GW171 := am (ge hg (ph HB.out)); have GE171 := GW171; replace HB := am (below_step (ph HB.out) hb); clear hb hbox hg; obtain ⟨hcz12_0, hcz12_1⟩ := b2 BK171.out; obtain ⟨hfz12_0, hfz12_1⟩ := f2 BK171.out) | (refine gl 11 Try.func18 #[.slice A0_0 l0_0.length c0_0, .int .i64 a1] rfl ?_; (with_reducible refine (spec_l3Last.calls k _ _ l0_0 a1 t172 t173 t174 t175 false _ ?side1 ?side2 A3.out).mono ?_); (case side1 => exact pc (Kd.C_below HR0_0.out HB.out)); (case side2 => exact HC0_0.out); rintro e w13 ⟨rfl, hb⟩; refine ⟨_, rfl, ?_⟩; replace BK171 := am (blk_below (pb BK171.out) hb); replace HB := am (below_step (bg1 HB.out GE171.out) hb); (try clear hb); (try clear hb2); (try clear hk); (try clear hi)) | (refine bx 5 #[.int .i64 0, .int .i64 0, .int .i64 0, .int .i64 0] 32 rfl ?_; intro gb177 hg w14 hbox hb; have BK177 := am (hbox); have GW177 := am (ge hg (bg1 HB.out GE171.out)); have GE177 := GW177; replace HB := am (below_step (bg1 HB.out GE171.out) hb); have NB171_177 := am (nb hg (pb BK171.out)); have NB177_171 := am (Ne.symm NB171_177.out); replace BK171 := am (blk_below (pb BK171.out) hb); clear hb hbox hg; have hnb15 := NB177_171.out; have hnc15 := NB171_177.out; obtain ⟨hcz16_0, hcz16_1, hcz16_2, hcz16_3⟩ := b4 BK177.out; obtain ⟨hfz16_0, hfz16_1, hfz16_2, hfz16_3⟩ := f4 BK177.out))
 go_ret
 exact (rq (bg2 HB.out GE171.out GE177.out))
def spec_RecOk.f (a0_0 : Int) (a0_1 : Int) (a0_2 : Int) (a0_3 : Int) : Option (Bool) := (spec_l6In.f a0_0 1 2).bind fun t179 => (if t179 = true then ((spec_l6In.f a0_1 1 600).bind fun t180 => (if t180 = true then ((spec_l6In.f a0_2 1 6).bind fun t181 => (if t181 = true then ((spec_l6In.f a0_3 0 9).bind fun t182 => (some t182)) else (some false))) else (some false))) else (some false))
set_option maxHeartbeats 8000000 in
set_option maxRecDepth 100000 in
theorem spec_RecOk.calls (a0_0 : Int) (a0_1 : Int) (a0_2 : Int) (a0_3 : Int) (r : Bool) (w : World) (h : spec_RecOk.f a0_0 a0_1 a0_2 a0_3 = some r) :
 Calls Try.prog 48 #[.agg #[.int .i64 a0_0, .int .i64 a0_1, .int .i64 a0_2, .int .i64 a0_3]] w fun e w' => e = .returned (.bool r) ∧ Below w.heap.size w w' := by
 have hu32 := Try.underlying32
 have HB := am (Below.refl w.heap.size w)
 have H : ((spec_l6In.f a0_0 1 2).bind fun t179 => (if t179 = true then ((spec_l6In.f a0_1 1 600).bind fun t180 => (if t180 = true then ((spec_l6In.f a0_2 1 6).bind fun t181 => (if t181 = true then ((spec_l6In.f a0_3 0 9).bind fun t182 => (some t182)) else (some false))) else (some false))) else (some false))) = some r := h
 clear h
 replace H := Option.bind_eq_some_iff.mp H
 obtain ⟨t179, A20, H⟩ := H
 have A2 := am A20
 clear A20
 by_cases c3 : t179 = true
 rotate_left
 · replace c3 := Bool.eq_false_iff.mpr c3
   subst c3
   rw [if_neg (show ¬ (false = true) by decide)] at H
   obtain rfl := Option.some.inj H
   go_enter Try.func48, Try.ntmps48
   go_wp2_with (first | (refine bx 1 #[.int .i64 a0_0, .int .i64 a0_1, .int .i64 a0_2, .int .i64 a0_3] 32 rfl ?_; intro gb178 hg w15 hbox hb; have BK178 := am (hbox); have GW178 := am (ge hg (ph HB.out)); have GE178 := GW178; replace HB := am (below_step (ph HB.out) hb); clear hb hbox hg; obtain ⟨hcz16_0, hcz16_1, hcz16_2, hcz16_3⟩ := b4 BK178.out; obtain ⟨hfz16_0, hfz16_1, hfz16_2, hfz16_3⟩ := f4 BK178.out) | (refine gl 5 Try.func19 #[.int .i64 a0_0, .int .i64 1, .int .i64 2] rfl ?_; (with_reducible refine (spec_l6In.calls a0_0 1 2 false _ A2.out).mono ?_); rintro e w' ⟨rfl, ⟨nd, rfl⟩⟩; refine ⟨_, rfl, ?_⟩))
   go_ret
   exact (rq (bg1 HB.out GE178.out))
 subst c3
 rw [if_pos rfl] at H
 replace H := Option.bind_eq_some_iff.mp H
 obtain ⟨t180, A40, H⟩ := H
 have A4 := am A40
 clear A40
 by_cases c5 : t180 = true
 rotate_left
 · replace c5 := Bool.eq_false_iff.mpr c5
   subst c5
   rw [if_neg (show ¬ (false = true) by decide)] at H
   obtain rfl := Option.some.inj H
   go_enter Try.func48, Try.ntmps48
   go_wp2_with (first | (refine bx 1 #[.int .i64 a0_0, .int .i64 a0_1, .int .i64 a0_2, .int .i64 a0_3] 32 rfl ?_; intro gb178 hg w13 hbox hb; have BK178 := am (hbox); have GW178 := am (ge hg (ph HB.out)); have GE178 := GW178; replace HB := am (below_step (ph HB.out) hb); clear hb hbox hg; obtain ⟨hcz14_0, hcz14_1, hcz14_2, hcz14_3⟩ := b4 BK178.out; obtain ⟨hfz14_0, hfz14_1, hfz14_2, hfz14_3⟩ := f4 BK178.out) | (refine gl 5 Try.func19 #[.int .i64 a0_0, .int .i64 1, .int .i64 2] rfl ?_; (with_reducible refine (spec_l6In.calls a0_0 1 2 true _ A2.out).mono ?_); rintro e w' ⟨rfl, ⟨nd, rfl⟩⟩; refine ⟨_, rfl, ?_⟩) | (go_at_call 19; (with_reducible refine (spec_l6In.calls a0_1 1 600 false _ A4.out).mono ?_); rintro e w' ⟨rfl, ⟨nd, rfl⟩⟩))
   go_ret
   exact (rq (bg1 HB.out GE178.out))
 subst c5
 rw [if_pos rfl] at H
 replace H := Option.bind_eq_some_iff.mp H
 obtain ⟨t181, A60, H⟩ := H
 have A6 := am A60
 clear A60
 by_cases c7 : t181 = true
 rotate_left
 · replace c7 := Bool.eq_false_iff.mpr c7
   subst c7
   rw [if_neg (show ¬ (false = true) by decide)] at H
   obtain rfl := Option.some.inj H
   go_enter Try.func48, Try.ntmps48
   go_wp2_with (first | (refine bx 1 #[.int .i64 a0_0, .int .i64 a0_1, .int .i64 a0_2, .int .i64 a0_3] 32 rfl ?_; intro gb178 hg w11 hbox hb; have BK178 := am (hbox); have GW178 := am (ge hg (ph HB.out)); have GE178 := GW178; replace HB := am (below_step (ph HB.out) hb); clear hb hbox hg; obtain ⟨hcz12_0, hcz12_1, hcz12_2, hcz12_3⟩ := b4 BK178.out; obtain ⟨hfz12_0, hfz12_1, hfz12_2, hfz12_3⟩ := f4 BK178.out) | (refine gl 5 Try.func19 #[.int .i64 a0_0, .int .i64 1, .int .i64 2] rfl ?_; (with_reducible refine (spec_l6In.calls a0_0 1 2 true _ A2.out).mono ?_); rintro e w' ⟨rfl, ⟨nd, rfl⟩⟩; refine ⟨_, rfl, ?_⟩) | (go_at_call 19; (with_reducible refine (spec_l6In.calls a0_1 1 600 true _ A4.out).mono ?_); rintro e w' ⟨rfl, ⟨nd, rfl⟩⟩) | (go_at_call 19; (with_reducible refine (spec_l6In.calls a0_2 1 6 false _ A6.out).mono ?_); rintro e w' ⟨rfl, ⟨nd, rfl⟩⟩))
   go_ret
   exact (rq (bg1 HB.out GE178.out))
 subst c7
 rw [if_pos rfl] at H
 replace H := Option.bind_eq_some_iff.mp H
 obtain ⟨t182, A80, H⟩ := H
 have A8 := am A80
 clear A80
 obtain rfl := Option.some.inj H
 go_enter Try.func48, Try.ntmps48
 go_wp2_with (first | (refine bx 1 #[.int .i64 a0_0, .int .i64 a0_1, .int .i64 a0_2, .int .i64 a0_3] 32 rfl ?_; intro gb178 hg w9 hbox hb; have BK178 := am (hbox); have GW178 := am (ge hg (ph HB.out)); have GE178 := GW178; replace HB := am (below_step (ph HB.out) hb); clear hb hbox hg; obtain ⟨hcz10_0, hcz10_1, hcz10_2, hcz10_3⟩ := b4 BK178.out; obtain ⟨hfz10_0, hfz10_1, hfz10_2, hfz10_3⟩ := f4 BK178.out) | (refine gl 5 Try.func19 #[.int .i64 a0_0, .int .i64 1, .int .i64 2] rfl ?_; (with_reducible refine (spec_l6In.calls a0_0 1 2 true _ A2.out).mono ?_); rintro e w' ⟨rfl, ⟨nd, rfl⟩⟩; refine ⟨_, rfl, ?_⟩) | (go_at_call 19; (with_reducible refine (spec_l6In.calls a0_1 1 600 true _ A4.out).mono ?_); rintro e w' ⟨rfl, ⟨nd, rfl⟩⟩) | (go_at_call 19; (with_reducible refine (spec_l6In.calls a0_2 1 6 true _ A6.out).mono ?_); rintro e w' ⟨rfl, ⟨nd, rfl⟩⟩) | (go_at_call 19; (with_reducible refine (spec_l6In.calls a0_3 0 9 t182 _ A8.out).mono ?_); rintro e w' ⟨rfl, ⟨nd, rfl⟩⟩))
 go_ret
 exact (rq (bg1 HB.out GE178.out))
def spec_l3Most.l0 : Nat → Int → Int → List (S54) → Int → Option (Int)
 | 0, _, _, _, _ => none
 | k + 1, x3, x4, x184000, x184001 => if x4 < (x184000.length : Int) then (if 0 ≤ x4 then (spec_l3Most.l0 k (mx x3 ((rd_T54 x184000 x4).f1.f1)) (wrap64 (x4 + 1)) x184000 x184001) else (none)) else (some x3)
def spec_l3Most.f (k : Nat) (l0_0 : List (S54)) (a0_1 : Int) : Option (Int) := spec_l3Most.l0 k 0 0 l0_0 a0_1
theorem spec_l3Most.mono_l : ∀ k, (∀ y0 y1 y2 y3, LeO (spec_l3Most.l0 k y0 y1 y2 y3) (spec_l3Most.l0 (k + 1) y0 y1 y2 y3))
 | 0 => fun _ _ _ _ r h => by simp [spec_l3Most.l0] at h
 | k + 1 => by
  have ih0 := spec_l3Most.mono_l k
  · intro y0 y1 y2 y3
    unfold spec_l3Most.l0
    with_reducible repeat' first | exact ih0 _ _ _ _ | exact LeO.refl _ | exact LeO.none _ | refine LeO.ite ?_ ?_ | refine LeO.bind ?_ (fun _ => ?_)
theorem spec_l3Most.mono : ∀ a0 a1 k, LeO (spec_l3Most.f k a0 a1) (spec_l3Most.f (k + 1) a0 a1) := by
 intro a0 a1 k
 have ih0 := spec_l3Most.mono_l k
 unfold spec_l3Most.f
 with_reducible repeat' first | exact ih0 _ _ _ _ | exact LeO.refl _ | exact LeO.none _ | refine LeO.ite ?_ ?_ | refine LeO.bind ?_ (fun _ => ?_)
set_option maxHeartbeats 8000000 in
set_option maxRecDepth 100000 in
theorem spec_l3Most.calls (k : Nat) (A0_0 : Option Addr) (c0_0 : Nat) (l0_0 : List (S54)) (a0_1 : Int) (r : Int) (w : World) (hr0_0 : Kd.C k54 w A0_0 l0_0.length l0_0) (hc0_0 : l0_0.length ≤ c0_0) (h : spec_l3Most.f k l0_0 a0_1 = some r) :
 Calls Try.prog 29 #[.agg #[.slice A0_0 l0_0.length c0_0, .int .i64 a0_1]] w fun e w' => e = .returned (.int .i64 r) ∧ Below w.heap.size w w' := by
 have hu62 := Try.underlying62
 have HR0_0 := am hr0_0
 have HC0_0 := am hc0_0
 clear hr0_0 hc0_0
 have HB := am (Below.refl w.heap.size w)
 have H : (spec_l3Most.l0 k 0 0 l0_0 a0_1) = some r := h
 clear h
 have H' := am H
 clear H
 go_enter Try.func29, Try.ntmps29
 go_wp2_with (first | (refine bx 1 #[.slice A0_0 l0_0.length c0_0, .int .i64 a0_1] 62 rfl ?_; intro gb183 hg w2 hbox hb; have BK183 := am (hbox); have GW183 := am (ge hg (ph HB.out)); have GE183 := GW183; replace HB := am (below_step (ph HB.out) hb); clear hb hbox hg))
 go_loopg [3, 4] k (fun kq v3 v4 w' => ∃ (x3_1 : Int) (x4_1 : Int), v3 = .int .i64 x3_1 ∧ v4 = .int .i64 x4_1 ∧ Aside0 (spec_l3Most.l0 kq x3_1 x4_1 l0_0 a0_1 = some r) ∧ Aside0 (kq ≤ k) ∧ Aside0 (w'.heap[gb183]? = some (.cells #[(.slice A0_0 l0_0.length c0_0), .int .i64 a0_1] 62 (0, 0))) ∧ Aside0 (Below w.heap.size w w'))
 case atStart => exact ⟨(0), (0), rf, rf, H', ⟨Nat.le_refl _⟩, ⟨pb BK183.out⟩, ⟨bg1 HB.out GE183.out⟩⟩
 case round =>
  clear H'
  obtain ⟨x3_1, x4_1, rfl, rfl, HA, HK1, BK183, HB⟩ := hrel
  cases gk with
  | zero => exact absurd HA.out (by simp [spec_l3Most.l0])
  | succ k1 =>
   have H := HA.out
   clear HA
   simp only [spec_l3Most.l0] at H
   by_cases c3 : x4_1 < (l0_0.length : Int)
   rotate_left
   · rw [if_neg c3] at H
     have c3b0 := decide_eq_false c3
     clear c3
     obtain rfl := Option.some.inj H
     obtain ⟨hcz7_0, hcz7_1⟩ := b2 BK183.out
     obtain ⟨hfz7_0, hfz7_1⟩ := f2 BK183.out
     go_wp2
     go_ret
     exact (rq (bg1 HB.out GE183.out))
   rw [if_pos c3] at H
   have c3b0 := decide_eq_true c3
   clear c3
   by_cases c4 : 0 ≤ x4_1
   rotate_left
   · rw [if_neg c4] at H
     exact absurd H (by simp)
   rw [if_pos c4] at H
   have c4b0 := decide_eq_true c4
   clear c4
   obtain ⟨ji5, hji5⟩ : ∃ j_ : Int, (mx x3_1 ((rd_T54 l0_0 x4_1).f1.f1)) = j_ := ⟨_, rfl⟩
   replace H : (spec_l3Most.l0 k1 ji5 (wrap64 (x4_1 + 1)) l0_0 a0_1) = some r := by first | (rw [hji5] at H; exact H) | (simp only [hji5] at H ⊢; exact H)
   have hji5_ : (if x3_1 < ((rd_T54 l0_0 x4_1).f1.f1) then ((rd_T54 l0_0 x4_1).f1.f1) else x3_1) = ji5 := hji5
   have H' := am H
   clear H
   obtain ⟨hcz6_0, hcz6_1⟩ := b2 BK183.out
   obtain ⟨hfz6_0, hfz6_1⟩ := f2 BK183.out
   have p184 : 0 ≤ (x4_1 : Int) := ofb
   have q184 : x4_1 < (l0_0.length : Int) := ofb
   obtain ⟨ad184, e184, hx184_0, hx184_1, hx184_2, hx184_3, hx184_4⟩ := at_T54 HR0_0.out x4_1 p184 q184
   cases e184
   replace hx184_0 := up HB.out hx184_0
   replace hx184_1 := up HB.out hx184_1
   replace hx184_2 := up HB.out hx184_2
   replace hx184_3 := up HB.out hx184_3
   replace hx184_4 := up HB.out hx184_4
   replace p184 := eq_true p184
   replace q184 := eq_true q184
   go_wp2
   go_roundg k1
   case measure => have := HK1.out; omega
   case rel => exact ⟨(ji5), (wrap64 (x4_1 + 1)), (by first | rfl | (simp; done) | (simp only [← hji5] <;> (first | rfl | simp)) | (simp [*]; done)), rf, H', ⟨by have := HK1.out; omega⟩, ⟨pb BK183.out⟩, ⟨bg1 HB.out GE183.out⟩⟩
def spec_l3Next.l0 : Nat → List (S62) → Int → Int → Option (Int)
 | 0, _, _, _ => none
 | k + 1, x0, x3, x4 => if x4 < (x0.length : Int) then (if 0 ≤ x4 then ((spec_l3Most.f k ((rd_T62 x0 x4).f0) ((rd_T62 x0 x4).f1)).bind fun t186 => (spec_l3Next.l0 k x0 (mx x3 t186) (wrap64 (x4 + 1)))) else (none)) else (some (wrap64 (x3 + 1)))
def spec_l3Next.f (k : Nat) (l0 : List (S62)) : Option (Int) := spec_l3Next.l0 k l0 0 0
theorem spec_l3Next.mono_l : ∀ k, (∀ y0 y1 y2, LeO (spec_l3Next.l0 k y0 y1 y2) (spec_l3Next.l0 (k + 1) y0 y1 y2))
 | 0 => fun _ _ _ r h => by simp [spec_l3Next.l0] at h
 | k + 1 => by
  have ih0 := spec_l3Next.mono_l k
  · intro y0 y1 y2
    unfold spec_l3Next.l0
    with_reducible repeat' first | exact ih0 _ _ _ | exact spec_l3Most.mono _ _ _ | exact LeO.refl _ | exact LeO.none _ | refine LeO.ite ?_ ?_ | refine LeO.bind ?_ (fun _ => ?_)
theorem spec_l3Next.mono : ∀ a0 k, LeO (spec_l3Next.f k a0) (spec_l3Next.f (k + 1) a0) := by
 intro a0 k
 have ih0 := spec_l3Next.mono_l k
 unfold spec_l3Next.f
 with_reducible repeat' first | exact ih0 _ _ _ | exact spec_l3Most.mono _ _ _ | exact LeO.refl _ | exact LeO.none _ | refine LeO.ite ?_ ?_ | refine LeO.bind ?_ (fun _ => ?_)
set_option maxHeartbeats 8000000 in
set_option maxRecDepth 100000 in
theorem spec_l3Next.calls (k : Nat) (A0 : Option Addr) (c0 : Nat) (l0 : List (S62)) (r : Int) (w : World) (hr0 : Kd.C k62 w A0 l0.length l0) (hc0 : l0.length ≤ c0) (h : spec_l3Next.f k l0 = some r) :
 Calls Try.prog 57 #[.slice A0 l0.length c0] w fun e w' => e = .returned (.int .i64 r) ∧ Below w.heap.size w w' := by
 have hu62 := Try.underlying62
 have HR0 := am hr0
 have HC0 := am hc0
 clear hr0 hc0
 have HB := am (Below.refl w.heap.size w)
 have H : (spec_l3Next.l0 k l0 0 0) = some r := h
 clear h
 have H' := am H
 clear H
 go_enter Try.func57, Try.ntmps57
 go_wp2
 go_loopg [3, 4] k (fun kq v3 v4 w' => ∃ (x3_1 : Int) (x4_1 : Int), v3 = .int .i64 x3_1 ∧ v4 = .int .i64 x4_1 ∧ Aside0 (spec_l3Next.l0 kq l0 x3_1 x4_1 = some r) ∧ Aside0 (kq ≤ k) ∧ Aside0 (Below w.heap.size w w'))
 case atStart => exact ⟨(0), (0), rf, rf, H', ⟨Nat.le_refl _⟩, ⟨ph HB.out⟩⟩
 case round =>
  clear H'
  obtain ⟨x3_1, x4_1, rfl, rfl, HA, HK1, HB⟩ := hrel
  cases gk with
  | zero => exact absurd HA.out (by simp [spec_l3Next.l0])
  | succ k1 =>
   have H := HA.out
   clear HA
   simp only [spec_l3Next.l0] at H
   by_cases c2 : x4_1 < (l0.length : Int)
   rotate_left
   · rw [if_neg c2] at H
     have c2b0 := decide_eq_false c2
     clear c2
     obtain rfl := Option.some.inj H
     go_wp2
     go_ret
     exact (rq (ph HB.out))
   rw [if_pos c2] at H
   have c2b0 := decide_eq_true c2
   clear c2
   by_cases c3 : 0 ≤ x4_1
   rotate_left
   · rw [if_neg c3] at H
     exact absurd H (by simp)
   rw [if_pos c3] at H
   have c3b0 := decide_eq_true c3
   clear c3
   replace H := Option.bind_eq_some_iff.mp H
   obtain ⟨t186, A40, H⟩ := H
   have A4 := am A40
   clear A40
   obtain ⟨ji5, hji5⟩ : ∃ j_ : Int, (mx x3_1 t186) = j_ := ⟨_, rfl⟩
   replace H : (spec_l3Next.l0 k1 l0 ji5 (wrap64 (x4_1 + 1))) = some r := by first | (rw [hji5] at H; exact H) | (simp only [hji5] at H ⊢; exact H)
   (try rw [hji5] at A4)
   have hji5_ : (if x3_1 < t186 then t186 else x3_1) = ji5 := hji5
   have H' := am H
   clear H
   have p185 : 0 ≤ (x4_1 : Int) := ofb
   have q185 : x4_1 < (l0.length : Int) := ofb
   obtain ⟨ad185, A185_0, c185_0, e185, hx185_0, hx185_1, hl185_0, hi185_0⟩ := at_T62 HR0.out x4_1 p185 q185
   cases e185
   replace hx185_0 := up HB.out hx185_0
   replace hx185_1 := up HB.out hx185_1
   have HR185_0 := am hi185_0
   have HC185_0 := am hl185_0
   clear hi185_0 hl185_0
   replace p185 := eq_true p185
   replace q185 := eq_true q185
   go_wp2_with (first | (refine gl 16 Try.func29 #[.agg #[.slice A185_0 ((rd_T62 l0 x4_1).f0).length c185_0, .int .i64 ((rd_T62 l0 x4_1).f1)]] rfl ?_; (with_reducible refine (spec_l3Most.calls k1 _ _ ((rd_T62 l0 x4_1).f0) ((rd_T62 l0 x4_1).f1) t186 _ ?side1 ?side2 A4.out).mono ?_); (case side1 => exact pc (Kd.C_below HR185_0.out HB.out)); (case side2 => exact HC185_0.out); rintro e w6 ⟨rfl, hb⟩; refine ⟨_, rfl, ?_⟩; replace HB := am (below_step (ph HB.out) hb); (try clear hb); (try clear hb2); (try clear hk); (try clear hi)))
   go_roundg k1
   case measure => have := HK1.out; omega
   case rel => exact ⟨(ji5), (wrap64 (x4_1 + 1)), (by first | rfl | (simp; done) | (simp only [← hji5] <;> (first | rfl | simp)) | (simp [*]; done)), rf, H', ⟨by have := HK1.out; omega⟩, ⟨ph HB.out⟩⟩
mutual
def spec_l3Open.l0 : Nat → List (S62) → Int → Int → Option (Int × Bool)
 | 0, _, _, _ => none
 | k + 1, x0, x4, x5 => if x5 < (x0.length : Int) then (if 0 ≤ x5 then ((spec_l2Clean.f k ((rd_T62 x0 x5).f0) ((rd_T62 x0 x5).f1)).bind fun t188 => (if t188 > 0 then (spec_l3Open.j1 k x0 x4 x5 t188 (decide (t188 < 4))) else (spec_l3Open.j1 k x0 x4 x5 t188 false))) else (none)) else (some (mx x4 0, decide (x4 ≥ 0)))
def spec_l3Open.j1 : Nat → List (S62) → Int → Int → Int → Bool → Option (Int × Bool)
 | 0, _, _, _, _, _ => none
 | k + 1, x0, x4, x5, x6, x23 => if x23 = true then (some (x5, true)) else (if x6 > 0 then (if x4 < 0 then (spec_l3Open.l0 k x0 x5 (wrap64 (x5 + 1))) else (if 0 ≤ x5 then (if x5 < (x0.length : Int) then (if 0 ≤ x4 then (if x4 < (x0.length : Int) then (if ((rd_T62 x0 x5).f1) < ((rd_T62 x0 x4).f1) then (spec_l3Open.l0 k x0 x5 (wrap64 (x5 + 1))) else (spec_l3Open.l0 k x0 x4 (wrap64 (x5 + 1)))) else (none)) else (none)) else (none)) else (none))) else (spec_l3Open.l0 k x0 x4 (wrap64 (x5 + 1))))
end
def spec_l3Open.f (k : Nat) (l0 : List (S62)) : Option (Int × Bool) := spec_l3Open.l0 k l0 (-1) 0
theorem spec_l3Open.mono_l : ∀ k, (∀ y0 y1 y2, LeO (spec_l3Open.l0 k y0 y1 y2) (spec_l3Open.l0 (k + 1) y0 y1 y2)) ∧ (∀ y0 y1 y2 y3 y4, LeO (spec_l3Open.j1 k y0 y1 y2 y3 y4) (spec_l3Open.j1 (k + 1) y0 y1 y2 y3 y4))
 | 0 => ⟨fun _ _ _ r h => by simp [spec_l3Open.l0] at h, fun _ _ _ _ _ r h => by simp [spec_l3Open.j1] at h⟩
 | k + 1 => by
  obtain ⟨ih0, ih1⟩ := spec_l3Open.mono_l k
  refine ⟨?_, ?_⟩
  · intro y0 y1 y2
    unfold spec_l3Open.l0
    with_reducible repeat' first | exact ih0 _ _ _ | exact ih1 _ _ _ _ _ | exact spec_l2Clean.mono _ _ _ | exact LeO.refl _ | exact LeO.none _ | refine LeO.ite ?_ ?_ | refine LeO.bind ?_ (fun _ => ?_)
  · intro y0 y1 y2 y3 y4
    unfold spec_l3Open.j1
    with_reducible repeat' first | exact ih0 _ _ _ | exact ih1 _ _ _ _ _ | exact spec_l2Clean.mono _ _ _ | exact LeO.refl _ | exact LeO.none _ | refine LeO.ite ?_ ?_ | refine LeO.bind ?_ (fun _ => ?_)
theorem spec_l3Open.mono : ∀ a0 k, LeO (spec_l3Open.f k a0) (spec_l3Open.f (k + 1) a0) := by
 intro a0 k
 obtain ⟨ih0, ih1⟩ := spec_l3Open.mono_l k
 unfold spec_l3Open.f
 with_reducible repeat' first | exact ih0 _ _ _ | exact ih1 _ _ _ _ _ | exact spec_l2Clean.mono _ _ _ | exact LeO.refl _ | exact LeO.none _ | refine LeO.ite ?_ ?_ | refine LeO.bind ?_ (fun _ => ?_)
set_option maxHeartbeats 8000000 in
set_option maxRecDepth 100000 in
theorem spec_l3Open.calls (k : Nat) (A0 : Option Addr) (c0 : Nat) (l0 : List (S62)) (r1 : Int) (r2 : Bool) (w : World) (hr0 : Kd.C k62 w A0 l0.length l0) (hc0 : l0.length ≤ c0) (h : spec_l3Open.f k l0 = some (r1, r2)) :
 Calls Try.prog 60 #[.slice A0 l0.length c0] w fun e w' => e = .returned (.tuple #[.int .i64 r1, .bool r2]) ∧ Below w.heap.size w w' := by
 have hu62 := Try.underlying62
 have HR0 := am hr0
 have HC0 := am hc0
 clear hr0 hc0
 have HB := am (Below.refl w.heap.size w)
 have H : (spec_l3Open.l0 k l0 (-1) 0) = some (r1, r2) := h
 clear h
 have H' := am H
 clear H
 go_enter Try.func60, Try.ntmps60
 go_wp2
 repeat (go_quiet (fail); try go_wp2)
 go_loopg [4, 5] k (fun kq v4 v5 w' => ∃ (x4_1 : Int) (x5_1 : Int), v4 = .int .i64 x4_1 ∧ v5 = .int .i64 x5_1 ∧ Aside0 (spec_l3Open.l0 kq l0 x4_1 x5_1 = some (r1, r2)) ∧ Aside0 (kq ≤ k) ∧ Aside0 (Below w.heap.size w w'))
 case atStart => exact ⟨((-1)), (0), rf, rf, H', ⟨Nat.le_refl _⟩, ⟨ph HB.out⟩⟩
 case round =>
  clear H'
  obtain ⟨x4_1, x5_1, rfl, rfl, HA, HK1, HB⟩ := hrel
  cases gk with
  | zero => exact absurd HA.out (by simp [spec_l3Open.l0])
  | succ k1 =>
   have H := HA.out
   clear HA
   simp only [spec_l3Open.l0] at H
   by_cases c2 : x5_1 < (l0.length : Int)
   rotate_left
   · rw [if_neg c2] at H
     have c2b0 := decide_eq_false c2
     clear c2
     obtain ⟨ji16, hji16⟩ : ∃ j_ : Int, (mx x4_1 0) = j_ := ⟨_, rfl⟩
     replace H : (some (ji16, decide (x4_1 ≥ 0))) = some (r1, r2) := by first | (rw [hji16] at H; exact H) | (simp only [hji16] at H ⊢; exact H)
     have hji16_ : (if x4_1 < 0 then 0 else x4_1) = ji16 := hji16
     simp only [Option.some.injEq, Prod.mk.injEq] at H
     obtain ⟨rfl, rfl⟩ := H
     go_wp2
     repeat (go_quiet (fail); try go_wp2)
     go_ret2
     exact ⟨by first | rfl | (simp [errW_none, errW_some] <;> rfl) | (simp only [← hji16]; first | rfl | (simp [errW_none, errW_some] <;> rfl)) | (simp [*, errW_none, errW_some] <;> rfl), ph HB.out⟩
   rw [if_pos c2] at H
   have c2b0 := decide_eq_true c2
   clear c2
   by_cases c3 : 0 ≤ x5_1
   rotate_left
   · rw [if_neg c3] at H
     exact absurd H (by simp)
   rw [if_pos c3] at H
   have c3b0 := decide_eq_true c3
   clear c3
   replace H := Option.bind_eq_some_iff.mp H
   obtain ⟨t188, A40, H⟩ := H
   have A4 := am A40
   clear A40
   have HC5 := am H
   clear H
   have p187 : 0 ≤ (x5_1 : Int) := ofb
   have q187 : x5_1 < (l0.length : Int) := ofb
   obtain ⟨ad187, A187_0, c187_0, e187, hx187_0, hx187_1, hl187_0, hi187_0⟩ := at_T62 HR0.out x5_1 p187 q187
   cases e187
   replace hx187_0 := up HB.out hx187_0
   replace hx187_1 := up HB.out hx187_1
   have HR187_0 := am hi187_0
   have HC187_0 := am hl187_0
   clear hi187_0 hl187_0
   replace p187 := eq_true p187
   replace q187 := eq_true q187
   go_upto_region 6 with (first | (go_at_call 31; (with_reducible refine (spec_l2Clean.calls k1 _ _ ((rd_T62 l0 x5_1).f0) ((rd_T62 l0 x5_1).f1) t188 _ ?side1 ?side2 A4.out).mono ?_); (case side1 => exact pc (Kd.C_below HR187_0.out HB.out)); (case side2 => exact HC187_0.out); rintro e w6 ⟨rfl, hb⟩; replace HB := am (below_step (ph HB.out) hb); (try clear hb); (try clear hb2); (try clear hk); (try clear hi)))
   repeat (go_quiet (first | (go_at_call 31; (with_reducible refine (spec_l2Clean.calls k1 _ _ ((rd_T62 l0 x5_1).f0) ((rd_T62 l0 x5_1).f1) t188 _ ?side1 ?side2 A4.out).mono ?_); (case side1 => exact pc (Kd.C_below HR187_0.out HB.out)); (case side2 => exact HC187_0.out); rintro e w6 ⟨rfl, hb⟩; replace HB := am (below_step (ph HB.out) hb); (try clear hb); (try clear hb2); (try clear hk); (try clear hi))); go_upto_region 6 with (first | (go_at_call 31; (with_reducible refine (spec_l2Clean.calls k1 _ _ ((rd_T62 l0 x5_1).f0) ((rd_T62 l0 x5_1).f1) t188 _ ?side1 ?side2 A4.out).mono ?_); (case side1 => exact pc (Kd.C_below HR187_0.out HB.out)); (case side2 => exact HC187_0.out); rintro e w6 ⟨rfl, hb⟩; replace HB := am (below_step (ph HB.out) hb); (try clear hb); (try clear hb2); (try clear hk); (try clear hi))))
   (try simp only [Act.put, List.setIfInBounds_toArray, List.set_cons_zero, List.set_cons_succ])
   go_cut [23] (fun v23 wc => ∃ (kq : Nat) (x23_4 : Bool), v23 = .bool x23_4 ∧ Aside0 (spec_l3Open.j1 kq l0 x4_1 x5_1 t188 x23_4 = some (r1, r2)) ∧ Aside0 (kq ≤ k1) ∧ Aside0 (Below w.heap.size w wc))
   case first =>
    have H := HC5.out
    clear HC5
    by_cases c7 : t188 > 0
    rotate_left
    · rw [if_neg c7] at H
      have c7b0 := decide_eq_false c7
      clear c7
      (first | rw [c7b0] | (simp only [i64_w, i32_w]; rw [c7b0]) | skip)
      have H' := am H
      clear H
      go_wp2
      repeat (go_quiet (fail); try go_wp2)
      go_meet
      case rel => exact ⟨_, (false), rf, H', ⟨by have := HK1.out; first | omega | exact Nat.le_refl _⟩, ⟨ph HB.out⟩⟩
    rw [if_pos c7] at H
    have c7b0 := decide_eq_true c7
    clear c7
    (first | rw [c7b0] | (simp only [i64_w, i32_w]; rw [c7b0]) | skip)
    have H' := am H
    clear H
    go_wp2
    repeat (go_quiet (fail); try go_wp2)
    go_meet
    case rel => exact ⟨_, (decide (t188 < 4)), rf, H', ⟨by have := HK1.out; first | omega | exact Nat.le_refl _⟩, ⟨ph HB.out⟩⟩
   case rest =>
    clear HC5
    obtain ⟨kq, x23_4, rfl, HA, HJ4, HB⟩ := hcut
    cases kq with
    | zero => exact absurd HA.out (by simp [spec_l3Open.j1])
    | succ kj4 =>
     have H := HA.out
     clear HA
     simp only [spec_l3Open.j1] at H
     by_cases c8 : x23_4 = true
     · subst c8
       rw [if_pos rfl] at H
       simp only [Option.some.injEq, Prod.mk.injEq] at H
       obtain ⟨rfl, rfl⟩ := H
       go_wp2
       repeat (go_quiet (fail); try go_wp2)
       go_ret2
       exact (rq (ph HB.out))
     replace c8 := Bool.eq_false_iff.mpr c8
     subst c8
     rw [if_neg (show ¬ (false = true) by decide)] at H
     by_cases c9 : t188 > 0
     rotate_left
     · rw [if_neg c9] at H
       have c9b0 := decide_eq_false c9
       clear c9
       have H' := am H
       clear H
       go_wp2
       repeat (go_quiet (fail); try go_wp2)
       go_roundg kj4
       case measure => have := HK1.out; have := HJ4.out; omega
       case rel => exact ⟨(x4_1), (wrap64 (x5_1 + 1)), rf, rf, H', ⟨by have := HK1.out; have := HJ4.out; omega⟩, ⟨ph HB.out⟩⟩
     rw [if_pos c9] at H
     have c9b0 := decide_eq_true c9
     clear c9
     by_cases c10 : x4_1 < 0
     · rw [if_pos c10] at H
       have c10b0 := decide_eq_true c10
       clear c10
       have H' := am H
       clear H
       go_wp2
       repeat (go_quiet (fail); try go_wp2)
       go_roundg kj4
       case measure => have := HK1.out; have := HJ4.out; omega
       case rel => exact ⟨(x5_1), (wrap64 (x5_1 + 1)), rf, rf, H', ⟨by have := HK1.out; have := HJ4.out; omega⟩, ⟨ph HB.out⟩⟩
     rw [if_neg c10] at H
     have c10b0 := decide_eq_false c10
     clear c10
     by_cases c11 : 0 ≤ x5_1
     rotate_left
     · rw [if_neg c11] at H
       exact absurd H (by simp)
     rw [if_pos c11] at H
     have c11b0 := decide_eq_true c11
     clear c11
     by_cases c12 : x5_1 < (l0.length : Int)
     rotate_left
     · rw [if_neg c12] at H
       exact absurd H (by simp)
     rw [if_pos c12] at H
     have c12b0 := decide_eq_true c12
     clear c12
     by_cases c13 : 0 ≤ x4_1
     rotate_left
     · rw [if_neg c13] at H
       exact absurd H (by simp)
     rw [if_pos c13] at H
     have c13b0 := decide_eq_true c13
     clear c13
     by_cases c14 : x4_1 < (l0.length : Int)
     rotate_left
     · rw [if_neg c14] at H
       exact absurd H (by simp)
     rw [if_pos c14] at H
     have c14b0 := decide_eq_true c14
     clear c14
     by_cases c15 : ((rd_T62 l0 x5_1).f1) < ((rd_T62 l0 x4_1).f1)
     · rw [if_pos c15] at H
       have c15b0 := decide_eq_true c15
       clear c15
       have H' := am H
       clear H
       have p189 : 0 ≤ (x5_1 : Int) := ofb
       have q189 : x5_1 < (l0.length : Int) := ofb
       obtain ⟨ad189, A189_0, c189_0, e189, hx189_0, hx189_1, hl189_0, hi189_0⟩ := at_T62 HR0.out x5_1 p189 q189
       obtain rfl : ad187 = ad189 := (by injection e189)
       replace hx189_0 := up HB.out hx189_0
       replace hx189_1 := up HB.out hx189_1
       have HR189_0 := am hi189_0
       have HC189_0 := am hl189_0
       clear hi189_0 hl189_0
       replace p189 := eq_true p189
       replace q189 := eq_true q189
       have p190 : 0 ≤ (x4_1 : Int) := ofb
       have q190 : x4_1 < (l0.length : Int) := ofb
       obtain ⟨ad190, A190_0, c190_0, e190, hx190_0, hx190_1, hl190_0, hi190_0⟩ := at_T62 HR0.out x4_1 p190 q190
       obtain rfl : ad187 = ad190 := (by injection e190)
       replace hx190_0 := up HB.out hx190_0
       replace hx190_1 := up HB.out hx190_1
       have HR190_0 := am hi190_0
       have HC190_0 := am hl190_0
       clear hi190_0 hl190_0
       replace p190 := eq_true p190
       replace q190 := eq_true q190
       go_wp2
       repeat (go_quiet (fail); try go_wp2)
       go_roundg kj4
       case measure => have := HK1.out; have := HJ4.out; omega
       case rel => exact ⟨(x5_1), (wrap64 (x5_1 + 1)), rf, rf, H', ⟨by have := HK1.out; have := HJ4.out; omega⟩, ⟨ph HB.out⟩⟩
     rw [if_neg c15] at H
     have c15b0 := decide_eq_false c15
     clear c15
     have H' := am H
     clear H
     have p189 : 0 ≤ (x5_1 : Int) := ofb
     have q189 : x5_1 < (l0.length : Int) := ofb
     obtain ⟨ad189, A189_0, c189_0, e189, hx189_0, hx189_1, hl189_0, hi189_0⟩ := at_T62 HR0.out x5_1 p189 q189
     obtain rfl : ad187 = ad189 := (by injection e189)
     replace hx189_0 := up HB.out hx189_0
     replace hx189_1 := up HB.out hx189_1
     have HR189_0 := am hi189_0
     have HC189_0 := am hl189_0
     clear hi189_0 hl189_0
     replace p189 := eq_true p189
     replace q189 := eq_true q189
     have p190 : 0 ≤ (x4_1 : Int) := ofb
     have q190 : x4_1 < (l0.length : Int) := ofb
     obtain ⟨ad190, A190_0, c190_0, e190, hx190_0, hx190_1, hl190_0, hi190_0⟩ := at_T62 HR0.out x4_1 p190 q190
     obtain rfl : ad187 = ad190 := (by injection e190)
     replace hx190_0 := up HB.out hx190_0
     replace hx190_1 := up HB.out hx190_1
     have HR190_0 := am hi190_0
     have HC190_0 := am hl190_0
     clear hi190_0 hl190_0
     replace p190 := eq_true p190
     replace q190 := eq_true q190
     go_wp2
     repeat (go_quiet (fail); try go_wp2)
     go_roundg kj4
     case measure => have := HK1.out; have := HJ4.out; omega
     case rel => exact ⟨(x4_1), (wrap64 (x5_1 + 1)), rf, rf, H', ⟨by have := HK1.out; have := HJ4.out; omega⟩, ⟨ph HB.out⟩⟩
end Go.Proofs.Ytjlmndgpmhbdlaa.Rz
namespace Go.Proofs.Ytjlmndgpmhbdlaa.Rz
open Go.RowKit Go.Proofs.YtjlmndgpmhbdlaaW.PrintWords Go.Proofs.YtjlmndgpmhbdlaaW.PrintLast Go.Proofs.YtjlmndgpmhbdlaaW.PrintMore
attribute [local go_sem] max2_int min2_int max_two min_two max_three min_three max_four min_four
set_option linter.unusedVariables false
set_option linter.unusedSimpArgs false
attribute [local go_sem high] eqA32
def spec_l3Old.l0 : Nat → List (S62) → Int → Int → Option (Int)
 | 0, _, _, _ => none
 | k + 1, x0, x3, x4 => if x4 < (x0.length : Int) then (if 0 ≤ x4 then ((spec_l3Most.f k ((rd_T62 x0 x4).f0) ((rd_T62 x0 x4).f1)).bind fun t192 => (if 0 ≤ x3 then (if x3 < (x0.length : Int) then ((spec_l3Most.f k ((rd_T62 x0 x3).f0) ((rd_T62 x0 x3).f1)).bind fun t194 => (if t192 < t194 then (spec_l3Old.l0 k x0 x4 (wrap64 (x4 + 1))) else (spec_l3Old.l0 k x0 x3 (wrap64 (x4 + 1))))) else (none)) else (none))) else (none)) else (some x3)
def spec_l3Old.f (k : Nat) (l0 : List (S62)) : Option (Int) := spec_l3Old.l0 k l0 0 1
theorem spec_l3Old.mono_l : ∀ k, (∀ y0 y1 y2, LeO (spec_l3Old.l0 k y0 y1 y2) (spec_l3Old.l0 (k + 1) y0 y1 y2))
 | 0 => fun _ _ _ r h => by simp [spec_l3Old.l0] at h
 | k + 1 => by
  have ih0 := spec_l3Old.mono_l k
  · intro y0 y1 y2
    unfold spec_l3Old.l0
    with_reducible repeat' first | exact ih0 _ _ _ | exact spec_l3Most.mono _ _ _ | exact LeO.refl _ | exact LeO.none _ | refine LeO.ite ?_ ?_ | refine LeO.bind ?_ (fun _ => ?_)
theorem spec_l3Old.mono : ∀ a0 k, LeO (spec_l3Old.f k a0) (spec_l3Old.f (k + 1) a0) := by
 intro a0 k
 have ih0 := spec_l3Old.mono_l k
 unfold spec_l3Old.f
 with_reducible repeat' first | exact ih0 _ _ _ | exact spec_l3Most.mono _ _ _ | exact LeO.refl _ | exact LeO.none _ | refine LeO.ite ?_ ?_ | refine LeO.bind ?_ (fun _ => ?_)
def spec_l3Old.T5 : Bool × List (List Nat × List Nat) := (true, [([], []), ([], []), ([0, 1], [0, 1]), ([2], [2]), ([3], [3]), ([], []), ([], []), ([5, 6], [5, 6]), ([7], [7]), ([8, 4], [8]), ([4, 9], [4, 9])])
def spec_l3Old.B5 : List Nat := [0, 0, 3, 7, 15, 0, 0, 96, 224, 511, 1023]
theorem spec_l3Old.tab5 : rtab .any (opsOf Try.f61 5) = spec_l3Old.T5 := by kernel_rfl
theorem spec_l3Old.bits5 : waitsOk spec_l3Old.T5.2 spec_l3Old.B5 = true := by kernel_rfl
set_option maxHeartbeats 8000000 in
set_option maxRecDepth 100000 in
theorem spec_l3Old.calls (k : Nat) (A0 : Option Addr) (c0 : Nat) (l0 : List (S62)) (r : Int) (w : World) (hr0 : Kd.C k62 w A0 l0.length l0) (hc0 : l0.length ≤ c0) (h : spec_l3Old.f k l0 = some r) :
 Calls Try.prog 61 #[.slice A0 l0.length c0] w fun e w' => e = .returned (.int .i64 r) ∧ Below w.heap.size w w' := by
 have hu62 := Try.underlying62
 have HR0 := am hr0
 have HC0 := am hc0
 clear hr0 hc0
 have HB := am (Below.refl w.heap.size w)
 have H : (spec_l3Old.l0 k l0 0 1) = some r := h
 clear h
 have H' := am H
 clear H
 go_enter Try.func61, Try.ntmps61
 go_wp2
 go_loopg [3, 4] k (fun kq v3 v4 w' => ∃ (x3_1 : Int) (x4_1 : Int), v3 = .int .i64 x3_1 ∧ v4 = .int .i64 x4_1 ∧ Aside0 (spec_l3Old.l0 kq l0 x3_1 x4_1 = some r) ∧ Aside0 (kq ≤ k) ∧ Aside0 (Below w.heap.size w w'))
 case atStart => exact ⟨(0), (1), rf, rf, H', ⟨Nat.le_refl _⟩, ⟨ph HB.out⟩⟩
 case round =>
  clear H'
  obtain ⟨x3_1, x4_1, rfl, rfl, HA, HK1, HB⟩ := hrel
  cases gk with
  | zero => exact absurd HA.out (by simp [spec_l3Old.l0])
  | succ k1 =>
   have H := HA.out
   clear HA
   simp only [spec_l3Old.l0] at H
   by_cases c2 : x4_1 < (l0.length : Int)
   rotate_left
   · rw [if_neg c2] at H
     have c2b0 := decide_eq_false c2
     clear c2
     obtain rfl := Option.some.inj H
     go_wp2
     go_ret
     exact (rq (ph HB.out))
   rw [if_pos c2] at H
   have c2b0 := decide_eq_true c2
   clear c2
   by_cases c3 : 0 ≤ x4_1
   rotate_left
   · rw [if_neg c3] at H
     exact absurd H (by simp)
   rw [if_pos c3] at H
   have c3b0 := decide_eq_true c3
   clear c3
   replace H := Option.bind_eq_some_iff.mp H
   obtain ⟨t192, A40, H⟩ := H
   have A4 := am A40
   clear A40
   by_cases c5 : 0 ≤ x3_1
   rotate_left
   · rw [if_neg c5] at H
     exact absurd H (by simp)
   rw [if_pos c5] at H
   have c5b0 := decide_eq_true c5
   clear c5
   by_cases c6 : x3_1 < (l0.length : Int)
   rotate_left
   · rw [if_neg c6] at H
     exact absurd H (by simp)
   rw [if_pos c6] at H
   have c6b0 := decide_eq_true c6
   clear c6
   replace H := Option.bind_eq_some_iff.mp H
   obtain ⟨t194, A70, H⟩ := H
   have A7 := am A70
   clear A70
   by_cases c8 : t192 < t194
   · rw [if_pos c8] at H
     have c8b0 := decide_eq_true c8
     clear c8
     have H' := am H
     clear H
     try go_wp2
     replace HB := am (below_drew1 HB.out)
     have p191 : 0 ≤ (x4_1 : Int) := ofb
     have q191 : x4_1 < (l0.length : Int) := ofb
     obtain ⟨ad191, A191_0, c191_0, e191, hx191_0, hx191_1, hl191_0, hi191_0⟩ := at_T62 HR0.out x4_1 p191 q191
     have hw191_1 := hx191_1
     have hw191_0 := hx191_0
     cases e191
     replace hx191_0 := up HB.out hx191_0
     replace hx191_1 := up HB.out hx191_1
     have HR191_0 := am hi191_0
     have HC191_0 := am hl191_0
     clear hi191_0 hl191_0
     replace p191 := eq_true p191
     replace q191 := eq_true q191
     have p193 : 0 ≤ (x3_1 : Int) := ofb
     have q193 : x3_1 < (l0.length : Int) := ofb
     obtain ⟨ad193, A193_0, c193_0, e193, hx193_0, hx193_1, hl193_0, hi193_0⟩ := at_T62 HR0.out x3_1 p193 q193
     have hw193_1 := hx193_1
     have hw193_0 := hx193_0
     obtain rfl : ad191 = ad193 := (by injection e193)
     replace hx193_0 := up HB.out hx193_0
     replace hx193_1 := up HB.out hx193_1
     have HR193_0 := am hi193_0
     have HC193_0 := am hl193_0
     clear hi193_0 hl193_0
     replace p193 := eq_true p193
     replace q193 := eq_true q193
     refine start_ (n := 11) (S := fun w' => w'.cell? (ad191.add ((x4_1).toNat * 2)) = some (.slice A191_0 ((rd_T62 l0 x4_1).f0).length c191_0) ∧ w'.cell? ⟨(ad191.add ((x4_1).toNat * 2)).block, (ad191.add ((x4_1).toNat * 2)).off + 1, none⟩ = some (.int .i64 ((rd_T62 l0 x4_1).f1)) ∧ w'.cell? (ad191.add ((x3_1).toNat * 2)) = some (.slice A193_0 ((rd_T62 l0 x3_1).f0).length c193_0) ∧ w'.cell? ⟨(ad191.add ((x3_1).toNat * 2)).block, (ad191.add ((x3_1).toNat * 2)).off + 1, none⟩ = some (.int .i64 ((rd_T62 l0 x3_1).f1))) (ds := []) (bt 11 0) (by kernel_rfl) rfl rfl ⟨((HB.out.cell (World.block_lt_of_cell? w _ hw191_0)).trans hw191_0), ((HB.out.cell (World.block_lt_of_cell? w _ hw191_1)).trans hw191_1), ((HB.out.cell (World.block_lt_of_cell? w _ hw193_0)).trans hw193_0), ((HB.out.cell (World.block_lt_of_cell? w _ hw193_1)).trans hw193_1)⟩ (fun hHeld => ?_); refine with_tabW spec_l3Old.tab5 spec_l3Old.bits5 (fun HT_ HW_ => ?_)
     generalize wr.drew = w9 at HB HR191_0 HR193_0 hx191_0 hx191_1 hx193_0 hx193_1 hHeld ⊢
     refine qj 0 11 (bt 11 1) rfl rfl HT_.out ?_
     refine qj 1 12 (bt 11 3) rfl rfl HT_.out ?_
     refine qj 2 13 (bt 11 7) rfl rfl HT_.out ?_
     refine qj 5 16 (bt 11 39) rfl rfl HT_.out ?_
     refine qj 6 17 (bt 11 103) rfl rfl HT_.out ?_
     refine qj 7 18 (bt 11 231) rfl rfl HT_.out ?_
     refine qm 3 14 (bt 11 239) rfl rfl HT_.out HW_.out hHeld ?_
     refine qm 8 19 (bt 11 495) rfl rfl HT_.out HW_.out hHeld ?_
     refine qo 4 (some 15) (bt 11 511) rfl rfl HT_.out fun K hK => ?_
     refine qg Try.func29 #[.agg #[.slice A191_0 ((rd_T62 l0 x4_1).f0).length c191_0, .int .i64 ((rd_T62 l0 x4_1).f1)]] rfl rfl ?_
     with_reducible refine (spec_l3Most.calls k1 _ _ ((rd_T62 l0 x4_1).f0) ((rd_T62 l0 x4_1).f1) t192 _ ?side1 ?side2 A4.out).mono ?_
     (case side1 => exact pc (Kd.C_below HR191_0.out HB.out))
     (case side2 => exact HC191_0.out)
     rintro e w10 ⟨rfl, hb⟩
     refine ⟨_, rfl, ?_⟩
     replace HB := am (below_step (ph HB.out) hb)
     (try clear hb)
     (try clear hb2)
     (try clear hk)
     (try clear hi)
     refine hK.out _ _ ⟨((HB.out.cell (World.block_lt_of_cell? w _ hw191_0)).trans hw191_0), ((HB.out.cell (World.block_lt_of_cell? w _ hw191_1)).trans hw191_1), ((HB.out.cell (World.block_lt_of_cell? w _ hw193_0)).trans hw193_0), ((HB.out.cell (World.block_lt_of_cell? w _ hw193_1)).trans hw193_1)⟩ (fun hHeld => ?_)
     clear hK K
     refine qn (some 15) ?_
     refine qo 9 (some 20) (bt 11 1023) rfl rfl HT_.out fun K hK => ?_
     refine qg Try.func29 #[.agg #[.slice A193_0 ((rd_T62 l0 x3_1).f0).length c193_0, .int .i64 ((rd_T62 l0 x3_1).f1)]] rfl rfl ?_
     with_reducible refine (spec_l3Most.calls k1 _ _ ((rd_T62 l0 x3_1).f0) ((rd_T62 l0 x3_1).f1) t194 _ ?side1 ?side2 A7.out).mono ?_
     (case side1 => exact pc (Kd.C_below HR193_0.out HB.out))
     (case side2 => exact HC193_0.out)
     rintro e w11 ⟨rfl, hb⟩
     refine ⟨_, rfl, ?_⟩
     replace HB := am (below_step (ph HB.out) hb)
     (try clear hb)
     (try clear hb2)
     (try clear hk)
     (try clear hi)
     refine hK.out _ _ ⟨((HB.out.cell (World.block_lt_of_cell? w _ hw191_0)).trans hw191_0), ((HB.out.cell (World.block_lt_of_cell? w _ hw191_1)).trans hw191_1), ((HB.out.cell (World.block_lt_of_cell? w _ hw193_0)).trans hw193_0), ((HB.out.cell (World.block_lt_of_cell? w _ hw193_1)).trans hw193_1)⟩ (fun hHeld => ?_)
     clear hK K
     refine qn (some 20) ?_
     refine qj 10 21 (bt 11 2047) rfl rfl HT_.out ?_
     refine done_ (done_of HT_.out (by kernel_rfl)) ?_
     try go_wp2
     go_roundg k1
     case measure => have := HK1.out; omega
     case rel => exact ⟨(x4_1), (wrap64 (x4_1 + 1)), rf, rf, H', ⟨by have := HK1.out; omega⟩, ⟨ph HB.out⟩⟩
   rw [if_neg c8] at H
   have c8b0 := decide_eq_false c8
   clear c8
   have H' := am H
   clear H
   try go_wp2
   replace HB := am (below_drew1 HB.out)
   have p191 : 0 ≤ (x4_1 : Int) := ofb
   have q191 : x4_1 < (l0.length : Int) := ofb
   obtain ⟨ad191, A191_0, c191_0, e191, hx191_0, hx191_1, hl191_0, hi191_0⟩ := at_T62 HR0.out x4_1 p191 q191
   have hw191_1 := hx191_1
   have hw191_0 := hx191_0
   cases e191
   replace hx191_0 := up HB.out hx191_0
   replace hx191_1 := up HB.out hx191_1
   have HR191_0 := am hi191_0
   have HC191_0 := am hl191_0
   clear hi191_0 hl191_0
   replace p191 := eq_true p191
   replace q191 := eq_true q191
   have p193 : 0 ≤ (x3_1 : Int) := ofb
   have q193 : x3_1 < (l0.length : Int) := ofb
   obtain ⟨ad193, A193_0, c193_0, e193, hx193_0, hx193_1, hl193_0, hi193_0⟩ := at_T62 HR0.out x3_1 p193 q193
   have hw193_1 := hx193_1
   have hw193_0 := hx193_0
   obtain rfl : ad191 = ad193 := (by injection e193)
   replace hx193_0 := up HB.out hx193_0
   replace hx193_1 := up HB.out hx193_1
   have HR193_0 := am hi193_0
   have HC193_0 := am hl193_0
   clear hi193_0 hl193_0
   replace p193 := eq_true p193
   replace q193 := eq_true q193
   refine start_ (n := 11) (S := fun w' => w'.cell? (ad191.add ((x4_1).toNat * 2)) = some (.slice A191_0 ((rd_T62 l0 x4_1).f0).length c191_0) ∧ w'.cell? ⟨(ad191.add ((x4_1).toNat * 2)).block, (ad191.add ((x4_1).toNat * 2)).off + 1, none⟩ = some (.int .i64 ((rd_T62 l0 x4_1).f1)) ∧ w'.cell? (ad191.add ((x3_1).toNat * 2)) = some (.slice A193_0 ((rd_T62 l0 x3_1).f0).length c193_0) ∧ w'.cell? ⟨(ad191.add ((x3_1).toNat * 2)).block, (ad191.add ((x3_1).toNat * 2)).off + 1, none⟩ = some (.int .i64 ((rd_T62 l0 x3_1).f1))) (ds := []) (bt 11 0) (by kernel_rfl) rfl rfl ⟨((HB.out.cell (World.block_lt_of_cell? w _ hw191_0)).trans hw191_0), ((HB.out.cell (World.block_lt_of_cell? w _ hw191_1)).trans hw191_1), ((HB.out.cell (World.block_lt_of_cell? w _ hw193_0)).trans hw193_0), ((HB.out.cell (World.block_lt_of_cell? w _ hw193_1)).trans hw193_1)⟩ (fun hHeld => ?_); refine with_tabW spec_l3Old.tab5 spec_l3Old.bits5 (fun HT_ HW_ => ?_)
   generalize wr.drew = w12 at HB HR191_0 HR193_0 hx191_0 hx191_1 hx193_0 hx193_1 hHeld ⊢
   refine qj 0 11 (bt 11 1) rfl rfl HT_.out ?_
   refine qj 1 12 (bt 11 3) rfl rfl HT_.out ?_
   refine qj 2 13 (bt 11 7) rfl rfl HT_.out ?_
   refine qj 5 16 (bt 11 39) rfl rfl HT_.out ?_
   refine qj 6 17 (bt 11 103) rfl rfl HT_.out ?_
   refine qj 7 18 (bt 11 231) rfl rfl HT_.out ?_
   refine qm 3 14 (bt 11 239) rfl rfl HT_.out HW_.out hHeld ?_
   refine qm 8 19 (bt 11 495) rfl rfl HT_.out HW_.out hHeld ?_
   refine qo 4 (some 15) (bt 11 511) rfl rfl HT_.out fun K hK => ?_
   refine qg Try.func29 #[.agg #[.slice A191_0 ((rd_T62 l0 x4_1).f0).length c191_0, .int .i64 ((rd_T62 l0 x4_1).f1)]] rfl rfl ?_
   with_reducible refine (spec_l3Most.calls k1 _ _ ((rd_T62 l0 x4_1).f0) ((rd_T62 l0 x4_1).f1) t192 _ ?side1 ?side2 A4.out).mono ?_
   (case side1 => exact pc (Kd.C_below HR191_0.out HB.out))
   (case side2 => exact HC191_0.out)
   rintro e w13 ⟨rfl, hb⟩
   refine ⟨_, rfl, ?_⟩
   replace HB := am (below_step (ph HB.out) hb)
   (try clear hb)
   (try clear hb2)
   (try clear hk)
   (try clear hi)
   refine hK.out _ _ ⟨((HB.out.cell (World.block_lt_of_cell? w _ hw191_0)).trans hw191_0), ((HB.out.cell (World.block_lt_of_cell? w _ hw191_1)).trans hw191_1), ((HB.out.cell (World.block_lt_of_cell? w _ hw193_0)).trans hw193_0), ((HB.out.cell (World.block_lt_of_cell? w _ hw193_1)).trans hw193_1)⟩ (fun hHeld => ?_)
   clear hK K
   refine qn (some 15) ?_
   refine qo 9 (some 20) (bt 11 1023) rfl rfl HT_.out fun K hK => ?_
   refine qg Try.func29 #[.agg #[.slice A193_0 ((rd_T62 l0 x3_1).f0).length c193_0, .int .i64 ((rd_T62 l0 x3_1).f1)]] rfl rfl ?_
   with_reducible refine (spec_l3Most.calls k1 _ _ ((rd_T62 l0 x3_1).f0) ((rd_T62 l0 x3_1).f1) t194 _ ?side1 ?side2 A7.out).mono ?_
   (case side1 => exact pc (Kd.C_below HR193_0.out HB.out))
   (case side2 => exact HC193_0.out)
   rintro e w14 ⟨rfl, hb⟩
   refine ⟨_, rfl, ?_⟩
   replace HB := am (below_step (ph HB.out) hb)
   (try clear hb)
   (try clear hb2)
   (try clear hk)
   (try clear hi)
   refine hK.out _ _ ⟨((HB.out.cell (World.block_lt_of_cell? w _ hw191_0)).trans hw191_0), ((HB.out.cell (World.block_lt_of_cell? w _ hw191_1)).trans hw191_1), ((HB.out.cell (World.block_lt_of_cell? w _ hw193_0)).trans hw193_0), ((HB.out.cell (World.block_lt_of_cell? w _ hw193_1)).trans hw193_1)⟩ (fun hHeld => ?_)
   clear hK K
   refine qn (some 20) ?_
   refine qj 10 21 (bt 11 2047) rfl rfl HT_.out ?_
   refine done_ (done_of HT_.out (by kernel_rfl)) ?_
   try go_wp2
   go_roundg k1
   case measure => have := HK1.out; omega
   case rel => exact ⟨(x3_1), (wrap64 (x4_1 + 1)), rf, rf, H', ⟨by have := HK1.out; omega⟩, ⟨ph HB.out⟩⟩
def spec_l3Live.f (k : Nat) (l0 : List (S62)) (a1_0 : Int) (a1_1 : Int) (a1_2 : Int) (a1_3 : Int) (a1_4 : Int) : Option (Bool) := if a1_0 = 1 then ((spec_l3Last.f k l0 a1_3).bind fun bt196 => (some (bt196.1 == a1_1 && (bt196.2.1 == a1_2 && (bt196.2.2.1 == a1_3 && (bt196.2.2.2.1 == a1_4)))))) else (some false)
theorem spec_l3Live.mono : ∀ a0 a1 a2 a3 a4 a5 k, LeO (spec_l3Live.f k a0 a1 a2 a3 a4 a5) (spec_l3Live.f (k + 1) a0 a1 a2 a3 a4 a5) := by
 intro a0 a1 a2 a3 a4 a5 k
 unfold spec_l3Live.f
 with_reducible repeat' first | exact spec_l3Last.mono _ _ _ | exact LeO.refl _ | exact LeO.none _ | refine LeO.ite ?_ ?_ | refine LeO.bind ?_ (fun _ => ?_)
set_option maxHeartbeats 8000000 in
set_option maxRecDepth 100000 in
theorem spec_l3Live.calls (k : Nat) (A0 : Option Addr) (c0 : Nat) (l0 : List (S62)) (a1_0 : Int) (a1_1 : Int) (a1_2 : Int) (a1_3 : Int) (a1_4 : Int) (r : Bool) (w : World) (hr0 : Kd.C k62 w A0 l0.length l0) (hc0 : l0.length ≤ c0) (h : spec_l3Live.f k l0 a1_0 a1_1 a1_2 a1_3 a1_4 = some r) :
 Calls Try.prog 62 #[.slice A0 l0.length c0, .agg #[.int .i64 a1_0, .int .i64 a1_1, .int .i64 a1_2, .int .i64 a1_3, .int .i64 a1_4]] w fun e w' => e = .returned (.bool r) ∧ Below w.heap.size w w' := by
 have hu54 := Try.underlying54
 have hu32 := Try.underlying32
 have HR0 := am hr0
 have HC0 := am hc0
 clear hr0 hc0
 have HB := am (Below.refl w.heap.size w)
 have H : (if a1_0 = 1 then ((spec_l3Last.f k l0 a1_3).bind fun bt196 => (some (bt196.1 == a1_1 && (bt196.2.1 == a1_2 && (bt196.2.2.1 == a1_3 && (bt196.2.2.2.1 == a1_4)))))) else (some false)) = some r := h
 clear h
 by_cases c3 : a1_0 = 1
 rotate_left
 · rw [if_neg c3] at H
   have c3b0 : (a1_0 == 1) = false := beq_eq_false_iff_ne.mpr c3
   have c3b1 : (a1_0 != 1) = true := bne_iff_ne.mpr c3
   obtain rfl := Option.some.inj H
   go_enter Try.func62, Try.ntmps62
   go_wp2_with (first | (refine bx 3 #[.int .i64 a1_0, .int .i64 a1_1, .int .i64 a1_2, .int .i64 a1_3, .int .i64 a1_4] 54 rfl ?_; intro gb195 hg w12 hbox hb; have BK195 := am (hbox); have GW195 := am (ge hg (ph HB.out)); have GE195 := GW195; replace HB := am (below_step (ph HB.out) hb); clear hb hbox hg; obtain ⟨hcz13_0, hcz13_1, hcz13_2, hcz13_3, hcz13_4⟩ := b5 BK195.out; obtain ⟨hfz13_0, hfz13_1, hfz13_2, hfz13_3, hfz13_4⟩ := f5 BK195.out))
   go_ret
   exact (rq (bg1 HB.out GE195.out))
 rw [if_pos c3] at H
 have c3b0 : (a1_0 == 1) = true := beq_iff_eq.mpr c3
 have c3b1 : (a1_0 != 1) = false := bne_eq_false_iff_eq.mpr c3
 clear c3
 replace H := Option.bind_eq_some_iff.mp H
 obtain ⟨⟨t196, t197, t198, t199, t200⟩, A40, H⟩ := H
 have A4 := am A40
 clear A40
 obtain rfl := Option.some.inj H
 go_enter Try.func62, Try.ntmps62
 go_wp2_with (first | (refine bx 3 #[.int .i64 a1_0, .int .i64 a1_1, .int .i64 a1_2, .int .i64 a1_3, .int .i64 a1_4] 54 rfl ?_; intro gb195 hg w5 hbox hb; have BK195 := am (hbox); have GW195 := am (ge hg (ph HB.out)); have GE195 := GW195; replace HB := am (below_step (ph HB.out) hb); clear hb hbox hg; obtain ⟨hcz6_0, hcz6_1, hcz6_2, hcz6_3, hcz6_4⟩ := b5 BK195.out; obtain ⟨hfz6_0, hfz6_1, hfz6_2, hfz6_3, hfz6_4⟩ := f5 BK195.out) | (refine gl 15 Try.func18 #[.slice A0 l0.length c0, .int .i64 a1_3] rfl ?_; (with_reducible refine (spec_l3Last.calls k _ _ l0 a1_3 t196 t197 t198 t199 t200 _ ?side1 ?side2 A4.out).mono ?_); (case side1 => exact pc (Kd.C_below HR0.out HB.out)); (case side2 => exact HC0.out); rintro e w7 ⟨rfl, hb⟩; refine ⟨_, rfl, ?_⟩; replace BK195 := am (blk_below (pb BK195.out) hb); replace HB := am (below_step (bg1 HB.out GE195.out) hb); (try clear hb); (try clear hb2); (try clear hk); (try clear hi)) | (refine bx 5 #[.int .i64 0, .int .i64 0, .int .i64 0, .int .i64 0] 32 rfl ?_; intro gb201 hg w8 hbox hb; have BK201 := am (hbox); have GW201 := am (ge hg (bg1 HB.out GE195.out)); have GE201 := GW201; replace HB := am (below_step (bg1 HB.out GE195.out) hb); have NB195_201 := am (nb hg (pb BK195.out)); have NB201_195 := am (Ne.symm NB195_201.out); replace BK195 := am (blk_below (pb BK195.out) hb); clear hb hbox hg; have hnb9 := NB201_195.out; have hnc9 := NB195_201.out; obtain ⟨hcz10_0, hcz10_1, hcz10_2, hcz10_3⟩ := b4 BK201.out; obtain ⟨hfz10_0, hfz10_1, hfz10_2, hfz10_3⟩ := f4 BK201.out; obtain ⟨hcz11_0, hcz11_1, hcz11_2, hcz11_3, hcz11_4⟩ := b5 BK195.out; obtain ⟨hfz11_0, hfz11_1, hfz11_2, hfz11_3, hfz11_4⟩ := f5 BK195.out))
 go_ret
 exact (rq (bg2 HB.out GE195.out GE201.out))
end Go.Proofs.Ytjlmndgpmhbdlaa.Rz
