-- printed by wip/pp/pp.py
import Derived.Test.YtghmnlcmhpdcaaaR50
import Derived.Test.YtghmnlcmhpdcaaaR51
import Derived.Test.YtghmnlcmhpdcaaaR53
import Derived.Test.YtghmnlcmhpdcaaaR56
namespace Go.Proofs.Ytghmnlcmhpdcaaa.R5
open Go.RowKit Go.Proofs.YtghmnlcmhpdcaaaW.PrintWords Go.Proofs.YtghmnlcmhpdcaaaW.PrintLast Go.Proofs.YtghmnlcmhpdcaaaW.PrintMore
attribute [local go_sem] max2_int min2_int max_two min_two max_three min_three max_four min_four
set_option linter.unusedVariables false
set_option linter.unusedSimpArgs false
def spec_l12Fill.f (k : Nat) (l0_0 : List (S54)) (l0_1 : List Int) (a1 : Int) : Option ((List (S107))) := (spec_l6In.f a1 1 6).bind fun t277 => (if t277 = true then ((spec_l3Last.f k l0_0 a1).bind fun bt281 => (if bt281.2.2.2.2 = true then (some (([] : List (S107)))) else (if 0 ≤ (wrap64 (a1 - 1)) then (if (wrap64 (a1 - 1)) < (l0_1.length : Int) then ((spec_l12Write.f k l0_0 l0_1 2 a1 (rd l0_1 (wrap64 (a1 - 1)))).bind fun t291 => (some t291)) else (none)) else (none)))) else (some (([] : List (S107)))))
theorem spec_l12Fill.mono : ∀ a0 a1 a2 k, LeO (spec_l12Fill.f k a0 a1 a2) (spec_l12Fill.f (k + 1) a0 a1 a2) := by
 intro a0 a1 a2 k
 unfold spec_l12Fill.f
 with_reducible repeat' first | exact spec_l12Write.mono _ _ _ _ _ _ | exact spec_l3Last.mono _ _ _ | exact LeO.refl _ | exact LeO.none _ | refine LeO.ite ?_ ?_ | refine LeO.bind ?_ (fun _ => ?_)
def spec_l12Fill.T6 : Bool × List (List Nat × List Nat) := (true, [([], []), ([], []), ([], []), ([2], [2]), ([], []), ([4], [4]), ([3, 5], [3, 5]), ([6], [6]), ([0, 1, 7], [0, 1, 7]), ([8, 8, 0, 1, 2, 3, 4, 5, 6, 7, 8], [8])])
def spec_l12Fill.B6 : List Nat := [0, 0, 0, 4, 0, 16, 60, 124, 255, 511]
theorem spec_l12Fill.tab6 : rtab .any (opsOf Try.f59 6) = spec_l12Fill.T6 := by kernel_rfl
theorem spec_l12Fill.bits6 : waitsOk spec_l12Fill.T6.2 spec_l12Fill.B6 = true := by kernel_rfl
set_option maxHeartbeats 8000000 in
set_option maxRecDepth 100000 in
theorem spec_l12Fill.calls (k : Nat) (A0_0 : Option Addr) (c0_0 : Nat) (l0_0 : List (S54)) (A0_1 : Option Addr) (c0_1 : Nat) (l0_1 : List Int) (a1 : Int) (r : List (S107)) (w : World) (hr0_0 : Kd.C k54 w A0_0 l0_0.length l0_0) (hc0_0 : l0_0.length ≤ c0_0) (hr0_1 : Kd.C (Kd.int .i64) w A0_1 l0_1.length l0_1) (hc0_1 : l0_1.length ≤ c0_1) (h : spec_l12Fill.f k l0_0 l0_1 a1 = some r) :
 Calls Try.prog 59 #[.agg #[.slice A0_0 l0_0.length c0_0, .slice A0_1 l0_1.length c0_1], .int .i64 a1] w fun e w' => ∃ v0_ : Value, e = .returned (v0_) ∧ Kd.R k107 107 w' w.heap.size (fun _ => True) v0_ r ∧ Below w.heap.size w w' := by
 have hu26 := Try.underlying26
 have hu37 := Try.underlying37
 have HR0_0 := am hr0_0
 have HC0_0 := am hc0_0
 clear hr0_0 hc0_0
 have HR0_1 := am hr0_1
 have HC0_1 := am hc0_1
 clear hr0_1 hc0_1
 have HB := am (Below.refl w.heap.size w)
 have H : ((spec_l6In.f a1 1 6).bind fun t277 => (if t277 = true then ((spec_l3Last.f k l0_0 a1).bind fun bt281 => (if bt281.2.2.2.2 = true then (some (([] : List (S107)))) else (if 0 ≤ (wrap64 (a1 - 1)) then (if (wrap64 (a1 - 1)) < (l0_1.length : Int) then ((spec_l12Write.f k l0_0 l0_1 2 a1 (rd l0_1 (wrap64 (a1 - 1)))).bind fun t291 => (some t291)) else (none)) else (none)))) else (some (([] : List (S107)))))) = some r := h
 clear h
 replace H := Option.bind_eq_some_iff.mp H
 obtain ⟨t277, A30, H⟩ := H
 have A3 := am A30
 clear A30
 by_cases c4 : t277 = true
 rotate_left
 · replace c4 := Bool.eq_false_iff.mpr c4
   subst c4
   rw [if_neg (show ¬ (false = true) by decide)] at H
   obtain ⟨y278, hy278⟩ : ∃ y_ : List (S107), y_ = (([] : List (S107))) := ⟨_, rfl⟩
   replace H : (some y278) = some r := yy hy278 H
   have Ny278 := am hy278
   clear hy278
   obtain rfl := Option.some.inj H
   go_enter Try.func59, Try.ntmps59
   go_wp2_with (first | (refine bx 2 #[.slice A0_0 l0_0.length c0_0, .slice A0_1 l0_1.length c0_1] 26 rfl ?_; intro gb276 hg w28 hbox hb; have BK276 := am (hbox); have GW276 := am (ge hg (ph HB.out)); have GE276 := GW276; replace HB := am (below_step (ph HB.out) hb); clear hb hbox hg) | (refine gl 8 Try.func19 #[.int .i64 a1, .int .i64 1, .int .i64 6] rfl ?_; (with_reducible refine (spec_l6In.calls a1 1 6 false _ A3.out).mono ?_); rintro e w' ⟨rfl, ⟨nd, rfl⟩⟩; refine ⟨_, rfl, ?_⟩) | ((with_reducible refine gate_dst (N := 10) rfl ?_); refine Kd.R_lit k107 _ 107 ?hg (N := 10) ?hd (xs := ([] : List (S107))) (inner := []) (ok := fun _ => True) (okp := fun _ => True) ?hr ?hp (fun _ hk => hk) trivial (Below.refl _ _) (Nat.le_refl _) (by simp) ?_; (case hd => rfl); (case hg => rfl); (case hr => first | (go_simp; done) | (go_simp; rfl)); (case hp => exact (Reps.none _ _)); intro v279 w29 ho30 hb hg_ hnew_; clear hg_ hnew_; (first | rw [← Ny278.out] at ho30 | (simp only [Int.reduceToNat] at ho30; rw [← Ny278.out] at ho30)); have HO280 := am (Kd.R_lower ho30 (below_size (bg1 HB.out GE276.out))); replace BK276 := am (blk_below (pb BK276.out) hb); replace HB := am (below_step (bg1 HB.out GE276.out) hb); clear hb ho30))
   go_ret
   exact ⟨_, rq ⟨pr HO280.out, bg1 HB.out GE276.out⟩⟩
 subst c4
 rw [if_pos rfl] at H
 replace H := Option.bind_eq_some_iff.mp H
 obtain ⟨⟨t281, t282, t283, t284, t285⟩, A50, H⟩ := H
 have A5 := am A50
 clear A50
 by_cases c6 : t285 = true
 · subst c6
   rw [if_pos rfl] at H
   obtain ⟨y287, hy287⟩ : ∃ y_ : List (S107), y_ = (([] : List (S107))) := ⟨_, rfl⟩
   replace H : (some y287) = some r := yy hy287 H
   have Ny287 := am hy287
   clear hy287
   obtain rfl := Option.some.inj H
   go_enter Try.func59, Try.ntmps59
   go_wp2_with (first | (refine bx 2 #[.slice A0_0 l0_0.length c0_0, .slice A0_1 l0_1.length c0_1] 26 rfl ?_; intro gb276 hg w7 hbox hb; have BK276 := am (hbox); have GW276 := am (ge hg (ph HB.out)); have GE276 := GW276; replace HB := am (below_step (ph HB.out) hb); clear hb hbox hg) | (refine gl 8 Try.func19 #[.int .i64 a1, .int .i64 1, .int .i64 6] rfl ?_; (with_reducible refine (spec_l6In.calls a1 1 6 true _ A3.out).mono ?_); rintro e w' ⟨rfl, ⟨nd, rfl⟩⟩; refine ⟨_, rfl, ?_⟩; (try (rw [drewN_self w7]; generalize hq_ : World.drewN w7 _ = w7; have n0_ : Aside0 (w7.heap[gb276]? = some (.cells #[.slice A0_0 l0_0.length c0_0, .slice A0_1 l0_1.length c0_1] 26 (0, 0))) := ⟨by rw [← hq_]; exact (pb BK276.out)⟩; have n1_ : Aside0 (Below w.heap.size w w7) := ⟨by rw [← hq_]; exact (bg1 HB.out GE276.out)⟩; clear BK276 HB hq_; have BK276 := n0_; have HB := n1_; clear n0_ n1_)); obtain ⟨hcz8_0, hcz8_1⟩ := b2 BK276.out; obtain ⟨hfz8_0, hfz8_1⟩ := f2 BK276.out) | (refine gl 15 Try.func22 #[.slice A0_0 l0_0.length c0_0, .int .i64 a1] rfl ?_; (with_reducible refine (spec_l3Last.calls k _ _ l0_0 a1 t281 t282 t283 t284 true _ ?side1 ?side2 A5.out).mono ?_); (case side1 => exact pc (Kd.C_below HR0_0.out HB.out)); (case side2 => exact HC0_0.out); rintro e w9 ⟨rfl, hb⟩; refine ⟨_, rfl, ?_⟩; replace BK276 := am (blk_below (pb BK276.out) hb); replace HB := am (below_step (bg1 HB.out GE276.out) hb); clear hb) | (refine bx 5 #[.int .i64 0, .int .i64 0, .int .i64 0, .int .i64 0] 37 rfl ?_; intro gb286 hg w10 hbox hb; have BK286 := am (hbox); have GW286 := am (ge hg (bg1 HB.out GE276.out)); have GE286 := GW286; replace HB := am (below_step (bg1 HB.out GE276.out) hb); have NB276_286 := am (nb hg (pb BK276.out)); have NB286_276 := am (Ne.symm NB276_286.out); replace BK276 := am (blk_below (pb BK276.out) hb); clear hb hbox hg; have hnb11 := NB286_276.out; have hnc11 := NB276_286.out; obtain ⟨hcz12_0, hcz12_1, hcz12_2, hcz12_3⟩ := b4 BK286.out; obtain ⟨hfz12_0, hfz12_1, hfz12_2, hfz12_3⟩ := f4 BK286.out) | ((with_reducible refine gate_dst (N := 19) rfl ?_); refine Kd.R_lit k107 _ 107 ?hg (N := 19) ?hd (xs := ([] : List (S107))) (inner := []) (ok := fun _ => True) (okp := fun _ => True) ?hr ?hp (fun _ hk => hk) trivial (Below.refl _ _) (Nat.le_refl _) (by simp) ?_; (case hd => rfl); (case hg => rfl); (case hr => first | (go_simp; done) | (go_simp; rfl)); (case hp => exact (Reps.none _ _)); intro v288 w13 ho14 hb hg_ hnew_; clear hg_ hnew_; (first | rw [← Ny287.out] at ho14 | (simp only [Int.reduceToNat] at ho14; rw [← Ny287.out] at ho14)); have HO289 := am (Kd.R_lower ho14 (below_size (bg2 HB.out GE276.out GE286.out))); replace BK276 := am (blk_below (bf4 (pb BK276.out) NB276_286.out) hb); replace BK286 := am (blk_below (bp4 (pb BK286.out)) hb); replace HB := am (below_step (bg2 HB.out GE276.out GE286.out) hb); clear hb ho14))
   go_ret
   exact ⟨_, rq ⟨pr HO289.out, bg2 HB.out GE276.out GE286.out⟩⟩
 replace c6 := Bool.eq_false_iff.mpr c6
 subst c6
 rw [if_neg (show ¬ (false = true) by decide)] at H
 obtain ⟨ji15, hji15⟩ : ∃ j_ : Int, (wrap64 (a1 - 1)) = j_ := ⟨_, rfl⟩
 replace H : (if 0 ≤ (ji15) then (if (ji15) < (l0_1.length : Int) then ((spec_l12Write.f k l0_0 l0_1 2 a1 (rd l0_1 (ji15))).bind fun t291 => (some t291)) else (none)) else (none)) = some r := by first | (rw [hji15] at H; exact H) | (simp only [hji15] at H ⊢; exact H)
 (try rw [hji15] at A3)
 (try rw [hji15] at A5)
 have hji15w : (IntKind.i64.wrap (a1 - 1)) = ji15 := (i64_w _).trans hji15
 obtain ⟨c16b0, H⟩ := ifd H
 obtain ⟨c17b0, H⟩ := ifd H
 replace H := Option.bind_eq_some_iff.mp H
 obtain ⟨t291, A180, H⟩ := H
 have A18 := am A180
 clear A180
 obtain rfl := Option.some.inj H
 go_enter Try.func59, Try.ntmps59
 try go_wp2_with (first | (refine bx 2 #[.slice A0_0 l0_0.length c0_0, .slice A0_1 l0_1.length c0_1] 26 rfl ?_; intro gb276 hg w19 hbox hb; have BK276 := am (hbox); have GW276 := am (ge hg (ph HB.out)); have GE276 := GW276; replace HB := am (below_step (ph HB.out) hb); clear hb hbox hg) | (refine gl 8 Try.func19 #[.int .i64 a1, .int .i64 1, .int .i64 6] rfl ?_; (with_reducible refine (spec_l6In.calls a1 1 6 true _ A3.out).mono ?_); rintro e w' ⟨rfl, ⟨nd, rfl⟩⟩; refine ⟨_, rfl, ?_⟩; (try (rw [drewN_self w19]; generalize hq_ : World.drewN w19 _ = w19; have n0_ : Aside0 (w19.heap[gb276]? = some (.cells #[.slice A0_0 l0_0.length c0_0, .slice A0_1 l0_1.length c0_1] 26 (0, 0))) := ⟨by rw [← hq_]; exact (pb BK276.out)⟩; have n1_ : Aside0 (Below w.heap.size w w19) := ⟨by rw [← hq_]; exact (bg1 HB.out GE276.out)⟩; clear BK276 HB hq_; have BK276 := n0_; have HB := n1_; clear n0_ n1_)); obtain ⟨hcz20_0, hcz20_1⟩ := b2 BK276.out; obtain ⟨hfz20_0, hfz20_1⟩ := f2 BK276.out) | (refine gl 15 Try.func22 #[.slice A0_0 l0_0.length c0_0, .int .i64 a1] rfl ?_; (with_reducible refine (spec_l3Last.calls k _ _ l0_0 a1 t281 t282 t283 t284 false _ ?side1 ?side2 A5.out).mono ?_); (case side1 => exact pc (Kd.C_below HR0_0.out HB.out)); (case side2 => exact HC0_0.out); rintro e w21 ⟨rfl, hb⟩; refine ⟨_, rfl, ?_⟩; replace BK276 := am (blk_below (pb BK276.out) hb); replace HB := am (below_step (bg1 HB.out GE276.out) hb); clear hb) | (refine bx 5 #[.int .i64 0, .int .i64 0, .int .i64 0, .int .i64 0] 37 rfl ?_; intro gb286 hg w22 hbox hb; have BK286 := am (hbox); have GW286 := am (ge hg (bg1 HB.out GE276.out)); have GE286 := GW286; replace HB := am (below_step (bg1 HB.out GE276.out) hb); have NB276_286 := am (nb hg (pb BK276.out)); have NB286_276 := am (Ne.symm NB276_286.out); replace BK276 := am (blk_below (pb BK276.out) hb); clear hb hbox hg; have hnb23 := NB286_276.out; have hnc23 := NB276_286.out; obtain ⟨hcz24_0, hcz24_1, hcz24_2, hcz24_3⟩ := b4 BK286.out; obtain ⟨hfz24_0, hfz24_1, hfz24_2, hfz24_3⟩ := f4 BK286.out))
 have n0_ : Aside0 (((((w22.setCell ⟨gb286, 0, none⟩ (.int .i64 t281)).setCell ⟨gb286, 1, none⟩ (.int .i64 t282)).setCell ⟨gb286, 2, none⟩ (.int .i64 t283)).setCell ⟨gb286, 3, none⟩ (.int .i64 t284)).heap[gb276]? = some (.cells #[.slice A0_0 l0_0.length c0_0, .slice A0_1 l0_1.length c0_1] 26 (0, 0))) := ⟨bf4 (pb BK276.out) NB276_286.out⟩
 have n1_ : Aside0 (((((w22.setCell ⟨gb286, 0, none⟩ (.int .i64 t281)).setCell ⟨gb286, 1, none⟩ (.int .i64 t282)).setCell ⟨gb286, 2, none⟩ (.int .i64 t283)).setCell ⟨gb286, 3, none⟩ (.int .i64 t284)).heap[gb286]? = some (.cells #[.int .i64 t281, .int .i64 t282, .int .i64 t283, .int .i64 t284] 37 (0, 0))) := ⟨bp4 (pb BK286.out)⟩
 have n2_ : Aside0 (Below w.heap.size w ((((w22.setCell ⟨gb286, 0, none⟩ (.int .i64 t281)).setCell ⟨gb286, 1, none⟩ (.int .i64 t282)).setCell ⟨gb286, 2, none⟩ (.int .i64 t283)).setCell ⟨gb286, 3, none⟩ (.int .i64 t284))) := ⟨bg2 HB.out GE276.out GE286.out⟩
 (try clear BK276)
 (try clear BK286)
 (try clear HB)
 generalize ((((w22.setCell ⟨gb286, 0, none⟩ (.int .i64 t281)).setCell ⟨gb286, 1, none⟩ (.int .i64 t282)).setCell ⟨gb286, 2, none⟩ (.int .i64 t283)).setCell ⟨gb286, 3, none⟩ (.int .i64 t284)) = w25 at n0_ n1_ n2_ ⊢
 have BK276 := n0_
 have BK286 := n1_
 have HB := n2_
 clear n0_ n1_ n2_
 replace BK276 := am (blk_drew BK276.out)
 replace BK286 := am (blk_drew BK286.out)
 replace HB := am (below_drew1 HB.out)
 have p290 : 0 ≤ ((ji15) : Int) := ofb
 have q290 : (ji15) < (l0_1.length : Int) := ofb
 obtain ⟨ad290, e290, hx290_0⟩ := Kd.at_int HR0_1.out (ji15) p290 q290
 have hw290_0 := hx290_0
 cases e290
 replace hx290_0 := up HB.out hx290_0
 replace p290 := eq_true p290
 replace q290 := eq_true q290
 refine start_ (n := 10) (S := fun w' => w'.cell? ⟨gb276, 0, none⟩ = some (.slice A0_0 l0_0.length c0_0) ∧ w'.cell? ⟨gb276, 1, none⟩ = some (.slice (some ad290) l0_1.length c0_1) ∧ w'.cell? (ad290.add ((ji15)).toNat) = some (.int .i64 (rd l0_1 (ji15)))) (ds := []) (bt 10 0) (by kernel_rfl) rfl rfl ⟨(blk_cell BK276.out 0).trans rfl, (blk_cell BK276.out 1).trans rfl, ((HB.out.cell (World.block_lt_of_cell? w _ hw290_0)).trans hw290_0)⟩ (fun hHeld => ?_); refine with_tabW spec_l12Fill.tab6 spec_l12Fill.bits6 (fun HT_ HW_ => ?_)
 generalize w25.drew = w26 at BK276 BK286 HB hx290_0 hHeld ⊢
 refine qj 1 21 (bt 10 2) rfl rfl HT_.out ?_
 refine qj 2 22 (bt 10 6) rfl rfl HT_.out ?_
 refine qj 4 24 (bt 10 22) rfl rfl HT_.out ?_
 refine qj 5 25 (bt 10 54) rfl rfl HT_.out ?_
 refine qm 0 20 (bt 10 55) rfl rfl HT_.out HW_.out hHeld ?_
 refine qm 3 23 (bt 10 63) rfl rfl HT_.out HW_.out hHeld ?_
 refine qj 6 26 (bt 10 127) rfl rfl HT_.out ?_
 refine qm 7 27 (bt 10 255) rfl rfl HT_.out HW_.out hHeld ?_
 refine qo 8 (some 28) (bt 10 511) rfl rfl HT_.out fun K hK => ?_
 refine goes_ Try.func58 (by kernel_rfl) rfl #[.agg #[.slice A0_0 l0_0.length c0_0, .slice (some ad290) l0_1.length c0_1], .int .i64 2, .int .i64 a1, .int .i64 (rd l0_1 (ji15))] (by rfl) rfl rfl (by (try simp only [List.map_toArray, List.map_cons, List.map_nil]); first | done | (simp only [hji15]; rfl) | rfl | (simp only [List.length_drop, List.length_take]; rfl)) ?_
 with_reducible refine (spec_l12Write.calls k _ _ l0_0 _ _ l0_1 2 a1 (rd l0_1 (ji15)) t291 _ ?side1 ?side2 ?side3 ?side4 A18.out).mono ?_
 (case side1 => exact pc (Kd.C_below HR0_0.out HB.out))
 (case side2 => exact HC0_0.out)
 (case side3 => exact pc (Kd.C_below HR0_1.out HB.out))
 (case side4 => exact HC0_1.out)
 rintro e w27 ⟨v292, rfl, ho0, hb⟩
 refine ⟨_, rfl, ?_⟩
 have HO293 := am (Kd.R_lower ho0 (below_size (bg2 HB.out GE276.out GE286.out)))
 replace BK276 := am (blk_below (pb BK276.out) hb)
 replace BK286 := am (blk_below (pb BK286.out) hb)
 replace HB := am (below_step (bg2 HB.out GE276.out GE286.out) hb)
 clear hb ho0
 refine hK.out _ _ ⟨(blk_cell BK276.out 0).trans rfl, (blk_cell BK276.out 1).trans rfl, ((HB.out.cell (World.block_lt_of_cell? w _ hw290_0)).trans hw290_0)⟩ (fun hHeld => ?_)
 clear hK K
 refine qn (some 28) ?_
 refine qj 9 4 (bt 10 1023) rfl rfl HT_.out ?_
 refine done_ (done_of HT_.out (by kernel_rfl)) ?_
 try go_wp2
 go_ret
 exact ⟨_, by first | rfl | (simp [errW_none, errW_some] <;> rfl) | (simp only [← hji15]; first | rfl | (simp [errW_none, errW_some] <;> rfl)) | (simp [*, errW_none, errW_some] <;> rfl), pr HO293.out, bg2 HB.out GE276.out GE286.out⟩
def spec_l21Steps.f (k : Nat) (l0_0 : List (S54)) (l0_1 : List Int) (a1_0 : Int) (a1_1 : Int) (a1_2 : Int) (a1_3 : Int) (a1_4 : Bool) : Option ((List (S107))) := if a1_0 = 1 then ((spec_l12Write.f k l0_0 l0_1 1 a1_1 a1_2).bind fun t296 => (some t296)) else (if a1_0 = 2 then ((spec_l12Flush.f k l0_0 l0_1 a1_1).bind fun t299 => (some t299)) else (if a1_0 = 3 then ((spec_l12Fill.f k l0_0 l0_1 a1_1).bind fun t302 => (some t302)) else (some (([] : List (S107))))))
theorem spec_l21Steps.mono : ∀ a0 a1 a2 a3 a4 a5 a6 k, LeO (spec_l21Steps.f k a0 a1 a2 a3 a4 a5 a6) (spec_l21Steps.f (k + 1) a0 a1 a2 a3 a4 a5 a6) := by
 intro a0 a1 a2 a3 a4 a5 a6 k
 unfold spec_l21Steps.f
 with_reducible repeat' first | exact spec_l12Fill.mono _ _ _ _ | exact spec_l12Flush.mono _ _ _ _ | exact spec_l12Write.mono _ _ _ _ _ _ | exact LeO.refl _ | exact LeO.none _ | refine LeO.ite ?_ ?_ | refine LeO.bind ?_ (fun _ => ?_)
set_option maxHeartbeats 8000000 in
set_option maxRecDepth 100000 in
theorem spec_l21Steps.calls (k : Nat) (A0_0 : Option Addr) (c0_0 : Nat) (l0_0 : List (S54)) (A0_1 : Option Addr) (c0_1 : Nat) (l0_1 : List Int) (a1_0 : Int) (a1_1 : Int) (a1_2 : Int) (a1_3 : Int) (a1_4 : Bool) (r : List (S107)) (w : World) (hr0_0 : Kd.C k54 w A0_0 l0_0.length l0_0) (hc0_0 : l0_0.length ≤ c0_0) (hr0_1 : Kd.C (Kd.int .i64) w A0_1 l0_1.length l0_1) (hc0_1 : l0_1.length ≤ c0_1) (h : spec_l21Steps.f k l0_0 l0_1 a1_0 a1_1 a1_2 a1_3 a1_4 = some r) :
 Calls Try.prog 54 #[.agg #[.slice A0_0 l0_0.length c0_0, .slice A0_1 l0_1.length c0_1], .agg #[.int .i64 a1_0, .int .i64 a1_1, .int .i64 a1_2, .int .i64 a1_3, .bool a1_4]] w fun e w' => ∃ v0_ : Value, e = .returned (v0_) ∧ Kd.R k107 107 w' w.heap.size (fun _ => True) v0_ r ∧ Below w.heap.size w w' := by
 have hu26 := Try.underlying26
 have hu87 := Try.underlying87
 have HR0_0 := am hr0_0
 have HC0_0 := am hc0_0
 clear hr0_0 hc0_0
 have HR0_1 := am hr0_1
 have HC0_1 := am hc0_1
 clear hr0_1 hc0_1
 have HB := am (Below.refl w.heap.size w)
 have H : (if a1_0 = 1 then ((spec_l12Write.f k l0_0 l0_1 1 a1_1 a1_2).bind fun t296 => (some t296)) else (if a1_0 = 2 then ((spec_l12Flush.f k l0_0 l0_1 a1_1).bind fun t299 => (some t299)) else (if a1_0 = 3 then ((spec_l12Fill.f k l0_0 l0_1 a1_1).bind fun t302 => (some t302)) else (some (([] : List (S107))))))) = some r := h
 clear h
 by_cases c3 : a1_0 = 1
 · rw [if_pos c3] at H
   have c3b0 : (a1_0 == 1) = true := beq_iff_eq.mpr c3
   have c3b1 : (a1_0 != 1) = false := bne_eq_false_iff_eq.mpr c3
   clear c3
   replace H := Option.bind_eq_some_iff.mp H
   obtain ⟨t296, A40, H⟩ := H
   have A4 := am A40
   clear A40
   obtain rfl := Option.some.inj H
   go_enter Try.func54, Try.ntmps54
   go_wp2_with (first | (refine bx 2 #[.slice A0_0 l0_0.length c0_0, .slice A0_1 l0_1.length c0_1] 26 rfl ?_; intro gb294 hg w5 hbox hb; have BK294 := am (hbox); have GW294 := am (ge hg (ph HB.out)); have GE294 := GW294; replace HB := am (below_step (ph HB.out) hb); clear hb hbox hg) | (refine bx 3 #[.int .i64 a1_0, .int .i64 a1_1, .int .i64 a1_2, .int .i64 a1_3, .bool a1_4] 87 rfl ?_; intro gb295 hg w6 hbox hb; have BK295 := am (hbox); have GW295 := am (ge hg (bg1 HB.out GE294.out)); have GE295 := GW295; replace HB := am (below_step (bg1 HB.out GE294.out) hb); have NB294_295 := am (nb hg (pb BK294.out)); have NB295_294 := am (Ne.symm NB294_295.out); replace BK294 := am (blk_below (pb BK294.out) hb); clear hb hbox hg; have hnb7 := NB295_294.out; have hnc7 := NB294_295.out; obtain ⟨hcz8_0, hcz8_1, hcz8_2, hcz8_3, hcz8_4⟩ := b5 BK295.out; obtain ⟨hfz8_0, hfz8_1, hfz8_2, hfz8_3, hfz8_4⟩ := f5 BK295.out; obtain ⟨hcz9_0, hcz9_1⟩ := b2 BK294.out; obtain ⟨hfz9_0, hfz9_1⟩ := f2 BK294.out) | (refine gl 14 Try.func58 #[.agg #[.slice A0_0 l0_0.length c0_0, .slice A0_1 l0_1.length c0_1], .int .i64 1, .int .i64 a1_1, .int .i64 a1_2] rfl ?_; (with_reducible refine (spec_l12Write.calls k _ _ l0_0 _ _ l0_1 1 a1_1 a1_2 t296 _ ?side1 ?side2 ?side3 ?side4 A4.out).mono ?_); (case side1 => exact pc (Kd.C_below HR0_0.out HB.out)); (case side2 => exact HC0_0.out); (case side3 => exact pc (Kd.C_below HR0_1.out HB.out)); (case side4 => exact HC0_1.out); rintro e w10 ⟨v297, rfl, ho0, hb⟩; refine ⟨_, rfl, ?_⟩; have HO298 := am (Kd.R_lower ho0 (below_size (bg2 HB.out GE294.out GE295.out))); replace BK294 := am (blk_below (pb BK294.out) hb); replace BK295 := am (blk_below (pb BK295.out) hb); replace HB := am (below_step (bg2 HB.out GE294.out GE295.out) hb); clear hb ho0))
   go_ret
   exact ⟨_, rq ⟨pr HO298.out, bg2 HB.out GE294.out GE295.out⟩⟩
 rw [if_neg c3] at H
 have c3b0 : (a1_0 == 1) = false := beq_eq_false_iff_ne.mpr c3
 have c3b1 : (a1_0 != 1) = true := bne_iff_ne.mpr c3
 by_cases c11 : a1_0 = 2
 · rw [if_pos c11] at H
   have c11b0 : (a1_0 == 2) = true := beq_iff_eq.mpr c11
   have c11b1 : (a1_0 != 2) = false := bne_eq_false_iff_eq.mpr c11
   clear c11
   replace H := Option.bind_eq_some_iff.mp H
   obtain ⟨t299, A120, H⟩ := H
   have A12 := am A120
   clear A120
   obtain rfl := Option.some.inj H
   go_enter Try.func54, Try.ntmps54
   go_wp2_with (first | (refine bx 2 #[.slice A0_0 l0_0.length c0_0, .slice A0_1 l0_1.length c0_1] 26 rfl ?_; intro gb294 hg w13 hbox hb; have BK294 := am (hbox); have GW294 := am (ge hg (ph HB.out)); have GE294 := GW294; replace HB := am (below_step (ph HB.out) hb); clear hb hbox hg) | (refine bx 3 #[.int .i64 a1_0, .int .i64 a1_1, .int .i64 a1_2, .int .i64 a1_3, .bool a1_4] 87 rfl ?_; intro gb295 hg w14 hbox hb; have BK295 := am (hbox); have GW295 := am (ge hg (bg1 HB.out GE294.out)); have GE295 := GW295; replace HB := am (below_step (bg1 HB.out GE294.out) hb); have NB294_295 := am (nb hg (pb BK294.out)); have NB295_294 := am (Ne.symm NB294_295.out); replace BK294 := am (blk_below (pb BK294.out) hb); clear hb hbox hg; have hnb15 := NB295_294.out; have hnc15 := NB294_295.out; obtain ⟨hcz16_0, hcz16_1, hcz16_2, hcz16_3, hcz16_4⟩ := b5 BK295.out; obtain ⟨hfz16_0, hfz16_1, hfz16_2, hfz16_3, hfz16_4⟩ := f5 BK295.out; obtain ⟨hcz17_0, hcz17_1⟩ := b2 BK294.out; obtain ⟨hfz17_0, hfz17_1⟩ := f2 BK294.out) | (refine gl 20 Try.func56 #[.agg #[.slice A0_0 l0_0.length c0_0, .slice A0_1 l0_1.length c0_1], .int .i64 a1_1] rfl ?_; (with_reducible refine (spec_l12Flush.calls k _ _ l0_0 _ _ l0_1 a1_1 t299 _ ?side1 ?side2 ?side3 ?side4 A12.out).mono ?_); (case side1 => exact pc (Kd.C_below HR0_0.out HB.out)); (case side2 => exact HC0_0.out); (case side3 => exact pc (Kd.C_below HR0_1.out HB.out)); (case side4 => exact HC0_1.out); rintro e w18 ⟨v300, rfl, ho0, hb⟩; refine ⟨_, rfl, ?_⟩; have HO301 := am (Kd.R_lower ho0 (below_size (bg2 HB.out GE294.out GE295.out))); replace BK294 := am (blk_below (pb BK294.out) hb); replace BK295 := am (blk_below (pb BK295.out) hb); replace HB := am (below_step (bg2 HB.out GE294.out GE295.out) hb); clear hb ho0))
   go_ret
   exact ⟨_, rq ⟨pr HO301.out, bg2 HB.out GE294.out GE295.out⟩⟩
 rw [if_neg c11] at H
 have c11b0 : (a1_0 == 2) = false := beq_eq_false_iff_ne.mpr c11
 have c11b1 : (a1_0 != 2) = true := bne_iff_ne.mpr c11
 by_cases c19 : a1_0 = 3
 rotate_left
 · rw [if_neg c19] at H
   have c19b0 : (a1_0 == 3) = false := beq_eq_false_iff_ne.mpr c19
   have c19b1 : (a1_0 != 3) = true := bne_iff_ne.mpr c19
   obtain ⟨y305, hy305⟩ : ∃ y_ : List (S107), y_ = (([] : List (S107))) := ⟨_, rfl⟩
   replace H : (some y305) = some r := yy hy305 H
   have Ny305 := am hy305
   clear hy305
   obtain rfl := Option.some.inj H
   go_enter Try.func54, Try.ntmps54
   go_wp2_with (first | (refine bx 2 #[.slice A0_0 l0_0.length c0_0, .slice A0_1 l0_1.length c0_1] 26 rfl ?_; intro gb294 hg w27 hbox hb; have BK294 := am (hbox); have GW294 := am (ge hg (ph HB.out)); have GE294 := GW294; replace HB := am (below_step (ph HB.out) hb); clear hb hbox hg) | (refine bx 3 #[.int .i64 a1_0, .int .i64 a1_1, .int .i64 a1_2, .int .i64 a1_3, .bool a1_4] 87 rfl ?_; intro gb295 hg w28 hbox hb; have BK295 := am (hbox); have GW295 := am (ge hg (bg1 HB.out GE294.out)); have GE295 := GW295; replace HB := am (below_step (bg1 HB.out GE294.out) hb); have NB294_295 := am (nb hg (pb BK294.out)); have NB295_294 := am (Ne.symm NB294_295.out); replace BK294 := am (blk_below (pb BK294.out) hb); clear hb hbox hg; have hnb29 := NB295_294.out; have hnc29 := NB294_295.out; obtain ⟨hcz30_0, hcz30_1, hcz30_2, hcz30_3, hcz30_4⟩ := b5 BK295.out; obtain ⟨hfz30_0, hfz30_1, hfz30_2, hfz30_3, hfz30_4⟩ := f5 BK295.out) | ((with_reducible refine gate_dst (N := 27) rfl ?_); refine Kd.R_lit k107 _ 107 ?hg (N := 27) ?hd (xs := ([] : List (S107))) (inner := []) (ok := fun _ => True) (okp := fun _ => True) ?hr ?hp (fun _ hk => hk) trivial (Below.refl _ _) (Nat.le_refl _) (by simp) ?_; (case hd => rfl); (case hg => rfl); (case hr => first | (go_simp; done) | (go_simp; rfl)); (case hp => exact (Reps.none _ _)); intro v306 w31 ho32 hb hg_ hnew_; clear hg_ hnew_; (first | rw [← Ny305.out] at ho32 | (simp only [Int.reduceToNat] at ho32; rw [← Ny305.out] at ho32)); have HO307 := am (Kd.R_lower ho32 (below_size (bg2 HB.out GE294.out GE295.out))); replace BK294 := am (blk_below (pb BK294.out) hb); replace BK295 := am (blk_below (pb BK295.out) hb); replace HB := am (below_step (bg2 HB.out GE294.out GE295.out) hb); clear hb ho32))
   go_ret
   exact ⟨_, rq ⟨pr HO307.out, bg2 HB.out GE294.out GE295.out⟩⟩
 rw [if_pos c19] at H
 have c19b0 : (a1_0 == 3) = true := beq_iff_eq.mpr c19
 have c19b1 : (a1_0 != 3) = false := bne_eq_false_iff_eq.mpr c19
 clear c19
 replace H := Option.bind_eq_some_iff.mp H
 obtain ⟨t302, A200, H⟩ := H
 have A20 := am A200
 clear A200
 obtain rfl := Option.some.inj H
 go_enter Try.func54, Try.ntmps54
 go_wp2_with (first | (refine bx 2 #[.slice A0_0 l0_0.length c0_0, .slice A0_1 l0_1.length c0_1] 26 rfl ?_; intro gb294 hg w21 hbox hb; have BK294 := am (hbox); have GW294 := am (ge hg (ph HB.out)); have GE294 := GW294; replace HB := am (below_step (ph HB.out) hb); clear hb hbox hg) | (refine bx 3 #[.int .i64 a1_0, .int .i64 a1_1, .int .i64 a1_2, .int .i64 a1_3, .bool a1_4] 87 rfl ?_; intro gb295 hg w22 hbox hb; have BK295 := am (hbox); have GW295 := am (ge hg (bg1 HB.out GE294.out)); have GE295 := GW295; replace HB := am (below_step (bg1 HB.out GE294.out) hb); have NB294_295 := am (nb hg (pb BK294.out)); have NB295_294 := am (Ne.symm NB294_295.out); replace BK294 := am (blk_below (pb BK294.out) hb); clear hb hbox hg; have hnb23 := NB295_294.out; have hnc23 := NB294_295.out; obtain ⟨hcz24_0, hcz24_1, hcz24_2, hcz24_3, hcz24_4⟩ := b5 BK295.out; obtain ⟨hfz24_0, hfz24_1, hfz24_2, hfz24_3, hfz24_4⟩ := f5 BK295.out; obtain ⟨hcz25_0, hcz25_1⟩ := b2 BK294.out; obtain ⟨hfz25_0, hfz25_1⟩ := f2 BK294.out) | (refine gl 26 Try.func59 #[.agg #[.slice A0_0 l0_0.length c0_0, .slice A0_1 l0_1.length c0_1], .int .i64 a1_1] rfl ?_; (with_reducible refine (spec_l12Fill.calls k _ _ l0_0 _ _ l0_1 a1_1 t302 _ ?side1 ?side2 ?side3 ?side4 A20.out).mono ?_); (case side1 => exact pc (Kd.C_below HR0_0.out HB.out)); (case side2 => exact HC0_0.out); (case side3 => exact pc (Kd.C_below HR0_1.out HB.out)); (case side4 => exact HC0_1.out); rintro e w26 ⟨v303, rfl, ho0, hb⟩; refine ⟨_, rfl, ?_⟩; have HO304 := am (Kd.R_lower ho0 (below_size (bg2 HB.out GE294.out GE295.out))); replace BK294 := am (blk_below (pb BK294.out) hb); replace BK295 := am (blk_below (pb BK295.out) hb); replace HB := am (below_step (bg2 HB.out GE294.out GE295.out) hb); clear hb ho0))
 go_ret
 exact ⟨_, rq ⟨pr HO304.out, bg2 HB.out GE294.out GE295.out⟩⟩
def spec_l21Do.f (k : Nat) (l0_0 : List (S54)) (l0_1 : List Int) (a1_0 : Int) (a1_1 : Int) (a1_2 : Int) (a1_3 : Int) (a1_4 : Bool) : Option ((List (S54)) × List Int) := if a1_0 = 4 then ((spec_l21All.f k l0_0 l0_1).bind fun bt311 => (some (bt311.1, bt311.2))) else (if a1_3 < 0 then (some (l0_0, l0_1)) else ((spec_l21Steps.f k l0_0 l0_1 a1_0 a1_1 a1_2 a1_3 a1_4).bind fun t317 => ((spec_l12To.f k l0_0 l0_1 t317 a1_3 a1_4).bind fun bt320 => (some (bt320.1, bt320.2)))))
theorem spec_l21Do.mono : ∀ a0 a1 a2 a3 a4 a5 a6 k, LeO (spec_l21Do.f k a0 a1 a2 a3 a4 a5 a6) (spec_l21Do.f (k + 1) a0 a1 a2 a3 a4 a5 a6) := by
 intro a0 a1 a2 a3 a4 a5 a6 k
 unfold spec_l21Do.f
 with_reducible repeat' first | exact spec_l12To.mono _ _ _ _ _ _ | exact spec_l21All.mono _ _ _ | exact spec_l21Steps.mono _ _ _ _ _ _ _ _ | exact LeO.refl _ | exact LeO.none _ | refine LeO.ite ?_ ?_ | refine LeO.bind ?_ (fun _ => ?_)
def spec_l21Do.T5 : Bool × List (List Nat × List Nat) := (true, [([], []), ([], []), ([], []), ([1, 2], [1, 2]), ([], []), ([4], [4]), ([], []), ([6], [6]), ([0, 3, 5, 7, 3], [0, 3, 5, 7]), ([8, 8, 0, 1, 2, 3, 4, 5, 6, 7, 8], [8])])
def spec_l21Do.B5 : List Nat := [0, 0, 0, 6, 0, 16, 0, 64, 255, 511]
theorem spec_l21Do.tab5 : rtab .any (opsOf Try.f48 5) = spec_l21Do.T5 := by kernel_rfl
theorem spec_l21Do.bits5 : waitsOk spec_l21Do.T5.2 spec_l21Do.B5 = true := by kernel_rfl
set_option maxHeartbeats 8000000 in
set_option maxRecDepth 100000 in
theorem spec_l21Do.calls (k : Nat) (P0_0_ : Nat → Prop) (u9000_ : Value) (l0_0 : List (S54)) (P0_1_ : Nat → Prop) (u9001_ : Value) (l0_1 : List Int) (a1_0 : Int) (a1_1 : Int) (a1_2 : Int) (a1_3 : Int) (a1_4 : Bool) (r1 : List (S54)) (r2 : List Int) (w0 w : World) (hB : Below w0.heap.size w0 w) (ho0_0 : Kd.S k54 54 w w0.heap.size P0_0_ u9000_ l0_0) (ho0_1 : Kd.R (Kd.int .i64) 3 w w0.heap.size P0_1_ u9001_ l0_1) (h : spec_l21Do.f k l0_0 l0_1 a1_0 a1_1 a1_2 a1_3 a1_4 = some (r1, r2)) :
 Calls Try.prog 48 #[.agg #[u9000_, u9001_], .agg #[.int .i64 a1_0, .int .i64 a1_1, .int .i64 a1_2, .int .i64 a1_3, .bool a1_4]] w fun e w' => ∃ v0_ v1_ : Value, e = .returned (.agg #[v0_, v1_]) ∧ Kd.S k54 54 w' w0.heap.size (fun k_ => ((P0_0_ k_ ∨ P0_1_ k_) ∨ w.heap.size ≤ k_)) v0_ r1 ∧ Kd.R (Kd.int .i64) 3 w' w0.heap.size (fun k_ => ((P0_0_ k_ ∨ P0_1_ k_) ∨ w.heap.size ≤ k_)) v1_ r2 ∧ Below w0.heap.size w0 w' ∧ Kept w w' (fun k_ => P0_0_ k_ ∨ P0_1_ k_) := by
 have hu26 := Try.underlying26
 have hu87 := Try.underlying87
 have HO0_0 := am (show Kd.S k54 54 w w0.heap.size (fun k_ => ((P0_0_ k_ ∨ P0_1_ k_) ∨ w.heap.size ≤ k_)) u9000_ l0_0 from Kd.S_mono ho0_0 (fun k_ hk => (.inl (.inl hk))))
 have HO0_1 := am (show Kd.R (Kd.int .i64) 3 w w0.heap.size (fun k_ => ((P0_0_ k_ ∨ P0_1_ k_) ∨ w.heap.size ≤ k_)) u9001_ l0_1 from Kd.R_mono ho0_1 (fun k_ hk => (.inl (.inr hk))))
 have HK := am (Kept.refl w (fun k_ => P0_0_ k_ ∨ P0_1_ k_))
 have HW0 := am hB.size
 have HB := am hB
 clear hB
 have H : (if a1_0 = 4 then ((spec_l21All.f k l0_0 l0_1).bind fun bt311 => (some (bt311.1, bt311.2))) else (if a1_3 < 0 then (some (l0_0, l0_1)) else ((spec_l21Steps.f k l0_0 l0_1 a1_0 a1_1 a1_2 a1_3 a1_4).bind fun t317 => ((spec_l12To.f k l0_0 l0_1 t317 a1_3 a1_4).bind fun bt320 => (some (bt320.1, bt320.2)))))) = some (r1, r2) := h
 clear h
 by_cases c3 : a1_0 = 4
 · rw [if_pos c3] at H
   have c3b0 : (a1_0 == 4) = true := beq_iff_eq.mpr c3
   have c3b1 : (a1_0 != 4) = false := bne_eq_false_iff_eq.mpr c3
   clear c3
   replace H := Option.bind_eq_some_iff.mp H
   obtain ⟨⟨t311, t314⟩, A40, H⟩ := H
   have A4 := am A40
   clear A40
   simp only [Option.some.injEq, Prod.mk.injEq] at H
   obtain ⟨rfl, rfl⟩ := H
   obtain ⟨Ao5, co5, eo5⟩ := Kd.S_slice HO0_0.out
   subst eo5
   obtain ⟨Ao6, co6, eo6⟩ := Kd.R_slice HO0_1.out
   subst eo6
   go_enter Try.func48, Try.ntmps48
   go_wp2_with (first | (refine bx 2 #[.slice Ao5 l0_0.length co5, .slice Ao6 l0_1.length co6] 26 rfl ?_; intro gb308 hg w7 hbox hb; replace HO0_0 := am (Kd.S_below (ps HO0_0.out) hb); replace HO0_1 := am (Kd.R_below (pr HO0_1.out) hb); have BK308 := am (hbox); have GW308 := am (gw hg (pk HK.out)); replace HK := am (Kept.below (pk HK.out) hb); have GE308 := am (ge hg (ph HB.out)); replace HB := am (below_step (ph HB.out) hb); clear hb hbox hg) | (refine bx 3 #[.int .i64 a1_0, .int .i64 a1_1, .int .i64 a1_2, .int .i64 a1_3, .bool a1_4] 87 rfl ?_; intro gb309 hg w8 hbox hb; replace HO0_0 := am (Kd.S_below (ps HO0_0.out) hb); replace HO0_1 := am (Kd.R_below (pr HO0_1.out) hb); have BK309 := am (hbox); have GW309 := am (gw hg (kg1 HK.out (.inr GW308.out))); replace HK := am (Kept.below (kg1 HK.out (.inr GW308.out)) hb); have GE309 := am (ge hg (bg1 HB.out GE308.out)); replace HB := am (below_step (bg1 HB.out GE308.out) hb); have NB308_309 := am (nb hg (pb BK308.out)); have NB309_308 := am (Ne.symm NB308_309.out); replace BK308 := am (blk_below (pb BK308.out) hb); clear hb hbox hg) | (refine bx 4 #[.slice none 0 0, .slice none 0 0] 26 rfl ?_; intro gb310 hg w9 hbox hb; replace HO0_0 := am (Kd.S_below (ps HO0_0.out) hb); replace HO0_1 := am (Kd.R_below (pr HO0_1.out) hb); have BK310 := am (hbox); have GW310 := am (gw hg (kg2 HK.out (.inr GW308.out) (.inr GW309.out))); replace HK := am (Kept.below (kg2 HK.out (.inr GW308.out) (.inr GW309.out)) hb); have GE310 := am (ge hg (bg2 HB.out GE308.out GE309.out)); replace HB := am (below_step (bg2 HB.out GE308.out GE309.out) hb); have NB308_310 := am (nb hg (pb BK308.out)); have NB310_308 := am (Ne.symm NB308_310.out); replace BK308 := am (blk_below (pb BK308.out) hb); have NB309_310 := am (nb hg (pb BK309.out)); have NB310_309 := am (Ne.symm NB309_310.out); replace BK309 := am (blk_below (pb BK309.out) hb); clear hb hbox hg; have hnb10 := NB309_308.out; have hnc10 := NB308_309.out; have hnb11 := NB309_310.out; have hnc11 := NB310_309.out; obtain ⟨hcz12_0, hcz12_1, hcz12_2, hcz12_3, hcz12_4⟩ := b5 BK309.out; obtain ⟨hfz12_0, hfz12_1, hfz12_2, hfz12_3, hfz12_4⟩ := f5 BK309.out; have hnb13 := NB308_310.out; have hnc13 := NB310_308.out; obtain ⟨hcz14_0, hcz14_1⟩ := b2 BK308.out; obtain ⟨hfz14_0, hfz14_1⟩ := f2 BK308.out; obtain ⟨PXh15, hxa_, hxb_⟩ := Kd.S_hand HO0_0.out; have HXAh15 := am hxa_; have HXBh15 := am hxb_; clear hxa_ hxb_) | (refine gl 9 Try.func52 #[.agg #[.slice Ao5 l0_0.length co5, .slice Ao6 l0_1.length co6]] rfl ?_; (with_reducible refine (spec_l21All.calls k PXh15 (.slice Ao5 l0_0.length co5) l0_0 (fun k_ => some k_ = (.slice Ao6 l0_1.length co6 : Value).ownBlock) (.slice Ao6 l0_1.length co6) l0_1 t311 t314 w0 _ ?side1 ?side2 ?side3 A4.out).mono ?_); (case side1 => exact bg3 HB.out GE308.out GE309.out GE310.out); (case side2 => exact (ps HXAh15.out)); (case side3 => exact Kd.R_tight rfl HO0_1.out); rintro e w16 ⟨v312, v315, rfl, ho0, ho1, hb, hkp⟩; refine ⟨_, rfl, ?_⟩; replace BK308 := am (blk_kept (pb BK308.out) hkp (fun hs_ => Or.elim hs_ (fun e_ => (fun e_ => Kd.blk_awayP (fun k_ h_ => (HXBh15.out k_ h_).2.2.2) BK308.out (by decide) e_) e_) (fun e_ => (fun e_ => (Kd.R_ne HO0_1.out BK308.out (by decide)) e_) e_))); replace BK309 := am (blk_kept (pb BK309.out) hkp (fun hs_ => Or.elim hs_ (fun e_ => (fun e_ => Kd.blk_awayP (fun k_ h_ => (HXBh15.out k_ h_).2.2.2) BK309.out (by decide) e_) e_) (fun e_ => (fun e_ => (Kd.R_ne HO0_1.out BK309.out (by decide)) e_) e_))); replace BK310 := am (blk_kept (pb BK310.out) hkp (fun hs_ => Or.elim hs_ (fun e_ => (fun e_ => Kd.blk_awayP (fun k_ h_ => (HXBh15.out k_ h_).2.2.2) BK310.out (by decide) e_) e_) (fun e_ => (fun e_ => (Kd.R_ne HO0_1.out BK310.out (by decide)) e_) e_))); have HO313 := am (Kd.S_mono (ok' := fun k_ => ((P0_0_ k_ ∨ P0_1_ k_) ∨ w.heap.size ≤ k_)) ho0 (fun k_ hk_ => Or.elim hk_ (fun hs_ => Or.elim hs_ (fun hs_ => (HXBh15.out k_ hs_).1) (fun hs_ => (HO0_1.out.1 k_ (hs_).symm))) (fun hn_ => (.inr (Nat.le_trans (kg3 HK.out (.inr GW308.out) (.inr GW309.out) (.inr GW310.out)).1 hn_))))); have HO316 := am (Kd.R_mono (ok' := fun k_ => ((P0_0_ k_ ∨ P0_1_ k_) ∨ w.heap.size ≤ k_)) ho1 (fun k_ hk_ => Or.elim hk_ (fun hs_ => Or.elim hs_ (fun hs_ => (HXBh15.out k_ hs_).1) (fun hs_ => (HO0_1.out.1 k_ (hs_).symm))) (fun hn_ => (.inr (Nat.le_trans (kg3 HK.out (.inr GW308.out) (.inr GW309.out) (.inr GW310.out)).1 hn_))))); replace HK := am (Kept.then_ (S := (fun k_ => P0_0_ k_ ∨ P0_1_ k_)) (kg3 HK.out (.inr GW308.out) (.inr GW309.out) (.inr GW310.out)) hkp (fun k_ hs_ => Or.elim hs_ (fun e_ => (fun e_ => (HXBh15.out k_ e_).1) e_) (fun e_ => (fun e_ => (HO0_1.out.1 k_ e_.symm)) e_))); replace HB := am (hb); clear HO0_0; clear HO0_1; clear hb hkp ho0 ho1; obtain ⟨Ao17, co17, eo17⟩ := Kd.S_slice HO313.out; subst eo17; obtain ⟨hcz18_0, hcz18_1⟩ := b2 BK310.out; obtain ⟨hfz18_0, hfz18_1⟩ := f2 BK310.out; obtain ⟨Ao19, co19, eo19⟩ := Kd.R_slice HO316.out; subst eo19))
   refine bodyPost_ret (results_cell_row rfl _ _ gb310 26 #[.slice Ao17 t311.length co17, .slice Ao19 t314.length co19] (0, 0) _ rfl (bp2 (pb BK310.out)) Try.underlying26 rfl (by kernel_rfl)) rfl ?_
   exact ⟨_, _, rq ⟨ps (Kd.S_mono (Kd.S_far (p := ⟨gb310, 1, none⟩) (Kd.S_far (p := ⟨gb310, 0, none⟩) (Kd.S_types HO313.out BK310.out (by decide)) (fun _ hk => hk.2) (.slice Ao17 t311.length co17)) (fun _ hk => hk.2) (.slice Ao19 t314.length co19)) (fun _ hk => hk.1)), pr (Kd.R_mono (Kd.R_far (p := ⟨gb310, 1, none⟩) (Kd.R_far (p := ⟨gb310, 0, none⟩) (Kd.R_types HO316.out BK310.out (by decide)) (fun _ hk => hk.2) (.slice Ao17 t311.length co17)) (fun _ hk => hk.2) (.slice Ao19 t314.length co19)) (fun _ hk => hk.1)), bg3 HB.out GE308.out GE309.out GE310.out, kg3 HK.out (.inr GW308.out) (.inr GW309.out) (.inr GW310.out)⟩⟩
 rw [if_neg c3] at H
 have c3b0 : (a1_0 == 4) = false := beq_eq_false_iff_ne.mpr c3
 have c3b1 : (a1_0 != 4) = true := bne_iff_ne.mpr c3
 by_cases c20 : a1_3 < 0
 · rw [if_pos c20] at H
   have c20b0 := decide_eq_true c20
   clear c20
   simp only [Option.some.injEq, Prod.mk.injEq] at H
   obtain ⟨rfl, rfl⟩ := H
   obtain ⟨Ao21, co21, eo21⟩ := Kd.S_slice HO0_0.out
   subst eo21
   obtain ⟨Ao22, co22, eo22⟩ := Kd.R_slice HO0_1.out
   subst eo22
   go_enter Try.func48, Try.ntmps48
   go_wp2_with (first | (refine bx 2 #[.slice Ao21 l0_0.length co21, .slice Ao22 l0_1.length co22] 26 rfl ?_; intro gb308 hg w23 hbox hb; replace HO0_0 := am (Kd.S_below (ps HO0_0.out) hb); replace HO0_1 := am (Kd.R_below (pr HO0_1.out) hb); have BK308 := am (hbox); have GW308 := am (gw hg (pk HK.out)); replace HK := am (Kept.below (pk HK.out) hb); have GE308 := am (ge hg (ph HB.out)); replace HB := am (below_step (ph HB.out) hb); clear hb hbox hg) | (refine bx 3 #[.int .i64 a1_0, .int .i64 a1_1, .int .i64 a1_2, .int .i64 a1_3, .bool a1_4] 87 rfl ?_; intro gb309 hg w24 hbox hb; replace HO0_0 := am (Kd.S_below (ps HO0_0.out) hb); replace HO0_1 := am (Kd.R_below (pr HO0_1.out) hb); have BK309 := am (hbox); have GW309 := am (gw hg (kg1 HK.out (.inr GW308.out))); replace HK := am (Kept.below (kg1 HK.out (.inr GW308.out)) hb); have GE309 := am (ge hg (bg1 HB.out GE308.out)); replace HB := am (below_step (bg1 HB.out GE308.out) hb); have NB308_309 := am (nb hg (pb BK308.out)); have NB309_308 := am (Ne.symm NB308_309.out); replace BK308 := am (blk_below (pb BK308.out) hb); clear hb hbox hg) | (refine bx 4 #[.slice none 0 0, .slice none 0 0] 26 rfl ?_; intro gb310 hg w25 hbox hb; replace HO0_0 := am (Kd.S_below (ps HO0_0.out) hb); replace HO0_1 := am (Kd.R_below (pr HO0_1.out) hb); have BK310 := am (hbox); have GW310 := am (gw hg (kg2 HK.out (.inr GW308.out) (.inr GW309.out))); replace HK := am (Kept.below (kg2 HK.out (.inr GW308.out) (.inr GW309.out)) hb); have GE310 := am (ge hg (bg2 HB.out GE308.out GE309.out)); replace HB := am (below_step (bg2 HB.out GE308.out GE309.out) hb); have NB308_310 := am (nb hg (pb BK308.out)); have NB310_308 := am (Ne.symm NB308_310.out); replace BK308 := am (blk_below (pb BK308.out) hb); have NB309_310 := am (nb hg (pb BK309.out)); have NB310_309 := am (Ne.symm NB309_310.out); replace BK309 := am (blk_below (pb BK309.out) hb); clear hb hbox hg; have hnb26 := NB309_308.out; have hnc26 := NB308_309.out; have hnb27 := NB309_310.out; have hnc27 := NB310_309.out; obtain ⟨hcz28_0, hcz28_1, hcz28_2, hcz28_3, hcz28_4⟩ := b5 BK309.out; obtain ⟨hfz28_0, hfz28_1, hfz28_2, hfz28_3, hfz28_4⟩ := f5 BK309.out; have hnb29 := NB308_310.out; have hnc29 := NB310_308.out; obtain ⟨hcz30_0, hcz30_1⟩ := b2 BK308.out; obtain ⟨hfz30_0, hfz30_1⟩ := f2 BK308.out; obtain ⟨hcz31_0, hcz31_1⟩ := b2 BK310.out; obtain ⟨hfz31_0, hfz31_1⟩ := f2 BK310.out))
   refine bodyPost_ret (results_cell_row rfl _ _ gb310 26 #[.slice Ao21 l0_0.length co21, .slice Ao22 l0_1.length co22] (0, 0) _ rfl (bp2 (pb BK310.out)) Try.underlying26 rfl (by kernel_rfl)) rfl ?_
   exact ⟨_, _, rq ⟨ps (Kd.S_mono (Kd.S_far (p := ⟨gb310, 1, none⟩) (Kd.S_far (p := ⟨gb310, 0, none⟩) (Kd.S_types HO0_0.out BK310.out (by decide)) (fun _ hk => hk.2) (.slice Ao21 l0_0.length co21)) (fun _ hk => hk.2) (.slice Ao22 l0_1.length co22)) (fun _ hk => hk.1)), pr (Kd.R_mono (Kd.R_far (p := ⟨gb310, 1, none⟩) (Kd.R_far (p := ⟨gb310, 0, none⟩) (Kd.R_types HO0_1.out BK310.out (by decide)) (fun _ hk => hk.2) (.slice Ao21 l0_0.length co21)) (fun _ hk => hk.2) (.slice Ao22 l0_1.length co22)) (fun _ hk => hk.1)), bg3 HB.out GE308.out GE309.out GE310.out, kg3 HK.out (.inr GW308.out) (.inr GW309.out) (.inr GW310.out)⟩⟩
 rw [if_neg c20] at H
 have c20b0 := decide_eq_false c20
 clear c20
 replace H := Option.bind_eq_some_iff.mp H
 obtain ⟨t317, A320, H⟩ := H
 have A32 := am A320
 clear A320
 replace H := Option.bind_eq_some_iff.mp H
 obtain ⟨⟨t320, t323⟩, A330, H⟩ := H
 have A33 := am A330
 clear A330
 simp only [Option.some.injEq, Prod.mk.injEq] at H
 obtain ⟨rfl, rfl⟩ := H
 obtain ⟨Ao34, co34, eo34⟩ := Kd.S_slice HO0_0.out
 subst eo34
 obtain ⟨Ao35, co35, eo35⟩ := Kd.R_slice HO0_1.out
 subst eo35
 go_enter Try.func48, Try.ntmps48
 try go_wp2_with (first | (refine bx 2 #[.slice Ao34 l0_0.length co34, .slice Ao35 l0_1.length co35] 26 rfl ?_; intro gb308 hg w36 hbox hb; replace HO0_0 := am (Kd.S_below (ps HO0_0.out) hb); replace HO0_1 := am (Kd.R_below (pr HO0_1.out) hb); have BK308 := am (hbox); have GW308 := am (gw hg (pk HK.out)); replace HK := am (Kept.below (pk HK.out) hb); have GE308 := am (ge hg (ph HB.out)); replace HB := am (below_step (ph HB.out) hb); clear hb hbox hg) | (refine bx 3 #[.int .i64 a1_0, .int .i64 a1_1, .int .i64 a1_2, .int .i64 a1_3, .bool a1_4] 87 rfl ?_; intro gb309 hg w37 hbox hb; replace HO0_0 := am (Kd.S_below (ps HO0_0.out) hb); replace HO0_1 := am (Kd.R_below (pr HO0_1.out) hb); have BK309 := am (hbox); have GW309 := am (gw hg (kg1 HK.out (.inr GW308.out))); replace HK := am (Kept.below (kg1 HK.out (.inr GW308.out)) hb); have GE309 := am (ge hg (bg1 HB.out GE308.out)); replace HB := am (below_step (bg1 HB.out GE308.out) hb); have NB308_309 := am (nb hg (pb BK308.out)); have NB309_308 := am (Ne.symm NB308_309.out); replace BK308 := am (blk_below (pb BK308.out) hb); clear hb hbox hg) | (refine bx 4 #[.slice none 0 0, .slice none 0 0] 26 rfl ?_; intro gb310 hg w38 hbox hb; replace HO0_0 := am (Kd.S_below (ps HO0_0.out) hb); replace HO0_1 := am (Kd.R_below (pr HO0_1.out) hb); have BK310 := am (hbox); have GW310 := am (gw hg (kg2 HK.out (.inr GW308.out) (.inr GW309.out))); replace HK := am (Kept.below (kg2 HK.out (.inr GW308.out) (.inr GW309.out)) hb); have GE310 := am (ge hg (bg2 HB.out GE308.out GE309.out)); replace HB := am (below_step (bg2 HB.out GE308.out GE309.out) hb); have NB308_310 := am (nb hg (pb BK308.out)); have NB310_308 := am (Ne.symm NB308_310.out); replace BK308 := am (blk_below (pb BK308.out) hb); have NB309_310 := am (nb hg (pb BK309.out)); have NB310_309 := am (Ne.symm NB309_310.out); replace BK309 := am (blk_below (pb BK309.out) hb); clear hb hbox hg; have hnb39 := NB309_308.out; have hnc39 := NB308_309.out; have hnb40 := NB309_310.out; have hnc40 := NB310_309.out; obtain ⟨hcz41_0, hcz41_1, hcz41_2, hcz41_3, hcz41_4⟩ := b5 BK309.out; obtain ⟨hfz41_0, hfz41_1, hfz41_2, hfz41_3, hfz41_4⟩ := f5 BK309.out))
 replace HO0_0 := am (Kd.S_drew HO0_0.out)
 replace HO0_1 := am (Kd.R_drew HO0_1.out)
 replace BK308 := am (blk_drew BK308.out)
 replace BK309 := am (blk_drew BK309.out)
 replace BK310 := am (blk_drew BK310.out)
 replace HK := am (Kept.drew HK.out)
 replace HB := am (below_drew1 HB.out)
 refine start_ (n := 10) (S := fun w' => w'.cell? ⟨gb308, 0, none⟩ = some (.slice Ao34 l0_0.length co34) ∧ w'.cell? ⟨gb308, 1, none⟩ = some (.slice Ao35 l0_1.length co35) ∧ w'.cell? ⟨gb309, 0, none⟩ = some (.int .i64 a1_0) ∧ w'.cell? ⟨gb309, 1, none⟩ = some (.int .i64 a1_1) ∧ w'.cell? ⟨gb309, 2, none⟩ = some (.int .i64 a1_2) ∧ w'.cell? ⟨gb309, 3, none⟩ = some (.int .i64 a1_3) ∧ w'.cell? ⟨gb309, 4, none⟩ = some (.bool a1_4)) (ds := []) (bt 10 0) (by kernel_rfl) rfl rfl ⟨(blk_cell BK308.out 0).trans rfl, (blk_cell BK308.out 1).trans rfl, (blk_cell BK309.out 0).trans rfl, (blk_cell BK309.out 1).trans rfl, (blk_cell BK309.out 2).trans rfl, (blk_cell BK309.out 3).trans rfl, (blk_cell BK309.out 4).trans rfl⟩ (fun hHeld => ?_); refine with_tabW spec_l21Do.tab5 spec_l21Do.bits5 (fun HT_ HW_ => ?_)
 generalize w38.drew = w42 at HO0_0 HO0_1 BK308 BK309 BK310 HK HB hHeld ⊢
 refine qj 4 18 (bt 10 16) rfl rfl HT_.out ?_
 refine qj 6 20 (bt 10 80) rfl rfl HT_.out ?_
 refine qm 0 14 (bt 10 81) rfl rfl HT_.out HW_.out hHeld ?_
 refine qm 1 15 (bt 10 83) rfl rfl HT_.out HW_.out hHeld ?_
 refine qm 2 16 (bt 10 87) rfl rfl HT_.out HW_.out hHeld ?_
 refine qm 5 19 (bt 10 119) rfl rfl HT_.out HW_.out hHeld ?_
 refine qm 7 21 (bt 10 247) rfl rfl HT_.out HW_.out hHeld ?_
 refine qo 3 (some 17) (bt 10 255) rfl rfl HT_.out fun K hK => ?_
 refine qg Try.func54 #[.agg #[.slice Ao34 l0_0.length co34, .slice Ao35 l0_1.length co35], .agg #[.int .i64 a1_0, .int .i64 a1_1, .int .i64 a1_2, .int .i64 a1_3, .bool a1_4]] rfl rfl ?_
 with_reducible refine (spec_l21Steps.calls k _ _ l0_0 _ _ l0_1 a1_0 a1_1 a1_2 a1_3 a1_4 t317 _ ?side1 ?side2 ?side3 ?side4 A32.out).mono ?_
 (case side1 => exact pc ((Kd.S_reads' HO0_0.out).2.2))
 (case side2 => exact (Kd.S_reads' HO0_0.out).2.1)
 (case side3 => exact pc ((Kd.R_reads' HO0_1.out).2.2))
 (case side4 => exact (Kd.R_reads' HO0_1.out).2.1)
 rintro e w43 ⟨v318, rfl, ho0, hb⟩
 refine ⟨_, rfl, ?_⟩
 replace HO0_0 := am (Kd.S_below (ps HO0_0.out) hb)
 replace HO0_1 := am (Kd.R_below (pr HO0_1.out) hb)
 have HO319 := am (Kd.R_lower (Kd.R_newM (M := fun k_ => ((P0_0_ k_ ∨ P0_1_ k_) ∨ w.heap.size ≤ k_)) ho0 (kg3 HK.out (.inr GW308.out) (.inr GW309.out) (.inr GW310.out)).1 (fun k_ h_ => .inr h_)) (below_size (bg3 HB.out GE308.out GE309.out GE310.out)))
 replace BK308 := am (blk_below (pb BK308.out) hb)
 replace BK309 := am (blk_below (pb BK309.out) hb)
 replace BK310 := am (blk_below (pb BK310.out) hb)
 replace HK := am (Kept.below (kg3 HK.out (.inr GW308.out) (.inr GW309.out) (.inr GW310.out)) hb)
 replace HB := am (below_step (bg3 HB.out GE308.out GE309.out GE310.out) hb)
 clear hb ho0
 obtain ⟨Ao44, co44, eo44⟩ := Kd.R_slice HO319.out
 (first | subst eo44 | (injection eo44 with f1_ f2_ f3_; have f4_ := f1_.symm; have f5_ := f3_.symm; clear f1_ f2_ f3_; subst f4_; subst f5_))
 obtain ⟨PXh45, hxa_, hxb_⟩ := Kd.S_hand HO0_0.out
 have HXAh45 := am hxa_
 have HXBh45 := am hxb_
 clear hxa_ hxb_
 refine hK.out _ _ ⟨(blk_cell BK308.out 0).trans rfl, (blk_cell BK308.out 1).trans rfl, (blk_cell BK309.out 0).trans rfl, (blk_cell BK309.out 1).trans rfl, (blk_cell BK309.out 2).trans rfl, (blk_cell BK309.out 3).trans rfl, (blk_cell BK309.out 4).trans rfl⟩ (fun hHeld => ?_)
 clear hK K
 refine qn (some 17) ?_
 refine qo 8 (some 22) (bt 10 511) rfl rfl HT_.out fun K hK => ?_
 refine qg Try.func53 #[.agg #[.slice Ao34 l0_0.length co34, .slice Ao35 l0_1.length co35], .slice Ao44 t317.length co44, .int .i64 a1_3, .bool a1_4] rfl rfl ?_
 with_reducible refine (spec_l12To.calls k PXh45 (.slice Ao34 l0_0.length co34) l0_0 (fun k_ => some k_ = (.slice Ao35 l0_1.length co35 : Value).ownBlock) (.slice Ao35 l0_1.length co35) l0_1 _ _ t317 a1_3 a1_4 t320 t323 w0 _ ?side1 ?side2 ?side3 ?side4 ?side5 A33.out).mono ?_
 (case side1 => exact bg3 HB.out GE308.out GE309.out GE310.out)
 (case side2 => exact (ps HXAh45.out))
 (case side3 => exact Kd.R_tight rfl HO0_1.out)
 (case side4 => exact Kd.C_kept_own ((Kd.R_apart' (Kd.R_awayP HO319.out (fun k_ h_ => (HXBh45.out k_ h_).2.2.2) (by decide)) (Kd.R_typed HO0_1.out) (by decide))) (fun k_ hk_ hs_ => Or.elim hs_ (fun e_ => (hk_.1.2) e_) (fun e_ => (hk_.2) e_)))
 (case side5 => exact (Kd.R_reads' HO319.out).2.1)
 rintro e w46 ⟨v321, v324, rfl, ho0, ho1, hb, hkp⟩
 refine ⟨_, rfl, ?_⟩
 replace BK308 := am (blk_kept (pb BK308.out) hkp (fun hs_ => Or.elim hs_ (fun e_ => (fun e_ => Kd.blk_awayP (fun k_ h_ => (HXBh45.out k_ h_).2.2.2) BK308.out (by decide) e_) e_) (fun e_ => (fun e_ => (Kd.R_ne HO0_1.out BK308.out (by decide)) e_) e_)))
 replace BK309 := am (blk_kept (pb BK309.out) hkp (fun hs_ => Or.elim hs_ (fun e_ => (fun e_ => Kd.blk_awayP (fun k_ h_ => (HXBh45.out k_ h_).2.2.2) BK309.out (by decide) e_) e_) (fun e_ => (fun e_ => (Kd.R_ne HO0_1.out BK309.out (by decide)) e_) e_)))
 replace BK310 := am (blk_kept (pb BK310.out) hkp (fun hs_ => Or.elim hs_ (fun e_ => (fun e_ => Kd.blk_awayP (fun k_ h_ => (HXBh45.out k_ h_).2.2.2) BK310.out (by decide) e_) e_) (fun e_ => (fun e_ => (Kd.R_ne HO0_1.out BK310.out (by decide)) e_) e_)))
 replace HO319 := am (Kd.R_mono (ok' := fun k_ => ((P0_0_ k_ ∨ P0_1_ k_) ∨ w.heap.size ≤ k_)) (Kd.R_keptB ((Kd.R_apart' (Kd.R_awayP HO319.out (fun k_ h_ => (HXBh45.out k_ h_).2.2.2) (by decide)) (Kd.R_typed HO0_1.out) (by decide))) hkp (fun k_ hk_ hs_ => Or.elim hs_ (fun e_ => (hk_.1.2) e_) (fun e_ => (hk_.2) e_))) (fun k_ hk_ => hk_.1.1.1.1))
 have HO322 := am (Kd.S_mono (ok' := fun k_ => ((P0_0_ k_ ∨ P0_1_ k_) ∨ w.heap.size ≤ k_)) ho0 (fun k_ hk_ => Or.elim hk_ (fun hs_ => Or.elim hs_ (fun hs_ => (HXBh45.out k_ hs_).1) (fun hs_ => (HO0_1.out.1 k_ (hs_).symm))) (fun hn_ => (.inr (Nat.le_trans (kg3 HK.out (.inr GW308.out) (.inr GW309.out) (.inr GW310.out)).1 hn_)))))
 have HO325 := am (Kd.R_mono (ok' := fun k_ => ((P0_0_ k_ ∨ P0_1_ k_) ∨ w.heap.size ≤ k_)) ho1 (fun k_ hk_ => Or.elim hk_ (fun hs_ => Or.elim hs_ (fun hs_ => (HXBh45.out k_ hs_).1) (fun hs_ => (HO0_1.out.1 k_ (hs_).symm))) (fun hn_ => (.inr (Nat.le_trans (kg3 HK.out (.inr GW308.out) (.inr GW309.out) (.inr GW310.out)).1 hn_)))))
 replace HK := am (Kept.then_ (S := (fun k_ => P0_0_ k_ ∨ P0_1_ k_)) (kg3 HK.out (.inr GW308.out) (.inr GW309.out) (.inr GW310.out)) hkp (fun k_ hs_ => Or.elim hs_ (fun e_ => (fun e_ => (HXBh45.out k_ e_).1) e_) (fun e_ => (fun e_ => (HO0_1.out.1 k_ e_.symm)) e_)))
 replace HB := am (hb)
 clear HO0_0 HO0_1
 clear hb hkp ho0 ho1
 obtain ⟨Ao47, co47, eo47⟩ := Kd.S_slice HO322.out
 (first | subst eo47 | (injection eo47 with f1_ f2_ f3_; have f4_ := f1_.symm; have f5_ := f3_.symm; clear f1_ f2_ f3_; subst f4_; subst f5_))
 obtain ⟨Ao49, co49, eo49⟩ := Kd.R_slice HO325.out
 (first | subst eo49 | (injection eo49 with f1_ f2_ f3_; have f4_ := f1_.symm; have f5_ := f3_.symm; clear f1_ f2_ f3_; subst f4_; subst f5_))
 refine hK.out _ _ ⟨(blk_cell BK308.out 0).trans rfl, (blk_cell BK308.out 1).trans rfl, (blk_cell BK309.out 0).trans rfl, (blk_cell BK309.out 1).trans rfl, (blk_cell BK309.out 2).trans rfl, (blk_cell BK309.out 3).trans rfl, (blk_cell BK309.out 4).trans rfl⟩ (fun hHeld => ?_)
 clear hK K
 refine qn (some 22) ?_
 refine qo 9 none (bt 10 1023) rfl rfl HT_.out fun K hK => ?_
 have hs48 : w46.cell? ⟨gb310, 0, none⟩ = some (.slice none 0 0) := (blk_cell BK310.out 0).trans rfl
 have hfs48 := blk_frozen BK310.out 0
 have hns48_0 := NB308_310.out
 have hns48_1 := NB309_310.out
 have hms48_0 := NB310_308.out
 have hms48_1 := NB310_309.out
 have hs50 : w46.cell? ⟨gb310, 1, none⟩ = some (.slice none 0 0) := (blk_cell BK310.out 1).trans rfl
 have hfs50 := blk_frozen BK310.out 1
 have hns50_0 := NB308_310.out
 have hns50_1 := NB309_310.out
 have hms50_0 := NB310_308.out
 have hms50_1 := NB310_309.out
 refine qs rfl ?_
 refine hK.out _ _ ⟨((cell_far (p := ⟨gb310, _, none⟩) NB308_310.out _).trans (((cell_far (p := ⟨gb310, _, none⟩) NB308_310.out _).trans (hHeld.1)))), ((cell_far (p := ⟨gb310, _, none⟩) NB308_310.out _).trans (((cell_far (p := ⟨gb310, _, none⟩) NB308_310.out _).trans (hHeld.2.1)))), ((cell_far (p := ⟨gb310, _, none⟩) NB309_310.out _).trans (((cell_far (p := ⟨gb310, _, none⟩) NB309_310.out _).trans (hHeld.2.2.1)))), ((cell_far (p := ⟨gb310, _, none⟩) NB309_310.out _).trans (((cell_far (p := ⟨gb310, _, none⟩) NB309_310.out _).trans (hHeld.2.2.2.1)))), ((cell_far (p := ⟨gb310, _, none⟩) NB309_310.out _).trans (((cell_far (p := ⟨gb310, _, none⟩) NB309_310.out _).trans (hHeld.2.2.2.2.1)))), ((cell_far (p := ⟨gb310, _, none⟩) NB309_310.out _).trans (((cell_far (p := ⟨gb310, _, none⟩) NB309_310.out _).trans (hHeld.2.2.2.2.2.1)))), ((cell_far (p := ⟨gb310, _, none⟩) NB309_310.out _).trans (((cell_far (p := ⟨gb310, _, none⟩) NB309_310.out _).trans (hHeld.2.2.2.2.2.2))))⟩ (fun hHeld => ?_)
 clear hK K
 refine done_ (done_of HT_.out (by kernel_rfl)) ?_
 try go_wp2
 refine bodyPost_ret (results_cell_row rfl _ _ gb310 26 #[.slice Ao47 t320.length co47, .slice Ao49 t323.length co49] (0, 0) _ rfl (bp2 (pb BK310.out)) Try.underlying26 rfl (by kernel_rfl)) rfl ?_
 exact ⟨_, _, rq ⟨ps (Kd.S_mono (Kd.S_far (p := ⟨gb310, 1, none⟩) (Kd.S_far (p := ⟨gb310, 0, none⟩) (Kd.S_types HO322.out BK310.out (by decide)) (fun _ hk => hk.2) (.slice Ao47 t320.length co47)) (fun _ hk => hk.2) (.slice Ao49 t323.length co49)) (fun _ hk => hk.1)), pr (Kd.R_mono (Kd.R_far (p := ⟨gb310, 1, none⟩) (Kd.R_far (p := ⟨gb310, 0, none⟩) (Kd.R_types HO325.out BK310.out (by decide)) (fun _ hk => hk.2) (.slice Ao47 t320.length co47)) (fun _ hk => hk.2) (.slice Ao49 t323.length co49)) (fun _ hk => hk.1)), bg3 HB.out GE308.out GE309.out GE310.out, kg3 HK.out (.inr GW308.out) (.inr GW309.out) (.inr GW310.out)⟩⟩
end Go.Proofs.Ytghmnlcmhpdcaaa.R5
