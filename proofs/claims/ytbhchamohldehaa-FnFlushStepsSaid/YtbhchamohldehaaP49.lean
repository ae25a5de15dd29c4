-- printed by wip/pp/pp.py
import Derived.Test.YtbhchamohldehaaP40
import Derived.Test.YtbhchamohldehaaP43
import Derived.Test.YtbhchamohldehaaP48
namespace Go.Proofs.Ytbhchamohldehaa.P4
set_option maxHeartbeats 8000000
set_option maxRecDepth 100000
open Go.RowKit Go.Proofs.YtbhchamohldehaaW.PrintWords Go.Proofs.YtbhchamohldehaaW.PrintLast Go.Proofs.YtbhchamohldehaaW.PrintMore
attribute [local go_sem] max2_int min2_int max_two min_two max_three min_three max_four min_four
set_option linter.unusedVariables false
set_option linter.unusedSimpArgs false
def spec_l71Play.l0 : Nat → List (S61) → Int → List Int → Int → List (S73) → List Int → Option ((List (S61)) × (List (S73)) × List Int × Int)
 | 0, _, _, _, _, _, _ => none
 | k + 1, x5, x6, x1000, x1001, x338000, x338001 => if x6 > 0 then ((spec_l71Event.f k x1000 x1001).bind fun bt343 => (if x5.length < 3518437208883 then ((spec_l21Do.f k x338000 x338001 bt343.1 bt343.2.1 bt343.2.2.1 bt343.2.2.2.1 bt343.2.2.2.2.1).bind fun bt353 => (spec_l71Play.l0 k (x5 ++ [(⟨bt343.1, bt343.2.1, bt343.2.2.1, bt343.2.2.2.1, bt343.2.2.2.2.1⟩ : S61)]) (wrap64 (x6 - 1)) x1000 bt343.2.2.2.2.2 bt353.1 bt353.2)) else (none))) else (some (x5, x338000, x338001, x1001))
def spec_l71Play.f (k : Nat) (s0_0 : List Int) (s0_1 : Int) : Option ((List (S61)) × (List (S73)) × List Int × Int) := (spec_StoreNew.f k).bind fun bt331 => ((spec_l6Rd_pick.f k s0_0 s0_1 58).bind fun bt341 => (spec_l71Play.l0 k (([] : List (S61))) bt341.1 s0_0 bt341.2 bt331.1 bt331.2))
theorem spec_l71Play.calls (k : Nat) (g : Nat) (s0_0 : List Int) (s0_1 : Int) (r1 : List (S61)) (r2 : List (S73)) (r3 : List Int) (r4 : Int) (w0 w : World) (hI : IsS56 w0 w g s0_0 s0_1) (hB : Below w0.heap.size w0 w) (h : spec_l71Play.f k s0_0 s0_1 = some (r1, r2, r3, r4)) :
 Calls Try.prog 45 #[.pointer (some ⟨g, 0, none⟩)] w fun e w' => ∃ v0_ v1_ v2_ : Value, e = .returned (.tuple #[v0_, .agg #[v1_, v2_]]) ∧ Kd.R k61 61 w' w.heap.size (fun _ => True) v0_ r1 ∧ Kd.S k73 73 w' w.heap.size (fun _ => True) v1_ r2 ∧ Kd.R (Kd.int .i64) 3 w' w.heap.size (fun _ => True) v2_ r3 ∧ IsS56 w0 w' g s0_0 r4 ∧ Below w0.heap.size w0 w' ∧ KeepBut w w' g none := by
 have hu26 := Try.underlying26
 have hu61 := Try.underlying61
 have HI0 := am hI
 have HK := am (KeepBut.refl w g none)
 have HL := am hB.size
 clear hI
 have HW0 := am hB.size
 have HB := am hB
 clear hB
 have H : ((spec_StoreNew.f k).bind fun bt331 => ((spec_l6Rd_pick.f k s0_0 s0_1 58).bind fun bt341 => (spec_l71Play.l0 k (([] : List (S61))) bt341.1 s0_0 bt341.2 bt331.1 bt331.2))) = some (r1, r2, r3, r4) := h
 clear h
 replace H := Option.bind_eq_some_iff.mp H
 obtain ⟨⟨t331, t334⟩, A20, H⟩ := H
 have A2 := am A20
 clear A20
 obtain ⟨y338, hy338⟩ : ∃ y_ : List (S61), y_ = (([] : List (S61))) := ⟨_, rfl⟩
 replace H : ((spec_l6Rd_pick.f k s0_0 s0_1 58).bind fun bt341 => (spec_l71Play.l0 k y338 bt341.1 s0_0 bt341.2 t331 t334)) = some (r1, r2, r3, r4) := yy hy338 H
 have Ny338 := am hy338
 clear hy338
 replace H := Option.bind_eq_some_iff.mp H
 obtain ⟨⟨t341, t342⟩, A30, H⟩ := H
 have A3 := am A30
 clear A30
 have H' := am H
 clear H
 go_enter Try.func45, Try.ntmps45
 go_wp2_with (first | (refine bx 3 #[.slice none 0 0, .slice none 0 0] 26 rfl ?_; intro gb330 hg w4 hbox hb; replace HB := am (below_step (bg1 HB.out (IsS56.ge HI0.out)) hb); have BK330 := am (hbox); have GW330 := am (gk hg (kb0 HK.out)); have GE330 := am (Nat.le_trans HW0.out GW330.out); replace HK := am (KeepBut.trans (kb0 HK.out) (KeepBut.of_below hb g none) (.inl rfl)); have NB0_330 := am (nl hg (IsS56.lt (IsS56.g0 HI0.out))); have NB330_0 := am (Ne.symm NB0_330.out); replace HI0 := am (IsS56.below (IsS56.g0 HI0.out) hb); clear hb hbox hg) | (refine gl 8 Try.func62 #[] rfl ?_; (with_reducible refine (spec_StoreNew.calls k  t331 t334 _ A2.out).mono ?_); rintro e w5 ⟨v332, v335, rfl, ho0, ho1, hb⟩; refine ⟨_, rfl, ?_⟩; have HO333 := am (Kd.S_lower ho0 (keep_size (kb1 HK.out GW330.out))); have HO336 := am (Kd.R_lower ho1 (keep_size (kb1 HK.out GW330.out))); replace BK330 := am (blk_below (pb BK330.out) hb); replace HK := am (KeepBut.trans (kb1 HK.out GW330.out) (KeepBut.of_below hb g none) (.inl rfl)); replace HB := am (below_step (bg2 HB.out (IsS56.ge HI0.out) GE330.out) hb); replace HI0 := am (IsS56.below (IsS56.g1 HI0.out NB0_330.out) hb); clear hb ho0 ho1) | (refine bx 4 #[.slice none 0 0, .slice none 0 0] 26 rfl ?_; intro gb337 hg w6 hbox hb; replace HO333 := am (Kd.S_below (ps HO333.out) hb); replace HO336 := am (Kd.R_below (pr HO336.out) hb); replace HB := am (below_step (bg2 HB.out (IsS56.ge HI0.out) GE330.out) hb); have BK337 := am (hbox); have GW337 := am (gk hg (kb1 HK.out GW330.out)); have GE337 := am (Nat.le_trans HW0.out GW337.out); replace HK := am (KeepBut.trans (kb1 HK.out GW330.out) (KeepBut.of_below hb g none) (.inl rfl)); have NB330_337 := am (nb hg (pb BK330.out)); have NB337_330 := am (Ne.symm NB330_337.out); replace BK330 := am (blk_below (pb BK330.out) hb); have NB0_337 := am (nl hg (IsS56.lt (IsS56.g1 HI0.out NB0_330.out))); have NB337_0 := am (Ne.symm NB0_337.out); replace HI0 := am (IsS56.below (IsS56.g1 HI0.out NB0_330.out) hb); clear hb hbox hg; obtain ⟨Ao7, co7, eo7⟩ := Kd.S_slice HO333.out; subst eo7; have hnb8 := NB337_330.out; have hnc8 := NB330_337.out; have hnb9 := NB337_0.out; have hnc9 := NB0_337.out; obtain ⟨hcz10_0, hcz10_1⟩ := b2 BK337.out; obtain ⟨hfz10_0, hfz10_1⟩ := f2 BK337.out; obtain ⟨Ao11, co11, eo11⟩ := Kd.R_slice HO336.out; subst eo11) | ((with_reducible refine gate_dst (N := 9) rfl ?_); refine Kd.R_lit k61 _ 61 ?hg (N := 9) ?hd (xs := ([] : List (S61))) (inner := []) (ok := fun _ => True) (okp := fun _ => True) ?hr ?hp (fun _ hk => hk) trivial (Below.refl _ _) (Nat.le_refl _) (by simp) ?_; (case hd => rfl); (case hg => rfl); (case hr => first | (go_simp; done) | (go_simp; rfl)); (case hp => exact (Reps.none _ _)); intro v339 w12 ho13 hb hg_ hnew_; clear hg_ hnew_; (first | rw [← Ny338.out] at ho13 | (simp only [Int.reduceToNat] at ho13; rw [← Ny338.out] at ho13)); replace HO333 := am (Kd.S_below (ps ((Kd.S_mono (Kd.S_far (p := ⟨gb337, 1, none⟩) (Kd.S_far (p := ⟨gb337, 0, none⟩) (Kd.S_types HO333.out BK337.out (by decide)) (fun _ hk => hk.2) (.slice Ao7 t331.length co7)) (fun _ hk => hk.2) (.slice Ao11 t334.length co11)) (fun _ h_ => h_.1)))) hb); replace HO336 := am (Kd.R_below (pr ((Kd.R_mono (Kd.R_far (p := ⟨gb337, 1, none⟩) (Kd.R_far (p := ⟨gb337, 0, none⟩) (Kd.R_types HO336.out BK337.out (by decide)) (fun _ hk => hk.2) (.slice Ao7 t331.length co7)) (fun _ hk => hk.2) (.slice Ao11 t334.length co11)) (fun _ h_ => h_.1)))) hb); have HO340 := am (Kd.R_lower ho13 (keep_size (kb2 HK.out GW330.out GW337.out))); replace BK330 := am (blk_below (bf2 (pb BK330.out) NB330_337.out) hb); replace BK337 := am (blk_below (bp2 (pb BK337.out)) hb); replace HK := am (KeepBut.trans (kb2 HK.out GW330.out GW337.out) (KeepBut.of_below hb g none) (.inl rfl)); replace HB := am (below_step (bg3 HB.out (IsS56.ge HI0.out) GE330.out GE337.out) hb); replace HI0 := am (IsS56.below (show IsS56 w0 ((w6.setCell ⟨gb337, 0, none⟩ (.slice Ao7 t331.length co7)).setCell ⟨gb337, 1, none⟩ (.slice Ao11 t334.length co11)) g s0_0 s0_1 from IsS56.g2 HI0.out NB0_330.out NB0_337.out) hb); clear hb ho13) | (refine gl 11 Try.func14 #[.pointer (some ⟨g, 0, none⟩), .int .i64 58] rfl ?_; (with_reducible refine (spec_l6Rd_pick.calls k g s0_0 s0_1 58 t341 t342 w0 _ ?side1 ?side2 A3.out).mono ?_); (case side1 => exact IsS56.g2 HI0.out NB0_330.out NB0_337.out); (case side2 => exact bg3 HB.out (IsS56.ge HI0.out) GE330.out GE337.out); rintro e w14 ⟨rfl, hi, hb, hk⟩; refine ⟨_, rfl, ?_⟩; replace BK330 := am (KeepBut.blk hk (pb BK330.out) NB330_0.out (by simp)); replace HO333 := am (Kd.S_mono (Kd.S_keep (IsS56.apartS (IsS56.g2 HI0.out NB0_330.out NB0_337.out) (ps HO333.out) (by decide)) hk (fun _ h => h.2)) (fun _ h => h.1)); replace HO336 := am (Kd.R_mono (Kd.R_keep (IsS56.apart (IsS56.g2 HI0.out NB0_330.out NB0_337.out) (pr HO336.out) (by decide)) hk (fun _ h => h.2)) (fun _ h => h.1)); replace BK337 := am (KeepBut.blk hk (pb BK337.out) NB337_0.out (by simp)); replace HO340 := am (Kd.R_mono (Kd.R_keep (IsS56.apart (IsS56.g2 HI0.out NB0_330.out NB0_337.out) (pr HO340.out) (by decide)) hk (fun _ h => h.2)) (fun _ h => h.1)); replace HK := am (KeepBut.trans (kb2 HK.out GW330.out GW337.out) hk (.inl rfl)); replace HB := am (hb); replace HI0 := am (hi); clear hb hk hi))
 go_loopg [5, 6] k (fun kq v5 v6 w' => ∃ (x5_1 : List (S61)) (x6_1 : Int) (x1001_1 : Int) (x338000_1 : List (S73)) (x338001_1 : List Int) (u338000 : Value) (u338001 : Value), v6 = .int .i64 x6_1 ∧ Aside0 (spec_l71Play.l0 kq x5_1 x6_1 s0_0 x1001_1 x338000_1 x338001_1 = some (r1, r2, r3, r4)) ∧ Aside0 (kq ≤ k) ∧ Aside0 (Kd.R k61 61 w' w.heap.size (fun _ => True) v5 x5_1) ∧ Aside0 (Kd.S k73 73 w' w.heap.size (fun _ => True) u338000 x338000_1) ∧ Aside0 (Kd.R (Kd.int .i64) 3 w' w.heap.size (fun _ => True) u338001 x338001_1) ∧ Aside0 (w'.heap[gb330]? = some (.cells #[(.slice none 0 0), (.slice none 0 0)] 26 (0, 0))) ∧ Aside0 (w'.heap[gb337]? = some (.cells #[u338000, u338001] 26 (0, 0))) ∧ Aside0 (IsS56 w0 w' g s0_0 x1001_1) ∧ Aside0 (KeepBut w w' g none) ∧ Aside0 (Below w0.heap.size w0 w'))
 case atStart => exact ⟨(y338), (t341), (t342), (t331), (t334), (.slice Ao7 t331.length co7), (.slice Ao11 t334.length co11), rf, H', ⟨Nat.le_refl _⟩, ⟨pr HO340.out⟩, ⟨ps HO333.out⟩, ⟨pr HO336.out⟩, ⟨pb BK330.out⟩, ⟨pb BK337.out⟩, ⟨IsS56.g2 HI0.out NB0_330.out NB0_337.out⟩, ⟨kb2 HK.out GW330.out GW337.out⟩, ⟨bg3 HB.out (IsS56.ge HI0.out) GE330.out GE337.out⟩⟩
 case round =>
  clear H'
  obtain ⟨x5_1, x6_1, x1001_1, x338000_1, x338001_1, u338000, u338001, rfl, HA, HK1, HO_5, HO_338000, HO_338001, BK330, BK337, HI0, HK, HB⟩ := hrel
  cases gk with
  | zero => exact absurd HA.out (by simp [spec_l71Play.l0])
  | succ k1 =>
   have H := HA.out
   clear HA
   simp only [spec_l71Play.l0] at H
   by_cases c15 : x6_1 > 0
   rotate_left
   · rw [if_neg c15] at H
     have c15b0 := decide_eq_false c15
     clear c15
     simp only [Option.some.injEq, Prod.mk.injEq] at H
     obtain ⟨rfl, rfl, rfl, rfl⟩ := H
     try go_wp2
     replace HO_5 := am (Kd.R_drew HO_5.out)
     replace HO_338000 := am (Kd.S_drew HO_338000.out)
     replace HO_338001 := am (Kd.R_drew HO_338001.out)
     replace BK330 := am (blk_drew BK330.out)
     replace BK337 := am (blk_drew BK337.out)
     replace HI0 := am (IsS56.drew HI0.out)
     replace HK := am (keep_drew HK.out)
     replace HB := am (below_drew1 HB.out)
     obtain ⟨Ao38, co38, eo38⟩ := Kd.S_slice HO_338000.out
     (first | subst eo38 | (injection eo38 with f1_ f2_ f3_; have f4_ := f1_.symm; have f5_ := f3_.symm; clear f1_ f2_ f3_; subst f4_; subst f5_))
     obtain ⟨Ao40, co40, eo40⟩ := Kd.R_slice HO_338001.out
     (first | subst eo40 | (injection eo40 with f1_ f2_ f3_; have f4_ := f1_.symm; have f5_ := f3_.symm; clear f1_ f2_ f3_; subst f4_; subst f5_))
     refine start_ (n := 4) (S := fun w' => w'.cell? ⟨gb337, 0, none⟩ = some (.slice Ao38 x338000_1.length co38) ∧ w'.cell? ⟨gb337, 1, none⟩ = some (.slice Ao40 x338001_1.length co40)) (ds := []) (bt 4 0) (by kernel_rfl) rfl rfl ⟨(blk_cell BK337.out 0).trans rfl, (blk_cell BK337.out 1).trans rfl⟩ (fun hHeld => ?_)
     generalize wr.drew = w37 at HO_5 HO_338000 HO_338001 BK330 BK337 HI0 HK HB hHeld ⊢
     refine pi_ 0 25 (bt 4 1) rfl rfl (fun _ _ _ h => h) ?_
     refine pi_ 2 2 (bt 4 5) rfl rfl (fun _ _ _ h => h) ?_
     refine pm_ 1 26 (bt 4 7) rfl rfl (by kernel_rfl) (fun _ _ _ h => h) hHeld ?_
     refine one_ (i := 3) (N := none) (bt 4 15) rfl rfl (by kernel_rfl) (by decide) (fun K hK => ?_)
     have hs39 : w37.cell? ⟨gb330, 0, none⟩ = some (.slice none 0 0) := (blk_cell BK330.out 0).trans rfl
     have hfs39 := blk_frozen BK330.out 0
     have hns39_1 := NB337_330.out
     have hms39_1 := NB330_337.out
     have hs41 : w37.cell? ⟨gb330, 1, none⟩ = some (.slice none 0 0) := (blk_cell BK330.out 1).trans rfl
     have hfs41 := blk_frozen BK330.out 1
     have hns41_1 := NB337_330.out
     have hms41_1 := NB330_337.out
     refine qs rfl ?_
     refine hK.out _ _ ⟨((cell_far (p := ⟨gb330, _, none⟩) NB337_330.out _).trans (((cell_far (p := ⟨gb330, _, none⟩) NB337_330.out _).trans (hHeld.1)))), ((cell_far (p := ⟨gb330, _, none⟩) NB337_330.out _).trans (((cell_far (p := ⟨gb330, _, none⟩) NB337_330.out _).trans (hHeld.2))))⟩ (fun hHeld => ?_)
     clear hK K
     refine done_ (by kernel_rfl) ?_
     try go_wp2
     refine bodyPost_ret (results_tc rfl _ _ gb330 26 #[.slice Ao38 x338000_1.length co38, .slice Ao40 x338001_1.length co40] (0, 0) _ rfl (bp2 (pb BK330.out)) Try.underlying26 rfl (by kernel_rfl)) rfl ?_
     exact ⟨_, _, _, rq ⟨pr (Kd.R_mono (Kd.R_far (p := ⟨gb330, 1, none⟩) (Kd.R_far (p := ⟨gb330, 0, none⟩) (Kd.R_types HO_5.out BK330.out (by decide)) (fun _ hk => hk.2) (.slice Ao38 x338000_1.length co38)) (fun _ hk => hk.2) (.slice Ao40 x338001_1.length co40)) (fun _ hk => trivial)), ps (Kd.S_mono (Kd.S_far (p := ⟨gb330, 1, none⟩) (Kd.S_far (p := ⟨gb330, 0, none⟩) (Kd.S_types HO_338000.out BK330.out (by decide)) (fun _ hk => hk.2) (.slice Ao38 x338000_1.length co38)) (fun _ hk => hk.2) (.slice Ao40 x338001_1.length co40)) (fun _ hk => trivial)), pr (Kd.R_mono (Kd.R_far (p := ⟨gb330, 1, none⟩) (Kd.R_far (p := ⟨gb330, 0, none⟩) (Kd.R_types HO_338001.out BK330.out (by decide)) (fun _ hk => hk.2) (.slice Ao38 x338000_1.length co38)) (fun _ hk => hk.2) (.slice Ao40 x338001_1.length co40)) (fun _ hk => trivial)), IsS56.g2 HI0.out NB0_330.out NB0_337.out, bg3 HB.out (IsS56.ge HI0.out) GE330.out GE337.out, kb2 HK.out GW330.out GW337.out⟩⟩
   rw [if_pos c15] at H
   have c15b0 := decide_eq_true c15
   clear c15
   replace H := Option.bind_eq_some_iff.mp H
   obtain ⟨⟨t343, t344, t345, t346, t347, t348⟩, A160, H⟩ := H
   have A16 := am A160
   clear A160
   by_cases c17 : x5_1.length < 3518437208883
   rotate_left
   · rw [if_neg c17] at H
     exact absurd H (by simp)
   rw [if_pos c17] at H
   have LMc17 := am c17
   clear c17
   obtain ⟨y350, hy350⟩ : ∃ y_ : List (S61), y_ = (x5_1 ++ [(⟨t343, t344, t345, t346, t347⟩ : S61)]) := ⟨_, rfl⟩
   replace H : ((spec_l21Do.f k1 x338000_1 x338001_1 t343 t344 t345 t346 t347).bind fun bt353 => (spec_l71Play.l0 k1 y350 (wrap64 (x6_1 - 1)) s0_0 t348 bt353.1 bt353.2)) = some (r1, r2, r3, r4) := yy hy350 H
   have Ny350 := am hy350
   clear hy350
   replace H := Option.bind_eq_some_iff.mp H
   obtain ⟨⟨t353, t356⟩, A180, H⟩ := H
   have A18 := am A180
   clear A180
   have H' := am H
   clear H
   go_wp2_with (first | (refine gl 17 Try.func63 #[.pointer (some ⟨g, 0, none⟩)] rfl ?_; (with_reducible refine (spec_l71Event.calls k1 g s0_0 x1001_1 t343 t344 t345 t346 t347 t348 w0 _ ?side1 ?side2 A16.out).mono ?_); (case side1 => exact IsS56.g2 HI0.out NB0_330.out NB0_337.out); (case side2 => exact bg3 HB.out (IsS56.ge HI0.out) GE330.out GE337.out); rintro e w19 ⟨rfl, hi, hb, hk⟩; refine ⟨_, rfl, ?_⟩; replace HO_5 := am (Kd.R_mono (Kd.R_keep (IsS56.apart (IsS56.g2 HI0.out NB0_330.out NB0_337.out) (pr HO_5.out) (by decide)) hk (fun _ h => h.2)) (fun _ h => h.1)); replace HO_338000 := am (Kd.S_mono (Kd.S_keep (IsS56.apartS (IsS56.g2 HI0.out NB0_330.out NB0_337.out) (ps HO_338000.out) (by decide)) hk (fun _ h => h.2)) (fun _ h => h.1)); replace HO_338001 := am (Kd.R_mono (Kd.R_keep (IsS56.apart (IsS56.g2 HI0.out NB0_330.out NB0_337.out) (pr HO_338001.out) (by decide)) hk (fun _ h => h.2)) (fun _ h => h.1)); replace BK330 := am (KeepBut.blk hk (pb BK330.out) NB330_0.out (by simp)); replace BK337 := am (KeepBut.blk hk (pb BK337.out) NB337_0.out (by simp)); replace HK := am (KeepBut.trans (kb2 HK.out GW330.out GW337.out) hk (.inl rfl)); replace HB := am (hb); replace HI0 := am (hi); clear hb hk hi) | (refine bx 7 #[.int .i64 0, .int .i64 0, .int .i64 0, .int .i64 0, .bool false] 61 rfl ?_; intro gb349 hg w20 hbox hb; replace HO_5 := am (Kd.R_below (Kd.R_elderB (pr HO_5.out) gb349 (Nat.le_of_eq hg.symm)) hb); replace HO_338000 := am (Kd.S_below (ps HO_338000.out) hb); replace HO_338001 := am (Kd.R_below (pr HO_338001.out) hb); replace HB := am (below_step (bg3 HB.out (IsS56.ge HI0.out) GE330.out GE337.out) hb); have BK349 := am (hbox); have GW349 := am (gk hg (kb2 HK.out GW330.out GW337.out)); have GE349 := am (Nat.le_trans HW0.out GW349.out); replace HK := am (KeepBut.trans (kb2 HK.out GW330.out GW337.out) (KeepBut.of_below hb g none) (.inl rfl)); have NB330_349 := am (nb hg (pb BK330.out)); have NB349_330 := am (Ne.symm NB330_349.out); replace BK330 := am (blk_below (pb BK330.out) hb); have NB337_349 := am (nb hg (pb BK337.out)); have NB349_337 := am (Ne.symm NB337_349.out); replace BK337 := am (blk_below (pb BK337.out) hb); have NB0_349 := am (nl hg (IsS56.lt (IsS56.g2 HI0.out NB0_330.out NB0_337.out))); have NB349_0 := am (Ne.symm NB0_349.out); replace HI0 := am (IsS56.below (IsS56.g2 HI0.out NB0_330.out NB0_337.out) hb); clear hb hbox hg; have hnb21 := NB349_330.out; have hnc21 := NB330_349.out; have hnb22 := NB349_337.out; have hnc22 := NB337_349.out; have hnb23 := NB349_0.out; have hnc23 := NB0_349.out; obtain ⟨hcz24_0, hcz24_1, hcz24_2, hcz24_3, hcz24_4⟩ := b5 BK349.out; obtain ⟨hfz24_0, hfz24_1, hfz24_2, hfz24_3, hfz24_4⟩ := f5 BK349.out) | ((with_reducible refine gate_builtin (b := .append) (xs := #[.tmp 18, .tmp 20]) rfl ?_); at_builtin; refine Kd.R_append k61 w.heap.size rfl (.tmp 18) (.tmp 20) 77 61 (.agg #[(.int .i64 0), (.int .i64 0), (.int .i64 0), (.int .i64 0), (.bool false)]) 40 rfl Try.underlying77 info61 rfl (by decide) (by omega) u5 x5_1 (⟨t343, t344, t345, t346, t347⟩ : S61) [.int .i64 t343, .int .i64 t344, .int .i64 t345, .int .i64 t346, .bool t347] (fun k_ => k_ ≠ gb349) (fun _ => False) rfl (by first | (go_simp; done) | (go_simp; rfl)) ?aP (fun _ hk => hk.elim) ?aF ?aO (Below.refl _ _) ?aS ?aL ?_; (case aP => exact k61_mkM _ _ _ (⟨t343, t344, t345, t346, t347⟩ : S61)); (case aF => exact (fun k_ hk => Kd.freshB (g := gb349) (o := .cells #[.int .i64 t343, .int .i64 t344, .int .i64 t345, .int .i64 t346, .bool t347] 61 (0, 0)) (bp5 (pb BK349.out)) k_ hk)); (case aO => exact (pr (Kd.R_mono (Kd.R_far (p := ⟨gb349, 4, none⟩) (Kd.R_far (p := ⟨gb349, 3, none⟩) (Kd.R_far (p := ⟨gb349, 2, none⟩) (Kd.R_far (p := ⟨gb349, 1, none⟩) (Kd.R_far (p := ⟨gb349, 0, none⟩) (Kd.R_mono HO_5.out (fun k_ hk => (⟨hk, hk.2⟩ : _ ∧ k_ ≠ gb349))) (fun _ hk => hk.2) (.int .i64 t343)) (fun _ hk => hk.2) (.int .i64 t344)) (fun _ hk => hk.2) (.int .i64 t345)) (fun _ hk => hk.2) (.int .i64 t346)) (fun _ hk => hk.2) (.bool t347)) (fun _ hk => hk.1.2)))); (case aS => exact (keep_size (kb3 HK.out GW330.out GW337.out GW349.out))); (case aL => have := LMc17.out; omega); intro v351 w25 ho hb hg hat; rw [← Ny350.out] at ho; replace HO_338000 := am (Kd.S_over' (ps ((Kd.S_mono (Kd.S_far (p := ⟨gb349, 4, none⟩) (Kd.S_far (p := ⟨gb349, 3, none⟩) (Kd.S_far (p := ⟨gb349, 2, none⟩) (Kd.S_far (p := ⟨gb349, 1, none⟩) (Kd.S_far (p := ⟨gb349, 0, none⟩) (Kd.S_types HO_338000.out BK349.out (by decide)) (fun _ hk => hk.2) (.int .i64 t343)) (fun _ hk => hk.2) (.int .i64 t344)) (fun _ hk => hk.2) (.int .i64 t345)) (fun _ hk => hk.2) (.int .i64 t346)) (fun _ hk => hk.2) (.bool t347)) (fun _ h_ => h_.1)))) (Kd.R_typed (pr ((Kd.R_mono (Kd.R_far (p := ⟨gb349, 4, none⟩) (Kd.R_far (p := ⟨gb349, 3, none⟩) (Kd.R_far (p := ⟨gb349, 2, none⟩) (Kd.R_far (p := ⟨gb349, 1, none⟩) (Kd.R_far (p := ⟨gb349, 0, none⟩) (Kd.R_mono HO_5.out (fun k_ hk => (⟨hk, hk.2⟩ : _ ∧ k_ ≠ gb349))) (fun _ hk => hk.2) (.int .i64 t343)) (fun _ hk => hk.2) (.int .i64 t344)) (fun _ hk => hk.2) (.int .i64 t345)) (fun _ hk => hk.2) (.int .i64 t346)) (fun _ hk => hk.2) (.bool t347)) (fun _ h_ => h_.1))))) (by decide) hg); replace HO_338001 := am (Kd.R_over' (pr ((Kd.R_mono (Kd.R_far (p := ⟨gb349, 4, none⟩) (Kd.R_far (p := ⟨gb349, 3, none⟩) (Kd.R_far (p := ⟨gb349, 2, none⟩) (Kd.R_far (p := ⟨gb349, 1, none⟩) (Kd.R_far (p := ⟨gb349, 0, none⟩) (Kd.R_types HO_338001.out BK349.out (by decide)) (fun _ hk => hk.2) (.int .i64 t343)) (fun _ hk => hk.2) (.int .i64 t344)) (fun _ hk => hk.2) (.int .i64 t345)) (fun _ hk => hk.2) (.int .i64 t346)) (fun _ hk => hk.2) (.bool t347)) (fun _ h_ => h_.1)))) (Kd.R_typed (pr ((Kd.R_mono (Kd.R_far (p := ⟨gb349, 4, none⟩) (Kd.R_far (p := ⟨gb349, 3, none⟩) (Kd.R_far (p := ⟨gb349, 2, none⟩) (Kd.R_far (p := ⟨gb349, 1, none⟩) (Kd.R_far (p := ⟨gb349, 0, none⟩) (Kd.R_mono HO_5.out (fun k_ hk => (⟨hk, hk.2⟩ : _ ∧ k_ ≠ gb349))) (fun _ hk => hk.2) (.int .i64 t343)) (fun _ hk => hk.2) (.int .i64 t344)) (fun _ hk => hk.2) (.int .i64 t345)) (fun _ hk => hk.2) (.int .i64 t346)) (fun _ hk => hk.2) (.bool t347)) (fun _ h_ => h_.1))))) (by decide) hg); replace BK330 := am (blk_grown (g := gb330) (o := .cells #[.slice none 0 0, .slice none 0 0] 26 (0, 0)) (bf5 (pb BK330.out) NB330_349.out) hg (Kd.R_ne HO_5.out BK330.out (by decide))); replace BK337 := am (blk_grown (g := gb337) (o := .cells #[u338000, u338001] 26 (0, 0)) (bf5 (pb BK337.out) NB337_349.out) hg (Kd.R_ne HO_5.out BK337.out (by decide))); replace BK349 := am (blk_grown (g := gb349) (o := .cells #[.int .i64 t343, .int .i64 t344, .int .i64 t345, .int .i64 t346, .bool t347] 61 (0, 0)) (bp5 (pb BK349.out)) hg (Kd.R_away HO_5.out (fun _ hk => hk.2))); replace HB := am (below_weaken (bg4 HB.out (IsS56.ge HI0.out) GE330.out GE337.out GE349.out) HL.out hb); replace HI0 := am (IsS56.grown (show IsS56 w0 _ g s0_0 t348 from IsS56.g3 HI0.out NB0_330.out NB0_337.out NB0_349.out) hg (IsS56.own_ne HI0.out HO_5.out (by decide))); replace HK := am (KeepBut.trans (kb3 HK.out GW330.out GW337.out GW349.out) (KeepBut.of_grown hg g) (Kd.R_base2 HO_5.out)); have HO352 := am (ho); clear HO_5; clear ho hb hg hat; have hnb26 := NB337_330.out; have hnc26 := NB330_337.out; have hnb27 := NB337_0.out; have hnc27 := NB0_337.out; obtain ⟨hcz28_0, hcz28_1⟩ := b2 BK337.out; obtain ⟨hfz28_0, hfz28_1⟩ := f2 BK337.out; obtain ⟨hcz29_0, hcz29_1, hcz29_2, hcz29_3, hcz29_4⟩ := b5 BK349.out; obtain ⟨hfz29_0, hfz29_1, hfz29_2, hfz29_3, hfz29_4⟩ := f5 BK349.out; obtain ⟨Ao30, co30, eo30⟩ := Kd.S_slice HO_338000.out; subst eo30; obtain ⟨Ao31, co31, eo31⟩ := Kd.R_slice HO_338001.out; subst eo31; obtain ⟨PXh32, hxa_, hxb_⟩ := Kd.S_hand HO_338000.out; have HXAh32 := am hxa_; have HXBh32 := am hxb_; clear hxa_ hxb_) | (refine gl 24 Try.func28 #[.agg #[.slice Ao30 x338000_1.length co30, .slice Ao31 x338001_1.length co31], .agg #[.int .i64 t343, .int .i64 t344, .int .i64 t345, .int .i64 t346, .bool t347]] rfl ?_; (with_reducible refine (spec_l21Do.calls k1 PXh32 (.slice Ao30 x338000_1.length co30) x338000_1 (fun k_ => some k_ = (.slice Ao31 x338001_1.length co31 : Value).ownBlock) (.slice Ao31 x338001_1.length co31) x338001_1 t343 t344 t345 t346 t347 t353 t356 w0 _ ?side1 ?side2 ?side3 A18.out).mono ?_); (case side1 => exact bg4 HB.out (IsS56.ge HI0.out) GE330.out GE337.out GE349.out); (case side2 => exact Kd.S_lower (ps HXAh32.out) HL.out); (case side3 => exact Kd.R_lower (Kd.R_tight rfl HO_338001.out) HL.out); rintro e w33 ⟨v354, v357, rfl, ho0, ho1, hb, hkp⟩; refine ⟨_, rfl, ?_⟩; replace BK330 := am (blk_kept (pb BK330.out) hkp (fun hs_ => Or.elim hs_ (fun e_ => (fun e_ => Kd.blk_awayP (fun k_ h_ => (HXBh32.out k_ h_).2.2.2) BK330.out (by decide) e_) e_) (fun e_ => (fun e_ => (Kd.R_ne HO_338001.out BK330.out (by decide)) e_) e_))); replace BK337 := am (blk_kept (pb BK337.out) hkp (fun hs_ => Or.elim hs_ (fun e_ => (fun e_ => Kd.blk_awayP (fun k_ h_ => (HXBh32.out k_ h_).2.2.2) BK337.out (by decide) e_) e_) (fun e_ => (fun e_ => (Kd.R_ne HO_338001.out BK337.out (by decide)) e_) e_))); replace HI0 := am (IsS56.kept (show IsS56 w0 _ g s0_0 t348 from IsS56.g3 HI0.out NB0_330.out NB0_337.out NB0_349.out) hkp (fun hs_ => Or.elim hs_ (fun e_ => (fun e_ => (by obtain ⟨q_, hq_, c_, hc_⟩ := (HXBh32.out _ e_).2.2.2; exact (IsS56.ne_blk HI0.out hc_ (by rintro rfl; revert hq_; decide)) rfl)) e_) (fun e_ => (fun e_ => (IsS56.own_ne HI0.out HO_338001.out (by decide)) e_) e_))); replace BK349 := am (blk_kept (pb BK349.out) hkp (fun hs_ => Or.elim hs_ (fun e_ => (fun e_ => Kd.blk_awayP (fun k_ h_ => (HXBh32.out k_ h_).2.2.2) BK349.out (by decide) e_) e_) (fun e_ => (fun e_ => (Kd.R_ne HO_338001.out BK349.out (by decide)) e_) e_))); replace HO352 := am (Kd.R_mono (ok' := fun k_ => k_ ≠ gb349) (Kd.R_keptB ((Kd.R_apart' (Kd.R_awayP HO352.out (fun k_ h_ => (HXBh32.out k_ h_).2.2.2) (by decide)) (Kd.R_typed HO_338001.out) (by decide))) hkp (fun k_ hk_ hs_ => Or.elim hs_ (fun e_ => (hk_.1.2) e_) (fun e_ => (hk_.2) e_))) (fun k_ hk_ => hk_.1.1.1)); have HO355 := am (Kd.S_mono (ok' := fun k_ => True) (Kd.S_raise (Kd.raise_iso _ (Kd.raise_pair (Kd.raise_slice 69 (Kd.raise_iso _ (Kd.raise_pair (Kd.raise_int .i64) (Kd.raise_iso _ (Kd.raise_pair (Kd.raise_int .i64) (Kd.raise_pair (Kd.raise_int .i64) (Kd.raise_pair (Kd.raise_int .i64) (Kd.raise_int .i64)))))))) (Kd.raise_int .i64))) ho0 (fun k_ e_ => Or.elim e_ (fun hs_ => Or.elim hs_ (fun e_ => (fun e_ => (HXBh32.out k_ e_).2.1) e_) (fun e_ => (fun e_ => Kd.R_base HO_338001.out k_ e_.symm) e_)) (fun hn_ => Nat.le_trans (keep_size (kb3 HK.out GW330.out GW337.out GW349.out)) hn_))) (fun k_ hk_ => trivial)); have HO358 := am (Kd.R_mono (ok' := fun k_ => True) (Kd.R_raise (d := (Kd.int .i64)) (b := w0.heap.size) (b' := w.heap.size) (fun _ _ _ _ h_ => h_) ho1 (fun k_ e_ => Or.elim (ho1.1 k_ e_) (fun hs_ => Or.elim hs_ (fun e_ => (fun e_ => (HXBh32.out k_ e_).2.1) e_) (fun e_ => (fun e_ => Kd.R_base HO_338001.out k_ e_.symm) e_)) (fun hn_ => Nat.le_trans (keep_size (kb3 HK.out GW330.out GW337.out GW349.out)) hn_))) (fun k_ hk_ => trivial)); replace HK := am (Kept.keepG (kb3 HK.out GW330.out GW337.out GW349.out) hkp (fun k_ hs_ => Or.elim hs_ (fun e_ => (fun e_ => .inr (HXBh32.out k_ e_).2.1) e_) (fun e_ => (fun e_ => .inr (Kd.R_base HO_338001.out k_ e_.symm)) e_))); replace HB := am (hb); clear HO_338000; clear HO_338001; clear hb hkp ho0 ho1; obtain ⟨Ao34, co34, eo34⟩ := Kd.S_slice HO355.out; subst eo34; obtain ⟨hcz35_0, hcz35_1⟩ := b2 BK337.out; obtain ⟨hfz35_0, hfz35_1⟩ := f2 BK337.out; obtain ⟨Ao36, co36, eo36⟩ := Kd.R_slice HO358.out; subst eo36))
   go_roundg k1
   case measure => have := HK1.out; omega
   case rel => exact ⟨(y350), (wrap64 (x6_1 - 1)), (t348), (t353), (t356), (.slice Ao34 t353.length co34), (.slice Ao36 t356.length co36), rf, H', ⟨by have := HK1.out; omega⟩, ⟨pr (Kd.R_mono (Kd.R_far (p := ⟨gb337, 1, none⟩) (Kd.R_far (p := ⟨gb337, 0, none⟩) (Kd.R_types HO352.out BK337.out (by decide)) (fun _ hk => hk.2) (.slice Ao34 t353.length co34)) (fun _ hk => hk.2) (.slice Ao36 t356.length co36)) (fun _ hk => trivial))⟩, ⟨ps (Kd.S_mono (Kd.S_far (p := ⟨gb337, 1, none⟩) (Kd.S_far (p := ⟨gb337, 0, none⟩) (Kd.S_types HO355.out BK337.out (by decide)) (fun _ hk => hk.2) (.slice Ao34 t353.length co34)) (fun _ hk => hk.2) (.slice Ao36 t356.length co36)) (fun _ hk => trivial))⟩, ⟨pr (Kd.R_mono (Kd.R_far (p := ⟨gb337, 1, none⟩) (Kd.R_far (p := ⟨gb337, 0, none⟩) (Kd.R_types HO358.out BK337.out (by decide)) (fun _ hk => hk.2) (.slice Ao34 t353.length co34)) (fun _ hk => hk.2) (.slice Ao36 t356.length co36)) (fun _ hk => trivial))⟩, ⟨bf2 (pb BK330.out) NB330_337.out⟩, ⟨bp2 (pb BK337.out)⟩, ⟨IsS56.g3 HI0.out NB0_330.out NB0_337.out NB0_349.out⟩, ⟨kb3 HK.out GW330.out GW337.out GW349.out⟩, ⟨bg4 HB.out (IsS56.ge HI0.out) GE330.out GE337.out GE349.out⟩⟩
def spec_l71Rec.f (k : Nat) (s0_0 : List Int) (s0_1 : Int) : Option (Int × Int × Int × Int × Int) := (spec_l6Rd_pick.f k s0_0 s0_1 2).bind fun b384 => ((spec_l6Rd_pick.f k s0_0 b384.2 40).bind fun b386 => ((spec_l6Rd_pick.f k s0_0 b386.2 6).bind fun b388 => ((spec_l6Rd_pick.f k s0_0 b388.2 10).bind fun b390 => ((spec_l6Rd_pick.f k s0_0 b390.2 20).bind fun b393 => (if b393.1 = 0 then ((spec_l6Rd_pick.f k s0_0 b393.2 4).bind fun b395 => (some (b395.1, wrap64 (1 + b386.1), wrap64 (1 + b388.1), b390.1, b395.2))) else (if b393.1 = 1 then ((some (([0, 600, 601] : List Int) : List Int)).bind fun y397 => ((spec_l6Rd_pick.f k s0_0 b393.2 3).bind fun b400 => (if 0 ≤ b400.1 then (if b400.1 < (y397.length : Int) then (some (wrap64 (1 + b384.1), rd y397 b400.1, wrap64 (1 + b388.1), b390.1, b400.2)) else (none)) else (none)))) else (if b393.1 = 2 then ((some (([0, 7] : List Int) : List Int)).bind fun y403 => ((spec_l6Rd_pick.f k s0_0 b393.2 2).bind fun b406 => (if 0 ≤ b406.1 then (if b406.1 < (y403.length : Int) then (some (wrap64 (1 + b384.1), wrap64 (1 + b386.1), rd y403 b406.1, b390.1, b406.2)) else (none)) else (none)))) else (if b393.1 = 3 then ((some (([(-1), 10] : List Int) : List Int)).bind fun y409 => ((spec_l6Rd_pick.f k s0_0 b393.2 2).bind fun b412 => (if 0 ≤ b412.1 then (if b412.1 < (y409.length : Int) then (some (wrap64 (1 + b384.1), wrap64 (1 + b386.1), wrap64 (1 + b388.1), rd y409 b412.1, b412.2)) else (none)) else (none)))) else (some (wrap64 (1 + b384.1), wrap64 (1 + b386.1), wrap64 (1 + b388.1), b390.1, b393.2))))))))))
theorem recKb {w w' : World} {g a : Nat} {o : Obj} (h : w.heap[a]? = some o) (hk : KeepBut w w' g none) (hne : a ≠ g) : w'.heap[a]? = some o := (hk.2 a (Array.getElem?_eq_some_iff.1 h).1 hne (by simp)).trans h
theorem recSome {α : Type} {c d : Prop} [Decidable c] [Decidable d] {x y : α} (h : (if c then (if d then some x else none) else none) = some y) : c ∧ d ∧ x = y := by
 by_cases hc : c
 rotate_left
 · rw [if_neg hc] at h
   cases h
 rw [if_pos hc] at h
 by_cases hd : d
 rotate_left
 · rw [if_neg hd] at h
   cases h
 rw [if_pos hd] at h
 exact ⟨hc, hd, Option.some.inj h⟩
theorem recPut4 {w : World} {g : Nat} {t : TypeId} {z0 z1 z2 z3 : Value} (h : w.heap[g]? = some (.cells #[z0, z1, z2, z3] t (0, 0))) (a b c d : Value) : ((((w.setCell ⟨g, 0, none⟩ a).setCell ⟨g, 1, none⟩ b).setCell ⟨g, 2, none⟩ c).setCell ⟨g, 3, none⟩ d).heap[g]? = some (.cells #[a, b, c, d] t (0, 0)) :=
 blk_put (cs := #[a, b, c, z3]) (blk_put (cs := #[a, b, z2, z3]) (blk_put (cs := #[a, z1, z2, z3]) (blk_put (cs := #[z0, z1, z2, z3]) h 0 _ rfl) 1 _ rfl) 2 _ rfl) 3 _ rfl
theorem recEnd1 {w0 w W : World} {g : Nat} {s : List Int} {p : Int} (h : IsS56 w0 W g s p ∧ Below w0.heap.size w0 W ∧ KeepBut w W g none) {T : Nat} (hT : w.heap.size ≤ T) (hL : w0.heap.size ≤ w.heap.size) (hg : g < w.heap.size) (i : Nat) (a : Value) :
 IsS56 w0 (W.setCell ⟨T, i, none⟩ a) g s p ∧ Below w0.heap.size w0 (W.setCell ⟨T, i, none⟩ a) ∧ KeepBut w (W.setCell ⟨T, i, none⟩ a) g none :=
 ⟨IsS56.far (p := ⟨T, i, none⟩) h.1 (show g ≠ T by omega) _, h.2.1.setCell (p := ⟨T, i, none⟩) (Nat.le_trans hL hT) _, keep_far (p := ⟨T, i, none⟩) h.2.2 hT _⟩
theorem spec_l71Rec.calls (k : Nat) (g : Nat) (s0_0 : List Int) (s0_1 : Int) (r1 : Int) (r2 : Int) (r3 : Int) (r4 : Int) (r5 : Int) (w0 w : World) (hI : IsS56 w0 w g s0_0 s0_1) (hB : Below w0.heap.size w0 w) (h : spec_l71Rec.f k s0_0 s0_1 = some (r1, r2, r3, r4, r5)) :
 Calls Try.prog 64 #[.pointer (some ⟨g, 0, none⟩)] w fun e w' => e = .returned (.agg #[.int .i64 r1, .int .i64 r2, .int .i64 r3, .int .i64 r4]) ∧ IsS56 w0 w' g s0_0 r5 ∧ Below w0.heap.size w0 w' ∧ KeepBut w w' g none := by
 unfold spec_l71Rec.f at h
 obtain ⟨⟨a1, p1⟩, h1, h⟩ := Option.bind_eq_some_iff.1 h
 obtain ⟨⟨a2, p2⟩, h2, h⟩ := Option.bind_eq_some_iff.1 h
 obtain ⟨⟨a3, p3⟩, h3, h⟩ := Option.bind_eq_some_iff.1 h
 obtain ⟨⟨a4, p4⟩, h4, h⟩ := Option.bind_eq_some_iff.1 h
 obtain ⟨⟨a5, p5⟩, h5, h⟩ := Option.bind_eq_some_iff.1 h
 have HH := am h
 clear h
 have hgl := IsS56.lt hI
 have hL := hB.size
 have hu := Try.underlying36
 go_enter Try.func64, Try.ntmps64
 go_wp2_with fail
 refine (spec_l6Rd_pick.calls k g s0_0 s0_1 2 a1 p1 w0 _ (hI.alloc _) (below_alloc hB _) h1).mono ?_
 rintro e w1 ⟨rfl, hI1, hB1, hK1⟩
 have hb := recKb (blk_new w _) hK1 (show w.heap.size ≠ g by omega)
 have K := KeepBut.trans (keep_alloc (KeepBut.refl w g none) _) hK1 (.inl rfl)
 clear hI hB hK1
 go_wp2_with fail
 refine (spec_l6Rd_pick.calls k g s0_0 p1 40 a2 p2 w0 _ hI1 hB1 h2).mono ?_
 rintro e w2 ⟨rfl, hI2, hB2, hK2⟩
 replace hb := recKb hb hK2 (show w.heap.size ≠ g by omega)
 replace K := KeepBut.trans K hK2 (.inl rfl)
 clear hI1 hB1 hK2
 go_wp2_with fail
 refine (spec_l6Rd_pick.calls k g s0_0 p2 6 a3 p3 w0 _ hI2 hB2 h3).mono ?_
 rintro e w3 ⟨rfl, hI3, hB3, hK3⟩
 replace hb := recKb hb hK3 (show w.heap.size ≠ g by omega)
 replace K := KeepBut.trans K hK3 (.inl rfl)
 clear hI2 hB2 hK3
 go_wp2_with fail
 refine (spec_l6Rd_pick.calls k g s0_0 p3 10 a4 p4 w0 _ hI3 hB3 h4).mono ?_
 rintro e w4 ⟨rfl, hI4, hB4, hK4⟩
 replace hb := recKb hb hK4 (show w.heap.size ≠ g by omega)
 replace K := KeepBut.trans K hK4 (.inl rfl)
 clear hI3 hB3 hK4
 go_wp2_with fail
 refine (spec_l6Rd_pick.calls k g s0_0 p4 20 a5 p5 w0 _ (hI4.alloc _) (below_alloc hB4 _) h5).mono ?_
 rintro e w5 ⟨rfl, hI5, hB5, hK5⟩
 have hl4 := hI4.lt
 have hl5 := K.1
 have hw4 := blk_lt hb
 replace hb := recKb (blk_alloc hb _) hK5 (show w.heap.size ≠ g by omega)
 have hx := recKb (blk_new w4 _) hK5 (show w4.heap.size ≠ g by omega)
 replace K := KeepBut.trans (keep_alloc K _) hK5 (.inl rfl)
 clear hI4 hB4 hK5 h1 h2 h3 h4 h5
 have hne : w4.heap.size ≠ w.heap.size := by omega
 have hne2 : w.heap.size ≠ w4.heap.size := by omega
 have HE := am (And.intro hI5 (And.intro hB5 K))
 clear K
 have h := HH.out
 clear HH
 by_cases n0 : a5 = 0
 · rw [if_pos n0] at h
   obtain ⟨⟨v, q⟩, h6, h⟩ := Option.bind_eq_some_iff.1 h
   simp only [Option.some.injEq, Prod.mk.injEq] at h
   obtain ⟨rfl, rfl, rfl, rfl, rfl⟩ := h
   subst n0
   go_wp2_with fail
   refine (spec_l6Rd_pick.calls k g s0_0 p5 4 v q w0 _ hI5 hB5 h6).mono ?_
   rintro e w6 ⟨rfl, hI6, hB6, hK6⟩
   replace hb := recKb hb hK6 (show w.heap.size ≠ g by omega)
   replace hx := recKb hx hK6 (show w4.heap.size ≠ g by omega)
   have HE6 := am (And.intro hI6 (And.intro hB6 (KeepBut.trans HE.out.2.2 hK6 (.inl rfl))))
   clear hI5 hB5 hI6 hB6 hK6 h6 HE
   have x0 := (blk_cell hx 0).trans rfl
   have x1 := (blk_cell hx 1).trans rfl
   have x2 := (blk_cell hx 2).trans rfl
   have x3 := (blk_cell hx 3).trans rfl
   have y0 := (blk_cell hb 0).trans rfl
   have y1 := (blk_cell hb 1).trans rfl
   have y2 := (blk_cell hb 2).trans rfl
   have y3 := (blk_cell hb 3).trans rfl
   have g0 := blk_frozen hb 0
   have g1 := blk_frozen hb 1
   have g2 := blk_frozen hb 2
   have g3 := blk_frozen hb 3
   have fx := blk_frozen hx 0
   go_wp2
   refine bodyPost_ret (results_cell_row rfl _ _ w.heap.size 36 #[.int .i64 (v), .int .i64 (wrap64 (1 + a2)), .int .i64 (wrap64 (1 + a3)), .int .i64 (a4)] (0, 0) _ rfl (recPut4 (blk_far hb hne2 _) _ _ _ _) Try.underlying36 rfl (by kernel_rfl)) rfl ?_
   exact ⟨rfl, recEnd1 (recEnd1 (recEnd1 (recEnd1 (recEnd1 HE6.out (show w.heap.size ≤ w4.heap.size by omega) hL hgl 0 _) (Nat.le_refl _) hL hgl 0 _) (Nat.le_refl _) hL hgl 1 _) (Nat.le_refl _) hL hgl 2 _) (Nat.le_refl _) hL hgl 3 _⟩
 rw [if_neg n0] at h
 by_cases n1 : a5 = 1
 · rw [if_pos n1] at h
   obtain ⟨⟨v, q⟩, h6, h⟩ := Option.bind_eq_some_iff.1 ((Option.bind_some _ _).symm.trans h)
   obtain ⟨hv0, hv1, h⟩ := recSome h
   simp only [Prod.mk.injEq] at h
   obtain ⟨rfl, rfl, rfl, rfl, rfl⟩ := h
   subst n1
   clear n0
   replace hv1 : v < 3 := hv1
   go_wp2_with fail
   refine (spec_l6Rd_pick.calls k g s0_0 p5 3 v q w0 _ (hI5.alloc _) (below_alloc hB5 _) h6).mono ?_
   rintro e w6 ⟨rfl, hI6, hB6, hK6⟩
   have hl6 := hI5.lt
   have hlx := blk_lt hx
   have hl := recKb (blk_new w5 _) hK6 (show w5.heap.size ≠ g by omega)
   replace hb := recKb (blk_alloc hb _) hK6 (show w.heap.size ≠ g by omega)
   replace hx := recKb (blk_alloc hx _) hK6 (show w4.heap.size ≠ g by omega)
   have HE6 := am (And.intro hI6 (And.intro hB6 (KeepBut.trans (keep_alloc HE.out.2.2 _) hK6 (.inl rfl))))
   clear hI5 hB5 hI6 hB6 hK6 h6 HE
   have x0 := (blk_cell hx 0).trans rfl
   have x1 := (blk_cell hx 1).trans rfl
   have x2 := (blk_cell hx 2).trans rfl
   have x3 := (blk_cell hx 3).trans rfl
   have y0 := (blk_cell hb 0).trans rfl
   have y1 := (blk_cell hb 1).trans rfl
   have y2 := (blk_cell hb 2).trans rfl
   have y3 := (blk_cell hb 3).trans rfl
   have g0 := blk_frozen hb 0
   have g1 := blk_frozen hb 1
   have g2 := blk_frozen hb 2
   have g3 := blk_frozen hb 3
   have fx := blk_frozen hx 1
   have l0 := (blk_cell hl 0).trans rfl
   have l1 := (blk_cell hl 1).trans rfl
   have l2 := (blk_cell hl 2).trans rfl
   obtain rfl | rfl | rfl : v = 0 ∨ v = 1 ∨ v = 2 := by omega
   · go_wp2
     refine bodyPost_ret (results_cell_row rfl _ _ w.heap.size 36 #[.int .i64 (wrap64 (1 + a1)), .int .i64 (0), .int .i64 (wrap64 (1 + a3)), .int .i64 (a4)] (0, 0) _ rfl (recPut4 (blk_far hb hne2 _) _ _ _ _) Try.underlying36 rfl (by kernel_rfl)) rfl ?_
     exact ⟨rfl, recEnd1 (recEnd1 (recEnd1 (recEnd1 (recEnd1 HE6.out (show w.heap.size ≤ w4.heap.size by omega) hL hgl 1 _) (Nat.le_refl _) hL hgl 0 _) (Nat.le_refl _) hL hgl 1 _) (Nat.le_refl _) hL hgl 2 _) (Nat.le_refl _) hL hgl 3 _⟩
   · go_wp2
     refine bodyPost_ret (results_cell_row rfl _ _ w.heap.size 36 #[.int .i64 (wrap64 (1 + a1)), .int .i64 (600), .int .i64 (wrap64 (1 + a3)), .int .i64 (a4)] (0, 0) _ rfl (recPut4 (blk_far hb hne2 _) _ _ _ _) Try.underlying36 rfl (by kernel_rfl)) rfl ?_
     exact ⟨rfl, recEnd1 (recEnd1 (recEnd1 (recEnd1 (recEnd1 HE6.out (show w.heap.size ≤ w4.heap.size by omega) hL hgl 1 _) (Nat.le_refl _) hL hgl 0 _) (Nat.le_refl _) hL hgl 1 _) (Nat.le_refl _) hL hgl 2 _) (Nat.le_refl _) hL hgl 3 _⟩
   · go_wp2
     refine bodyPost_ret (results_cell_row rfl _ _ w.heap.size 36 #[.int .i64 (wrap64 (1 + a1)), .int .i64 (601), .int .i64 (wrap64 (1 + a3)), .int .i64 (a4)] (0, 0) _ rfl (recPut4 (blk_far hb hne2 _) _ _ _ _) Try.underlying36 rfl (by kernel_rfl)) rfl ?_
     exact ⟨rfl, recEnd1 (recEnd1 (recEnd1 (recEnd1 (recEnd1 HE6.out (show w.heap.size ≤ w4.heap.size by omega) hL hgl 1 _) (Nat.le_refl _) hL hgl 0 _) (Nat.le_refl _) hL hgl 1 _) (Nat.le_refl _) hL hgl 2 _) (Nat.le_refl _) hL hgl 3 _⟩
 rw [if_neg n1] at h
 by_cases n2 : a5 = 2
 · rw [if_pos n2] at h
   obtain ⟨⟨v, q⟩, h6, h⟩ := Option.bind_eq_some_iff.1 ((Option.bind_some _ _).symm.trans h)
   obtain ⟨hv0, hv1, h⟩ := recSome h
   simp only [Prod.mk.injEq] at h
   obtain ⟨rfl, rfl, rfl, rfl, rfl⟩ := h
   subst n2
   clear n0 n1
   replace hv1 : v < 2 := hv1
   go_wp2_with fail
   refine (spec_l6Rd_pick.calls k g s0_0 p5 2 v q w0 _ (hI5.alloc _) (below_alloc hB5 _) h6).mono ?_
   rintro e w6 ⟨rfl, hI6, hB6, hK6⟩
   have hl6 := hI5.lt
   have hlx := blk_lt hx
   have hl := recKb (blk_new w5 _) hK6 (show w5.heap.size ≠ g by omega)
   replace hb := recKb (blk_alloc hb _) hK6 (show w.heap.size ≠ g by omega)
   replace hx := recKb (blk_alloc hx _) hK6 (show w4.heap.size ≠ g by omega)
   have HE6 := am (And.intro hI6 (And.intro hB6 (KeepBut.trans (keep_alloc HE.out.2.2 _) hK6 (.inl rfl))))
   clear hI5 hB5 hI6 hB6 hK6 h6 HE
   have x0 := (blk_cell hx 0).trans rfl
   have x1 := (blk_cell hx 1).trans rfl
   have x2 := (blk_cell hx 2).trans rfl
   have x3 := (blk_cell hx 3).trans rfl
   have y0 := (blk_cell hb 0).trans rfl
   have y1 := (blk_cell hb 1).trans rfl
   have y2 := (blk_cell hb 2).trans rfl
   have y3 := (blk_cell hb 3).trans rfl
   have g0 := blk_frozen hb 0
   have g1 := blk_frozen hb 1
   have g2 := blk_frozen hb 2
   have g3 := blk_frozen hb 3
   have fx := blk_frozen hx 2
   have l0 := (blk_cell hl 0).trans rfl
   have l1 := (blk_cell hl 1).trans rfl
   obtain rfl | rfl : v = 0 ∨ v = 1 := by omega
   · go_wp2
     refine bodyPost_ret (results_cell_row rfl _ _ w.heap.size 36 #[.int .i64 (wrap64 (1 + a1)), .int .i64 (wrap64 (1 + a2)), .int .i64 (0), .int .i64 (a4)] (0, 0) _ rfl (recPut4 (blk_far hb hne2 _) _ _ _ _) Try.underlying36 rfl (by kernel_rfl)) rfl ?_
     exact ⟨rfl, recEnd1 (recEnd1 (recEnd1 (recEnd1 (recEnd1 HE6.out (show w.heap.size ≤ w4.heap.size by omega) hL hgl 2 _) (Nat.le_refl _) hL hgl 0 _) (Nat.le_refl _) hL hgl 1 _) (Nat.le_refl _) hL hgl 2 _) (Nat.le_refl _) hL hgl 3 _⟩
   · go_wp2
     refine bodyPost_ret (results_cell_row rfl _ _ w.heap.size 36 #[.int .i64 (wrap64 (1 + a1)), .int .i64 (wrap64 (1 + a2)), .int .i64 (7), .int .i64 (a4)] (0, 0) _ rfl (recPut4 (blk_far hb hne2 _) _ _ _ _) Try.underlying36 rfl (by kernel_rfl)) rfl ?_
     exact ⟨rfl, recEnd1 (recEnd1 (recEnd1 (recEnd1 (recEnd1 HE6.out (show w.heap.size ≤ w4.heap.size by omega) hL hgl 2 _) (Nat.le_refl _) hL hgl 0 _) (Nat.le_refl _) hL hgl 1 _) (Nat.le_refl _) hL hgl 2 _) (Nat.le_refl _) hL hgl 3 _⟩
 rw [if_neg n2] at h
 by_cases n3 : a5 = 3
 · rw [if_pos n3] at h
   obtain ⟨⟨v, q⟩, h6, h⟩ := Option.bind_eq_some_iff.1 ((Option.bind_some _ _).symm.trans h)
   obtain ⟨hv0, hv1, h⟩ := recSome h
   simp only [Prod.mk.injEq] at h
   obtain ⟨rfl, rfl, rfl, rfl, rfl⟩ := h
   subst n3
   clear n0 n1 n2
   replace hv1 : v < 2 := hv1
   go_wp2_with fail
   refine (spec_l6Rd_pick.calls k g s0_0 p5 2 v q w0 _ (hI5.alloc _) (below_alloc hB5 _) h6).mono ?_
   rintro e w6 ⟨rfl, hI6, hB6, hK6⟩
   have hl6 := hI5.lt
   have hlx := blk_lt hx
   have hl := recKb (blk_new w5 _) hK6 (show w5.heap.size ≠ g by omega)
   replace hb := recKb (blk_alloc hb _) hK6 (show w.heap.size ≠ g by omega)
   replace hx := recKb (blk_alloc hx _) hK6 (show w4.heap.size ≠ g by omega)
   have HE6 := am (And.intro hI6 (And.intro hB6 (KeepBut.trans (keep_alloc HE.out.2.2 _) hK6 (.inl rfl))))
   clear hI5 hB5 hI6 hB6 hK6 h6 HE
   have x0 := (blk_cell hx 0).trans rfl
   have x1 := (blk_cell hx 1).trans rfl
   have x2 := (blk_cell hx 2).trans rfl
   have x3 := (blk_cell hx 3).trans rfl
   have y0 := (blk_cell hb 0).trans rfl
   have y1 := (blk_cell hb 1).trans rfl
   have y2 := (blk_cell hb 2).trans rfl
   have y3 := (blk_cell hb 3).trans rfl
   have g0 := blk_frozen hb 0
   have g1 := blk_frozen hb 1
   have g2 := blk_frozen hb 2
   have g3 := blk_frozen hb 3
   have fx := blk_frozen hx 3
   have l0 := (blk_cell hl 0).trans rfl
   have l1 := (blk_cell hl 1).trans rfl
   obtain rfl | rfl : v = 0 ∨ v = 1 := by omega
   · go_wp2
     refine bodyPost_ret (results_cell_row rfl _ _ w.heap.size 36 #[.int .i64 (wrap64 (1 + a1)), .int .i64 (wrap64 (1 + a2)), .int .i64 (wrap64 (1 + a3)), .int .i64 (-1)] (0, 0) _ rfl (recPut4 (blk_far hb hne2 _) _ _ _ _) Try.underlying36 rfl (by kernel_rfl)) rfl ?_
     exact ⟨rfl, recEnd1 (recEnd1 (recEnd1 (recEnd1 (recEnd1 HE6.out (show w.heap.size ≤ w4.heap.size by omega) hL hgl 3 _) (Nat.le_refl _) hL hgl 0 _) (Nat.le_refl _) hL hgl 1 _) (Nat.le_refl _) hL hgl 2 _) (Nat.le_refl _) hL hgl 3 _⟩
   · go_wp2
     refine bodyPost_ret (results_cell_row rfl _ _ w.heap.size 36 #[.int .i64 (wrap64 (1 + a1)), .int .i64 (wrap64 (1 + a2)), .int .i64 (wrap64 (1 + a3)), .int .i64 (10)] (0, 0) _ rfl (recPut4 (blk_far hb hne2 _) _ _ _ _) Try.underlying36 rfl (by kernel_rfl)) rfl ?_
     exact ⟨rfl, recEnd1 (recEnd1 (recEnd1 (recEnd1 (recEnd1 HE6.out (show w.heap.size ≤ w4.heap.size by omega) hL hgl 3 _) (Nat.le_refl _) hL hgl 0 _) (Nat.le_refl _) hL hgl 1 _) (Nat.le_refl _) hL hgl 2 _) (Nat.le_refl _) hL hgl 3 _⟩
 rw [if_neg n3] at h
 simp only [Option.some.injEq, Prod.mk.injEq] at h
 obtain ⟨rfl, rfl, rfl, rfl, rfl⟩ := h
 have e0 : (a5 == 0) = false := beq_eq_false_iff_ne.mpr n0
 have e1 : (a5 == 1) = false := beq_eq_false_iff_ne.mpr n1
 have e2 : (a5 == 2) = false := beq_eq_false_iff_ne.mpr n2
 have e3 : (a5 == 3) = false := beq_eq_false_iff_ne.mpr n3
 clear n0 n1 n2 n3
 have x0 := (blk_cell hx 0).trans rfl
 have x1 := (blk_cell hx 1).trans rfl
 have x2 := (blk_cell hx 2).trans rfl
 have x3 := (blk_cell hx 3).trans rfl
 have y0 := (blk_cell hb 0).trans rfl
 have y1 := (blk_cell hb 1).trans rfl
 have y2 := (blk_cell hb 2).trans rfl
 have y3 := (blk_cell hb 3).trans rfl
 have g0 := blk_frozen hb 0
 have g1 := blk_frozen hb 1
 have g2 := blk_frozen hb 2
 have g3 := blk_frozen hb 3
 go_wp2
 refine bodyPost_ret (results_cell_row rfl _ _ w.heap.size 36 #[.int .i64 (wrap64 (1 + a1)), .int .i64 (wrap64 (1 + a2)), .int .i64 (wrap64 (1 + a3)), .int .i64 (a4)] (0, 0) _ rfl (recPut4 hb _ _ _ _) Try.underlying36 rfl (by kernel_rfl)) rfl ?_
 exact ⟨rfl, recEnd1 (recEnd1 (recEnd1 (recEnd1 HE.out (Nat.le_refl _) hL hgl 0 _) (Nat.le_refl _) hL hgl 1 _) (Nat.le_refl _) hL hgl 2 _) (Nat.le_refl _) hL hgl 3 _⟩
end Go.Proofs.Ytbhchamohldehaa.P4
