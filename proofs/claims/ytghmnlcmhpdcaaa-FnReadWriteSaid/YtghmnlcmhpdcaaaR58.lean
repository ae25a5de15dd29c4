-- printed by wip/pp/pp.py
import Derived.Test.YtghmnlcmhpdcaaaR50
import Derived.Test.YtghmnlcmhpdcaaaR57
namespace Go.Proofs.Ytghmnlcmhpdcaaa.R5
open Go.RowKit Go.Proofs.YtghmnlcmhpdcaaaW.PrintWords Go.Proofs.YtghmnlcmhpdcaaaW.PrintLast Go.Proofs.YtghmnlcmhpdcaaaW.PrintMore
attribute [local go_sem] max2_int min2_int max_two min_two max_three min_three max_four min_four
set_option linter.unusedVariables false
set_option linter.unusedSimpArgs false
def spec_l71Play.l0 : Nat → List (S87) → Int → List Int → Int → List (S54) → List Int → Option ((List (S87)) × (List (S54)) × List Int × Int)
 | 0, _, _, _, _, _, _ => none
 | k + 1, x5, x6, x1000, x1001, x334000, x334001 => if x6 > 0 then ((spec_l71Event.f k x1000 x1001).bind fun bt339 => (if x5.length < 3518437208883 then ((spec_l21Do.f k x334000 x334001 bt339.1 bt339.2.1 bt339.2.2.1 bt339.2.2.2.1 bt339.2.2.2.2.1).bind fun bt349 => (spec_l71Play.l0 k (x5 ++ [(⟨bt339.1, bt339.2.1, bt339.2.2.1, bt339.2.2.2.1, bt339.2.2.2.2.1⟩ : S87)]) (wrap64 (x6 - 1)) x1000 bt339.2.2.2.2.2 bt349.1 bt349.2)) else (none))) else (some (x5, x334000, x334001, x1001))
def spec_l71Play.f (k : Nat) (s0_0 : List Int) (s0_1 : Int) : Option ((List (S87)) × (List (S54)) × List Int × Int) := (spec_StoreNew.f k).bind fun bt327 => ((spec_l6Rd_pick.f k s0_0 s0_1 58).bind fun bt337 => (spec_l71Play.l0 k (([] : List (S87))) bt337.1 s0_0 bt337.2 bt327.1 bt327.2))
theorem spec_l71Play.mono_l : ∀ k, (∀ y0 y1 y2 y3 y4 y5, LeO (spec_l71Play.l0 k y0 y1 y2 y3 y4 y5) (spec_l71Play.l0 (k + 1) y0 y1 y2 y3 y4 y5))
 | 0 => fun _ _ _ _ _ _ r h => by simp [spec_l71Play.l0] at h
 | k + 1 => by
  have ih0 := spec_l71Play.mono_l k
  · intro y0 y1 y2 y3 y4 y5
    unfold spec_l71Play.l0
    with_reducible repeat' first | exact ih0 _ _ _ _ _ _ | exact spec_StoreNew.mono _ | exact spec_l21Do.mono _ _ _ _ _ _ _ _ | exact spec_l6Rd_pick.mono _ _ _ _ | exact spec_l71Event.mono _ _ _ | exact LeO.refl _ | exact LeO.none _ | refine LeO.ite ?_ ?_ | refine LeO.bind ?_ (fun _ => ?_)
theorem spec_l71Play.mono : ∀ a0 a1 k, LeO (spec_l71Play.f k a0 a1) (spec_l71Play.f (k + 1) a0 a1) := by
 intro a0 a1 k
 have ih0 := spec_l71Play.mono_l k
 unfold spec_l71Play.f
 with_reducible repeat' first | exact ih0 _ _ _ _ _ _ | exact spec_StoreNew.mono _ | exact spec_l21Do.mono _ _ _ _ _ _ _ _ | exact spec_l6Rd_pick.mono _ _ _ _ | exact spec_l71Event.mono _ _ _ | exact LeO.refl _ | exact LeO.none _ | refine LeO.ite ?_ ?_ | refine LeO.bind ?_ (fun _ => ?_)
set_option maxHeartbeats 8000000 in
set_option maxRecDepth 100000 in
theorem spec_l71Play.calls (k : Nat) (g : Nat) (s0_0 : List Int) (s0_1 : Int) (r1 : List (S87)) (r2 : List (S54)) (r3 : List Int) (r4 : Int) (w0 w : World) (hI : IsS69 w0 w g s0_0 s0_1) (hB : Below w0.heap.size w0 w) (h : spec_l71Play.f k s0_0 s0_1 = some (r1, r2, r3, r4)) :
 Calls Try.prog 34 #[.pointer (some ⟨g, 0, none⟩)] w fun e w' => ∃ v0_ v1_ v2_ : Value, e = .returned (.tuple #[v0_, .agg #[v1_, v2_]]) ∧ Kd.R k87 87 w' w.heap.size (fun _ => True) v0_ r1 ∧ Kd.S k54 54 w' w.heap.size (fun _ => True) v1_ r2 ∧ Kd.R (Kd.int .i64) 3 w' w.heap.size (fun _ => True) v2_ r3 ∧ IsS69 w0 w' g s0_0 r4 ∧ Below w0.heap.size w0 w' ∧ KeepBut w w' g none := by
 have hu26 := Try.underlying26
 have hu87 := Try.underlying87
 have HI0 := am hI
 have HK := am (KeepBut.refl w g none)
 have HL := am hB.size
 clear hI
 have HW0 := am hB.size
 have HB := am hB
 clear hB
 have H : ((spec_StoreNew.f k).bind fun bt327 => ((spec_l6Rd_pick.f k s0_0 s0_1 58).bind fun bt337 => (spec_l71Play.l0 k (([] : List (S87))) bt337.1 s0_0 bt337.2 bt327.1 bt327.2))) = some (r1, r2, r3, r4) := h
 clear h
 replace H := Option.bind_eq_some_iff.mp H
 obtain ⟨⟨t327, t330⟩, A20, H⟩ := H
 have A2 := am A20
 clear A20
 obtain ⟨y334, hy334⟩ : ∃ y_ : List (S87), y_ = (([] : List (S87))) := ⟨_, rfl⟩
 replace H : ((spec_l6Rd_pick.f k s0_0 s0_1 58).bind fun bt337 => (spec_l71Play.l0 k y334 bt337.1 s0_0 bt337.2 t327 t330)) = some (r1, r2, r3, r4) := yy hy334 H
 have Ny334 := am hy334
 clear hy334
 replace H := Option.bind_eq_some_iff.mp H
 obtain ⟨⟨t337, t338⟩, A30, H⟩ := H
 have A3 := am A30
 clear A30
 have H' := am H
 clear H
 go_enter Try.func34, Try.ntmps34
 go_wp2_with (first | (refine bx 3 #[.slice none 0 0, .slice none 0 0] 26 rfl ?_; intro gb326 hg w4 hbox hb; replace HB := am (below_step (bg1 HB.out (IsS69.ge HI0.out)) hb); have BK326 := am (hbox); have GW326 := am (gk hg (kb0 HK.out)); have GE326 := am (Nat.le_trans HW0.out GW326.out); replace HK := am (KeepBut.trans (kb0 HK.out) (KeepBut.of_below hb g none) (.inl rfl)); have NB0_326 := am (nl hg (IsS69.lt (IsS69.g0 HI0.out))); have NB326_0 := am (Ne.symm NB0_326.out); replace HI0 := am (IsS69.below (IsS69.g0 HI0.out) hb); clear hb hbox hg) | (refine gl 8 Try.func46 #[] rfl ?_; (with_reducible refine (spec_StoreNew.calls k  t327 t330 _ A2.out).mono ?_); rintro e w5 ⟨v328, v331, rfl, ho0, ho1, hb⟩; refine ⟨_, rfl, ?_⟩; have HO329 := am (Kd.S_lower ho0 (keep_size (kb1 HK.out GW326.out))); have HO332 := am (Kd.R_lower ho1 (keep_size (kb1 HK.out GW326.out))); replace BK326 := am (blk_below (pb BK326.out) hb); replace HK := am (KeepBut.trans (kb1 HK.out GW326.out) (KeepBut.of_below hb g none) (.inl rfl)); replace HB := am (below_step (bg2 HB.out (IsS69.ge HI0.out) GE326.out) hb); replace HI0 := am (IsS69.below (IsS69.g1 HI0.out NB0_326.out) hb); clear hb ho0 ho1) | (refine bx 4 #[.slice none 0 0, .slice none 0 0] 26 rfl ?_; intro gb333 hg w6 hbox hb; replace HO329 := am (Kd.S_below (ps HO329.out) hb); replace HO332 := am (Kd.R_below (pr HO332.out) hb); replace HB := am (below_step (bg2 HB.out (IsS69.ge HI0.out) GE326.out) hb); have BK333 := am (hbox); have GW333 := am (gk hg (kb1 HK.out GW326.out)); have GE333 := am (Nat.le_trans HW0.out GW333.out); replace HK := am (KeepBut.trans (kb1 HK.out GW326.out) (KeepBut.of_below hb g none) (.inl rfl)); have NB326_333 := am (nb hg (pb BK326.out)); have NB333_326 := am (Ne.symm NB326_333.out); replace BK326 := am (blk_below (pb BK326.out) hb); have NB0_333 := am (nl hg (IsS69.lt (IsS69.g1 HI0.out NB0_326.out))); have NB333_0 := am (Ne.symm NB0_333.out); replace HI0 := am (IsS69.below (IsS69.g1 HI0.out NB0_326.out) hb); clear hb hbox hg; obtain ⟨Ao7, co7, eo7⟩ := Kd.S_slice HO329.out; subst eo7; have hnb8 := NB333_326.out; have hnc8 := NB326_333.out; have hnb9 := NB333_0.out; have hnc9 := NB0_333.out; obtain ⟨hcz10_0, hcz10_1⟩ := b2 BK333.out; obtain ⟨hfz10_0, hfz10_1⟩ := f2 BK333.out; obtain ⟨Ao11, co11, eo11⟩ := Kd.R_slice HO332.out; subst eo11) | ((with_reducible refine gate_dst (N := 9) rfl ?_); refine Kd.R_lit k87 _ 87 ?hg (N := 9) ?hd (xs := ([] : List (S87))) (inner := []) (ok := fun _ => True) (okp := fun _ => True) ?hr ?hp (fun _ hk => hk) trivial (Below.refl _ _) (Nat.le_refl _) (by simp) ?_; (case hd => rfl); (case hg => rfl); (case hr => first | (go_simp; done) | (go_simp; rfl)); (case hp => exact (Reps.none _ _)); intro v335 w12 ho13 hb hg_ hnew_; clear hg_ hnew_; (first | rw [← Ny334.out] at ho13 | (simp only [Int.reduceToNat] at ho13; rw [← Ny334.out] at ho13)); replace HO329 := am (Kd.S_below (ps ((Kd.S_mono (Kd.S_far (p := ⟨gb333, 1, none⟩) (Kd.S_far (p := ⟨gb333, 0, none⟩) (Kd.S_types HO329.out BK333.out (by decide)) (fun _ hk => hk.2) (.slice Ao7 t327.length co7)) (fun _ hk => hk.2) (.slice Ao11 t330.length co11)) (fun _ h_ => h_.1)))) hb); replace HO332 := am (Kd.R_below (pr ((Kd.R_mono (Kd.R_far (p := ⟨gb333, 1, none⟩) (Kd.R_far (p := ⟨gb333, 0, none⟩) (Kd.R_types HO332.out BK333.out (by decide)) (fun _ hk => hk.2) (.slice Ao7 t327.length co7)) (fun _ hk => hk.2) (.slice Ao11 t330.length co11)) (fun _ h_ => h_.1)))) hb); have HO336 := am (Kd.R_lower ho13 (keep_size (kb2 HK.out GW326.out GW333.out))); replace BK326 := am (blk_below (bf2 (pb BK326.out) NB326_333.out) hb); replace BK333 := am (blk_below (bp2 (pb BK333.out)) hb); replace HK := am (KeepBut.trans (kb2 HK.out GW326.out GW333.out) (KeepBut.of_below hb g none) (.inl rfl)); replace HB := am (below_step (bg3 HB.out (IsS69.ge HI0.out) GE326.out GE333.out) hb); replace HI0 := am (IsS69.below (show IsS69 w0 ((w6.setCell ⟨gb333, 0, none⟩ (.slice Ao7 t327.length co7)).setCell ⟨gb333, 1, none⟩ (.slice Ao11 t330.length co11)) g s0_0 s0_1 from IsS69.g2 HI0.out NB0_326.out NB0_333.out) hb); clear hb ho13) | (refine gl 11 Try.func16 #[.pointer (some ⟨g, 0, none⟩), .int .i64 58] rfl ?_; (with_reducible refine (spec_l6Rd_pick.calls k g s0_0 s0_1 58 t337 t338 w0 _ ?side1 ?side2 A3.out).mono ?_); (case side1 => exact IsS69.g2 HI0.out NB0_326.out NB0_333.out); (case side2 => exact bg3 HB.out (IsS69.ge HI0.out) GE326.out GE333.out); rintro e w14 ⟨rfl, hi, hb, hk⟩; refine ⟨_, rfl, ?_⟩; replace BK326 := am (KeepBut.blk hk (pb BK326.out) NB326_0.out (by simp)); replace HO329 := am (Kd.S_mono (Kd.S_keep (IsS69.apartS (IsS69.g2 HI0.out NB0_326.out NB0_333.out) (ps HO329.out) (by decide)) hk (fun _ h => h.2)) (fun _ h => h.1)); replace HO332 := am (Kd.R_mono (Kd.R_keep (IsS69.apart (IsS69.g2 HI0.out NB0_326.out NB0_333.out) (pr HO332.out) (by decide)) hk (fun _ h => h.2)) (fun _ h => h.1)); replace BK333 := am (KeepBut.blk hk (pb BK333.out) NB333_0.out (by simp)); replace HO336 := am (Kd.R_mono (Kd.R_keep (IsS69.apart (IsS69.g2 HI0.out NB0_326.out NB0_333.out) (pr HO336.out) (by decide)) hk (fun _ h => h.2)) (fun _ h => h.1)); replace HK := am (KeepBut.trans (kb2 HK.out GW326.out GW333.out) hk (.inl rfl)); replace HB := am (hb); replace HI0 := am (hi); clear hb hk hi))
 go_loopg [5, 6] k (fun kq v5 v6 w' => ∃ (x5_1 : List (S87)) (x6_1 : Int) (x1001_1 : Int) (x334000_1 : List (S54)) (x334001_1 : List Int) (u334000 : Value) (u334001 : Value), v6 = .int .i64 x6_1 ∧ Aside0 (spec_l71Play.l0 kq x5_1 x6_1 s0_0 x1001_1 x334000_1 x334001_1 = some (r1, r2, r3, r4)) ∧ Aside0 (kq ≤ k) ∧ Aside0 (Kd.R k87 87 w' w.heap.size (fun _ => True) v5 x5_1) ∧ Aside0 (Kd.S k54 54 w' w.heap.size (fun _ => True) u334000 x334000_1) ∧ Aside0 (Kd.R (Kd.int .i64) 3 w' w.heap.size (fun _ => True) u334001 x334001_1) ∧ Aside0 (w'.heap[gb326]? = some (.cells #[(.slice none 0 0), (.slice none 0 0)] 26 (0, 0))) ∧ Aside0 (w'.heap[gb333]? = some (.cells #[u334000, u334001] 26 (0, 0))) ∧ Aside0 (IsS69 w0 w' g s0_0 x1001_1) ∧ Aside0 (KeepBut w w' g none) ∧ Aside0 (Below w0.heap.size w0 w'))
 case atStart => exact ⟨(y334), (t337), (t338), (t327), (t330), (.slice Ao7 t327.length co7), (.slice Ao11 t330.length co11), rf, H', ⟨Nat.le_refl _⟩, ⟨pr HO336.out⟩, ⟨ps HO329.out⟩, ⟨pr HO332.out⟩, ⟨pb BK326.out⟩, ⟨pb BK333.out⟩, ⟨IsS69.g2 HI0.out NB0_326.out NB0_333.out⟩, ⟨kb2 HK.out GW326.out GW333.out⟩, ⟨bg3 HB.out (IsS69.ge HI0.out) GE326.out GE333.out⟩⟩
 case round =>
  clear H'
  obtain ⟨x5_1, x6_1, x1001_1, x334000_1, x334001_1, u334000, u334001, rfl, HA, HK1, HO_5, HO_334000, HO_334001, BK326, BK333, HI0, HK, HB⟩ := hrel
  cases gk with
  | zero => exact absurd HA.out (by simp [spec_l71Play.l0])
  | succ k1 =>
   have H := HA.out
   clear HA
   simp only [spec_l71Play.l0] at H
   by_cases c15 : x6_1 > 0
   rotate_left
   · rw [if_neg c15] at H
     have c15b0 := decide_eq_false c15
     clear c15
     simp only [Option.some.injEq, Prod.mk.injEq] at H
     obtain ⟨rfl, rfl, rfl, rfl⟩ := H
     try go_wp2
     replace HO_5 := am (Kd.R_drew HO_5.out)
     replace HO_334000 := am (Kd.S_drew HO_334000.out)
     replace HO_334001 := am (Kd.R_drew HO_334001.out)
     replace BK326 := am (blk_drew BK326.out)
     replace BK333 := am (blk_drew BK333.out)
     replace HI0 := am (IsS69.drew HI0.out)
     replace HK := am (keep_drew HK.out)
     replace HB := am (below_drew1 HB.out)
     obtain ⟨Ao38, co38, eo38⟩ := Kd.S_slice HO_334000.out
     (first | subst eo38 | (injection eo38 with f1_ f2_ f3_; have f4_ := f1_.symm; have f5_ := f3_.symm; clear f1_ f2_ f3_; subst f4_; subst f5_))
     obtain ⟨Ao40, co40, eo40⟩ := Kd.R_slice HO_334001.out
     (first | subst eo40 | (injection eo40 with f1_ f2_ f3_; have f4_ := f1_.symm; have f5_ := f3_.symm; clear f1_ f2_ f3_; subst f4_; subst f5_))
     refine start_ (n := 4) (S := fun w' => w'.cell? ⟨gb333, 0, none⟩ = some (.slice Ao38 x334000_1.length co38) ∧ w'.cell? ⟨gb333, 1, none⟩ = some (.slice Ao40 x334001_1.length co40)) (ds := []) (bt 4 0) (by kernel_rfl) rfl rfl ⟨(blk_cell BK333.out 0).trans rfl, (blk_cell BK333.out 1).trans rfl⟩ (fun hHeld => ?_)
     generalize wr.drew = w37 at HO_5 HO_334000 HO_334001 BK326 BK333 HI0 HK HB hHeld ⊢
     refine pi_ 0 25 (bt 4 1) rfl rfl (fun _ _ _ h => h) ?_
     refine pi_ 2 2 (bt 4 5) rfl rfl (fun _ _ _ h => h) ?_
     refine pm_ 1 26 (bt 4 7) rfl rfl (by kernel_rfl) (fun _ _ _ h => h) hHeld ?_
     refine one_ (i := 3) (N := none) (bt 4 15) rfl rfl (by kernel_rfl) (by decide) (fun K hK => ?_)
     have hs39 : w37.cell? ⟨gb326, 0, none⟩ = some (.slice none 0 0) := (blk_cell BK326.out 0).trans rfl
     have hfs39 := blk_frozen BK326.out 0
     have hns39_1 := NB333_326.out
     have hms39_1 := NB326_333.out
     have hs41 : w37.cell? ⟨gb326, 1, none⟩ = some (.slice none 0 0) := (blk_cell BK326.out 1).trans rfl
     have hfs41 := blk_frozen BK326.out 1
     have hns41_1 := NB333_326.out
     have hms41_1 := NB326_333.out
     refine qs rfl ?_
     refine hK.out _ _ ⟨((cell_far (p := ⟨gb326, _, none⟩) NB333_326.out _).trans (((cell_far (p := ⟨gb326, _, none⟩) NB333_326.out _).trans (hHeld.1)))), ((cell_far (p := ⟨gb326, _, none⟩) NB333_326.out _).trans (((cell_far (p := ⟨gb326, _, none⟩) NB333_326.out _).trans (hHeld.2))))⟩ (fun hHeld => ?_)
     clear hK K
     refine done_ (by kernel_rfl) ?_
     try go_wp2
     refine bodyPost_ret (results_tc rfl _ _ gb326 26 #[.slice Ao38 x334000_1.length co38, .slice Ao40 x334001_1.length co40] (0, 0) _ rfl (bp2 (pb BK326.out)) Try.underlying26 rfl (by kernel_rfl)) rfl ?_
     exact ⟨_, _, _, rq ⟨pr (Kd.R_mono (Kd.R_far (p := ⟨gb326, 1, none⟩) (Kd.R_far (p := ⟨gb326, 0, none⟩) (Kd.R_types HO_5.out BK326.out (by decide)) (fun _ hk => hk.2) (.slice Ao38 x334000_1.length co38)) (fun _ hk => hk.2) (.slice Ao40 x334001_1.length co40)) (fun _ hk => trivial)), ps (Kd.S_mono (Kd.S_far (p := ⟨gb326, 1, none⟩) (Kd.S_far (p := ⟨gb326, 0, none⟩) (Kd.S_types HO_334000.out BK326.out (by decide)) (fun _ hk => hk.2) (.slice Ao38 x334000_1.length co38)) (fun _ hk => hk.2) (.slice Ao40 x334001_1.length co40)) (fun _ hk => trivial)), pr (Kd.R_mono (Kd.R_far (p := ⟨gb326, 1, none⟩) (Kd.R_far (p := ⟨gb326, 0, none⟩) (Kd.R_types HO_334001.out BK326.out (by decide)) (fun _ hk => hk.2) (.slice Ao38 x334000_1.length co38)) (fun _ hk => hk.2) (.slice Ao40 x334001_1.length co40)) (fun _ hk => trivial)), IsS69.g2 HI0.out NB0_326.out NB0_333.out, bg3 HB.out (IsS69.ge HI0.out) GE326.out GE333.out, kb2 HK.out GW326.out GW333.out⟩⟩
   rw [if_pos c15] at H
   have c15b0 := decide_eq_true c15
   clear c15
   replace H := Option.bind_eq_some_iff.mp H
   obtain ⟨⟨t339, t340, t341, t342, t343, t344⟩, A160, H⟩ := H
   have A16 := am A160
   clear A160
   by_cases c17 : x5_1.length < 3518437208883
   rotate_left
   · rw [if_neg c17] at H
     exact absurd H (by simp)
   rw [if_pos c17] at H
   have LMc17 := am c17
   clear c17
   obtain ⟨y346, hy346⟩ : ∃ y_ : List (S87), y_ = (x5_1 ++ [(⟨t339, t340, t341, t342, t343⟩ : S87)]) := ⟨_, rfl⟩
   replace H : ((spec_l21Do.f k1 x334000_1 x334001_1 t339 t340 t341 t342 t343).bind fun bt349 => (spec_l71Play.l0 k1 y346 (wrap64 (x6_1 - 1)) s0_0 t344 bt349.1 bt349.2)) = some (r1, r2, r3, r4) := yy hy346 H
   have Ny346 := am hy346
   clear hy346
   replace H := Option.bind_eq_some_iff.mp H
   obtain ⟨⟨t349, t352⟩, A180, H⟩ := H
   have A18 := am A180
   clear A180
   have H' := am H
   clear H
   go_wp2_with (first | (refine gl 17 Try.func47 #[.pointer (some ⟨g, 0, none⟩)] rfl ?_; (with_reducible refine (spec_l71Event.calls k1 g s0_0 x1001_1 t339 t340 t341 t342 t343 t344 w0 _ ?side1 ?side2 A16.out).mono ?_); (case side1 => exact IsS69.g2 HI0.out NB0_326.out NB0_333.out); (case side2 => exact bg3 HB.out (IsS69.ge HI0.out) GE326.out GE333.out); rintro e w19 ⟨rfl, hi, hb, hk⟩; refine ⟨_, rfl, ?_⟩; replace HO_5 := am (Kd.R_mono (Kd.R_keep (IsS69.apart (IsS69.g2 HI0.out NB0_326.out NB0_333.out) (pr HO_5.out) (by decide)) hk (fun _ h => h.2)) (fun _ h => h.1)); replace HO_334000 := am (Kd.S_mono (Kd.S_keep (IsS69.apartS (IsS69.g2 HI0.out NB0_326.out NB0_333.out) (ps HO_334000.out) (by decide)) hk (fun _ h => h.2)) (fun _ h => h.1)); replace HO_334001 := am (Kd.R_mono (Kd.R_keep (IsS69.apart (IsS69.g2 HI0.out NB0_326.out NB0_333.out) (pr HO_334001.out) (by decide)) hk (fun _ h => h.2)) (fun _ h => h.1)); replace BK326 := am (KeepBut.blk hk (pb BK326.out) NB326_0.out (by simp)); replace BK333 := am (KeepBut.blk hk (pb BK333.out) NB333_0.out (by simp)); replace HK := am (KeepBut.trans (kb2 HK.out GW326.out GW333.out) hk (.inl rfl)); replace HB := am (hb); replace HI0 := am (hi); clear hb hk hi) | (refine bx 7 #[.int .i64 0, .int .i64 0, .int .i64 0, .int .i64 0, .bool false] 87 rfl ?_; intro gb345 hg w20 hbox hb; replace HO_5 := am (Kd.R_below (Kd.R_elderB (pr HO_5.out) gb345 (Nat.le_of_eq hg.symm)) hb); replace HO_334000 := am (Kd.S_below (ps HO_334000.out) hb); replace HO_334001 := am (Kd.R_below (pr HO_334001.out) hb); replace HB := am (below_step (bg3 HB.out (IsS69.ge HI0.out) GE326.out GE333.out) hb); have BK345 := am (hbox); have GW345 := am (gk hg (kb2 HK.out GW326.out GW333.out)); have GE345 := am (Nat.le_trans HW0.out GW345.out); replace HK := am (KeepBut.trans (kb2 HK.out GW326.out GW333.out) (KeepBut.of_below hb g none) (.inl rfl)); have NB326_345 := am (nb hg (pb BK326.out)); have NB345_326 := am (Ne.symm NB326_345.out); replace BK326 := am (blk_below (pb BK326.out) hb); have NB333_345 := am (nb hg (pb BK333.out)); have NB345_333 := am (Ne.symm NB333_345.out); replace BK333 := am (blk_below (pb BK333.out) hb); have NB0_345 := am (nl hg (IsS69.lt (IsS69.g2 HI0.out NB0_326.out NB0_333.out))); have NB345_0 := am (Ne.symm NB0_345.out); replace HI0 := am (IsS69.below (IsS69.g2 HI0.out NB0_326.out NB0_333.out) hb); clear hb hbox hg; have hnb21 := NB345_326.out; have hnc21 := NB326_345.out; have hnb22 := NB345_333.out; have hnc22 := NB333_345.out; have hnb23 := NB345_0.out; have hnc23 := NB0_345.out; obtain ⟨hcz24_0, hcz24_1, hcz24_2, hcz24_3, hcz24_4⟩ := b5 BK345.out; obtain ⟨hfz24_0, hfz24_1, hfz24_2, hfz24_3, hfz24_4⟩ := f5 BK345.out) | ((with_reducible refine gate_builtin (b := .append) (xs := #[.tmp 18, .tmp 20]) rfl ?_); at_builtin; refine Kd.R_append k87 w.heap.size rfl (.tmp 18) (.tmp 20) 70 87 (.agg #[(.int .i64 0), (.int .i64 0), (.int .i64 0), (.int .i64 0), (.bool false)]) 40 rfl Try.underlying70 info87 rfl (by decide) (by omega) u5 x5_1 (⟨t339, t340, t341, t342, t343⟩ : S87) [.int .i64 t339, .int .i64 t340, .int .i64 t341, .int .i64 t342, .bool t343] (fun k_ => k_ ≠ gb345) (fun _ => False) rfl (by first | (go_simp; done) | (go_simp; rfl)) ?aP (fun _ hk => hk.elim) ?aF ?aO (Below.refl _ _) ?aS ?aL ?_; (case aP => exact k87_mkM _ _ _ (⟨t339, t340, t341, t342, t343⟩ : S87)); (case aF => exact (fun k_ hk => Kd.freshB (g := gb345) (o := .cells #[.int .i64 t339, .int .i64 t340, .int .i64 t341, .int .i64 t342, .bool t343] 87 (0, 0)) (bp5 (pb BK345.out)) k_ hk)); (case aO => exact (pr (Kd.R_mono (Kd.R_far (p := ⟨gb345, 4, none⟩) (Kd.R_far (p := ⟨gb345, 3, none⟩) (Kd.R_far (p := ⟨gb345, 2, none⟩) (Kd.R_far (p := ⟨gb345, 1, none⟩) (Kd.R_far (p := ⟨gb345, 0, none⟩) (Kd.R_mono HO_5.out (fun k_ hk => (⟨hk, hk.2⟩ : _ ∧ k_ ≠ gb345))) (fun _ hk => hk.2) (.int .i64 t339)) (fun _ hk => hk.2) (.int .i64 t340)) (fun _ hk => hk.2) (.int .i64 t341)) (fun _ hk => hk.2) (.int .i64 t342)) (fun _ hk => hk.2) (.bool t343)) (fun _ hk => hk.1.2)))); (case aS => exact (keep_size (kb3 HK.out GW326.out GW333.out GW345.out))); (case aL => have := LMc17.out; omega); intro v347 w25 ho hb hg hat; rw [← Ny346.out] at ho; replace HO_334000 := am (Kd.S_over' (ps ((Kd.S_mono (Kd.S_far (p := ⟨gb345, 4, none⟩) (Kd.S_far (p := ⟨gb345, 3, none⟩) (Kd.S_far (p := ⟨gb345, 2, none⟩) (Kd.S_far (p := ⟨gb345, 1, none⟩) (Kd.S_far (p := ⟨gb345, 0, none⟩) (Kd.S_types HO_334000.out BK345.out (by decide)) (fun _ hk => hk.2) (.int .i64 t339)) (fun _ hk => hk.2) (.int .i64 t340)) (fun _ hk => hk.2) (.int .i64 t341)) (fun _ hk => hk.2) (.int .i64 t342)) (fun _ hk => hk.2) (.bool t343)) (fun _ h_ => h_.1)))) (Kd.R_typed (pr ((Kd.R_mono (Kd.R_far (p := ⟨gb345, 4, none⟩) (Kd.R_far (p := ⟨gb345, 3, none⟩) (Kd.R_far (p := ⟨gb345, 2, none⟩) (Kd.R_far (p := ⟨gb345, 1, none⟩) (Kd.R_far (p := ⟨gb345, 0, none⟩) (Kd.R_mono HO_5.out (fun k_ hk => (⟨hk, hk.2⟩ : _ ∧ k_ ≠ gb345))) (fun _ hk => hk.2) (.int .i64 t339)) (fun _ hk => hk.2) (.int .i64 t340)) (fun _ hk => hk.2) (.int .i64 t341)) (fun _ hk => hk.2) (.int .i64 t342)) (fun _ hk => hk.2) (.bool t343)) (fun _ h_ => h_.1))))) (by decide) hg); replace HO_334001 := am (Kd.R_over' (pr ((Kd.R_mono (Kd.R_far (p := ⟨gb345, 4, none⟩) (Kd.R_far (p := ⟨gb345, 3, none⟩) (Kd.R_far (p := ⟨gb345, 2, none⟩) (Kd.R_far (p := ⟨gb345, 1, none⟩) (Kd.R_far (p := ⟨gb345, 0, none⟩) (Kd.R_types HO_334001.out BK345.out (by decide)) (fun _ hk => hk.2) (.int .i64 t339)) (fun _ hk => hk.2) (.int .i64 t340)) (fun _ hk => hk.2) (.int .i64 t341)) (fun _ hk => hk.2) (.int .i64 t342)) (fun _ hk => hk.2) (.bool t343)) (fun _ h_ => h_.1)))) (Kd.R_typed (pr ((Kd.R_mono (Kd.R_far (p := ⟨gb345, 4, none⟩) (Kd.R_far (p := ⟨gb345, 3, none⟩) (Kd.R_far (p := ⟨gb345, 2, none⟩) (Kd.R_far (p := ⟨gb345, 1, none⟩) (Kd.R_far (p := ⟨gb345, 0, none⟩) (Kd.R_mono HO_5.out (fun k_ hk => (⟨hk, hk.2⟩ : _ ∧ k_ ≠ gb345))) (fun _ hk => hk.2) (.int .i64 t339)) (fun _ hk => hk.2) (.int .i64 t340)) (fun _ hk => hk.2) (.int .i64 t341)) (fun _ hk => hk.2) (.int .i64 t342)) (fun _ hk => hk.2) (.bool t343)) (fun _ h_ => h_.1))))) (by decide) hg); replace BK326 := am (blk_grown (g := gb326) (o := .cells #[.slice none 0 0, .slice none 0 0] 26 (0, 0)) (bf5 (pb BK326.out) NB326_345.out) hg (Kd.R_ne HO_5.out BK326.out (by decide))); replace BK333 := am (blk_grown (g := gb333) (o := .cells #[u334000, u334001] 26 (0, 0)) (bf5 (pb BK333.out) NB333_345.out) hg (Kd.R_ne HO_5.out BK333.out (by decide))); replace BK345 := am (blk_grown (g := gb345) (o := .cells #[.int .i64 t339, .int .i64 t340, .int .i64 t341, .int .i64 t342, .bool t343] 87 (0, 0)) (bp5 (pb BK345.out)) hg (Kd.R_away HO_5.out (fun _ hk => hk.2))); replace HB := am (below_weaken (bg4 HB.out (IsS69.ge HI0.out) GE326.out GE333.out GE345.out) HL.out hb); replace HI0 := am (IsS69.grown (show IsS69 w0 _ g s0_0 t344 from IsS69.g3 HI0.out NB0_326.out NB0_333.out NB0_345.out) hg (IsS69.own_ne HI0.out HO_5.out (by decide))); replace HK := am (KeepBut.trans (kb3 HK.out GW326.out GW333.out GW345.out) (KeepBut.of_grown hg g) (Kd.R_base2 HO_5.out)); have HO348 := am (ho); clear HO_5; clear ho hb hg hat; have hnb26 := NB333_326.out; have hnc26 := NB326_333.out; have hnb27 := NB333_0.out; have hnc27 := NB0_333.out; obtain ⟨hcz28_0, hcz28_1⟩ := b2 BK333.out; obtain ⟨hfz28_0, hfz28_1⟩ := f2 BK333.out; obtain ⟨hcz29_0, hcz29_1, hcz29_2, hcz29_3, hcz29_4⟩ := b5 BK345.out; obtain ⟨hfz29_0, hfz29_1, hfz29_2, hfz29_3, hfz29_4⟩ := f5 BK345.out; obtain ⟨Ao30, co30, eo30⟩ := Kd.S_slice HO_334000.out; subst eo30; obtain ⟨Ao31, co31, eo31⟩ := Kd.R_slice HO_334001.out; subst eo31; obtain ⟨PXh32, hxa_, hxb_⟩ := Kd.S_hand HO_334000.out; have HXAh32 := am hxa_; have HXBh32 := am hxb_; clear hxa_ hxb_) | (refine gl 24 Try.func48 #[.agg #[.slice Ao30 x334000_1.length co30, .slice Ao31 x334001_1.length co31], .agg #[.int .i64 t339, .int .i64 t340, .int .i64 t341, .int .i64 t342, .bool t343]] rfl ?_; (with_reducible refine (spec_l21Do.calls k1 PXh32 (.slice Ao30 x334000_1.length co30) x334000_1 (fun k_ => some k_ = (.slice Ao31 x334001_1.length co31 : Value).ownBlock) (.slice Ao31 x334001_1.length co31) x334001_1 t339 t340 t341 t342 t343 t349 t352 w0 _ ?side1 ?side2 ?side3 A18.out).mono ?_); (case side1 => exact bg4 HB.out (IsS69.ge HI0.out) GE326.out GE333.out GE345.out); (case side2 => exact Kd.S_lower (ps HXAh32.out) HL.out); (case side3 => exact Kd.R_lower (Kd.R_tight rfl HO_334001.out) HL.out); rintro e w33 ⟨v350, v353, rfl, ho0, ho1, hb, hkp⟩; refine ⟨_, rfl, ?_⟩; replace BK326 := am (blk_kept (pb BK326.out) hkp (fun hs_ => Or.elim hs_ (fun e_ => (fun e_ => Kd.blk_awayP (fun k_ h_ => (HXBh32.out k_ h_).2.2.2) BK326.out (by decide) e_) e_) (fun e_ => (fun e_ => (Kd.R_ne HO_334001.out BK326.out (by decide)) e_) e_))); replace BK333 := am (blk_kept (pb BK333.out) hkp (fun hs_ => Or.elim hs_ (fun e_ => (fun e_ => Kd.blk_awayP (fun k_ h_ => (HXBh32.out k_ h_).2.2.2) BK333.out (by decide) e_) e_) (fun e_ => (fun e_ => (Kd.R_ne HO_334001.out BK333.out (by decide)) e_) e_))); replace HI0 := am (IsS69.kept (show IsS69 w0 _ g s0_0 t344 from IsS69.g3 HI0.out NB0_326.out NB0_333.out NB0_345.out) hkp (fun hs_ => Or.elim hs_ (fun e_ => (fun e_ => (by obtain ⟨q_, hq_, c_, hc_⟩ := (HXBh32.out _ e_).2.2.2; exact (IsS69.ne_blk HI0.out hc_ (by rintro rfl; revert hq_; decide)) rfl)) e_) (fun e_ => (fun e_ => (IsS69.own_ne HI0.out HO_334001.out (by decide)) e_) e_))); replace BK345 := am (blk_kept (pb BK345.out) hkp (fun hs_ => Or.elim hs_ (fun e_ => (fun e_ => Kd.blk_awayP (fun k_ h_ => (HXBh32.out k_ h_).2.2.2) BK345.out (by decide) e_) e_) (fun e_ => (fun e_ => (Kd.R_ne HO_334001.out BK345.out (by decide)) e_) e_))); replace HO348 := am (Kd.R_mono (ok' := fun k_ => k_ ≠ gb345) (Kd.R_keptB ((Kd.R_apart' (Kd.R_awayP HO348.out (fun k_ h_ => (HXBh32.out k_ h_).2.2.2) (by decide)) (Kd.R_typed HO_334001.out) (by decide))) hkp (fun k_ hk_ hs_ => Or.elim hs_ (fun e_ => (hk_.1.2) e_) (fun e_ => (hk_.2) e_))) (fun k_ hk_ => hk_.1.1.1)); have HO351 := am (Kd.S_mono (ok' := fun k_ => True) (Kd.S_raise (Kd.raise_iso _ (Kd.raise_pair (Kd.raise_slice 63 (Kd.raise_iso _ (Kd.raise_pair (Kd.raise_int .i64) (Kd.raise_iso _ (Kd.raise_pair (Kd.raise_int .i64) (Kd.raise_pair (Kd.raise_int .i64) (Kd.raise_pair (Kd.raise_int .i64) (Kd.raise_int .i64)))))))) (Kd.raise_int .i64))) ho0 (fun k_ e_ => Or.elim e_ (fun hs_ => Or.elim hs_ (fun e_ => (fun e_ => (HXBh32.out k_ e_).2.1) e_) (fun e_ => (fun e_ => Kd.R_base HO_334001.out k_ e_.symm) e_)) (fun hn_ => Nat.le_trans (keep_size (kb3 HK.out GW326.out GW333.out GW345.out)) hn_))) (fun k_ hk_ => trivial)); have HO354 := am (Kd.R_mono (ok' := fun k_ => True) (Kd.R_raise (d := (Kd.int .i64)) (b := w0.heap.size) (b' := w.heap.size) (fun _ _ _ _ h_ => h_) ho1 (fun k_ e_ => Or.elim (ho1.1 k_ e_) (fun hs_ => Or.elim hs_ (fun e_ => (fun e_ => (HXBh32.out k_ e_).2.1) e_) (fun e_ => (fun e_ => Kd.R_base HO_334001.out k_ e_.symm) e_)) (fun hn_ => Nat.le_trans (keep_size (kb3 HK.out GW326.out GW333.out GW345.out)) hn_))) (fun k_ hk_ => trivial)); replace HK := am (Kept.keepG (kb3 HK.out GW326.out GW333.out GW345.out) hkp (fun k_ hs_ => Or.elim hs_ (fun e_ => (fun e_ => .inr (HXBh32.out k_ e_).2.1) e_) (fun e_ => (fun e_ => .inr (Kd.R_base HO_334001.out k_ e_.symm)) e_))); replace HB := am (hb); clear HO_334000; clear HO_334001; clear hb hkp ho0 ho1; obtain ⟨Ao34, co34, eo34⟩ := Kd.S_slice HO351.out; subst eo34; obtain ⟨hcz35_0, hcz35_1⟩ := b2 BK333.out; obtain ⟨hfz35_0, hfz35_1⟩ := f2 BK333.out; obtain ⟨Ao36, co36, eo36⟩ := Kd.R_slice HO354.out; subst eo36))
   go_roundg k1
   case measure => have := HK1.out; omega
   case rel => exact ⟨(y346), (wrap64 (x6_1 - 1)), (t344), (t349), (t352), (.slice Ao34 t349.length co34), (.slice Ao36 t352.length co36), rf, H', ⟨by have := HK1.out; omega⟩, ⟨pr (Kd.R_mono (Kd.R_far (p := ⟨gb333, 1, none⟩) (Kd.R_far (p := ⟨gb333, 0, none⟩) (Kd.R_types HO348.out BK333.out (by decide)) (fun _ hk => hk.2) (.slice Ao34 t349.length co34)) (fun _ hk => hk.2) (.slice Ao36 t352.length co36)) (fun _ hk => trivial))⟩, ⟨ps (Kd.S_mono (Kd.S_far (p := ⟨gb333, 1, none⟩) (Kd.S_far (p := ⟨gb333, 0, none⟩) (Kd.S_types HO351.out BK333.out (by decide)) (fun _ hk => hk.2) (.slice Ao34 t349.length co34)) (fun _ hk => hk.2) (.slice Ao36 t352.length co36)) (fun _ hk => trivial))⟩, ⟨pr (Kd.R_mono (Kd.R_far (p := ⟨gb333, 1, none⟩) (Kd.R_far (p := ⟨gb333, 0, none⟩) (Kd.R_types HO354.out BK333.out (by decide)) (fun _ hk => hk.2) (.slice Ao34 t349.length co34)) (fun _ hk => hk.2) (.slice Ao36 t352.length co36)) (fun _ hk => trivial))⟩, ⟨bf2 (pb BK326.out) NB326_333.out⟩, ⟨bp2 (pb BK333.out)⟩, ⟨IsS69.g3 HI0.out NB0_326.out NB0_333.out NB0_345.out⟩, ⟨kb3 HK.out GW326.out GW333.out GW345.out⟩, ⟨bg4 HB.out (IsS69.ge HI0.out) GE326.out GE333.out GE345.out⟩⟩
def spec_l71Rec.f (k : Nat) (s0_0 : List Int) (s0_1 : Int) : Option (Int × Int × Int × Int × Int) := (spec_l6Rd_pick.f k s0_0 s0_1 2).bind fun b384 => ((spec_l6Rd_pick.f k s0_0 b384.2 40).bind fun b386 => ((spec_l6Rd_pick.f k s0_0 b386.2 6).bind fun b388 => ((spec_l6Rd_pick.f k s0_0 b388.2 10).bind fun b390 => ((spec_l6Rd_pick.f k s0_0 b390.2 20).bind fun b393 => (if b393.1 = 0 then ((spec_l6Rd_pick.f k s0_0 b393.2 4).bind fun b395 => (some (b395.1, wrap64 (1 + b386.1), wrap64 (1 + b388.1), b390.1, b395.2))) else (if b393.1 = 1 then ((some (([0, 600, 601] : List Int) : List Int)).bind fun y397 => ((spec_l6Rd_pick.f k s0_0 b393.2 3).bind fun b400 => (if 0 ≤ b400.1 then (if b400.1 < (y397.length : Int) then (some (wrap64 (1 + b384.1), rd y397 b400.1, wrap64 (1 + b388.1), b390.1, b400.2)) else (none)) else (none)))) else (if b393.1 = 2 then ((some (([0, 7] : List Int) : List Int)).bind fun y403 => ((spec_l6Rd_pick.f k s0_0 b393.2 2).bind fun b406 => (if 0 ≤ b406.1 then (if b406.1 < (y403.length : Int) then (some (wrap64 (1 + b384.1), wrap64 (1 + b386.1), rd y403 b406.1, b390.1, b406.2)) else (none)) else (none)))) else (if b393.1 = 3 then ((some (([(-1), 10] : List Int) : List Int)).bind fun y409 => ((spec_l6Rd_pick.f k s0_0 b393.2 2).bind fun b412 => (if 0 ≤ b412.1 then (if b412.1 < (y409.length : Int) then (some (wrap64 (1 + b384.1), wrap64 (1 + b386.1), wrap64 (1 + b388.1), rd y409 b412.1, b412.2)) else (none)) else (none)))) else (some (wrap64 (1 + b384.1), wrap64 (1 + b386.1), wrap64 (1 + b388.1), b390.1, b393.2))))))))))
theorem spec_l71Rec.mono : ∀ a0 a1 k, LeO (spec_l71Rec.f k a0 a1) (spec_l71Rec.f (k + 1) a0 a1) := by
 intro a0 a1 k
 unfold spec_l71Rec.f
 with_reducible repeat' first | exact LeO.refl _ | exact LeO.none _ | exact spec_l6Rd_pick.mono _ _ _ _ | refine LeO.ite ?_ ?_ | refine LeO.bind ?_ (fun _ => ?_)
theorem recKb {w w' : World} {g a : Nat} {o : Obj} (h : w.heap[a]? = some o) (hk : KeepBut w w' g none) (hne : a ≠ g) : w'.heap[a]? = some o := (hk.2 a (Array.getElem?_eq_some_iff.1 h).1 hne (by simp)).trans h
theorem recSome {α : Type} {c d : Prop} [Decidable c] [Decidable d] {x y : α} (h : (if c then (if d then some x else none) else none) = some y) : c ∧ d ∧ x = y := by
 by_cases hc : c
 rotate_left
 · rw [if_neg hc] at h
   cases h
 rw [if_pos hc] at h
 by_cases hd : d
 rotate_left
 · rw [if_neg hd] at h
   cases h
 rw [if_pos hd] at h
 exact ⟨hc, hd, Option.some.inj h⟩
theorem recPut4 {w : World} {g : Nat} {t : TypeId} {z0 z1 z2 z3 : Value} (h : w.heap[g]? = some (.cells #[z0, z1, z2, z3] t (0, 0))) (a b c d : Value) : ((((w.setCell ⟨g, 0, none⟩ a).setCell ⟨g, 1, none⟩ b).setCell ⟨g, 2, none⟩ c).setCell ⟨g, 3, none⟩ d).heap[g]? = some (.cells #[a, b, c, d] t (0, 0)) :=
 blk_put (cs := #[a, b, c, z3]) (blk_put (cs := #[a, b, z2, z3]) (blk_put (cs := #[a, z1, z2, z3]) (blk_put (cs := #[z0, z1, z2, z3]) h 0 _ rfl) 1 _ rfl) 2 _ rfl) 3 _ rfl
theorem recEnd1 {w0 w W : World} {g : Nat} {s : List Int} {p : Int} (h : IsS69 w0 W g s p ∧ Below w0.heap.size w0 W ∧ KeepBut w W g none) {T : Nat} (hT : w.heap.size ≤ T) (hL : w0.heap.size ≤ w.heap.size) (hg : g < w.heap.size) (i : Nat) (a : Value) :
 IsS69 w0 (W.setCell ⟨T, i, none⟩ a) g s p ∧ Below w0.heap.size w0 (W.setCell ⟨T, i, none⟩ a) ∧ KeepBut w (W.setCell ⟨T, i, none⟩ a) g none :=
 ⟨IsS69.far (p := ⟨T, i, none⟩) h.1 (show g ≠ T by omega) _, h.2.1.setCell (p := ⟨T, i, none⟩) (Nat.le_trans hL hT) _, keep_far (p := ⟨T, i, none⟩) h.2.2 hT _⟩
set_option maxHeartbeats 4000000 in
set_option maxRecDepth 100000 in
theorem spec_l71Rec.calls (k : Nat) (g : Nat) (s0_0 : List Int) (s0_1 : Int) (r1 : Int) (r2 : Int) (r3 : Int) (r4 : Int) (r5 : Int) (w0 w : World) (hI : IsS69 w0 w g s0_0 s0_1) (hB : Below w0.heap.size w0 w) (h : spec_l71Rec.f k s0_0 s0_1 = some (r1, r2, r3, r4, r5)) :
 Calls Try.prog 49 #[.pointer (some ⟨g, 0, none⟩)] w fun e w' => e = .returned (.agg #[.int .i64 r1, .int .i64 r2, .int .i64 r3, .int .i64 r4]) ∧ IsS69 w0 w' g s0_0 r5 ∧ Below w0.heap.size w0 w' ∧ KeepBut w w' g none := by
 unfold spec_l71Rec.f at h
 obtain ⟨⟨a1, p1⟩, h1, h⟩ := Option.bind_eq_some_iff.1 h
 obtain ⟨⟨a2, p2⟩, h2, h⟩ := Option.bind_eq_some_iff.1 h
 obtain ⟨⟨a3, p3⟩, h3, h⟩ := Option.bind_eq_some_iff.1 h
 obtain ⟨⟨a4, p4⟩, h4, h⟩ := Option.bind_eq_some_iff.1 h
 obtain ⟨⟨a5, p5⟩, h5, h⟩ := Option.bind_eq_some_iff.1 h
 have HH := am h
 clear h
 have hgl := IsS69.lt hI
 have hL := hB.size
 have hu := Try.underlying37
 go_enter Try.func49, Try.ntmps49
 go_wp2_with fail
 refine (spec_l6Rd_pick.calls k g s0_0 s0_1 2 a1 p1 w0 _ (hI.alloc _) (below_alloc hB _) h1).mono ?_
 rintro e w1 ⟨rfl, hI1, hB1, hK1⟩
 have hb := recKb (blk_new w _) hK1 (show w.heap.size ≠ g by omega)
 have K := KeepBut.trans (keep_alloc (KeepBut.refl w g none) _) hK1 (.inl rfl)
 clear hI hB hK1
 go_wp2_with fail
 refine (spec_l6Rd_pick.calls k g s0_0 p1 40 a2 p2 w0 _ hI1 hB1 h2).mono ?_
 rintro e w2 ⟨rfl, hI2, hB2, hK2⟩
 replace hb := recKb hb hK2 (show w.heap.size ≠ g by omega)
 replace K := KeepBut.trans K hK2 (.inl rfl)
 clear hI1 hB1 hK2
 go_wp2_with fail
 refine (spec_l6Rd_pick.calls k g s0_0 p2 6 a3 p3 w0 _ hI2 hB2 h3).mono ?_
 rintro e w3 ⟨rfl, hI3, hB3, hK3⟩
 replace hb := recKb hb hK3 (show w.heap.size ≠ g by omega)
 replace K := KeepBut.trans K hK3 (.inl rfl)
 clear hI2 hB2 hK3
 go_wp2_with fail
 refine (spec_l6Rd_pick.calls k g s0_0 p3 10 a4 p4 w0 _ hI3 hB3 h4).mono ?_
 rintro e w4 ⟨rfl, hI4, hB4, hK4⟩
 replace hb := recKb hb hK4 (show w.heap.size ≠ g by omega)
 replace K := KeepBut.trans K hK4 (.inl rfl)
 clear hI3 hB3 hK4
 go_wp2_with fail
 refine (spec_l6Rd_pick.calls k g s0_0 p4 20 a5 p5 w0 _ (hI4.alloc _) (below_alloc hB4 _) h5).mono ?_
 rintro e w5 ⟨rfl, hI5, hB5, hK5⟩
 have hl4 := hI4.lt
 have hl5 := K.1
 have hw4 := blk_lt hb
 replace hb := recKb (blk_alloc hb _) hK5 (show w.heap.size ≠ g by omega)
 have hx := recKb (blk_new w4 _) hK5 (show w4.heap.size ≠ g by omega)
 replace K := KeepBut.trans (keep_alloc K _) hK5 (.inl rfl)
 clear hI4 hB4 hK5 h1 h2 h3 h4 h5
 have hne : w4.heap.size ≠ w.heap.size := by omega
 have hne2 : w.heap.size ≠ w4.heap.size := by omega
 have HE := am (And.intro hI5 (And.intro hB5 K))
 clear K
 have h := HH.out
 clear HH
 by_cases n0 : a5 = 0
 · rw [if_pos n0] at h
   obtain ⟨⟨v, q⟩, h6, h⟩ := Option.bind_eq_some_iff.1 h
   simp only [Option.some.injEq, Prod.mk.injEq] at h
   obtain ⟨rfl, rfl, rfl, rfl, rfl⟩ := h
   subst n0
   go_wp2_with fail
   refine (spec_l6Rd_pick.calls k g s0_0 p5 4 v q w0 _ hI5 hB5 h6).mono ?_
   rintro e w6 ⟨rfl, hI6, hB6, hK6⟩
   replace hb := recKb hb hK6 (show w.heap.size ≠ g by omega)
   replace hx := recKb hx hK6 (show w4.heap.size ≠ g by omega)
   have HE6 := am (And.intro hI6 (And.intro hB6 (KeepBut.trans HE.out.2.2 hK6 (.inl rfl))))
   clear hI5 hB5 hI6 hB6 hK6 h6 HE
   have x0 := (blk_cell hx 0).trans rfl
   have x1 := (blk_cell hx 1).trans rfl
   have x2 := (blk_cell hx 2).trans rfl
   have x3 := (blk_cell hx 3).trans rfl
   have y0 := (blk_cell hb 0).trans rfl
   have y1 := (blk_cell hb 1).trans rfl
   have y2 := (blk_cell hb 2).trans rfl
   have y3 := (blk_cell hb 3).trans rfl
   have g0 := blk_frozen hb 0
   have g1 := blk_frozen hb 1
   have g2 := blk_frozen hb 2
   have g3 := blk_frozen hb 3
   have fx := blk_frozen hx 0
   go_wp2
   refine bodyPost_ret (results_cell_row rfl _ _ w.heap.size 37 #[.int .i64 (v), .int .i64 (wrap64 (1 + a2)), .int .i64 (wrap64 (1 + a3)), .int .i64 (a4)] (0, 0) _ rfl (recPut4 (blk_far hb hne2 _) _ _ _ _) Try.underlying37 rfl (by kernel_rfl)) rfl ?_
   exact ⟨rfl, recEnd1 (recEnd1 (recEnd1 (recEnd1 (recEnd1 HE6.out (show w.heap.size ≤ w4.heap.size by omega) hL hgl 0 _) (Nat.le_refl _) hL hgl 0 _) (Nat.le_refl _) hL hgl 1 _) (Nat.le_refl _) hL hgl 2 _) (Nat.le_refl _) hL hgl 3 _⟩
 rw [if_neg n0] at h
 by_cases n1 : a5 = 1
 · rw [if_pos n1] at h
   obtain ⟨⟨v, q⟩, h6, h⟩ := Option.bind_eq_some_iff.1 ((Option.bind_some _ _).symm.trans h)
   obtain ⟨hv0, hv1, h⟩ := recSome h
   simp only [Prod.mk.injEq] at h
   obtain ⟨rfl, rfl, rfl, rfl, rfl⟩ := h
   subst n1
   clear n0
   replace hv1 : v < 3 := hv1
   go_wp2_with fail
   refine (spec_l6Rd_pick.calls k g s0_0 p5 3 v q w0 _ (hI5.alloc _) (below_alloc hB5 _) h6).mono ?_
   rintro e w6 ⟨rfl, hI6, hB6, hK6⟩
   have hl6 := hI5.lt
   have hlx := blk_lt hx
   have hl := recKb (blk_new w5 _) hK6 (show w5.heap.size ≠ g by omega)
   replace hb := recKb (blk_alloc hb _) hK6 (show w.heap.size ≠ g by omega)
   replace hx := recKb (blk_alloc hx _) hK6 (show w4.heap.size ≠ g by omega)
   have HE6 := am (And.intro hI6 (And.intro hB6 (KeepBut.trans (keep_alloc HE.out.2.2 _) hK6 (.inl rfl))))
   clear hI5 hB5 hI6 hB6 hK6 h6 HE
   have x0 := (blk_cell hx 0).trans rfl
   have x1 := (blk_cell hx 1).trans rfl
   have x2 := (blk_cell hx 2).trans rfl
   have x3 := (blk_cell hx 3).trans rfl
   have y0 := (blk_cell hb 0).trans rfl
   have y1 := (blk_cell hb 1).trans rfl
   have y2 := (blk_cell hb 2).trans rfl
   have y3 := (blk_cell hb 3).trans rfl
   have g0 := blk_frozen hb 0
   have g1 := blk_frozen hb 1
   have g2 := blk_frozen hb 2
   have g3 := blk_frozen hb 3
   have fx := blk_frozen hx 1
   have l0 := (blk_cell hl 0).trans rfl
   have l1 := (blk_cell hl 1).trans rfl
   have l2 := (blk_cell hl 2).trans rfl
   obtain rfl | rfl | rfl : v = 0 ∨ v = 1 ∨ v = 2 := by omega
   · go_wp2
     refine bodyPost_ret (results_cell_row rfl _ _ w.heap.size 37 #[.int .i64 (wrap64 (1 + a1)), .int .i64 (0), .int .i64 (wrap64 (1 + a3)), .int .i64 (a4)] (0, 0) _ rfl (recPut4 (blk_far hb hne2 _) _ _ _ _) Try.underlying37 rfl (by kernel_rfl)) rfl ?_
     exact ⟨rfl, recEnd1 (recEnd1 (recEnd1 (recEnd1 (recEnd1 HE6.out (show w.heap.size ≤ w4.heap.size by omega) hL hgl 1 _) (Nat.le_refl _) hL hgl 0 _) (Nat.le_refl _) hL hgl 1 _) (Nat.le_refl _) hL hgl 2 _) (Nat.le_refl _) hL hgl 3 _⟩
   · go_wp2
     refine bodyPost_ret (results_cell_row rfl _ _ w.heap.size 37 #[.int .i64 (wrap64 (1 + a1)), .int .i64 (600), .int .i64 (wrap64 (1 + a3)), .int .i64 (a4)] (0, 0) _ rfl (recPut4 (blk_far hb hne2 _) _ _ _ _) Try.underlying37 rfl (by kernel_rfl)) rfl ?_
     exact ⟨rfl, recEnd1 (recEnd1 (recEnd1 (recEnd1 (recEnd1 HE6.out (show w.heap.size ≤ w4.heap.size by omega) hL hgl 1 _) (Nat.le_refl _) hL hgl 0 _) (Nat.le_refl _) hL hgl 1 _) (Nat.le_refl _) hL hgl 2 _) (Nat.le_refl _) hL hgl 3 _⟩
   · go_wp2
     refine bodyPost_ret (results_cell_row rfl _ _ w.heap.size 37 #[.int .i64 (wrap64 (1 + a1)), .int .i64 (601), .int .i64 (wrap64 (1 + a3)), .int .i64 (a4)] (0, 0) _ rfl (recPut4 (blk_far hb hne2 _) _ _ _ _) Try.underlying37 rfl (by kernel_rfl)) rfl ?_
     exact ⟨rfl, recEnd1 (recEnd1 (recEnd1 (recEnd1 (recEnd1 HE6.out (show w.heap.size ≤ w4.heap.size by omega) hL hgl 1 _) (Nat.le_refl _) hL hgl 0 _) (Nat.le_refl _) hL hgl 1 _) (Nat.le_refl _) hL hgl 2 _) (Nat.le_refl _) hL hgl 3 _⟩
 rw [if_neg n1] at h
 by_cases n2 : a5 = 2
 · rw [if_pos n2] at h
   obtain ⟨⟨v, q⟩, h6, h⟩ := Option.bind_eq_some_iff.1 ((Option.bind_some _ _).symm.trans h)
   obtain ⟨hv0, hv1, h⟩ := recSome h
   simp only [Prod.mk.injEq] at h
   obtain ⟨rfl, rfl, rfl, rfl, rfl⟩ := h
   subst n2
   clear n0 n1
   replace hv1 : v < 2 := hv1
   go_wp2_with fail
   refine (spec_l6Rd_pick.calls k g s0_0 p5 2 v q w0 _ (hI5.alloc _) (below_alloc hB5 _) h6).mono ?_
   rintro e w6 ⟨rfl, hI6, hB6, hK6⟩
   have hl6 := hI5.lt
   have hlx := blk_lt hx
   have hl := recKb (blk_new w5 _) hK6 (show w5.heap.size ≠ g by omega)
   replace hb := recKb (blk_alloc hb _) hK6 (show w.heap.size ≠ g by omega)
   replace hx := recKb (blk_alloc hx _) hK6 (show w4.heap.size ≠ g by omega)
   have HE6 := am (And.intro hI6 (And.intro hB6 (KeepBut.trans (keep_alloc HE.out.2.2 _) hK6 (.inl rfl))))
   clear hI5 hB5 hI6 hB6 hK6 h6 HE
   have x0 := (blk_cell hx 0).trans rfl
   have x1 := (blk_cell hx 1).trans rfl
   have x2 := (blk_cell hx 2).trans rfl
   have x3 := (blk_cell hx 3).trans rfl
   have y0 := (blk_cell hb 0).trans rfl
   have y1 := (blk_cell hb 1).trans rfl
   have y2 := (blk_cell hb 2).trans rfl
   have y3 := (blk_cell hb 3).trans rfl
   have g0 := blk_frozen hb 0
   have g1 := blk_frozen hb 1
   have g2 := blk_frozen hb 2
   have g3 := blk_frozen hb 3
   have fx := blk_frozen hx 2
   have l0 := (blk_cell hl 0).trans rfl
   have l1 := (blk_cell hl 1).trans rfl
   obtain rfl | rfl : v = 0 ∨ v = 1 := by omega
   · go_wp2
     refine bodyPost_ret (results_cell_row rfl _ _ w.heap.size 37 #[.int .i64 (wrap64 (1 + a1)), .int .i64 (wrap64 (1 + a2)), .int .i64 (0), .int .i64 (a4)] (0, 0) _ rfl (recPut4 (blk_far hb hne2 _) _ _ _ _) Try.underlying37 rfl (by kernel_rfl)) rfl ?_
     exact ⟨rfl, recEnd1 (recEnd1 (recEnd1 (recEnd1 (recEnd1 HE6.out (show w.heap.size ≤ w4.heap.size by omega) hL hgl 2 _) (Nat.le_refl _) hL hgl 0 _) (Nat.le_refl _) hL hgl 1 _) (Nat.le_refl _) hL hgl 2 _) (Nat.le_refl _) hL hgl 3 _⟩
   · go_wp2
     refine bodyPost_ret (results_cell_row rfl _ _ w.heap.size 37 #[.int .i64 (wrap64 (1 + a1)), .int .i64 (wrap64 (1 + a2)), .int .i64 (7), .int .i64 (a4)] (0, 0) _ rfl (recPut4 (blk_far hb hne2 _) _ _ _ _) Try.underlying37 rfl (by kernel_rfl)) rfl ?_
     exact ⟨rfl, recEnd1 (recEnd1 (recEnd1 (recEnd1 (recEnd1 HE6.out (show w.heap.size ≤ w4.heap.size by omega) hL hgl 2 _) (Nat.le_refl _) hL hgl 0 _) (Nat.le_refl _) hL hgl 1 _) (Nat.le_refl _) hL hgl 2 _) (Nat.le_refl _) hL hgl 3 _⟩
 rw [if_neg n2] at h
 by_cases n3 : a5 = 3
 · rw [if_pos n3] at h
   obtain ⟨⟨v, q⟩, h6, h⟩ := Option.bind_eq_some_iff.1 ((Option.bind_some _ _).symm.trans h)
   obtain ⟨hv0, hv1, h⟩ := recSome h
   simp only [Prod.mk.injEq] at h
   obtain ⟨rfl, rfl, rfl, rfl, rfl⟩ := h
   subst n3
   clear n0 n1 n2
   replace hv1 : v < 2 := hv1
   go_wp2_with fail
   refine (spec_l6Rd_pick.calls k g s0_0 p5 2 v q w0 _ (hI5.alloc _) (below_alloc hB5 _) h6).mono ?_
   rintro e w6 ⟨rfl, hI6, hB6, hK6⟩
   have hl6 := hI5.lt
   have hlx := blk_lt hx
   have hl := recKb (blk_new w5 _) hK6 (show w5.heap.size ≠ g by omega)
   replace hb := recKb (blk_alloc hb _) hK6 (show w.heap.size ≠ g by omega)
   replace hx := recKb (blk_alloc hx _) hK6 (show w4.heap.size ≠ g by omega)
   have HE6 := am (And.intro hI6 (And.intro hB6 (KeepBut.trans (keep_alloc HE.out.2.2 _) hK6 (.inl rfl))))
   clear hI5 hB5 hI6 hB6 hK6 h6 HE
   have x0 := (blk_cell hx 0).trans rfl
   have x1 := (blk_cell hx 1).trans rfl
   have x2 := (blk_cell hx 2).trans rfl
   have x3 := (blk_cell hx 3).trans rfl
   have y0 := (blk_cell hb 0).trans rfl
   have y1 := (blk_cell hb 1).trans rfl
   have y2 := (blk_cell hb 2).trans rfl
   have y3 := (blk_cell hb 3).trans rfl
   have g0 := blk_frozen hb 0
   have g1 := blk_frozen hb 1
   have g2 := blk_frozen hb 2
   have g3 := blk_frozen hb 3
   have fx := blk_frozen hx 3
   have l0 := (blk_cell hl 0).trans rfl
   have l1 := (blk_cell hl 1).trans rfl
   obtain rfl | rfl : v = 0 ∨ v = 1 := by omega
   · go_wp2
     refine bodyPost_ret (results_cell_row rfl _ _ w.heap.size 37 #[.int .i64 (wrap64 (1 + a1)), .int .i64 (wrap64 (1 + a2)), .int .i64 (wrap64 (1 + a3)), .int .i64 (-1)] (0, 0) _ rfl (recPut4 (blk_far hb hne2 _) _ _ _ _) Try.underlying37 rfl (by kernel_rfl)) rfl ?_
     exact ⟨rfl, recEnd1 (recEnd1 (recEnd1 (recEnd1 (recEnd1 HE6.out (show w.heap.size ≤ w4.heap.size by omega) hL hgl 3 _) (Nat.le_refl _) hL hgl 0 _) (Nat.le_refl _) hL hgl 1 _) (Nat.le_refl _) hL hgl 2 _) (Nat.le_refl _) hL hgl 3 _⟩
   · go_wp2
     refine bodyPost_ret (results_cell_row rfl _ _ w.heap.size 37 #[.int .i64 (wrap64 (1 + a1)), .int .i64 (wrap64 (1 + a2)), .int .i64 (wrap64 (1 + a3)), .int .i64 (10)] (0, 0) _ rfl (recPut4 (blk_far hb hne2 _) _ _ _ _) Try.underlying37 rfl (by kernel_rfl)) rfl ?_
     exact ⟨rfl, recEnd1 (recEnd1 (recEnd1 (recEnd1 (recEnd1 HE6.out (show w.heap.size ≤ w4.heap.size by omega) hL hgl 3 _) (Nat.le_refl _) hL hgl 0 _) (Nat.le_refl _) hL hgl 1 _) (Nat.le_refl _) hL hgl 2 _) (Nat.le_refl _) hL hgl 3 _⟩
 rw [if_neg n3] at h
 simp only [Option.some.injEq, Prod.mk.injEq] at h
 obtain ⟨rfl, rfl, rfl, rfl, rfl⟩ := h
 have e0 : (a5 == 0) = false := beq_eq_false_iff_ne.mpr n0
 have e1 : (a5 == 1) = false := beq_eq_false_iff_ne.mpr n1
 have e2 : (a5 == 2) = false := beq_eq_false_iff_ne.mpr n2
 have e3 : (a5 == 3) = false := beq_eq_false_iff_ne.mpr n3
 clear n0 n1 n2 n3
 have x0 := (blk_cell hx 0).trans rfl
 have x1 := (blk_cell hx 1).trans rfl
 have x2 := (blk_cell hx 2).trans rfl
 have x3 := (blk_cell hx 3).trans rfl
 have y0 := (blk_cell hb 0).trans rfl
 have y1 := (blk_cell hb 1).trans rfl
 have y2 := (blk_cell hb 2).trans rfl
 have y3 := (blk_cell hb 3).trans rfl
 have g0 := blk_frozen hb 0
 have g1 := blk_frozen hb 1
 have g2 := blk_frozen hb 2
 have g3 := blk_frozen hb 3
 go_wp2
 refine bodyPost_ret (results_cell_row rfl _ _ w.heap.size 37 #[.int .i64 (wrap64 (1 + a1)), .int .i64 (wrap64 (1 + a2)), .int .i64 (wrap64 (1 + a3)), .int .i64 (a4)] (0, 0) _ rfl (recPut4 hb _ _ _ _) Try.underlying37 rfl (by kernel_rfl)) rfl ?_
 exact ⟨rfl, recEnd1 (recEnd1 (recEnd1 (recEnd1 HE.out (Nat.le_refl _) hL hgl 0 _) (Nat.le_refl _) hL hgl 1 _) (Nat.le_refl _) hL hgl 2 _) (Nat.le_refl _) hL hgl 3 _⟩
end Go.Proofs.Ytghmnlcmhpdcaaa.R5
