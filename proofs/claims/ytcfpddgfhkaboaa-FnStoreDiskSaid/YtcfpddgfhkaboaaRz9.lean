-- printed by wip/pp/pp.py
import Derived.Test.YtcfpddgfhkaboaaRz0
import Derived.Test.YtcfpddgfhkaboaaRz7
import Derived.Test.YtcfpddgfhkaboaaRz8
namespace Go.Proofs.Ytcfpddgfhkaboaa.Rz
open Go.RowKit Go.Proofs.YtcfpddgfhkaboaaW.PrintWords Go.Proofs.YtcfpddgfhkaboaaW.PrintLast Go.Proofs.YtcfpddgfhkaboaaW.PrintMore
attribute [local go_sem] max2_int min2_int max_two min_two max_three min_three max_four min_four
set_option linter.unusedVariables false
set_option linter.unusedSimpArgs false
def spec_l71Store.l0 : Nat → Int → List Int → Int → List (S60) → List Int → Option ((List (S60)) × List Int × Int)
 | 0, _, _, _, _, _ => none
 | k + 1, x5, x1000, x1001, x364000, x364001 => if x5 < (x364000.length : Int) then (if 0 ≤ x5 then (spec_l71Store.l0 k (wrap64 (x5 + 1)) x1000 x1001 (x364000.set (x5 : Int).toNat (⟨(rd_T60 x364000 x5).f0, 200⟩ : S60)) x364001) else (none)) else (some (x364000, x364001, x1001))
def spec_l71Store.f (k : Nat) (s0_0 : List Int) (s0_1 : Int) : Option ((List (S60)) × List Int × Int) := (spec_l71Play.f k s0_0 s0_1).bind fun bt353 => ((spec_l6Rd_pick.f k s0_0 bt353.2.2.2 30).bind fun bt364 => (if bt364.1 = 0 then ((spec_l6Rd_pick.f k s0_0 bt364.2 6).bind fun bt366 => ((some (([(-1), 10, 0, 5] : List Int) : List Int)).bind fun y368 => ((spec_l6Rd_pick.f k s0_0 bt366.2 4).bind fun bt371 => (if 0 ≤ bt371.1 then (if bt371.1 < (y368.length : Int) then (if 0 ≤ bt366.1 then (if bt366.1 < (bt353.2.2.1.length : Int) then (some (bt353.2.1, (bt353.2.2.1.set (bt366.1 : Int).toNat (rd y368 bt371.1)), bt371.2)) else (none)) else (none)) else (none)) else (none))))) else (if bt364.1 = 1 then (if 1 ≤ (bt353.2.2.1.length : Int) then (some (bt353.2.1, (bt353.2.2.1.drop (1 : Int).toNat), bt364.2)) else (none)) else (if bt364.1 = 2 then ((spec_l71Flash.f k s0_0 bt364.2).bind fun bt378 => (some (bt378.1, bt353.2.2.1, bt378.2))) else (if bt364.1 = 3 then (spec_l71Store.l0 k 0 s0_0 bt364.2 bt353.2.1 bt353.2.2.1) else (some (bt353.2.1, bt353.2.2.1, bt364.2)))))))
theorem spec_l71Store.mono_l : ∀ k, (∀ y0 y1 y2 y3 y4, LeO (spec_l71Store.l0 k y0 y1 y2 y3 y4) (spec_l71Store.l0 (k + 1) y0 y1 y2 y3 y4))
 | 0 => fun _ _ _ _ _ r h => by simp [spec_l71Store.l0] at h
 | k + 1 => by
  have ih0 := spec_l71Store.mono_l k
  · intro y0 y1 y2 y3 y4
    unfold spec_l71Store.l0
    with_reducible repeat' first | exact ih0 _ _ _ _ _ | exact spec_l6Rd_pick.mono _ _ _ _ | exact spec_l71Flash.mono _ _ _ | exact spec_l71Play.mono _ _ _ | exact LeO.refl _ | exact LeO.none _ | refine LeO.ite ?_ ?_ | refine LeO.bind ?_ (fun _ => ?_)
theorem spec_l71Store.mono : ∀ a0 a1 k, LeO (spec_l71Store.f k a0 a1) (spec_l71Store.f (k + 1) a0 a1) := by
 intro a0 a1 k
 have ih0 := spec_l71Store.mono_l k
 unfold spec_l71Store.f
 with_reducible repeat' first | exact ih0 _ _ _ _ _ | exact spec_l6Rd_pick.mono _ _ _ _ | exact spec_l71Flash.mono _ _ _ | exact spec_l71Play.mono _ _ _ | exact LeO.refl _ | exact LeO.none _ | refine LeO.ite ?_ ?_ | refine LeO.bind ?_ (fun _ => ?_)
def spec_l71Store.T4 : Bool × List (List Nat × List Nat) := (true, [([], []), ([0], [0]), ([], []), ([2], [2]), ([], []), ([], []), ([5, 3], [5]), ([4, 6], [4, 6]), ([7], [7]), ([1, 3, 0, 1, 2, 3, 4, 5, 6, 7, 8], [1, 3]), ([9, 8, 6, 0, 1, 2, 3, 4, 5, 6, 7, 8], [8, 9])])
def spec_l71Store.B4 : List Nat := [0, 1, 0, 4, 0, 0, 44, 124, 252, 511, 1023]
theorem spec_l71Store.tab4 : rtab .any (opsOf Try.f10 4) = spec_l71Store.T4 := by kernel_rfl
theorem spec_l71Store.bits4 : waitsOk spec_l71Store.T4.2 spec_l71Store.B4 = true := by kernel_rfl
set_option maxHeartbeats 8000000 in
set_option maxRecDepth 100000 in
theorem spec_l71Store.calls (k : Nat) (g : Nat) (s0_0 : List Int) (s0_1 : Int) (r1 : List (S60)) (r2 : List Int) (r3 : Int) (w0 w : World) (hI : IsS62 w0 w g s0_0 s0_1) (hB : Below w0.heap.size w0 w) (h : spec_l71Store.f k s0_0 s0_1 = some (r1, r2, r3)) :
 Calls Try.prog 10 #[.pointer (some ⟨g, 0, none⟩)] w fun e w' => ∃ v0_ v1_ : Value, e = .returned (.agg #[v0_, v1_]) ∧ Kd.V k60 60 w' w.heap.size (fun k_ => (w.heap.size ≤ k_) ∧ some k_ ≠ (v1_ : Value).ownBlock) v0_ r1 ∧ Kd.Q (Kd.int .i64) 3 w' w.heap.size (fun k_ => (w.heap.size ≤ k_)) v1_ r2 ∧ IsS62 w0 w' g s0_0 r3 ∧ Below w0.heap.size w0 w' ∧ KeepBut w w' g none := by
 have hu26 := Try.underlying26
 have HI0 := am hI
 have HK := am (KeepBut.refl w g none)
 have HL := am hB.size
 clear hI
 have HW0 := am hB.size
 have HB := am hB
 clear hB
 have H : ((spec_l71Play.f k s0_0 s0_1).bind fun bt353 => ((spec_l6Rd_pick.f k s0_0 bt353.2.2.2 30).bind fun bt364 => (if bt364.1 = 0 then ((spec_l6Rd_pick.f k s0_0 bt364.2 6).bind fun bt366 => ((some (([(-1), 10, 0, 5] : List Int) : List Int)).bind fun y368 => ((spec_l6Rd_pick.f k s0_0 bt366.2 4).bind fun bt371 => (if 0 ≤ bt371.1 then (if bt371.1 < (y368.length : Int) then (if 0 ≤ bt366.1 then (if bt366.1 < (bt353.2.2.1.length : Int) then (some (bt353.2.1, (bt353.2.2.1.set (bt366.1 : Int).toNat (rd y368 bt371.1)), bt371.2)) else (none)) else (none)) else (none)) else (none))))) else (if bt364.1 = 1 then (if 1 ≤ (bt353.2.2.1.length : Int) then (some (bt353.2.1, (bt353.2.2.1.drop (1 : Int).toNat), bt364.2)) else (none)) else (if bt364.1 = 2 then ((spec_l71Flash.f k s0_0 bt364.2).bind fun bt378 => (some (bt378.1, bt353.2.2.1, bt378.2))) else (if bt364.1 = 3 then (spec_l71Store.l0 k 0 s0_0 bt364.2 bt353.2.1 bt353.2.2.1) else (some (bt353.2.1, bt353.2.2.1, bt364.2)))))))) = some (r1, r2, r3) := h
 clear h
 replace H := Option.bind_eq_some_iff.mp H
 obtain ⟨⟨t353, t356, t359, t362⟩, A20, H⟩ := H
 have A2 := am A20
 clear A20
 replace H := Option.bind_eq_some_iff.mp H
 obtain ⟨⟨t364, t365⟩, A30, H⟩ := H
 have A3 := am A30
 clear A30
 by_cases c4 : t364 = 0
 · rw [if_pos c4] at H
   have c4b0 : (t364 == 0) = true := beq_iff_eq.mpr c4
   have c4b1 : (t364 != 0) = false := bne_eq_false_iff_eq.mpr c4
   clear c4
   replace H := Option.bind_eq_some_iff.mp H
   obtain ⟨⟨t366, t367⟩, A50, H⟩ := H
   have A5 := am A50
   clear A50
   obtain ⟨y368, hy368⟩ : ∃ y_ : List Int, y_ = (([(-1), 10, 0, 5] : List Int)) := ⟨_, rfl⟩
   replace H : ((spec_l6Rd_pick.f k s0_0 t367 4).bind fun bt371 => (if 0 ≤ bt371.1 then (if bt371.1 < (y368.length : Int) then (if 0 ≤ t366 then (if t366 < (t359.length : Int) then (some (t356, (t359.set (t366 : Int).toNat (rd y368 bt371.1)), bt371.2)) else (none)) else (none)) else (none)) else (none))) = some (r1, r2, r3) := yy hy368 H
   have Ny368 := am hy368
   clear hy368
   replace H := Option.bind_eq_some_iff.mp H
   obtain ⟨⟨t371, t372⟩, A60, H⟩ := H
   have A6 := am A60
   clear A60
   obtain ⟨c7b0, H⟩ := ifd H
   obtain ⟨c8b0, H⟩ := ifd H
   obtain ⟨c9b0, H⟩ := ifd H
   obtain ⟨c10b0, H⟩ := ifd H
   obtain ⟨y374, hy374⟩ : ∃ y_ : List Int, y_ = (t359.set (t366 : Int).toNat (rd y368 t371)) := ⟨_, rfl⟩
   replace H : (some (t356, y374, t372)) = some (r1, r2, r3) := yy hy374 H
   have Ny374 := am hy374
   clear hy374
   simp only [Option.some.injEq, Prod.mk.injEq] at H
   obtain ⟨rfl, rfl, rfl⟩ := H
   go_enter Try.func10, Try.ntmps10
   try go_wp2_with (first | (refine bx 2 #[.slice none 0 0, .slice none 0 0] 26 rfl ?_; intro gb352 hg w12 hbox hb; replace HB := am (below_step (bg1 HB.out (IsS62.ge HI0.out)) hb); have BK352 := am (hbox); have GW352 := am (gk hg (kb0 HK.out)); have GE352 := am (Nat.le_trans HW0.out GW352.out); replace HK := am (KeepBut.trans (kb0 HK.out) (KeepBut.of_below hb g none) (.inl rfl)); have NB0_352 := am (nl hg (IsS62.lt (IsS62.g0 HI0.out))); have NB352_0 := am (Ne.symm NB0_352.out); replace HI0 := am (IsS62.below (IsS62.g0 HI0.out) hb); clear hb hbox hg) | (refine gl 8 Try.func22 #[.pointer (some ⟨g, 0, none⟩)] rfl ?_; (with_reducible refine (spec_l71Play.calls k g s0_0 s0_1 t353 t356 t359 t362 w0 _ ?side1 ?side2 A2.out).mono ?_); (case side1 => exact IsS62.g1 HI0.out NB0_352.out); (case side2 => exact bg2 HB.out (IsS62.ge HI0.out) GE352.out); rintro e w13 ⟨v354, v357, v360, rfl, ho0, ho1, ho2, hi, hb, hk⟩; refine ⟨_, rfl, ?_⟩; replace BK352 := am (KeepBut.blk hk (pb BK352.out) NB352_0.out (by simp)); have HO355 := am (Kd.R_lower (Kd.R_newM (M := fun k_ => (w.heap.size ≤ k_)) ho0 (keep_size (kb1 HK.out GW352.out)) (fun k_ h_ => h_)) (keep_size (kb1 HK.out GW352.out))); have HO358 := am (Kd.S_lower (Kd.S_newM (M := fun k_ => (w.heap.size ≤ k_)) ho1 (keep_size (kb1 HK.out GW352.out)) (fun k_ h_ => h_)) (keep_size (kb1 HK.out GW352.out))); have HO361 := am (Kd.R_lower (Kd.R_newM (M := fun k_ => (w.heap.size ≤ k_)) ho2 (keep_size (kb1 HK.out GW352.out)) (fun k_ h_ => h_)) (keep_size (kb1 HK.out GW352.out))); replace HK := am (KeepBut.trans (kb1 HK.out GW352.out) hk (.inl rfl)); replace HB := am (hb); replace HI0 := am (hi); clear hb hk hi ho0 ho1 ho2) | (refine bx 4 #[.slice none 0 0, .slice none 0 0] 26 rfl ?_; intro gb363 hg w14 hbox hb; replace HO355 := am (Kd.R_below (pr HO355.out) hb); replace HO358 := am (Kd.S_below (ps HO358.out) hb); replace HO361 := am (Kd.R_below (pr HO361.out) hb); replace HB := am (below_step (bg2 HB.out (IsS62.ge HI0.out) GE352.out) hb); have BK363 := am (hbox); have GW363 := am (gk hg (kb1 HK.out GW352.out)); have GE363 := am (Nat.le_trans HW0.out GW363.out); replace HK := am (KeepBut.trans (kb1 HK.out GW352.out) (KeepBut.of_below hb g none) (.inl rfl)); have NB352_363 := am (nb hg (pb BK352.out)); have NB363_352 := am (Ne.symm NB352_363.out); replace BK352 := am (blk_below (pb BK352.out) hb); have NB0_363 := am (nl hg (IsS62.lt (IsS62.g1 HI0.out NB0_352.out))); have NB363_0 := am (Ne.symm NB0_363.out); replace HI0 := am (IsS62.below (IsS62.g1 HI0.out NB0_352.out) hb); clear hb hbox hg; obtain ⟨Ao15, co15, eo15⟩ := Kd.S_slice HO358.out; subst eo15; have hnb16 := NB363_352.out; have hnc16 := NB352_363.out; have hnb17 := NB363_0.out; have hnc17 := NB0_363.out; obtain ⟨hcz18_0, hcz18_1⟩ := b2 BK363.out; obtain ⟨hfz18_0, hfz18_1⟩ := f2 BK363.out; obtain ⟨Ao19, co19, eo19⟩ := Kd.R_slice HO361.out; subst eo19) | (refine gl 12 Try.func23 #[.pointer (some ⟨g, 0, none⟩), .int .i64 30] rfl ?_; (with_reducible refine (spec_l6Rd_pick.calls k g s0_0 t362 30 t364 t365 w0 _ ?side1 ?side2 A3.out).mono ?_); (case side1 => exact IsS62.g2 HI0.out NB0_352.out NB0_363.out); (case side2 => exact bg3 HB.out (IsS62.ge HI0.out) GE352.out GE363.out); rintro e w20 ⟨rfl, hi, hb, hk⟩; refine ⟨_, rfl, ?_⟩; replace BK352 := am (KeepBut.blk hk (bf2 (pb BK352.out) NB352_363.out) NB352_0.out (by simp)); replace HO355 := am (Kd.R_mono (Kd.R_keep (IsS62.apart (IsS62.g2 HI0.out NB0_352.out NB0_363.out) (pr ((Kd.R_mono (Kd.R_far (p := ⟨gb363, 1, none⟩) (Kd.R_far (p := ⟨gb363, 0, none⟩) (Kd.R_types HO355.out BK363.out (by decide)) (fun _ hk => hk.2) (.slice Ao15 t356.length co15)) (fun _ hk => hk.2) (.slice Ao19 t359.length co19)) (fun _ h_ => h_.1)))) (by decide)) hk (fun _ h => h.2)) (fun _ h => h.1)); replace HO358 := am (Kd.S_mono (Kd.S_keep (IsS62.apartS (IsS62.g2 HI0.out NB0_352.out NB0_363.out) (ps ((Kd.S_mono (Kd.S_far (p := ⟨gb363, 1, none⟩) (Kd.S_far (p := ⟨gb363, 0, none⟩) (Kd.S_types HO358.out BK363.out (by decide)) (fun _ hk => hk.2) (.slice Ao15 t356.length co15)) (fun _ hk => hk.2) (.slice Ao19 t359.length co19)) (fun _ h_ => h_.1)))) (by decide)) hk (fun _ h => h.2)) (fun _ h => h.1)); replace HO361 := am (Kd.R_mono (Kd.R_keep (IsS62.apart (IsS62.g2 HI0.out NB0_352.out NB0_363.out) (pr ((Kd.R_mono (Kd.R_far (p := ⟨gb363, 1, none⟩) (Kd.R_far (p := ⟨gb363, 0, none⟩) (Kd.R_types HO361.out BK363.out (by decide)) (fun _ hk => hk.2) (.slice Ao15 t356.length co15)) (fun _ hk => hk.2) (.slice Ao19 t359.length co19)) (fun _ h_ => h_.1)))) (by decide)) hk (fun _ h => h.2)) (fun _ h => h.1)); replace BK363 := am (KeepBut.blk hk (bp2 (pb BK363.out)) NB363_0.out (by simp)); replace HK := am (KeepBut.trans (kb2 HK.out GW352.out GW363.out) hk (.inl rfl)); replace HB := am (hb); replace HI0 := am (hi); clear hb hk hi))
   have pi373 : (0 ≤ (t371 : Int)) = True := eq_true (ofb)
   have qi373 : (t371 < (y368.length : Int)) = True := eq_true (ofb)
   replace HO355 := am (Kd.R_drew HO355.out)
   replace HO358 := am (Kd.S_drew HO358.out)
   replace HO361 := am (Kd.R_drew HO361.out)
   replace BK352 := am (blk_drew BK352.out)
   replace BK363 := am (blk_drew BK363.out)
   replace HI0 := am (IsS62.drew HI0.out)
   replace HK := am (keep_drew HK.out)
   replace HB := am (below_drew1 HB.out)
   refine start_ (n := 11) (S := fun w' => w'.cell? ⟨gb363, 0, none⟩ = some (.slice Ao15 t356.length co15) ∧ w'.cell? ⟨gb363, 1, none⟩ = some (.slice Ao19 t359.length co19)) (ds := [10]) (bt 11 0) (by kernel_rfl) rfl rfl ⟨(blk_cell BK363.out 0).trans rfl, (blk_cell BK363.out 1).trans rfl⟩ (fun hHeld => ?_); refine with_tabW spec_l71Store.tab4 spec_l71Store.bits4 (fun HT_ HW_ => ?_)
   generalize w20.drew = w21 at HO355 HO358 HO361 BK352 BK363 HI0 HK HB hHeld ⊢
   refine qj 0 15 (bt 11 1) rfl rfl HT_.out ?_
   refine qj 2 17 (bt 11 5) rfl rfl HT_.out ?_
   refine qj 5 20 (bt 11 37) rfl rfl HT_.out ?_
   refine qm 1 16 (bt 11 39) rfl rfl HT_.out HW_.out hHeld ?_
   refine join_ (σ := Value × Addr) 4 #[true, true, true, true, true, true, true, false, false, false, false] (fun s_ => [(18, .int .i64 t366), (19, s_.1), (21, .int .i64 t371)]) (fun s_ w' => (w'.cell? ⟨gb363, 0, none⟩ = some (.slice Ao15 t356.length co15) ∧ w'.cell? ⟨gb363, 1, none⟩ = some (.slice Ao19 t359.length co19)) ∧ (Kd.R k74 74 w' w.heap.size (fun k_ => (w.heap.size ≤ k_)) v354 t353) ∧ (Kd.S k60 60 w' w.heap.size (fun k_ => (w.heap.size ≤ k_)) (.slice Ao15 t356.length co15) t356) ∧ (Kd.R (Kd.int .i64) 3 w' w.heap.size (fun k_ => (w.heap.size ≤ k_) ∧ some k_ ≠ (s_.1 : Value).ownBlock) (.slice Ao19 t359.length co19) t359) ∧ (Kd.R (Kd.int .i64) 3 w' w.heap.size (fun k_ => (w.heap.size ≤ k_) ∧ some k_ ≠ (.slice Ao19 t359.length co19 : Value).ownBlock) s_.1 y368) ∧ (∃ c_, (s_.1 : Value) = .slice (some s_.2) y368.length c_) ∧ (w'.heap[gb352]? = some (.cells #[.slice none 0 0, .slice none 0 0] 26 (0, 0))) ∧ (w'.heap[gb363]? = some (.cells #[.slice Ao15 t356.length co15, .slice Ao19 t359.length co19] 26 (0, 0))) ∧ (IsS62 w0 w' g s0_0 t372) ∧ (KeepBut w w' g none) ∧ (Below w0.heap.size w0 w')) ?_ ?_
   rotate_left
   · intro hCont
     refine two_ (i := 3) (j := 4) (Ni := some 18) (Nj := some 19) #[true, true, true, true, false, true, false, false, false, false, false] (bt 11 55) rfl rfl rfl rfl (two_of HT_.out (by kernel_rfl)) (by decide) (by decide) (fun K hK => ?_) (fun K hK => ?_)
     · skip
       refine qg Try.func23 #[.pointer (some ⟨g, 0, none⟩), .int .i64 6] rfl rfl ?_
       with_reducible refine (spec_l6Rd_pick.calls k g s0_0 t365 6 t366 t367 w0 _ ?side1 ?side2 A5.out).mono ?_
       (case side1 => exact IsS62.g2 HI0.out NB0_352.out NB0_363.out)
       (case side2 => exact bg3 HB.out (IsS62.ge HI0.out) GE352.out GE363.out)
       rintro e w22 ⟨rfl, hi, hb, hk⟩
       refine ⟨_, rfl, ?_⟩
       replace BK352 := am (KeepBut.blk hk (pb BK352.out) NB352_0.out (by simp))
       replace HO355 := am (Kd.R_mono (Kd.R_keep (IsS62.apart (IsS62.g2 HI0.out NB0_352.out NB0_363.out) (pr HO355.out) (by decide)) hk (fun _ h => h.2)) (fun _ h => h.1))
       replace HO358 := am (Kd.S_mono (Kd.S_keep (IsS62.apartS (IsS62.g2 HI0.out NB0_352.out NB0_363.out) (ps HO358.out) (by decide)) hk (fun _ h => h.2)) (fun _ h => h.1))
       replace HO361 := am (Kd.R_mono (Kd.R_keep (IsS62.apart (IsS62.g2 HI0.out NB0_352.out NB0_363.out) (pr HO361.out) (by decide)) hk (fun _ h => h.2)) (fun _ h => h.1))
       replace BK363 := am (KeepBut.blk hk (pb BK363.out) NB363_0.out (by simp))
       replace HK := am (KeepBut.trans (kb2 HK.out GW352.out GW363.out) hk (.inl rfl))
       replace HB := am (hb)
       replace HI0 := am (hi)
       clear hb hk hi
       refine hK.out _ _ ⟨(blk_cell BK363.out 0).trans rfl, (blk_cell BK363.out 1).trans rfl⟩ (fun hHeld => ?_)
       clear hK K
       refine qn (some 18) ?_
       refine two_ (i := 4) (j := 6) (Ni := some 19) (Nj := some 21) #[true, true, true, true, true, true, false, false, false, false, false] (bt 11 111) rfl rfl rfl rfl (two_of HT_.out (by kernel_rfl)) (by decide) (by decide) (fun K hK => ?_) (fun K hK => ?_)
       · skip
         refine Kd.R_lit_step (Kd.int .i64) _ 3 ?hg (N := 19) ?hd (xs := ([(-1), 10, 0, 5] : List Int)) (inner := [.int .i64 (-1), .int .i64 10, .int .i64 0, .int .i64 5]) (ok := fun _ => True) (okp := fun _ => True) ?hr ?hp (fun _ hk => hk) trivial (Below.refl _ _) (Nat.le_refl _) (by simp) ?_; (case hd => rfl); (case hg => rfl); (case hr => first | (go_simp; done) | (go_simp; rfl)); (case hp => exact (Reps.one (show Kd.M (Kd.int .i64) _ _ _ (-1) [.int .i64 (-1)] from rfl) (Reps.one (show Kd.M (Kd.int .i64) _ _ _ 10 [.int .i64 10] from rfl) (Reps.one (show Kd.M (Kd.int .i64) _ _ _ 0 [.int .i64 0] from rfl) (Reps.one (show Kd.M (Kd.int .i64) _ _ _ 5 [.int .i64 5] from rfl) (Reps.none _ _))))))
         intro v369 w23 ho24 hb hg_ hnew_
         clear hg_ hnew_
         (first | rw [← Ny368.out] at ho24 | (simp only [Int.reduceToNat] at ho24; rw [← Ny368.out] at ho24))
         replace HO355 := am (Kd.R_below (pr HO355.out) hb)
         replace HO358 := am (Kd.S_below (ps HO358.out) hb)
         have HO370 := am (Kd.R_lower (Kd.R_new' (Kd.R_newM (M := fun k_ => (w.heap.size ≤ k_)) ho24 (keep_size (kb2 HK.out GW352.out GW363.out)) (fun k_ h_ => h_)) (Kd.R_lt (pr HO361.out))) (keep_size (kb2 HK.out GW352.out GW363.out)))
         replace HO361 := am (Kd.R_elder' (pr HO361.out) (Kd.R_base ho24) hb)
         replace BK352 := am (blk_below (pb BK352.out) hb)
         replace BK363 := am (blk_below (pb BK363.out) hb)
         replace HK := am (KeepBut.trans (kb2 HK.out GW352.out GW363.out) (KeepBut.of_below hb g none) (.inl rfl))
         replace HB := am (below_step (bg3 HB.out (IsS62.ge HI0.out) GE352.out GE363.out) hb)
         replace HI0 := am (IsS62.below (IsS62.g2 HI0.out NB0_352.out NB0_363.out) hb)
         clear hb ho24
         obtain ⟨Ao25, co25, eo25⟩ := Kd.R_slice HO370.out
         subst eo25
         obtain ⟨ado25, fo25, _⟩ := Kd.at_int (Kd.R_reads' HO370.out).2.2 0 (by decide) (by rw [Ny368.out]; simp)
         cases fo25
         refine hK.out _ _ ⟨(blk_cell BK363.out 0).trans rfl, (blk_cell BK363.out 1).trans rfl⟩ (fun hHeld => ?_)
         clear hK K
         refine qn (some 19) ?_
         refine qo 6 (some 21) (bt 11 127) rfl rfl HT_.out fun K hK => ?_
         refine qg Try.func23 #[.pointer (some ⟨g, 0, none⟩), .int .i64 4] rfl rfl ?_
         with_reducible refine (spec_l6Rd_pick.calls k g s0_0 t367 4 t371 t372 w0 _ ?side1 ?side2 A6.out).mono ?_
         (case side1 => exact IsS62.g2 HI0.out NB0_352.out NB0_363.out)
         (case side2 => exact bg3 HB.out (IsS62.ge HI0.out) GE352.out GE363.out)
         rintro e w26 ⟨rfl, hi, hb, hk⟩
         refine ⟨_, rfl, ?_⟩
         replace BK352 := am (KeepBut.blk hk (pb BK352.out) NB352_0.out (by simp))
         replace HO355 := am (Kd.R_mono (Kd.R_keep (IsS62.apart (IsS62.g2 HI0.out NB0_352.out NB0_363.out) (pr HO355.out) (by decide)) hk (fun _ h => h.2)) (fun _ h => h.1))
         replace HO358 := am (Kd.S_mono (Kd.S_keep (IsS62.apartS (IsS62.g2 HI0.out NB0_352.out NB0_363.out) (ps HO358.out) (by decide)) hk (fun _ h => h.2)) (fun _ h => h.1))
         replace HO361 := am (Kd.R_mono (Kd.R_keep (IsS62.apart (IsS62.g2 HI0.out NB0_352.out NB0_363.out) (pr HO361.out) (by decide)) hk (fun _ h => h.2)) (fun _ h => h.1))
         replace BK363 := am (KeepBut.blk hk (pb BK363.out) NB363_0.out (by simp))
         replace HO370 := am (Kd.R_mono (Kd.R_keep (IsS62.apart (IsS62.g2 HI0.out NB0_352.out NB0_363.out) (pr HO370.out) (by decide)) hk (fun _ h => h.2)) (fun _ h => h.1))
         replace HK := am (KeepBut.trans (kb2 HK.out GW352.out GW363.out) hk (.inl rfl))
         replace HB := am (hb)
         replace HI0 := am (hi)
         clear hb hk hi
         refine hK.out _ _ ⟨(blk_cell BK363.out 0).trans rfl, (blk_cell BK363.out 1).trans rfl⟩ (fun hHeld => ?_)
         clear hK K
         refine qn (some 21) ?_
         exact norm_ (by simp only [putAll, Act.put, List.setIfInBounds_toArray, List.set_cons_zero, List.set_cons_succ]) (hCont (.slice (some ado25) y368.length co25, ado25) _ ⟨hHeld, (pr (Kd.R_mono HO355.out (fun _ hk => hk.1))), (ps (Kd.S_mono HO358.out (fun _ hk => hk.1))), (pr (Kd.R_mono HO361.out (fun _ hk => ⟨hk.1.1, hk.2⟩))), (pr (Kd.R_mono HO370.out (fun _ hk => ⟨hk.1.1, hk.2⟩))), ⟨_, rfl⟩, (pb BK352.out), (pb BK363.out), (IsS62.g2 HI0.out NB0_352.out NB0_363.out), (kb2 HK.out GW352.out GW363.out), (bg3 HB.out (IsS62.ge HI0.out) GE352.out GE363.out)⟩)
       · skip
         refine qg Try.func23 #[.pointer (some ⟨g, 0, none⟩), .int .i64 4] rfl rfl ?_
         with_reducible refine (spec_l6Rd_pick.calls k g s0_0 t367 4 t371 t372 w0 _ ?side1 ?side2 A6.out).mono ?_
         (case side1 => exact IsS62.g2 HI0.out NB0_352.out NB0_363.out)
         (case side2 => exact bg3 HB.out (IsS62.ge HI0.out) GE352.out GE363.out)
         rintro e w23 ⟨rfl, hi, hb, hk⟩
         refine ⟨_, rfl, ?_⟩
         replace BK352 := am (KeepBut.blk hk (pb BK352.out) NB352_0.out (by simp))
         replace HO355 := am (Kd.R_mono (Kd.R_keep (IsS62.apart (IsS62.g2 HI0.out NB0_352.out NB0_363.out) (pr HO355.out) (by decide)) hk (fun _ h => h.2)) (fun _ h => h.1))
         replace HO358 := am (Kd.S_mono (Kd.S_keep (IsS62.apartS (IsS62.g2 HI0.out NB0_352.out NB0_363.out) (ps HO358.out) (by decide)) hk (fun _ h => h.2)) (fun _ h => h.1))
         replace HO361 := am (Kd.R_mono (Kd.R_keep (IsS62.apart (IsS62.g2 HI0.out NB0_352.out NB0_363.out) (pr HO361.out) (by decide)) hk (fun _ h => h.2)) (fun _ h => h.1))
         replace BK363 := am (KeepBut.blk hk (pb BK363.out) NB363_0.out (by simp))
         replace HK := am (KeepBut.trans (kb2 HK.out GW352.out GW363.out) hk (.inl rfl))
         replace HB := am (hb)
         replace HI0 := am (hi)
         clear hb hk hi
         refine hK.out _ _ ⟨(blk_cell BK363.out 0).trans rfl, (blk_cell BK363.out 1).trans rfl⟩ (fun hHeld => ?_)
         clear hK K
         refine qn (some 21) ?_
         refine qo 4 (some 19) (bt 11 127) rfl rfl HT_.out fun K hK => ?_
         refine Kd.R_lit_step (Kd.int .i64) _ 3 ?hg (N := 19) ?hd (xs := ([(-1), 10, 0, 5] : List Int)) (inner := [.int .i64 (-1), .int .i64 10, .int .i64 0, .int .i64 5]) (ok := fun _ => True) (okp := fun _ => True) ?hr ?hp (fun _ hk => hk) trivial (Below.refl _ _) (Nat.le_refl _) (by simp) ?_; (case hd => rfl); (case hg => rfl); (case hr => first | (go_simp; done) | (go_simp; rfl)); (case hp => exact (Reps.one (show Kd.M (Kd.int .i64) _ _ _ (-1) [.int .i64 (-1)] from rfl) (Reps.one (show Kd.M (Kd.int .i64) _ _ _ 10 [.int .i64 10] from rfl) (Reps.one (show Kd.M (Kd.int .i64) _ _ _ 0 [.int .i64 0] from rfl) (Reps.one (show Kd.M (Kd.int .i64) _ _ _ 5 [.int .i64 5] from rfl) (Reps.none _ _))))))
         intro v369 w24 ho25 hb hg_ hnew_
         clear hg_ hnew_
         (first | rw [← Ny368.out] at ho25 | (simp only [Int.reduceToNat] at ho25; rw [← Ny368.out] at ho25))
         replace HO355 := am (Kd.R_below (pr HO355.out) hb)
         replace HO358 := am (Kd.S_below (ps HO358.out) hb)
         have HO370 := am (Kd.R_lower (Kd.R_new' (Kd.R_newM (M := fun k_ => (w.heap.size ≤ k_)) ho25 (keep_size (kb2 HK.out GW352.out GW363.out)) (fun k_ h_ => h_)) (Kd.R_lt (pr HO361.out))) (keep_size (kb2 HK.out GW352.out GW363.out)))
         replace HO361 := am (Kd.R_elder' (pr HO361.out) (Kd.R_base ho25) hb)
         replace BK352 := am (blk_below (pb BK352.out) hb)
         replace BK363 := am (blk_below (pb BK363.out) hb)
         replace HK := am (KeepBut.trans (kb2 HK.out GW352.out GW363.out) (KeepBut.of_below hb g none) (.inl rfl))
         replace HB := am (below_step (bg3 HB.out (IsS62.ge HI0.out) GE352.out GE363.out) hb)
         replace HI0 := am (IsS62.below (IsS62.g2 HI0.out NB0_352.out NB0_363.out) hb)
         clear hb ho25
         obtain ⟨Ao26, co26, eo26⟩ := Kd.R_slice HO370.out
         subst eo26
         obtain ⟨ado26, fo26, _⟩ := Kd.at_int (Kd.R_reads' HO370.out).2.2 0 (by decide) (by rw [Ny368.out]; simp)
         cases fo26
         refine hK.out _ _ ⟨(blk_cell BK363.out 0).trans rfl, (blk_cell BK363.out 1).trans rfl⟩ (fun hHeld => ?_)
         clear hK K
         refine qn (some 19) ?_
         exact norm_ (by simp only [putAll, Act.put, List.setIfInBounds_toArray, List.set_cons_zero, List.set_cons_succ]) (hCont (.slice (some ado26) y368.length co26, ado26) _ ⟨hHeld, (pr (Kd.R_mono HO355.out (fun _ hk => hk.1))), (ps (Kd.S_mono HO358.out (fun _ hk => hk.1))), (pr (Kd.R_mono HO361.out (fun _ hk => ⟨hk.1.1, hk.2⟩))), (pr (Kd.R_mono HO370.out (fun _ hk => ⟨hk.1.1, hk.2⟩))), ⟨_, rfl⟩, (pb BK352.out), (pb BK363.out), (IsS62.g2 HI0.out NB0_352.out NB0_363.out), (kb2 HK.out GW352.out GW363.out), (bg3 HB.out (IsS62.ge HI0.out) GE352.out GE363.out)⟩)
     · skip
       refine Kd.R_lit_step (Kd.int .i64) _ 3 ?hg (N := 19) ?hd (xs := ([(-1), 10, 0, 5] : List Int)) (inner := [.int .i64 (-1), .int .i64 10, .int .i64 0, .int .i64 5]) (ok := fun _ => True) (okp := fun _ => True) ?hr ?hp (fun _ hk => hk) trivial (Below.refl _ _) (Nat.le_refl _) (by simp) ?_; (case hd => rfl); (case hg => rfl); (case hr => first | (go_simp; done) | (go_simp; rfl)); (case hp => exact (Reps.one (show Kd.M (Kd.int .i64) _ _ _ (-1) [.int .i64 (-1)] from rfl) (Reps.one (show Kd.M (Kd.int .i64) _ _ _ 10 [.int .i64 10] from rfl) (Reps.one (show Kd.M (Kd.int .i64) _ _ _ 0 [.int .i64 0] from rfl) (Reps.one (show Kd.M (Kd.int .i64) _ _ _ 5 [.int .i64 5] from rfl) (Reps.none _ _))))))
       intro v369 w22 ho23 hb hg_ hnew_
       clear hg_ hnew_
       (first | rw [← Ny368.out] at ho23 | (simp only [Int.reduceToNat] at ho23; rw [← Ny368.out] at ho23))
       replace HO355 := am (Kd.R_below (pr HO355.out) hb)
       replace HO358 := am (Kd.S_below (ps HO358.out) hb)
       have HO370 := am (Kd.R_lower (Kd.R_new' (Kd.R_newM (M := fun k_ => (w.heap.size ≤ k_)) ho23 (keep_size (kb2 HK.out GW352.out GW363.out)) (fun k_ h_ => h_)) (Kd.R_lt (pr HO361.out))) (keep_size (kb2 HK.out GW352.out GW363.out)))
       replace HO361 := am (Kd.R_elder' (pr HO361.out) (Kd.R_base ho23) hb)
       replace BK352 := am (blk_below (pb BK352.out) hb)
       replace BK363 := am (blk_below (pb BK363.out) hb)
       replace HK := am (KeepBut.trans (kb2 HK.out GW352.out GW363.out) (KeepBut.of_below hb g none) (.inl rfl))
       replace HB := am (below_step (bg3 HB.out (IsS62.ge HI0.out) GE352.out GE363.out) hb)
       replace HI0 := am (IsS62.below (IsS62.g2 HI0.out NB0_352.out NB0_363.out) hb)
       clear hb ho23
       obtain ⟨Ao24, co24, eo24⟩ := Kd.R_slice HO370.out
       subst eo24
       obtain ⟨ado24, fo24, _⟩ := Kd.at_int (Kd.R_reads' HO370.out).2.2 0 (by decide) (by rw [Ny368.out]; simp)
       cases fo24
       refine hK.out _ _ ⟨(blk_cell BK363.out 0).trans rfl, (blk_cell BK363.out 1).trans rfl⟩ (fun hHeld => ?_)
       clear hK K
       refine qn (some 19) ?_
       refine qo 3 (some 18) (bt 11 63) rfl rfl HT_.out fun K hK => ?_
       refine qg Try.func23 #[.pointer (some ⟨g, 0, none⟩), .int .i64 6] rfl rfl ?_
       with_reducible refine (spec_l6Rd_pick.calls k g s0_0 t365 6 t366 t367 w0 _ ?side1 ?side2 A5.out).mono ?_
       (case side1 => exact IsS62.g2 HI0.out NB0_352.out NB0_363.out)
       (case side2 => exact bg3 HB.out (IsS62.ge HI0.out) GE352.out GE363.out)
       rintro e w25 ⟨rfl, hi, hb, hk⟩
       refine ⟨_, rfl, ?_⟩
       replace BK352 := am (KeepBut.blk hk (pb BK352.out) NB352_0.out (by simp))
       replace HO355 := am (Kd.R_mono (Kd.R_keep (IsS62.apart (IsS62.g2 HI0.out NB0_352.out NB0_363.out) (pr HO355.out) (by decide)) hk (fun _ h => h.2)) (fun _ h => h.1))
       replace HO358 := am (Kd.S_mono (Kd.S_keep (IsS62.apartS (IsS62.g2 HI0.out NB0_352.out NB0_363.out) (ps HO358.out) (by decide)) hk (fun _ h => h.2)) (fun _ h => h.1))
       replace HO361 := am (Kd.R_mono (Kd.R_keep (IsS62.apart (IsS62.g2 HI0.out NB0_352.out NB0_363.out) (pr HO361.out) (by decide)) hk (fun _ h => h.2)) (fun _ h => h.1))
       replace BK363 := am (KeepBut.blk hk (pb BK363.out) NB363_0.out (by simp))
       replace HO370 := am (Kd.R_mono (Kd.R_keep (IsS62.apart (IsS62.g2 HI0.out NB0_352.out NB0_363.out) (pr HO370.out) (by decide)) hk (fun _ h => h.2)) (fun _ h => h.1))
       replace HK := am (KeepBut.trans (kb2 HK.out GW352.out GW363.out) hk (.inl rfl))
       replace HB := am (hb)
       replace HI0 := am (hi)
       clear hb hk hi
       refine hK.out _ _ ⟨(blk_cell BK363.out 0).trans rfl, (blk_cell BK363.out 1).trans rfl⟩ (fun hHeld => ?_)
       clear hK K
       refine qn (some 18) ?_
       refine qo 6 (some 21) (bt 11 127) rfl rfl HT_.out fun K hK => ?_
       refine qg Try.func23 #[.pointer (some ⟨g, 0, none⟩), .int .i64 4] rfl rfl ?_
       with_reducible refine (spec_l6Rd_pick.calls k g s0_0 t367 4 t371 t372 w0 _ ?side1 ?side2 A6.out).mono ?_
       (case side1 => exact IsS62.g2 HI0.out NB0_352.out NB0_363.out)
       (case side2 => exact bg3 HB.out (IsS62.ge HI0.out) GE352.out GE363.out)
       rintro e w26 ⟨rfl, hi, hb, hk⟩
       refine ⟨_, rfl, ?_⟩
       replace BK352 := am (KeepBut.blk hk (pb BK352.out) NB352_0.out (by simp))
       replace HO355 := am (Kd.R_mono (Kd.R_keep (IsS62.apart (IsS62.g2 HI0.out NB0_352.out NB0_363.out) (pr HO355.out) (by decide)) hk (fun _ h => h.2)) (fun _ h => h.1))
       replace HO358 := am (Kd.S_mono (Kd.S_keep (IsS62.apartS (IsS62.g2 HI0.out NB0_352.out NB0_363.out) (ps HO358.out) (by decide)) hk (fun _ h => h.2)) (fun _ h => h.1))
       replace HO361 := am (Kd.R_mono (Kd.R_keep (IsS62.apart (IsS62.g2 HI0.out NB0_352.out NB0_363.out) (pr HO361.out) (by decide)) hk (fun _ h => h.2)) (fun _ h => h.1))
       replace BK363 := am (KeepBut.blk hk (pb BK363.out) NB363_0.out (by simp))
       replace HO370 := am (Kd.R_mono (Kd.R_keep (IsS62.apart (IsS62.g2 HI0.out NB0_352.out NB0_363.out) (pr HO370.out) (by decide)) hk (fun _ h => h.2)) (fun _ h => h.1))
       replace HK := am (KeepBut.trans (kb2 HK.out GW352.out GW363.out) hk (.inl rfl))
       replace HB := am (hb)
       replace HI0 := am (hi)
       clear hb hk hi
       refine hK.out _ _ ⟨(blk_cell BK363.out 0).trans rfl, (blk_cell BK363.out 1).trans rfl⟩ (fun hHeld => ?_)
       clear hK K
       refine qn (some 21) ?_
       exact norm_ (by simp only [putAll, Act.put, List.setIfInBounds_toArray, List.set_cons_zero, List.set_cons_succ]) (hCont (.slice (some ado24) y368.length co24, ado24) _ ⟨hHeld, (pr (Kd.R_mono HO355.out (fun _ hk => hk.1))), (ps (Kd.S_mono HO358.out (fun _ hk => hk.1))), (pr (Kd.R_mono HO361.out (fun _ hk => ⟨hk.1.1, hk.2⟩))), (pr (Kd.R_mono HO370.out (fun _ hk => ⟨hk.1.1, hk.2⟩))), ⟨_, rfl⟩, (pb BK352.out), (pb BK363.out), (IsS62.g2 HI0.out NB0_352.out NB0_363.out), (kb2 HK.out GW352.out GW363.out), (bg3 HB.out (IsS62.ge HI0.out) GE352.out GE363.out)⟩)
   rintro ⟨v369, adz_v369⟩ w27 ⟨hS_, h0_, h1_, h2_, h3_, h4_, h5_, h6_, h7_, h8_, h9_⟩
   have n0_ : Aside0 (Kd.R k74 74 w27 w.heap.size (fun k_ => (w.heap.size ≤ k_)) v354 t353) := ⟨h0_⟩
   have n1_ : Aside0 (Kd.S k60 60 w27 w.heap.size (fun k_ => (w.heap.size ≤ k_)) (.slice Ao15 t356.length co15) t356) := ⟨h1_⟩
   have n2_ : Aside0 (Kd.R (Kd.int .i64) 3 w27 w.heap.size (fun k_ => (w.heap.size ≤ k_) ∧ some k_ ≠ (v369 : Value).ownBlock) (.slice Ao19 t359.length co19) t359) := ⟨h2_⟩
   have n3_ : Aside0 (Kd.R (Kd.int .i64) 3 w27 w.heap.size (fun k_ => (w.heap.size ≤ k_) ∧ some k_ ≠ (.slice Ao19 t359.length co19 : Value).ownBlock) v369 y368) := ⟨h3_⟩
   have n4_ : Aside0 (∃ c_, (v369 : Value) = .slice (some adz_v369) y368.length c_) := ⟨h4_⟩
   have n5_ : Aside0 (w27.heap[gb352]? = some (.cells #[.slice none 0 0, .slice none 0 0] 26 (0, 0))) := ⟨h5_⟩
   have n6_ : Aside0 (w27.heap[gb363]? = some (.cells #[.slice Ao15 t356.length co15, .slice Ao19 t359.length co19] 26 (0, 0))) := ⟨h6_⟩
   have n7_ : Aside0 (IsS62 w0 w27 g s0_0 t372) := ⟨h7_⟩
   have n8_ : Aside0 (KeepBut w w27 g none) := ⟨h8_⟩
   have n9_ : Aside0 (Below w0.heap.size w0 w27) := ⟨h9_⟩
   clear HO355 HO358 HO361 BK352 BK363 HI0 HK HB h0_ h1_ h2_ h3_ h4_ h5_ h6_ h7_ h8_ h9_
   have HO355 := n0_
   have HO358 := n1_
   have HO361 := n2_
   have HO370 := n3_
   have HA_HO370 := n4_
   have BK352 := n5_
   have BK363 := n6_
   have HI0 := n7_
   have HK := n8_
   have HB := n9_
   clear n0_ n1_ n2_ n3_ n4_ n5_ n6_ n7_ n8_ n9_
   have hHeld : w27.cell? ⟨gb363, 0, none⟩ = some (.slice Ao15 t356.length co15) ∧ w27.cell? ⟨gb363, 1, none⟩ = some (.slice Ao19 t359.length co19) := hS_
   obtain ⟨co28, eo28⟩ := HA_HO370.out
   clear HA_HO370
   subst eo28
   have p11 : 0 ≤ (t366 : Int) := ofb
   have q11 : (t366 : Int) < ((t359.length : Int) : Int) := ofb
   obtain ⟨go11, co11, eo11, gb11, gl11, cl11, HG11⟩ := Kd.R_form HO361.out (by omega)
   (first | cases eo11 | (injection eo11 with ea_ en_ ec_; (first | subst ea_ | (injection ea_ with ea_; subst ea_)); subst ec_; clear en_))
   have GB11 := am gb11
   have GG11 := am HG11
   clear gb11 gl11 HG11
   obtain ⟨hx11_0, hf11_0⟩ := Kd.R_celln 0 HO361.out (t366 : Int) p11 q11
   replace p11 := eq_true p11
   replace q11 := eq_true q11
   have HN0_go11 := am (show g ≠ go11 from by have h_ := IsS62.own_ne HI0.out HO361.out (by decide); intro e_; exact h_ (by rw [e_]; rfl))
   have HP29 := Kd.R_putn HO361.out (t366 : Int) (rd y368 t371)
   rw [← Ny374.out] at HP29
   have HQ29 := am HP29
   clear HP29
   refine norm_ (a' := ?_) ?_ ?_
   rotate_left
   · simp only [putAll, Act.put, List.setIfInBounds_toArray, List.set_cons_zero, List.set_cons_succ]
     rfl
   refine qj 7 22 (bt 11 255) rfl rfl HT_.out ?_
   refine qo 8 (some 23) (bt 11 511) rfl rfl HT_.out fun K hK => ?_
   (have p373 : 0 ≤ (t371 : Int) := ofb; have q373 : t371 < (y368.length : Int) := ofb; obtain ⟨ad373, e373, hx373_0⟩ := Kd.at_int (Kd.R_reads' HO370.out).2.2 t371 p373 q373; obtain rfl : adz_v369 = ad373 := (by injection e373))
   refine value_ (w1 := ?_) (v := ?_) (by rfl) rfl ?_ ?_
   rotate_left 2
   · go_simp
     constructor
     · rfl
     · rfl
   clear hx373_0
   refine hK.out _ _ ⟨(blk_cell BK363.out 0).trans rfl, (blk_cell BK363.out 1).trans rfl⟩ (fun hHeld => ?_)
   clear hK K
   refine qn (some 23) ?_
   refine qj 9 24 (bt 11 1023) rfl rfl HT_.out ?_
   refine last_ (i := 10) (N := none) (bt 11 2047) rfl rfl (one_of HT_.out (by kernel_rfl)) (by decide) (fun K hK => ?_)
   refine qs rfl ?_
   refine hK.out _ _ ?_
   clear hK K
   refine done_ (done_of HT_.out (by kernel_rfl)) ?_
   have n0_ : Aside0 (Kd.R k74 74 (w27.setCell ⟨go11, (t366 : Int).toNat, none⟩ (.int .i64 (rd y368 t371))) w.heap.size (fun k_ => (w.heap.size ≤ k_)) v354 t353) := ⟨pr (Kd.R_mono (Kd.R_far (p := ⟨go11, (t366 : Int).toNat, none⟩) (Kd.R_types HO355.out GG11.out (by decide)) (fun _ hk => hk.2) (.int .i64 (rd y368 t371))) (fun _ hk => hk.1))⟩
   have n1_ : Aside0 (Kd.S k60 60 (w27.setCell ⟨go11, (t366 : Int).toNat, none⟩ (.int .i64 (rd y368 t371))) w.heap.size (fun k_ => (w.heap.size ≤ k_)) (.slice Ao15 t356.length co15) t356) := ⟨ps (Kd.S_mono (Kd.S_far (p := ⟨go11, (t366 : Int).toNat, none⟩) (Kd.S_types HO358.out GG11.out (by decide)) (fun _ hk => hk.2) (.int .i64 (rd y368 t371))) (fun _ hk => hk.1))⟩
   have n2_ : Aside0 (Kd.R (Kd.int .i64) 3 (w27.setCell ⟨go11, (t366 : Int).toNat, none⟩ (.int .i64 (rd y368 t371))) w.heap.size (fun k_ => (w.heap.size ≤ k_) ∧ some k_ ≠ (.slice (some adz_v369) y368.length co28 : Value).ownBlock) (.slice (some ⟨go11, 0, none⟩) t359.length co19) y374) := ⟨pr HQ29.out⟩
   have n3_ : Aside0 (Kd.R (Kd.int .i64) 3 (w27.setCell ⟨go11, (t366 : Int).toNat, none⟩ (.int .i64 (rd y368 t371))) w.heap.size (fun k_ => (w.heap.size ≤ k_) ∧ some k_ ≠ (.slice (some ⟨go11, 0, none⟩) t359.length co19 : Value).ownBlock) (.slice (some adz_v369) y368.length co28) y368) := ⟨pr (Kd.R_mono (Kd.R_far (p := ⟨go11, (t366 : Int).toNat, none⟩) (Kd.R_mono HO370.out (fun k_ hk => (⟨hk, fun e_ => hk.2 (by rw [e_]; rfl)⟩ : _ ∧ k_ ≠ go11))) (fun _ hk => hk.2) (.int .i64 (rd y368 t371))) (fun _ hk => ⟨hk.1.1, hk.1.2⟩))⟩
   have n4_ : Aside0 ((w27.setCell ⟨go11, (t366 : Int).toNat, none⟩ (.int .i64 (rd y368 t371))).heap[gb352]? = some (.cells #[.slice none 0 0, .slice none 0 0] 26 (0, 0))) := ⟨by (with_reducible repeat (first | refine blk_drewN ?_ _ | refine blk_drew ?_ | refine blk_alloc ?_ _)); refine blk_far ?_ (by have h_ := Kd.R_ne HO361.out BK352.out (by decide); intro e_; exact h_ (by rw [e_]; rfl)) _; (with_reducible repeat (first | refine blk_drewN ?_ _ | refine blk_drew ?_ | refine blk_alloc ?_ _)); exact BK352.out⟩
   have n5_ : Aside0 ((w27.setCell ⟨go11, (t366 : Int).toNat, none⟩ (.int .i64 (rd y368 t371))).heap[gb363]? = some (.cells #[.slice Ao15 t356.length co15, .slice (some ⟨go11, 0, none⟩) t359.length co19] 26 (0, 0))) := ⟨by (with_reducible repeat (first | refine blk_drewN ?_ _ | refine blk_drew ?_ | refine blk_alloc ?_ _)); refine blk_far ?_ (by have h_ := Kd.R_ne HO361.out BK363.out (by decide); intro e_; exact h_ (by rw [e_]; rfl)) _; (with_reducible repeat (first | refine blk_drewN ?_ _ | refine blk_drew ?_ | refine blk_alloc ?_ _)); exact BK363.out⟩
   have n6_ : Aside0 (IsS62 w0 (w27.setCell ⟨go11, (t366 : Int).toNat, none⟩ (.int .i64 (rd y368 t371))) g s0_0 t372) := ⟨IsS62.g3 HI0.out HN0_go11.out NB0_352.out NB0_363.out⟩
   have n7_ : Aside0 (KeepBut w (w27.setCell ⟨go11, (t366 : Int).toNat, none⟩ (.int .i64 (rd y368 t371))) g none) := ⟨kb3 HK.out GB11.out GW352.out GW363.out⟩
   have n8_ : Aside0 (Below w0.heap.size w0 (w27.setCell ⟨go11, (t366 : Int).toNat, none⟩ (.int .i64 (rd y368 t371)))) := ⟨bg4 HB.out (Nat.le_trans HL.out GB11.out) (IsS62.ge HI0.out) GE352.out GE363.out⟩
   (try clear HO355)
   (try clear HO358)
   (try clear HO361)
   (try clear HO370)
   (try clear BK352)
   (try clear BK363)
   (try clear HI0)
   (try clear HK)
   (try clear HB)
   generalize (w27.setCell ⟨go11, (t366 : Int).toNat, none⟩ (.int .i64 (rd y368 t371))) = w30 at n0_ n1_ n2_ n3_ n4_ n5_ n6_ n7_ n8_ ⊢
   have HO355 := n0_
   have HO358 := n1_
   have HO361 := n2_
   have HO370 := n3_
   have BK352 := n4_
   have BK363 := n5_
   have HI0 := n6_
   have HK := n7_
   have HB := n8_
   clear n0_ n1_ n2_ n3_ n4_ n5_ n6_ n7_ n8_
   obtain ⟨hcz31_0, hcz31_1⟩ := b2 BK363.out
   obtain ⟨hfz31_0, hfz31_1⟩ := f2 BK363.out
   have hnb32 := NB352_0.out
   have hnc32 := NB0_352.out
   obtain ⟨hcz33_0, hcz33_1⟩ := b2 BK352.out
   obtain ⟨hfz33_0, hfz33_1⟩ := f2 BK352.out
   try go_wp2
   refine bodyPost_ret (results_cell_row rfl _ _ gb352 26 #[.slice Ao15 t356.length co15, .slice (some ⟨go11, 0, none⟩) t359.length co19] (0, 0) _ rfl (bp2 (pb BK352.out)) Try.underlying26 rfl (by kernel_rfl)) rfl ?_
   exact ⟨_, _, rq ⟨Kd.S_V (ps (Kd.S_mono (Kd.S_far (p := ⟨gb352, 1, none⟩) (Kd.S_far (p := ⟨gb352, 0, none⟩) (Kd.S_types (Kd.S_apart' HO358.out (Kd.R_typed HO361.out) (by decide)) BK352.out (by decide)) (fun _ hk => hk.2) (.slice Ao15 t356.length co15)) (fun _ hk => hk.2) (.slice (some ⟨go11, 0, none⟩) t359.length co19)) (fun _ hk => ⟨hk.1.1, hk.1.2⟩))), Kd.Q_of_R (pr (Kd.R_mono (Kd.R_far (p := ⟨gb352, 1, none⟩) (Kd.R_far (p := ⟨gb352, 0, none⟩) (Kd.R_types HO361.out BK352.out (by decide)) (fun _ hk => hk.2) (.slice Ao15 t356.length co15)) (fun _ hk => hk.2) (.slice (some ⟨go11, 0, none⟩) t359.length co19)) (fun _ hk => hk.1.1))), IsS62.g2 HI0.out NB0_352.out NB0_363.out, bg3 HB.out (IsS62.ge HI0.out) GE352.out GE363.out, kb2 HK.out GW352.out GW363.out⟩⟩
 rw [if_neg c4] at H
 have c4b0 : (t364 == 0) = false := beq_eq_false_iff_ne.mpr c4
 have c4b1 : (t364 != 0) = true := bne_iff_ne.mpr c4
 by_cases c34 : t364 = 1
 · rw [if_pos c34] at H
   have c34b0 : (t364 == 1) = true := beq_iff_eq.mpr c34
   have c34b1 : (t364 != 1) = false := bne_eq_false_iff_eq.mpr c34
   clear c34
   by_cases c35 : 1 ≤ (t359.length : Int)
   rotate_left
   · rw [if_neg c35] at H
     exact absurd H (by simp)
   rw [if_pos c35] at H
   have c35b0 := eq_true c35
   have c35b1 := decide_eq_true c35
   clear c35
   obtain ⟨y375, hy375⟩ : ∃ y_ : List Int, y_ = (t359.drop (1 : Int).toNat) := ⟨_, rfl⟩
   replace H : (some (t356, y375, t365)) = some (r1, r2, r3) := yy hy375 H
   have Ny375 := am hy375
   clear hy375
   simp only [Option.some.injEq, Prod.mk.injEq] at H
   obtain ⟨rfl, rfl, rfl⟩ := H
   go_enter Try.func10, Try.ntmps10
   go_wp2_with (first | (refine bx 2 #[.slice none 0 0, .slice none 0 0] 26 rfl ?_; intro gb352 hg w36 hbox hb; replace HB := am (below_step (bg1 HB.out (IsS62.ge HI0.out)) hb); have BK352 := am (hbox); have GW352 := am (gk hg (kb0 HK.out)); have GE352 := am (Nat.le_trans HW0.out GW352.out); replace HK := am (KeepBut.trans (kb0 HK.out) (KeepBut.of_below hb g none) (.inl rfl)); have NB0_352 := am (nl hg (IsS62.lt (IsS62.g0 HI0.out))); have NB352_0 := am (Ne.symm NB0_352.out); replace HI0 := am (IsS62.below (IsS62.g0 HI0.out) hb); clear hb hbox hg) | (refine gl 8 Try.func22 #[.pointer (some ⟨g, 0, none⟩)] rfl ?_; (with_reducible refine (spec_l71Play.calls k g s0_0 s0_1 t353 t356 t359 t362 w0 _ ?side1 ?side2 A2.out).mono ?_); (case side1 => exact IsS62.g1 HI0.out NB0_352.out); (case side2 => exact bg2 HB.out (IsS62.ge HI0.out) GE352.out); rintro e w37 ⟨v354, v357, v360, rfl, ho0, ho1, ho2, hi, hb, hk⟩; refine ⟨_, rfl, ?_⟩; replace BK352 := am (KeepBut.blk hk (pb BK352.out) NB352_0.out (by simp)); have HO355 := am (Kd.R_lower (Kd.R_newM (M := fun k_ => (w.heap.size ≤ k_)) ho0 (keep_size (kb1 HK.out GW352.out)) (fun k_ h_ => h_)) (keep_size (kb1 HK.out GW352.out))); have HO358 := am (Kd.S_lower (Kd.S_newM (M := fun k_ => (w.heap.size ≤ k_)) ho1 (keep_size (kb1 HK.out GW352.out)) (fun k_ h_ => h_)) (keep_size (kb1 HK.out GW352.out))); have HO361 := am (Kd.R_lower (Kd.R_newM (M := fun k_ => (w.heap.size ≤ k_)) ho2 (keep_size (kb1 HK.out GW352.out)) (fun k_ h_ => h_)) (keep_size (kb1 HK.out GW352.out))); replace HK := am (KeepBut.trans (kb1 HK.out GW352.out) hk (.inl rfl)); replace HB := am (hb); replace HI0 := am (hi); clear hb hk hi ho0 ho1 ho2) | (refine bx 4 #[.slice none 0 0, .slice none 0 0] 26 rfl ?_; intro gb363 hg w38 hbox hb; replace HO355 := am (Kd.R_below (pr HO355.out) hb); replace HO358 := am (Kd.S_below (ps HO358.out) hb); replace HO361 := am (Kd.R_below (pr HO361.out) hb); replace HB := am (below_step (bg2 HB.out (IsS62.ge HI0.out) GE352.out) hb); have BK363 := am (hbox); have GW363 := am (gk hg (kb1 HK.out GW352.out)); have GE363 := am (Nat.le_trans HW0.out GW363.out); replace HK := am (KeepBut.trans (kb1 HK.out GW352.out) (KeepBut.of_below hb g none) (.inl rfl)); have NB352_363 := am (nb hg (pb BK352.out)); have NB363_352 := am (Ne.symm NB352_363.out); replace BK352 := am (blk_below (pb BK352.out) hb); have NB0_363 := am (nl hg (IsS62.lt (IsS62.g1 HI0.out NB0_352.out))); have NB363_0 := am (Ne.symm NB0_363.out); replace HI0 := am (IsS62.below (IsS62.g1 HI0.out NB0_352.out) hb); clear hb hbox hg; obtain ⟨Ao39, co39, eo39⟩ := Kd.S_slice HO358.out; subst eo39; have hnb40 := NB363_352.out; have hnc40 := NB352_363.out; have hnb41 := NB363_0.out; have hnc41 := NB0_363.out; obtain ⟨hcz42_0, hcz42_1⟩ := b2 BK363.out; obtain ⟨hfz42_0, hfz42_1⟩ := f2 BK363.out; obtain ⟨Ao43, co43, eo43⟩ := Kd.R_slice HO361.out; subst eo43) | (refine gl 12 Try.func23 #[.pointer (some ⟨g, 0, none⟩), .int .i64 30] rfl ?_; (with_reducible refine (spec_l6Rd_pick.calls k g s0_0 t362 30 t364 t365 w0 _ ?side1 ?side2 A3.out).mono ?_); (case side1 => exact IsS62.g2 HI0.out NB0_352.out NB0_363.out); (case side2 => exact bg3 HB.out (IsS62.ge HI0.out) GE352.out GE363.out); rintro e w44 ⟨rfl, hi, hb, hk⟩; refine ⟨_, rfl, ?_⟩; replace BK352 := am (KeepBut.blk hk (bf2 (pb BK352.out) NB352_363.out) NB352_0.out (by simp)); replace HO355 := am (Kd.R_mono (Kd.R_keep (IsS62.apart (IsS62.g2 HI0.out NB0_352.out NB0_363.out) (pr ((Kd.R_mono (Kd.R_far (p := ⟨gb363, 1, none⟩) (Kd.R_far (p := ⟨gb363, 0, none⟩) (Kd.R_types HO355.out BK363.out (by decide)) (fun _ hk => hk.2) (.slice Ao39 t356.length co39)) (fun _ hk => hk.2) (.slice Ao43 t359.length co43)) (fun _ h_ => h_.1)))) (by decide)) hk (fun _ h => h.2)) (fun _ h => h.1)); replace HO358 := am (Kd.S_mono (Kd.S_keep (IsS62.apartS (IsS62.g2 HI0.out NB0_352.out NB0_363.out) (ps ((Kd.S_mono (Kd.S_far (p := ⟨gb363, 1, none⟩) (Kd.S_far (p := ⟨gb363, 0, none⟩) (Kd.S_types HO358.out BK363.out (by decide)) (fun _ hk => hk.2) (.slice Ao39 t356.length co39)) (fun _ hk => hk.2) (.slice Ao43 t359.length co43)) (fun _ h_ => h_.1)))) (by decide)) hk (fun _ h => h.2)) (fun _ h => h.1)); replace HO361 := am (Kd.R_mono (Kd.R_keep (IsS62.apart (IsS62.g2 HI0.out NB0_352.out NB0_363.out) (pr ((Kd.R_mono (Kd.R_far (p := ⟨gb363, 1, none⟩) (Kd.R_far (p := ⟨gb363, 0, none⟩) (Kd.R_types HO361.out BK363.out (by decide)) (fun _ hk => hk.2) (.slice Ao39 t356.length co39)) (fun _ hk => hk.2) (.slice Ao43 t359.length co43)) (fun _ h_ => h_.1)))) (by decide)) hk (fun _ h => h.2)) (fun _ h => h.1)); replace BK363 := am (KeepBut.blk hk (bp2 (pb BK363.out)) NB363_0.out (by simp)); replace HK := am (KeepBut.trans (kb2 HK.out GW352.out GW363.out) hk (.inl rfl)); replace HB := am (hb); replace HI0 := am (hi); clear hb hk hi; obtain ⟨hcz45_0, hcz45_1⟩ := b2 BK363.out; obtain ⟨hfz45_0, hfz45_1⟩ := f2 BK363.out; have n_ := am (Kd.R_mono (ok' := (fun k_ => (w.heap.size ≤ k_))) HO361.out (fun k_ hk => hk.1)); clear HO361; have HO361 := n_; clear n_; have q46 : (1 : Int) ≤ ((t359.length : Int) : Int) := ofb; obtain ⟨i046, hi046, _, hsz46, _⟩ := info_parts info3; have hcut46 := cut_from (P := Try.prog) 24 3 .i64 Try.underlying24 hi046 1 hsz46 Ao43 t359.length co43 1 (by omega) q46; have hr46 := Kd.Q_drop (k := (1 : Int).toNat) (Kd.Q_of_R HO361.out) (by omega); obtain ⟨A46, hA46⟩ : ∃ A1, A1 = (if co43 = (1 : Int).toNat then Ao43 else (Ao43 : Option Addr).map (·.add ((1 : Int).toNat * 1))) := ⟨_, rfl⟩; obtain ⟨c46, hc46⟩ : ∃ c1, c1 = co43 - (1 : Int).toNat := ⟨_, rfl⟩; have hy46 : y375.length = t359.length - (1 : Int).toNat := (by rw [Ny375.out, List.length_drop]); rw [← Ny375.out] at hr46; rw [← hy46, ← hA46, ← hc46] at hcut46; replace hr46 : Kd.Q (Kd.int .i64) 3 w44 w.heap.size (fun k_ => (w.heap.size ≤ k_)) (.slice A46 y375.length c46) y375 := (by rw [hA46, hc46, hy46]; exact hr46); have HE46 : Aside0 ((Value.slice A46 y375.length c46).ownBlock = (.slice Ao43 t359.length co43 : Value).ownBlock) := ⟨by rw [hA46]; split <;> (cases (Ao43 : Option Addr) <;> rfl)⟩; clear hy46 hi046 hsz46 HO361 hA46 hc46; have HO377 := am hr46; clear hr46; replace q46 := eq_true q46; have hnb47 := NB352_0.out; have hnc47 := NB0_352.out; obtain ⟨hcz48_0, hcz48_1⟩ := b2 BK352.out; obtain ⟨hfz48_0, hfz48_1⟩ := f2 BK352.out))
   refine bodyPost_ret (results_cell_row rfl _ _ gb352 26 #[.slice Ao39 t356.length co39, .slice A46 y375.length c46] (0, 0) _ rfl (bp2 (bf1 (pb BK352.out) NB352_363.out)) Try.underlying26 rfl (by kernel_rfl)) rfl ?_
   exact ⟨_, _, rq ⟨Kd.S_V (ps (Kd.S_mono (Kd.S_far (p := ⟨gb352, 1, none⟩) (Kd.S_far (p := ⟨gb352, 0, none⟩) (Kd.S_far (p := ⟨gb363, 1, none⟩) (Kd.S_types (Kd.S_types (Kd.S_apart' HO358.out (Kd.Q_typed HO377.out) (by decide)) BK363.out (by decide)) BK352.out (by decide)) (fun _ hk => hk.1.2) (.slice A46 y375.length c46)) (fun _ hk => hk.2) (.slice Ao39 t356.length co39)) (fun _ hk => hk.2) (.slice A46 y375.length c46)) (fun _ hk => ⟨hk.1.1.1.1, hk.1.1.2⟩))), pq (Kd.Q_mono (Kd.Q_far (p := ⟨gb352, 1, none⟩) (Kd.Q_far (p := ⟨gb352, 0, none⟩) (Kd.Q_far (p := ⟨gb363, 1, none⟩) (Kd.Q_types (Kd.Q_types HO377.out BK363.out (by decide)) BK352.out (by decide)) (fun _ hk => hk.1.2) (.slice A46 y375.length c46)) (fun _ hk => hk.2) (.slice Ao39 t356.length co39)) (fun _ hk => hk.2) (.slice A46 y375.length c46)) (fun _ hk => hk.1.1)), IsS62.g2 HI0.out NB0_352.out NB0_363.out, bg3 HB.out (IsS62.ge HI0.out) GE352.out GE363.out, kb2 HK.out GW352.out GW363.out⟩⟩
 rw [if_neg c34] at H
 have c34b0 : (t364 == 1) = false := beq_eq_false_iff_ne.mpr c34
 have c34b1 : (t364 != 1) = true := bne_iff_ne.mpr c34
 by_cases c49 : t364 = 2
 · rw [if_pos c49] at H
   have c49b0 : (t364 == 2) = true := beq_iff_eq.mpr c49
   have c49b1 : (t364 != 2) = false := bne_eq_false_iff_eq.mpr c49
   clear c49
   replace H := Option.bind_eq_some_iff.mp H
   obtain ⟨⟨t378, t381⟩, A500, H⟩ := H
   have A50 := am A500
   clear A500
   simp only [Option.some.injEq, Prod.mk.injEq] at H
   obtain ⟨rfl, rfl, rfl⟩ := H
   go_enter Try.func10, Try.ntmps10
   go_wp2_with (first | (refine bx 2 #[.slice none 0 0, .slice none 0 0] 26 rfl ?_; intro gb352 hg w51 hbox hb; replace HB := am (below_step (bg1 HB.out (IsS62.ge HI0.out)) hb); have BK352 := am (hbox); have GW352 := am (gk hg (kb0 HK.out)); have GE352 := am (Nat.le_trans HW0.out GW352.out); replace HK := am (KeepBut.trans (kb0 HK.out) (KeepBut.of_below hb g none) (.inl rfl)); have NB0_352 := am (nl hg (IsS62.lt (IsS62.g0 HI0.out))); have NB352_0 := am (Ne.symm NB0_352.out); replace HI0 := am (IsS62.below (IsS62.g0 HI0.out) hb); clear hb hbox hg) | (refine gl 8 Try.func22 #[.pointer (some ⟨g, 0, none⟩)] rfl ?_; (with_reducible refine (spec_l71Play.calls k g s0_0 s0_1 t353 t356 t359 t362 w0 _ ?side1 ?side2 A2.out).mono ?_); (case side1 => exact IsS62.g1 HI0.out NB0_352.out); (case side2 => exact bg2 HB.out (IsS62.ge HI0.out) GE352.out); rintro e w52 ⟨v354, v357, v360, rfl, ho0, ho1, ho2, hi, hb, hk⟩; refine ⟨_, rfl, ?_⟩; replace BK352 := am (KeepBut.blk hk (pb BK352.out) NB352_0.out (by simp)); have HO355 := am (Kd.R_lower (Kd.R_newM (M := fun k_ => (w.heap.size ≤ k_)) ho0 (keep_size (kb1 HK.out GW352.out)) (fun k_ h_ => h_)) (keep_size (kb1 HK.out GW352.out))); have HO358 := am (Kd.S_lower (Kd.S_newM (M := fun k_ => (w.heap.size ≤ k_)) ho1 (keep_size (kb1 HK.out GW352.out)) (fun k_ h_ => h_)) (keep_size (kb1 HK.out GW352.out))); have HO361 := am (Kd.R_lower (Kd.R_newM (M := fun k_ => (w.heap.size ≤ k_)) ho2 (keep_size (kb1 HK.out GW352.out)) (fun k_ h_ => h_)) (keep_size (kb1 HK.out GW352.out))); replace HK := am (KeepBut.trans (kb1 HK.out GW352.out) hk (.inl rfl)); replace HB := am (hb); replace HI0 := am (hi); clear hb hk hi ho0 ho1 ho2) | (refine bx 4 #[.slice none 0 0, .slice none 0 0] 26 rfl ?_; intro gb363 hg w53 hbox hb; replace HO355 := am (Kd.R_below (pr HO355.out) hb); replace HO358 := am (Kd.S_below (ps HO358.out) hb); replace HO361 := am (Kd.R_below (pr HO361.out) hb); replace HB := am (below_step (bg2 HB.out (IsS62.ge HI0.out) GE352.out) hb); have BK363 := am (hbox); have GW363 := am (gk hg (kb1 HK.out GW352.out)); have GE363 := am (Nat.le_trans HW0.out GW363.out); replace HK := am (KeepBut.trans (kb1 HK.out GW352.out) (KeepBut.of_below hb g none) (.inl rfl)); have NB352_363 := am (nb hg (pb BK352.out)); have NB363_352 := am (Ne.symm NB352_363.out); replace BK352 := am (blk_below (pb BK352.out) hb); have NB0_363 := am (nl hg (IsS62.lt (IsS62.g1 HI0.out NB0_352.out))); have NB363_0 := am (Ne.symm NB0_363.out); replace HI0 := am (IsS62.below (IsS62.g1 HI0.out NB0_352.out) hb); clear hb hbox hg; obtain ⟨Ao54, co54, eo54⟩ := Kd.S_slice HO358.out; subst eo54; have hnb55 := NB363_352.out; have hnc55 := NB352_363.out; have hnb56 := NB363_0.out; have hnc56 := NB0_363.out; obtain ⟨hcz57_0, hcz57_1⟩ := b2 BK363.out; obtain ⟨hfz57_0, hfz57_1⟩ := f2 BK363.out; obtain ⟨Ao58, co58, eo58⟩ := Kd.R_slice HO361.out; subst eo58) | (refine gl 12 Try.func23 #[.pointer (some ⟨g, 0, none⟩), .int .i64 30] rfl ?_; (with_reducible refine (spec_l6Rd_pick.calls k g s0_0 t362 30 t364 t365 w0 _ ?side1 ?side2 A3.out).mono ?_); (case side1 => exact IsS62.g2 HI0.out NB0_352.out NB0_363.out); (case side2 => exact bg3 HB.out (IsS62.ge HI0.out) GE352.out GE363.out); rintro e w59 ⟨rfl, hi, hb, hk⟩; refine ⟨_, rfl, ?_⟩; replace BK352 := am (KeepBut.blk hk (bf2 (pb BK352.out) NB352_363.out) NB352_0.out (by simp)); replace HO355 := am (Kd.R_mono (Kd.R_keep (IsS62.apart (IsS62.g2 HI0.out NB0_352.out NB0_363.out) (pr ((Kd.R_mono (Kd.R_far (p := ⟨gb363, 1, none⟩) (Kd.R_far (p := ⟨gb363, 0, none⟩) (Kd.R_types HO355.out BK363.out (by decide)) (fun _ hk => hk.2) (.slice Ao54 t356.length co54)) (fun _ hk => hk.2) (.slice Ao58 t359.length co58)) (fun _ h_ => h_.1)))) (by decide)) hk (fun _ h => h.2)) (fun _ h => h.1)); replace HO358 := am (Kd.S_mono (Kd.S_keep (IsS62.apartS (IsS62.g2 HI0.out NB0_352.out NB0_363.out) (ps ((Kd.S_mono (Kd.S_far (p := ⟨gb363, 1, none⟩) (Kd.S_far (p := ⟨gb363, 0, none⟩) (Kd.S_types HO358.out BK363.out (by decide)) (fun _ hk => hk.2) (.slice Ao54 t356.length co54)) (fun _ hk => hk.2) (.slice Ao58 t359.length co58)) (fun _ h_ => h_.1)))) (by decide)) hk (fun _ h => h.2)) (fun _ h => h.1)); replace HO361 := am (Kd.R_mono (Kd.R_keep (IsS62.apart (IsS62.g2 HI0.out NB0_352.out NB0_363.out) (pr ((Kd.R_mono (Kd.R_far (p := ⟨gb363, 1, none⟩) (Kd.R_far (p := ⟨gb363, 0, none⟩) (Kd.R_types HO361.out BK363.out (by decide)) (fun _ hk => hk.2) (.slice Ao54 t356.length co54)) (fun _ hk => hk.2) (.slice Ao58 t359.length co58)) (fun _ h_ => h_.1)))) (by decide)) hk (fun _ h => h.2)) (fun _ h => h.1)); replace BK363 := am (KeepBut.blk hk (bp2 (pb BK363.out)) NB363_0.out (by simp)); replace HK := am (KeepBut.trans (kb2 HK.out GW352.out GW363.out) hk (.inl rfl)); replace HB := am (hb); replace HI0 := am (hi); clear hb hk hi) | (refine gl 34 Try.func24 #[.pointer (some ⟨g, 0, none⟩)] rfl ?_; (with_reducible refine (spec_l71Flash.calls k g s0_0 t365 t378 t381 w0 _ ?side1 ?side2 A50.out).mono ?_); (case side1 => exact IsS62.g2 HI0.out NB0_352.out NB0_363.out); (case side2 => exact bg3 HB.out (IsS62.ge HI0.out) GE352.out GE363.out); rintro e w60 ⟨v379, rfl, ho0, hi, hb, hk⟩; refine ⟨_, rfl, ?_⟩; have HO380 := am (Kd.V_lower (Kd.V_mono (ok' := fun k_ => (w.heap.size ≤ k_) ∧ some k_ ≠ (v354 : Value).ownBlock ∧ some k_ ≠ (.slice Ao54 t356.length co54 : Value).ownBlock ∧ some k_ ≠ (.slice Ao58 t359.length co58 : Value).ownBlock ∧ k_ ≠ gb352 ∧ k_ ≠ gb363 ∧ k_ ≠ g) ho0 (fun k_ hk_ => ⟨(Nat.le_trans (keep_size (kb2 HK.out GW352.out GW363.out)) hk_), (Kd.fresh' (Kd.R_lt (pr HO355.out)) k_ hk_), (Kd.fresh' (Kd.S_lt (ps HO358.out)) k_ hk_), (Kd.fresh' (Kd.R_lt (pr HO361.out)) k_ hk_), (Kd.freshB (g := gb352) (o := .cells #[.slice none 0 0, .slice none 0 0] 26 (0, 0)) (pb BK352.out) k_ hk_), (Kd.freshB (g := gb363) (o := .cells #[.slice Ao54 t356.length co54, .slice Ao58 t359.length co58] 26 (0, 0)) (pb BK363.out) k_ hk_), (IsS62.fresh (IsS62.g2 HI0.out NB0_352.out NB0_363.out) k_ hk_)⟩)) (keep_size (kb2 HK.out GW352.out GW363.out))); replace BK352 := am (KeepBut.blk hk (pb BK352.out) NB352_0.out (by simp)); replace HO355 := am (Kd.R_mono (Kd.R_keep (IsS62.apart (IsS62.g2 HI0.out NB0_352.out NB0_363.out) (pr HO355.out) (by decide)) hk (fun _ h => h.2)) (fun _ h => h.1)); replace HO358 := am (Kd.S_mono (Kd.S_keep (IsS62.apartS (IsS62.g2 HI0.out NB0_352.out NB0_363.out) (ps HO358.out) (by decide)) hk (fun _ h => h.2)) (fun _ h => h.1)); replace HO361 := am (Kd.R_mono (Kd.R_keep (IsS62.apart (IsS62.g2 HI0.out NB0_352.out NB0_363.out) (pr HO361.out) (by decide)) hk (fun _ h => h.2)) (fun _ h => h.1)); replace BK363 := am (KeepBut.blk hk (pb BK363.out) NB363_0.out (by simp)); replace HK := am (KeepBut.trans (kb2 HK.out GW352.out GW363.out) hk (.inl rfl)); replace HB := am (hb); replace HI0 := am (hi); clear hb hk hi ho0; obtain ⟨Ao61, co61, eo61⟩ := Kd.V_slice HO380.out; subst eo61; obtain ⟨hcz62_0, hcz62_1⟩ := b2 BK363.out; obtain ⟨hfz62_0, hfz62_1⟩ := f2 BK363.out; have hnb63 := NB352_0.out; have hnc63 := NB0_352.out; obtain ⟨hcz64_0, hcz64_1⟩ := b2 BK352.out; obtain ⟨hfz64_0, hfz64_1⟩ := f2 BK352.out))
   refine bodyPost_ret (results_cell_row rfl _ _ gb352 26 #[.slice Ao61 t378.length co61, .slice Ao58 t359.length co58] (0, 0) _ rfl (bp2 (bf1 (pb BK352.out) NB352_363.out)) Try.underlying26 rfl (by kernel_rfl)) rfl ?_
   exact ⟨_, _, rq ⟨pv (Kd.V_mono (Kd.V_far (p := ⟨gb352, 1, none⟩) (Kd.V_far (p := ⟨gb352, 0, none⟩) (Kd.V_far (p := ⟨gb363, 0, none⟩) (Kd.V_mono (Kd.V_mono HO380.out (fun k_ hk => (⟨hk, hk.2.2.2.2.2.1⟩ : _ ∧ k_ ≠ gb363))) (fun k_ hk => (⟨hk, hk.1.2.2.2.2.1⟩ : _ ∧ k_ ≠ gb352))) (fun _ hk => hk.1.2) (.slice Ao61 t378.length co61)) (fun _ hk => hk.2) (.slice Ao61 t378.length co61)) (fun _ hk => hk.2) (.slice Ao58 t359.length co58)) (fun _ hk => ⟨hk.1.1.1, hk.1.1.2.2.2.1⟩)), Kd.Q_of_R (pr (Kd.R_mono (Kd.R_far (p := ⟨gb352, 1, none⟩) (Kd.R_far (p := ⟨gb352, 0, none⟩) (Kd.R_far (p := ⟨gb363, 0, none⟩) (Kd.R_types (Kd.R_types HO361.out BK363.out (by decide)) BK352.out (by decide)) (fun _ hk => hk.1.2) (.slice Ao61 t378.length co61)) (fun _ hk => hk.2) (.slice Ao61 t378.length co61)) (fun _ hk => hk.2) (.slice Ao58 t359.length co58)) (fun _ hk => hk.1.1.1))), IsS62.g2 HI0.out NB0_352.out NB0_363.out, bg3 HB.out (IsS62.ge HI0.out) GE352.out GE363.out, kb2 HK.out GW352.out GW363.out⟩⟩
 rw [if_neg c49] at H
 have c49b0 : (t364 == 2) = false := beq_eq_false_iff_ne.mpr c49
 have c49b1 : (t364 != 2) = true := bne_iff_ne.mpr c49
 by_cases c65 : t364 = 3
 rotate_left
 · rw [if_neg c65] at H
   have c65b0 : (t364 == 3) = false := beq_eq_false_iff_ne.mpr c65
   have c65b1 : (t364 != 3) = true := bne_iff_ne.mpr c65
   simp only [Option.some.injEq, Prod.mk.injEq] at H
   obtain ⟨rfl, rfl, rfl⟩ := H
   go_enter Try.func10, Try.ntmps10
   go_wp2_with (first | (refine bx 2 #[.slice none 0 0, .slice none 0 0] 26 rfl ?_; intro gb352 hg w90 hbox hb; replace HB := am (below_step (bg1 HB.out (IsS62.ge HI0.out)) hb); have BK352 := am (hbox); have GW352 := am (gk hg (kb0 HK.out)); have GE352 := am (Nat.le_trans HW0.out GW352.out); replace HK := am (KeepBut.trans (kb0 HK.out) (KeepBut.of_below hb g none) (.inl rfl)); have NB0_352 := am (nl hg (IsS62.lt (IsS62.g0 HI0.out))); have NB352_0 := am (Ne.symm NB0_352.out); replace HI0 := am (IsS62.below (IsS62.g0 HI0.out) hb); clear hb hbox hg) | (refine gl 8 Try.func22 #[.pointer (some ⟨g, 0, none⟩)] rfl ?_; (with_reducible refine (spec_l71Play.calls k g s0_0 s0_1 t353 t356 t359 t362 w0 _ ?side1 ?side2 A2.out).mono ?_); (case side1 => exact IsS62.g1 HI0.out NB0_352.out); (case side2 => exact bg2 HB.out (IsS62.ge HI0.out) GE352.out); rintro e w91 ⟨v354, v357, v360, rfl, ho0, ho1, ho2, hi, hb, hk⟩; refine ⟨_, rfl, ?_⟩; replace BK352 := am (KeepBut.blk hk (pb BK352.out) NB352_0.out (by simp)); have HO355 := am (Kd.R_lower (Kd.R_newM (M := fun k_ => (w.heap.size ≤ k_)) ho0 (keep_size (kb1 HK.out GW352.out)) (fun k_ h_ => h_)) (keep_size (kb1 HK.out GW352.out))); have HO358 := am (Kd.S_lower (Kd.S_newM (M := fun k_ => (w.heap.size ≤ k_)) ho1 (keep_size (kb1 HK.out GW352.out)) (fun k_ h_ => h_)) (keep_size (kb1 HK.out GW352.out))); have HO361 := am (Kd.R_lower (Kd.R_newM (M := fun k_ => (w.heap.size ≤ k_)) ho2 (keep_size (kb1 HK.out GW352.out)) (fun k_ h_ => h_)) (keep_size (kb1 HK.out GW352.out))); replace HK := am (KeepBut.trans (kb1 HK.out GW352.out) hk (.inl rfl)); replace HB := am (hb); replace HI0 := am (hi); clear hb hk hi ho0 ho1 ho2) | (refine bx 4 #[.slice none 0 0, .slice none 0 0] 26 rfl ?_; intro gb363 hg w92 hbox hb; replace HO355 := am (Kd.R_below (pr HO355.out) hb); replace HO358 := am (Kd.S_below (ps HO358.out) hb); replace HO361 := am (Kd.R_below (pr HO361.out) hb); replace HB := am (below_step (bg2 HB.out (IsS62.ge HI0.out) GE352.out) hb); have BK363 := am (hbox); have GW363 := am (gk hg (kb1 HK.out GW352.out)); have GE363 := am (Nat.le_trans HW0.out GW363.out); replace HK := am (KeepBut.trans (kb1 HK.out GW352.out) (KeepBut.of_below hb g none) (.inl rfl)); have NB352_363 := am (nb hg (pb BK352.out)); have NB363_352 := am (Ne.symm NB352_363.out); replace BK352 := am (blk_below (pb BK352.out) hb); have NB0_363 := am (nl hg (IsS62.lt (IsS62.g1 HI0.out NB0_352.out))); have NB363_0 := am (Ne.symm NB0_363.out); replace HI0 := am (IsS62.below (IsS62.g1 HI0.out NB0_352.out) hb); clear hb hbox hg; obtain ⟨Ao93, co93, eo93⟩ := Kd.S_slice HO358.out; subst eo93; have hnb94 := NB363_352.out; have hnc94 := NB352_363.out; have hnb95 := NB363_0.out; have hnc95 := NB0_363.out; obtain ⟨hcz96_0, hcz96_1⟩ := b2 BK363.out; obtain ⟨hfz96_0, hfz96_1⟩ := f2 BK363.out; obtain ⟨Ao97, co97, eo97⟩ := Kd.R_slice HO361.out; subst eo97) | (refine gl 12 Try.func23 #[.pointer (some ⟨g, 0, none⟩), .int .i64 30] rfl ?_; (with_reducible refine (spec_l6Rd_pick.calls k g s0_0 t362 30 t364 t365 w0 _ ?side1 ?side2 A3.out).mono ?_); (case side1 => exact IsS62.g2 HI0.out NB0_352.out NB0_363.out); (case side2 => exact bg3 HB.out (IsS62.ge HI0.out) GE352.out GE363.out); rintro e w98 ⟨rfl, hi, hb, hk⟩; refine ⟨_, rfl, ?_⟩; replace BK352 := am (KeepBut.blk hk (bf2 (pb BK352.out) NB352_363.out) NB352_0.out (by simp)); replace HO355 := am (Kd.R_mono (Kd.R_keep (IsS62.apart (IsS62.g2 HI0.out NB0_352.out NB0_363.out) (pr ((Kd.R_mono (Kd.R_far (p := ⟨gb363, 1, none⟩) (Kd.R_far (p := ⟨gb363, 0, none⟩) (Kd.R_types HO355.out BK363.out (by decide)) (fun _ hk => hk.2) (.slice Ao93 t356.length co93)) (fun _ hk => hk.2) (.slice Ao97 t359.length co97)) (fun _ h_ => h_.1)))) (by decide)) hk (fun _ h => h.2)) (fun _ h => h.1)); replace HO358 := am (Kd.S_mono (Kd.S_keep (IsS62.apartS (IsS62.g2 HI0.out NB0_352.out NB0_363.out) (ps ((Kd.S_mono (Kd.S_far (p := ⟨gb363, 1, none⟩) (Kd.S_far (p := ⟨gb363, 0, none⟩) (Kd.S_types HO358.out BK363.out (by decide)) (fun _ hk => hk.2) (.slice Ao93 t356.length co93)) (fun _ hk => hk.2) (.slice Ao97 t359.length co97)) (fun _ h_ => h_.1)))) (by decide)) hk (fun _ h => h.2)) (fun _ h => h.1)); replace HO361 := am (Kd.R_mono (Kd.R_keep (IsS62.apart (IsS62.g2 HI0.out NB0_352.out NB0_363.out) (pr ((Kd.R_mono (Kd.R_far (p := ⟨gb363, 1, none⟩) (Kd.R_far (p := ⟨gb363, 0, none⟩) (Kd.R_types HO361.out BK363.out (by decide)) (fun _ hk => hk.2) (.slice Ao93 t356.length co93)) (fun _ hk => hk.2) (.slice Ao97 t359.length co97)) (fun _ h_ => h_.1)))) (by decide)) hk (fun _ h => h.2)) (fun _ h => h.1)); replace BK363 := am (KeepBut.blk hk (bp2 (pb BK363.out)) NB363_0.out (by simp)); replace HK := am (KeepBut.trans (kb2 HK.out GW352.out GW363.out) hk (.inl rfl)); replace HB := am (hb); replace HI0 := am (hi); clear hb hk hi; obtain ⟨hcz99_0, hcz99_1⟩ := b2 BK363.out; obtain ⟨hfz99_0, hfz99_1⟩ := f2 BK363.out; have hnb100 := NB352_0.out; have hnc100 := NB0_352.out; obtain ⟨hcz101_0, hcz101_1⟩ := b2 BK352.out; obtain ⟨hfz101_0, hfz101_1⟩ := f2 BK352.out))
   refine bodyPost_ret (results_cell_row rfl _ _ gb352 26 #[.slice Ao93 t356.length co93, .slice Ao97 t359.length co97] (0, 0) _ rfl (bp2 (pb BK352.out)) Try.underlying26 rfl (by kernel_rfl)) rfl ?_
   exact ⟨_, _, rq ⟨Kd.S_V (ps (Kd.S_mono (Kd.S_far (p := ⟨gb352, 1, none⟩) (Kd.S_far (p := ⟨gb352, 0, none⟩) (Kd.S_types (Kd.S_apart' HO358.out (Kd.R_typed HO361.out) (by decide)) BK352.out (by decide)) (fun _ hk => hk.2) (.slice Ao93 t356.length co93)) (fun _ hk => hk.2) (.slice Ao97 t359.length co97)) (fun _ hk => ⟨hk.1.1.1, hk.1.2⟩))), Kd.Q_of_R (pr (Kd.R_mono (Kd.R_far (p := ⟨gb352, 1, none⟩) (Kd.R_far (p := ⟨gb352, 0, none⟩) (Kd.R_types HO361.out BK352.out (by decide)) (fun _ hk => hk.2) (.slice Ao93 t356.length co93)) (fun _ hk => hk.2) (.slice Ao97 t359.length co97)) (fun _ hk => hk.1.1))), IsS62.g2 HI0.out NB0_352.out NB0_363.out, bg3 HB.out (IsS62.ge HI0.out) GE352.out GE363.out, kb2 HK.out GW352.out GW363.out⟩⟩
 rw [if_pos c65] at H
 have c65b0 : (t364 == 3) = true := beq_iff_eq.mpr c65
 have c65b1 : (t364 != 3) = false := bne_eq_false_iff_eq.mpr c65
 clear c65
 have H' := am H
 clear H
 go_enter Try.func10, Try.ntmps10
 go_wp2_with (first | (refine bx 2 #[.slice none 0 0, .slice none 0 0] 26 rfl ?_; intro gb352 hg w66 hbox hb; replace HB := am (below_step (bg1 HB.out (IsS62.ge HI0.out)) hb); have BK352 := am (hbox); have GW352 := am (gk hg (kb0 HK.out)); have GE352 := am (Nat.le_trans HW0.out GW352.out); replace HK := am (KeepBut.trans (kb0 HK.out) (KeepBut.of_below hb g none) (.inl rfl)); have NB0_352 := am (nl hg (IsS62.lt (IsS62.g0 HI0.out))); have NB352_0 := am (Ne.symm NB0_352.out); replace HI0 := am (IsS62.below (IsS62.g0 HI0.out) hb); clear hb hbox hg) | (refine gl 8 Try.func22 #[.pointer (some ⟨g, 0, none⟩)] rfl ?_; (with_reducible refine (spec_l71Play.calls k g s0_0 s0_1 t353 t356 t359 t362 w0 _ ?side1 ?side2 A2.out).mono ?_); (case side1 => exact IsS62.g1 HI0.out NB0_352.out); (case side2 => exact bg2 HB.out (IsS62.ge HI0.out) GE352.out); rintro e w67 ⟨v354, v357, v360, rfl, ho0, ho1, ho2, hi, hb, hk⟩; refine ⟨_, rfl, ?_⟩; replace BK352 := am (KeepBut.blk hk (pb BK352.out) NB352_0.out (by simp)); have HO355 := am (Kd.R_lower (Kd.R_newM (M := fun k_ => (w.heap.size ≤ k_)) ho0 (keep_size (kb1 HK.out GW352.out)) (fun k_ h_ => h_)) (keep_size (kb1 HK.out GW352.out))); have HO358 := am (Kd.S_lower (Kd.S_newM (M := fun k_ => (w.heap.size ≤ k_)) ho1 (keep_size (kb1 HK.out GW352.out)) (fun k_ h_ => h_)) (keep_size (kb1 HK.out GW352.out))); have HO361 := am (Kd.R_lower (Kd.R_newM (M := fun k_ => (w.heap.size ≤ k_)) ho2 (keep_size (kb1 HK.out GW352.out)) (fun k_ h_ => h_)) (keep_size (kb1 HK.out GW352.out))); replace HK := am (KeepBut.trans (kb1 HK.out GW352.out) hk (.inl rfl)); replace HB := am (hb); replace HI0 := am (hi); clear hb hk hi ho0 ho1 ho2) | (refine bx 4 #[.slice none 0 0, .slice none 0 0] 26 rfl ?_; intro gb363 hg w68 hbox hb; replace HO355 := am (Kd.R_below (pr HO355.out) hb); replace HO358 := am (Kd.S_below (ps HO358.out) hb); replace HO361 := am (Kd.R_below (pr HO361.out) hb); replace HB := am (below_step (bg2 HB.out (IsS62.ge HI0.out) GE352.out) hb); have BK363 := am (hbox); have GW363 := am (gk hg (kb1 HK.out GW352.out)); have GE363 := am (Nat.le_trans HW0.out GW363.out); replace HK := am (KeepBut.trans (kb1 HK.out GW352.out) (KeepBut.of_below hb g none) (.inl rfl)); have NB352_363 := am (nb hg (pb BK352.out)); have NB363_352 := am (Ne.symm NB352_363.out); replace BK352 := am (blk_below (pb BK352.out) hb); have NB0_363 := am (nl hg (IsS62.lt (IsS62.g1 HI0.out NB0_352.out))); have NB363_0 := am (Ne.symm NB0_363.out); replace HI0 := am (IsS62.below (IsS62.g1 HI0.out NB0_352.out) hb); clear hb hbox hg; obtain ⟨Ao69, co69, eo69⟩ := Kd.S_slice HO358.out; subst eo69; have hnb70 := NB363_352.out; have hnc70 := NB352_363.out; have hnb71 := NB363_0.out; have hnc71 := NB0_363.out; obtain ⟨hcz72_0, hcz72_1⟩ := b2 BK363.out; obtain ⟨hfz72_0, hfz72_1⟩ := f2 BK363.out; obtain ⟨Ao73, co73, eo73⟩ := Kd.R_slice HO361.out; subst eo73) | (refine gl 12 Try.func23 #[.pointer (some ⟨g, 0, none⟩), .int .i64 30] rfl ?_; (with_reducible refine (spec_l6Rd_pick.calls k g s0_0 t362 30 t364 t365 w0 _ ?side1 ?side2 A3.out).mono ?_); (case side1 => exact IsS62.g2 HI0.out NB0_352.out NB0_363.out); (case side2 => exact bg3 HB.out (IsS62.ge HI0.out) GE352.out GE363.out); rintro e w74 ⟨rfl, hi, hb, hk⟩; refine ⟨_, rfl, ?_⟩; replace BK352 := am (KeepBut.blk hk (bf2 (pb BK352.out) NB352_363.out) NB352_0.out (by simp)); replace HO355 := am (Kd.R_mono (Kd.R_keep (IsS62.apart (IsS62.g2 HI0.out NB0_352.out NB0_363.out) (pr ((Kd.R_mono (Kd.R_far (p := ⟨gb363, 1, none⟩) (Kd.R_far (p := ⟨gb363, 0, none⟩) (Kd.R_types HO355.out BK363.out (by decide)) (fun _ hk => hk.2) (.slice Ao69 t356.length co69)) (fun _ hk => hk.2) (.slice Ao73 t359.length co73)) (fun _ h_ => h_.1)))) (by decide)) hk (fun _ h => h.2)) (fun _ h => h.1)); replace HO358 := am (Kd.S_mono (Kd.S_keep (IsS62.apartS (IsS62.g2 HI0.out NB0_352.out NB0_363.out) (ps ((Kd.S_mono (Kd.S_far (p := ⟨gb363, 1, none⟩) (Kd.S_far (p := ⟨gb363, 0, none⟩) (Kd.S_types HO358.out BK363.out (by decide)) (fun _ hk => hk.2) (.slice Ao69 t356.length co69)) (fun _ hk => hk.2) (.slice Ao73 t359.length co73)) (fun _ h_ => h_.1)))) (by decide)) hk (fun _ h => h.2)) (fun _ h => h.1)); replace HO361 := am (Kd.R_mono (Kd.R_keep (IsS62.apart (IsS62.g2 HI0.out NB0_352.out NB0_363.out) (pr ((Kd.R_mono (Kd.R_far (p := ⟨gb363, 1, none⟩) (Kd.R_far (p := ⟨gb363, 0, none⟩) (Kd.R_types HO361.out BK363.out (by decide)) (fun _ hk => hk.2) (.slice Ao69 t356.length co69)) (fun _ hk => hk.2) (.slice Ao73 t359.length co73)) (fun _ h_ => h_.1)))) (by decide)) hk (fun _ h => h.2)) (fun _ h => h.1)); replace BK363 := am (KeepBut.blk hk (bp2 (pb BK363.out)) NB363_0.out (by simp)); replace HK := am (KeepBut.trans (kb2 HK.out GW352.out GW363.out) hk (.inl rfl)); replace HB := am (hb); replace HI0 := am (hi); clear hb hk hi))
 go_loopg [5] k (fun kq v5 w' => ∃ (x5_1 : Int) (x364000_1 : List (S60)) (u364000 : Value), v5 = .int .i64 x5_1 ∧ Aside0 (spec_l71Store.l0 kq x5_1 s0_0 t365 x364000_1 t359 = some (r1, r2, r3)) ∧ Aside0 (kq ≤ k) ∧ Aside0 (Kd.S k60 60 w' w.heap.size (fun k_ => (w.heap.size ≤ k_)) u364000 x364000_1) ∧ Aside0 (Kd.Q (Kd.int .i64) 3 w' w.heap.size (fun k_ => (w.heap.size ≤ k_)) (.slice Ao73 t359.length co73) t359) ∧ Aside0 (w'.heap[gb352]? = some (.cells #[(.slice none 0 0), (.slice none 0 0)] 26 (0, 0))) ∧ Aside0 (w'.heap[gb363]? = some (.cells #[u364000, (.slice Ao73 t359.length co73)] 26 (0, 0))) ∧ Aside0 (IsS62 w0 w' g s0_0 t365) ∧ Aside0 (KeepBut w w' g none) ∧ Aside0 (Below w0.heap.size w0 w'))
 case atStart => exact ⟨(0), (t356), (.slice Ao69 t356.length co69), rf, H', ⟨Nat.le_refl _⟩, ⟨ps (Kd.S_mono HO358.out (fun _ hk => hk.1))⟩, ⟨Kd.Q_of_R (pr (Kd.R_mono HO361.out (fun _ hk => hk.1)))⟩, ⟨pb BK352.out⟩, ⟨pb BK363.out⟩, ⟨IsS62.g2 HI0.out NB0_352.out NB0_363.out⟩, ⟨kb2 HK.out GW352.out GW363.out⟩, ⟨bg3 HB.out (IsS62.ge HI0.out) GE352.out GE363.out⟩⟩
 case round =>
  clear H'
  obtain ⟨x5_1, x364000_1, u364000, rfl, HA, HK1, HO_364000, HO_364001, BK352, BK363, HI0, HK, HB⟩ := hrel
  cases gk with
  | zero => exact absurd HA.out (by simp [spec_l71Store.l0])
  | succ k1 =>
   have H := HA.out
   clear HA
   simp only [spec_l71Store.l0] at H
   by_cases c75 : x5_1 < (x364000_1.length : Int)
   rotate_left
   · rw [if_neg c75] at H
     have c75b0 := decide_eq_false c75
     clear c75
     simp only [Option.some.injEq, Prod.mk.injEq] at H
     obtain ⟨rfl, rfl, rfl⟩ := H
     have hnb84 := NB363_352.out
     have hnc84 := NB352_363.out
     have hnb85 := NB363_0.out
     have hnc85 := NB0_363.out
     obtain ⟨hcz86_0, hcz86_1⟩ := b2 BK363.out
     obtain ⟨hfz86_0, hfz86_1⟩ := f2 BK363.out
     obtain ⟨Ao87, co87, eo87⟩ := Kd.S_slice HO_364000.out
     subst eo87
     have hnb88 := NB352_0.out
     have hnc88 := NB0_352.out
     obtain ⟨hcz89_0, hcz89_1⟩ := b2 BK352.out
     obtain ⟨hfz89_0, hfz89_1⟩ := f2 BK352.out
     go_wp2
     refine bodyPost_ret (results_cell_row rfl _ _ gb352 26 #[.slice Ao87 x364000_1.length co87, .slice Ao73 t359.length co73] (0, 0) _ rfl (bp2 (pb BK352.out)) Try.underlying26 rfl (by kernel_rfl)) rfl ?_
     exact ⟨_, _, rq ⟨Kd.S_V (ps (Kd.S_mono (Kd.S_far (p := ⟨gb352, 1, none⟩) (Kd.S_far (p := ⟨gb352, 0, none⟩) (Kd.S_types (Kd.S_apart' HO_364000.out (Kd.Q_typed HO_364001.out) (by decide)) BK352.out (by decide)) (fun _ hk => hk.2) (.slice Ao87 x364000_1.length co87)) (fun _ hk => hk.2) (.slice Ao73 t359.length co73)) (fun _ hk => ⟨hk.1.1, hk.1.2⟩))), pq (Kd.Q_mono (Kd.Q_far (p := ⟨gb352, 1, none⟩) (Kd.Q_far (p := ⟨gb352, 0, none⟩) (Kd.Q_types HO_364001.out BK352.out (by decide)) (fun _ hk => hk.2) (.slice Ao87 x364000_1.length co87)) (fun _ hk => hk.2) (.slice Ao73 t359.length co73)) (fun _ hk => hk.1)), IsS62.g2 HI0.out NB0_352.out NB0_363.out, bg3 HB.out (IsS62.ge HI0.out) GE352.out GE363.out, kb2 HK.out GW352.out GW363.out⟩⟩
   rw [if_pos c75] at H
   have c75b0 := decide_eq_true c75
   clear c75
   obtain ⟨c76b0, H⟩ := ifd H
   obtain ⟨y382, hy382⟩ : ∃ y_ : List (S60), y_ = (x364000_1.set (x5_1 : Int).toNat (⟨(rd_T60 x364000_1 x5_1).f0, 200⟩ : S60)) := ⟨_, rfl⟩
   replace H : (spec_l71Store.l0 k1 (wrap64 (x5_1 + 1)) s0_0 t365 y382 t359) = some (r1, r2, r3) := yy hy382 H
   have Ny382 := am hy382
   clear hy382
   have H' := am H
   clear H
   have hnb78 := NB363_352.out
   have hnc78 := NB352_363.out
   have hnb79 := NB363_0.out
   have hnc79 := NB0_363.out
   obtain ⟨hcz80_0, hcz80_1⟩ := b2 BK363.out
   obtain ⟨hfz80_0, hfz80_1⟩ := f2 BK363.out
   obtain ⟨Ao81, co81, eo81⟩ := Kd.S_slice HO_364000.out
   subst eo81
   have p77 : 0 ≤ (x5_1 : Int) := ofb
   have q77 : (x5_1 : Int) < ((x364000_1.length : Int) : Int) := ofb
   obtain ⟨go77, co77, eo77, gb77, gl77, cl77, HG77⟩ := Kd.S_form HO_364000.out (by omega)
   (first | cases eo77 | (injection eo77 with ea_ en_ ec_; (first | subst ea_ | (injection ea_ with ea_; subst ea_)); subst ec_; clear en_))
   have GB77 := am gb77
   have GG77 := am HG77
   clear gb77 gl77 HG77
   obtain ⟨_, ce77, hcl77, hM77, hcc77, hfr77, _, _⟩ := Kd.S_elem HO_364000.out z60 (x5_1 : Int) p77 q77
   obtain ⟨ve77_0, rfl, ge77_0⟩ := k60_openM hM77
   have hx77_0 : wr.cell? ⟨go77, (x5_1 : Int).toNat * 2, none⟩ = some (ve77_0) := hcc77 0 _ rfl
   have hx77_1 : wr.cell? ⟨go77, (x5_1 : Int).toNat * 2 + 1, none⟩ = some (.int .i64 ((rd_T60 x364000_1 x5_1).f1)) := hcc77 1 _ rfl
   have hf77_0 : wr.frozen? ⟨go77, (x5_1 : Int).toNat * 2, none⟩ = false := hfr77 0
   have hf77_1 : wr.frozen? ⟨go77, (x5_1 : Int).toNat * 2 + 1, none⟩ = false := hfr77 1
   clear hcl77 hcc77 hfr77 hM77
   replace p77 := eq_true p77
   replace q77 := eq_true q77
   have HX82 := am (show Kd.S k60 60 wr w.heap.size (fun k_ => ((fun k_ => (w.heap.size ≤ k_))) k_ ∧ ¬ ((fun _ => False)) k_) (.slice (some ⟨go77, 0, none⟩) x364000_1.length co81) x364000_1 from (ps (Kd.S_mono HO_364000.out (fun k_ hk => ⟨hk, fun e_ => e_⟩))))
   obtain ⟨oki82, ce82, hcl82, hM82, hcc82, hfr82, hoki82, hH82⟩ := Kd.S_elem HX82.out z60 (x5_1 : Int) (ofb) (by have h_ : (x5_1 : Int) < ((x364000_1.length : Int) : Int) := ofb; first | exact h_ | (have e_ := (Kd.S_reads' HO_364000.out).1; omega) | simpa using h_)
   obtain ⟨ve82_0, rfl, ge82_0⟩ := k60_openM hM82
   have HP82 := Kd.S_seg hH82 (ofb) (by have h_ : (x5_1 : Int) < ((x364000_1.length : Int) : Int) := ofb; first | exact h_ | (have e_ := (Kd.S_reads' HO_364000.out).1; omega) | simpa using h_) (seg := [.int .i64 200]) (j := 1) (show 2 ≤ 2 from by decide) (x' := (⟨(rd_T60 x364000_1 x5_1).f0, 200⟩ : S60)) (k60_mkM _ _ _ (⟨(rd_T60 x364000_1 x5_1).f0, 200⟩ : S60) (Kd.R_mono ge82_0 (fun _ h_ => Or.inl h_))) (fun _ hk => hk) (fun k_ hk_ => hk_.elim)
   have hx82_1 := hcc82 1 _ rfl
   (try simp only [show (k60).sz = 2 from rfl, Nat.mul_one, Nat.add_zero] at hx82_1)
   have hf82_1 := hfr82 1
   (try simp only [show (k60).sz = 2 from rfl, Nat.mul_one, Nat.add_zero] at hf82_1)
   clear hcl82 hcc82 hfr82 hM82 hoki82 hH82
   go_wp2_with (first | ((with_reducible refine gate_store (t := 3) (p := 49) rfl ?_); refine store_event (t := 3) (p := 49) (v := ?vo_w83) (w1 := (wr.setCell ⟨go77, (x5_1 : Int).toNat * 2 + 1, none⟩ (.int .i64 200))) ?hg ?ho ?hn ?hr ?_; (case ho => rfl); (case hg => rfl); (case hn => rfl); (case hr => first | (go_simp; done) | (go_simp; rfl)); intro w83 hw; have hg : wr.grownBy w83 (some go77) := (by rw [hw]; exact HP82.2); have hp_ : Kd.S k60 60 w83 w.heap.size (fun k_ => (w.heap.size ≤ k_)) (.slice (some ⟨go77, 0, none⟩) x364000_1.length co81) y382 := (by rw [hw, Ny382.out]; exact HP82.1); clear HP82; replace HO_364001 := am (Kd.Q_over' (v := (.slice (some ⟨go77, 0, none⟩) x364000_1.length co81)) (pq HO_364001.out) (Kd.S_typed HO_364000.out) (by decide) hg); replace BK352 := am (blk_grown (g := gb352) (o := .cells #[.slice none 0 0, .slice none 0 0] 26 (0, 0)) (pb BK352.out) hg (Kd.S_ne HO_364000.out BK352.out (by decide))); replace BK363 := am (blk_grown (g := gb363) (o := .cells #[.slice (some ⟨go77, 0, none⟩) x364000_1.length co81, .slice Ao73 t359.length co73] 26 (0, 0)) (pb BK363.out) hg (Kd.S_ne HO_364000.out BK363.out (by decide))); replace HI0 := am (IsS62.grown (show IsS62 w0 _ g s0_0 t365 from IsS62.g2 HI0.out NB0_352.out NB0_363.out) hg (IsS62.own_neS HI0.out HO_364000.out (by decide))); replace HB := am ((by rw [hw]; exact below_set (HB.out) (Nat.le_trans HL.out GB77.out) : Below w0.heap.size w0 w83)); replace HK := am (KeepBut.trans (kb2 HK.out GW352.out GW363.out) (KeepBut.of_grown hg g) (Kd.S_base2 HO_364000.out)); replace HO_364000 := am (hp_); clear hg hw hp_))
   go_roundg k1
   case measure => have := HK1.out; omega
   case rel => exact ⟨(wrap64 (x5_1 + 1)), (y382), (.slice (some ⟨go77, 0, none⟩) x364000_1.length co81), rf, H', ⟨by have := HK1.out; omega⟩, ⟨ps HO_364000.out⟩, ⟨pq HO_364001.out⟩, ⟨pb BK352.out⟩, ⟨pb BK363.out⟩, ⟨IsS62.g2 HI0.out NB0_352.out NB0_363.out⟩, ⟨kb2 HK.out GW352.out GW363.out⟩, ⟨bg3 HB.out (IsS62.ge HI0.out) GE352.out GE363.out⟩⟩
end Go.Proofs.Ytcfpddgfhkaboaa.Rz
