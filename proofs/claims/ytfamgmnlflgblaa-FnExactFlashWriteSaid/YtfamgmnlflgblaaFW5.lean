import Derived.Test.YtfamgmnlflgblaaFWP
import Derived.Deep.RegionHeld3
namespace Go.Proofs.Ytfamgmnlflgblaa.Rf
open Go.RowKit Go.Proofs.YtfamgmnlflgblaaW.PrintWords Go.Proofs.YtfamgmnlflgblaaW.PrintLast Go.Proofs.YtfamgmnlflgblaaW.PrintMore Go.Proofs.Ytfamgmnlflgblaa.Pure
attribute [local go_sem] max2_int min2_int max_two min_two max_three min_three max_four min_four
theorem keepBB {p q r s : Prop} {w7 W : World} (h : p ∧ q ∧ r ∧ s ∧ Below w7.heap.size w7 W) : Below w7.heap.size w7 W := h.2.2.2.2
theorem keep44 {a b c d : Addr} {va vb vc vd : Value} {w7 W W' : World} (h : W.cell? a = some va ∧ W.cell? b = some vb ∧ W.cell? c = some vc ∧ W.cell? d = some vd ∧ Below w7.heap.size w7 W) (hb : Below W.heap.size W W') : W'.cell? a = some va ∧ W'.cell? b = some vb ∧ W'.cell? c = some vc ∧ W'.cell? d = some vd ∧ Below w7.heap.size w7 W' :=
  ⟨up hb h.1, up hb h.2.1, up hb h.2.2.1, up hb h.2.2.2.1, below_then h.2.2.2.2 h.2.2.2.2.size hb⟩
theorem held_fw {K n : Nat} {xs : List S45} {M : Int} {W : World} {b : Nat} {ok : Nat → Prop} {A : Option Addr} {c : Nat} (h : laws_heldBlockS.f K xs 1 = some M) (hl : xs.length = n) (hS : Kd.S kb_ 45 W b ok (.slice A n c) xs) :
    Calls Try.prog 11 #[.slice A n c, .int .i64 1] W fun e w' => e = .returned (.int .i64 M) ∧ Drawn0 W w' := by
  subst hl
  have h1 := Kd.S_reads' hS
  exact laws_heldBlockS.calls K A c xs 1 M W (kb_C h1.2.2) h1.2.1 h
set_option maxHeartbeats 8000000 in
set_option maxRecDepth 100000 in
theorem laws_FnExactFlashWrite.calls (k : Nat) (A0 : Option Addr) (c0 : Nat) (l0 : List S38) (b r0 r1 r2 r3 : Int) (tn : Bool) (r : Bool) (w : World) (hr0 : Kd.C k38 w A0 l0.length l0) (hc0 : l0.length ≤ c0) (hr : laws_FnExactFlashWrite.f k l0 b r0 r1 r2 r3 tn = some r) :
    Calls Try.prog 3 #[.slice A0 l0.length c0, .int .i64 b, .agg #[.int .i64 r0, .int .i64 r1, .int .i64 r2, .int .i64 r3], .bool tn] w fun e w' => e = .returned (.bool r) ∧ Below w.heap.size w w' := by
  obtain rfl : true = r := Option.some.inj hr
  clear hr
  obtain ⟨K, hK⟩ : ∃ K, K = l0.length + 2097162 := ⟨_, rfl⟩
  obtain ⟨v, hv, hs0⟩ := copies_ok_at l0 (fits_of hr0) K (by omega)
  obtain ⟨v', hv', hs1⟩ := szBlockS_ok l0 (fits_of hr0) K (by omega)
  obtain rfl : v = v' := Option.some.inj (hv.symm.trans hv')
  have hs := Aside0.mk (And.intro hs0 hs1)
  clear hs0 hs1 hv'
  have hu := Try.underlying24
  have hbox := blk_new w (.cells #[.int .i64 r0, .int .i64 r1, .int .i64 r2, .int .i64 r3] 24)
  have hB1 := below_alloc (Below.refl _ w) (.cells #[.int .i64 r0, .int .i64 r1, .int .i64 r2, .int .i64 r3] 24)
  have HC0 := Aside0.mk hc0
  clear hc0
  go_enter Try.func3, Try.ntmps3
  go_wp2_with fail
  refine (laws_szBlockS.calls K A0 c0 l0 1048576 v _ (Kd.C_below hr0 hB1) HC0.out hv).mono ?_
  rintro e w2 ⟨rfl, hb2⟩
  have hB2 := below_then hB1 hB1.size hb2
  have hbx := blk_below hbox hb2
  clear hb2 hv
  by_cases hv0 : v < 0
  · clear hs
    have h1 := decide_eq_true hv0
    go_wp2
    go_ret
    exact ⟨rfl, hB2⟩
  have hv1 := decide_eq_false hv0
  obtain ⟨ht, -, -⟩ := hs.out.1 (by omega)
  obtain ⟨hlen, hpg⟩ := hs.out.2 (by omega)
  have he := eqBlockS_ok (l0.map cBlock) (by rw [List.length_map]; exact hlen) (cPages_len l0 hpg) K (by rw [List.length_map]; omega)
  have hmk := marks_ok (l0.map cBlock) (by rw [List.length_map]; exact hlen) (cPages_len l0 hpg) K (by rw [List.length_map]; omega)
  have hfs := specFW_ok (l0.map cBlock) b r0 r1 r2 r3 tn K (by omega)
  have hsm := fwV_small (l0.map cBlock) b r0 r1 r2 r3 tn
  have hev := eqBlockS_ok (fwV (l0.map cBlock) b r0 r1 r2 r3 tn) (by omega) hsm.2 K (by omega)
  have hmv := marks_ok (fwV (l0.map cBlock) b r0 r1 r2 r3 tn) (by omega) hsm.2 K (by omega)
  have HI := Aside0.mk (fun A c w (h : Kd.C k45 w A (l0.map cBlock).length (l0.map cBlock)) (hc : (l0.map cBlock).length ≤ c) => implFW_any A c (l0.map cBlock) b r0 r1 r2 r3 tn w h hc)
  have HRL := Aside0.mk (rampB_len 1 (fwV (l0.map cBlock) b r0 r1 r2 r3 tn))
  generalize l0.map cBlock = X at ht he hmk hfs hsm hev hmv HI HRL
  generalize fwV X b r0 r1 r2 r3 tn = V at hfs hsm hev hmv HI HRL
  generalize fwB X b r0 r1 r2 r3 = ok at hfs HI
  generalize rampB 1 V = R at hmv HRL
  generalize endB 1 V = M at hmv
  generalize rampB 1 X = RX at hmk
  generalize endB 1 X = MX at hmk
  have HT := Aside0.mk ht
  have HEQ := Aside0.mk he
  have HMK := Aside0.mk hmk
  have HFS := Aside0.mk hfs
  have HEV := Aside0.mk hev
  have HMV := Aside0.mk hmv
  clear hs ht he hmk hfs hsm hev hmv hlen hpg hbox hB1 hK hv0
  have HB2 := Aside0.mk hB2
  have c0' : w2.cell? ⟨w.heap.size, 0, none⟩ = some (.int .i64 r0) := (blk_cell hbx 0).trans rfl
  have c1' : w2.cell? ⟨w.heap.size, 1, none⟩ = some (.int .i64 r1) := (blk_cell hbx 1).trans rfl
  have c2' : w2.cell? ⟨w.heap.size, 2, none⟩ = some (.int .i64 r2) := (blk_cell hbx 2).trans rfl
  have c3' : w2.cell? ⟨w.heap.size, 3, none⟩ = some (.int .i64 r3) := (blk_cell hbx 3).trans rfl
  have hSS := (⟨c0', c1', c2', c3', Below.refl _ w2⟩ : _ ∧ _ ∧ _ ∧ _ ∧ Below w2.heap.size w2 w2)
  clear c0' c1' c2' c3' hB2
  go_wp2_with fail
  go_region_held3 (fun W => W.cell? ⟨w.heap.size, 0, none⟩ = some (.int .i64 r0) ∧ W.cell? ⟨w.heap.size, 1, none⟩ = some (.int .i64 r1) ∧ W.cell? ⟨w.heap.size, 2, none⟩ = some (.int .i64 r2) ∧ W.cell? ⟨w.heap.size, 3, none⟩ = some (.int .i64 r3) ∧ Below w2.heap.size w2 W)
    (first | (with_reducible assumption) | (with_reducible exact keep44 hSS (below_drew (Below.refl _ w2))) | (with_reducible exact keep44 hSS (pw_below_drewN (Below.refl _ w2) _)) | exact keep44 (by assumption) hb3 | exact keep44 (by assumption) hb4 | exact keep44 (by assumption) hb5 | go_keep)
    (first
      | (go_at_call 6; refine (laws_toBlockS.calls K A0 c0 l0 X _ (Kd.C_below hr0 (below_then HB2.out HB2.out.size (keepBB (by assumption)))) HC0.out HT.out).mono ?_; rintro e w3 ⟨v1, rfl, ho0, hb3⟩; obtain ⟨B0, d0, rfl⟩ := Kd.S_slice ho0)
      | (go_at_call 7; refine (laws_toRec.calls r0 r1 r2 r3 r0 r1 r2 r3 _ rfl).mono ?_; rintro e w4 ⟨rfl, hb4⟩; have ho0 := Kd.S_below ho0 hb4)
      | (go_at_call 5; refine (spec_FlashWrite.calls K B0 d0 X b r0 r1 r2 r3 tn V ok _ (Kd.S_reads' ho0).2.2 (Kd.S_reads' ho0).2.1 HFS.out).mono ?_; rintro e w5 ⟨v2, rfl, ho2, hb5⟩; obtain ⟨B2, d2, rfl⟩ := Kd.S_slice ho2)
      | fail)
  have hbb := keepBB (by assumption : _ ∧ _ ∧ _ ∧ _ ∧ Below w2.heap.size w2 w5)
  have hB5 := below_then HB2.out HB2.out.size hbb
  have hbx5 := blk_below hbx hbb
  have hlx := blk_lt hbx5
  have ho2 : Kd.S k45 45 w5 w4.heap.size (fun k => k < w5.heap.size) (.slice B2 V.length d2) V := Kd.S_mono (Kd.S_bound ho2) (fun k h => h.2.2.1)
  have HO2 := Aside0.mk ho2
  clear hSS hbb hbx hb3 hb4 hb5 ho0 ho2
  go_split_ands
  go_wp2_with fail
  refine (laws_toBlockS.calls K A0 c0 l0 X _ (Kd.C_below hr0 hB5) HC0.out HT.out).mono ?_
  rintro e w6 ⟨v3, rfl, ho3, hb6⟩
  obtain ⟨B3, d3, rfl⟩ := Kd.S_slice ho3
  have hB6 := below_then hB5 hB5.size hb6
  have hbx6 := blk_below hbx5 hb6
  have HO2 := Aside0.mk (Kd.S_below HO2.out hb6)
  have ho3 : Kd.S k45 45 w6 w5.heap.size (fun k => w5.heap.size ≤ k ∧ k < w6.heap.size) (.slice B3 X.length d3) X := Kd.S_mono (Kd.S_bound ho3) (fun k h => ⟨h.2.1, h.2.2.1⟩)
  have HO3 := Aside0.mk ho3
  have HZ56 := Aside0.mk hb6.size
  have HZ5 := Aside0.mk hB5.size
  clear hb6 hB5 ho3 hbx5
  have q0 : w6.cell? ⟨w.heap.size, 0, none⟩ = some (.int .i64 r0) := (blk_cell hbx6 0).trans rfl
  have q1 : w6.cell? ⟨w.heap.size, 1, none⟩ = some (.int .i64 r1) := (blk_cell hbx6 1).trans rfl
  have q2 : w6.cell? ⟨w.heap.size, 2, none⟩ = some (.int .i64 r2) := (blk_cell hbx6 2).trans rfl
  have q3 : w6.cell? ⟨w.heap.size, 3, none⟩ = some (.int .i64 r3) := (blk_cell hbx6 3).trans rfl
  go_wp2_with fail
  refine (laws_toRec.calls r0 r1 r2 r3 r0 r1 r2 r3 _ rfl).mono ?_
  rintro e w7 ⟨rfl, hb7⟩
  have hB7 := below_then hB6 hB6.size hb7
  have hbx7 := blk_below hbx6 hb7
  have HO2 := Aside0.mk (Kd.S_below HO2.out hb7)
  have HO3 := Aside0.mk (Kd.S_below HO3.out hb7)
  have HZ67 := Aside0.mk hb7.size
  clear hb7 hB6 hbx6 q0 q1 q2 q3
  go_wp2_with fail
  refine (HI.out B3 d3 _ (Kd.S_reads' HO3.out).2.2 (Kd.S_reads' HO3.out).2.1).mono ?_
  rintro e w8 ⟨v5, rfl, ho5, hb8⟩
  obtain ⟨B5, d5, rfl⟩ := Kd.S_slice ho5
  have hB8 := below_then hB7 hB7.size hb8
  have hbx8 := blk_below hbx7 hb8
  have HO2 := Aside0.mk (Kd.S_below HO2.out hb8)
  have HO3 := Aside0.mk (Kd.S_below HO3.out hb8)
  have HO5 := Aside0.mk ho5
  clear hb8 hB7 hbx7 ho5
  go_wp2_with fail
  refine (laws_eqBlockS.calls K B5 d5 V B2 d2 V true _ (kb_C (Kd.S_reads' HO5.out).2.2) (Kd.S_reads' HO5.out).2.1 (Kd.S_reads' HO2.out).2.2 (Kd.S_reads' HO2.out).2.1 HEV.out).mono ?_
  rintro e w9 ⟨rfl, hb9⟩
  have hB9 := below_then hB8 hB8.size hb9
  have hbx9 := blk_below hbx8 hb9
  have HO2 := Aside0.mk (Kd.S_below HO2.out hb9)
  have HO3 := Aside0.mk (Kd.S_below HO3.out hb9)
  have HO5 := Aside0.mk (Kd.S_below HO5.out hb9)
  clear hb9 hB8 hbx8
  go_wp2_with fail
  refine (laws_toBlockS.calls K A0 c0 l0 X _ (Kd.C_below hr0 hB9) HC0.out HT.out).mono ?_
  rintro e w10 ⟨v6, rfl, ho6, hb10⟩
  obtain ⟨B6, d6, rfl⟩ := Kd.S_slice ho6
  have hB10 := below_then hB9 hB9.size hb10
  have hbx10 := blk_below hbx9 hb10
  have HO2 := Aside0.mk (Kd.S_below HO2.out hb10)
  have HO3 := Aside0.mk (Kd.S_below HO3.out hb10)
  have HO5 := Aside0.mk (Kd.S_below HO5.out hb10)
  have HO6 := Aside0.mk ho6
  clear hb10 hB9 hbx9 ho6
  go_wp2_with fail
  refine (laws_eqBlockS.calls K B3 d3 X B6 d6 X true _ (Kd.S_reads' HO3.out).2.2 (Kd.S_reads' HO3.out).2.1 (Kd.S_reads' HO6.out).2.2 (Kd.S_reads' HO6.out).2.1 HEQ.out).mono ?_
  rintro e w11 ⟨rfl, hb11⟩
  have hB11 := below_then hB10 hB10.size hb11
  have hbx11 := blk_below hbx10 hb11
  have HO2 := Aside0.mk (Kd.S_below HO2.out hb11)
  have HO3 := Aside0.mk (Kd.S_below HO3.out hb11)
  have HO5 := Aside0.mk (Kd.S_below HO5.out hb11)
  clear hb11 hB10 hbx10 HO6
  go_wp2_with fail
  refine (laws_markBlockS.calls K (fun k => w5.heap.size ≤ k ∧ k < w6.heap.size) _ X 1 MX RX w _ hB11 (Kd.S_lower HO3.out HZ5.out) HMK.out.1).mono ?_
  rintro e w12 ⟨rfl, _, hb12, hk12⟩
  have hbx12 := blk_kept hbx11 hk12 (fun h => by omega)
  have HO2 := Aside0.mk (Kd.S_step HO2.out (fun k h1 h2 => hk12.2 k h2 (fun h => by omega)))
  have HO5 := Aside0.mk (Kd.S_step HO5.out (fun k h1 h2 => hk12.2 k h2 (fun h => by have := HZ67.out; omega)))
  have hm1 : decide (MX < 0) = false := decide_eq_false (by have := HMK.out.2.2; omega)
  have hB12 := hb12
  clear hb12 hk12 hB11 hbx11 HO3
  go_wp2_with fail
  refine (laws_eqBlockS.calls K B5 d5 V B2 d2 V true _ (kb_C (Kd.S_reads' HO5.out).2.2) (Kd.S_reads' HO5.out).2.1 (Kd.S_reads' HO2.out).2.2 (Kd.S_reads' HO2.out).2.1 HEV.out).mono ?_
  rintro e w13 ⟨rfl, hb13⟩
  have hB13 := below_then hB12 hB12.size hb13
  have hbx13 := blk_below hbx12 hb13
  have HO2 := Aside0.mk (Kd.S_below HO2.out hb13)
  have HO5 := Aside0.mk (Kd.S_below HO5.out hb13)
  clear hb13 hB12 hbx12 hm1
  go_wp2_with fail
  refine (laws_markBlockS.calls_row K (fun k => w7.heap.size ≤ k) _ V 1 M R w _ hB13 (Kd.S_lower HO5.out (by have := HZ5.out; have := HZ56.out; have := HZ67.out; omega)) HMV.out.1).mono ?_
  rintro e w14 ⟨rfl, ho7, hb14, hk14⟩
  have hbx14 := blk_kept hbx13 hk14 (fun h => by have := HZ56.out; have := HZ67.out; omega)
  have HO2 := Aside0.mk (Kd.S_kept HO2.out hk14 (fun k h1 h2 => by have := HZ56.out; have := HZ67.out; omega))
  have HO7 := Aside0.mk ho7
  have hB14 := hb14
  clear hb14 hk14 hB13 hbx13 HO5 ho7
  go_wp2_with fail
  refine (held_fw HMV.out.2.1 HRL.out HO7.out).mono ?_
  rintro e w15 ⟨rfl, hd15⟩
  have hB15 := below_then hB14 hB14.size hd15.below
  have hbx15 := blk_below hbx14 hd15.below
  have HO2 := Aside0.mk (Kd.S_below HO2.out hd15.below)
  have HO7 := Aside0.mk (Kd.S_below HO7.out hd15.below)
  have hm1 : decide (M < 0) = false := decide_eq_false (by have := HMV.out.2.2; omega)
  clear hd15 hB14 hbx14
  have c0' : w15.cell? ⟨w.heap.size, 0, none⟩ = some (.int .i64 r0) := (blk_cell hbx15 0).trans rfl
  have c1' : w15.cell? ⟨w.heap.size, 1, none⟩ = some (.int .i64 r1) := (blk_cell hbx15 1).trans rfl
  have c2' : w15.cell? ⟨w.heap.size, 2, none⟩ = some (.int .i64 r2) := (blk_cell hbx15 2).trans rfl
  have c3' : w15.cell? ⟨w.heap.size, 3, none⟩ = some (.int .i64 r3) := (blk_cell hbx15 3).trans rfl
  have hSS := (⟨c0', c1', c2', c3', Below.refl _ w15⟩ : _ ∧ _ ∧ _ ∧ _ ∧ Below w15.heap.size w15 w15)
  have HB15 := Aside0.mk hB15
  clear c0' c1' c2' c3' hB15 hbx15
  go_wp2_with fail
  go_region_held3 (fun W => W.cell? ⟨w.heap.size, 0, none⟩ = some (.int .i64 r0) ∧ W.cell? ⟨w.heap.size, 1, none⟩ = some (.int .i64 r1) ∧ W.cell? ⟨w.heap.size, 2, none⟩ = some (.int .i64 r2) ∧ W.cell? ⟨w.heap.size, 3, none⟩ = some (.int .i64 r3) ∧ Below w15.heap.size w15 W)
    (first | (with_reducible assumption) | (with_reducible exact keep44 hSS (below_drew (Below.refl _ w15))) | (with_reducible exact keep44 hSS (pw_below_drewN (Below.refl _ w15) _)) | exact keep44 (by assumption) hb16 | exact keep44 (by assumption) hb17 | exact keep44 (by assumption) hb18 | go_keep)
    (first
      | (go_at_call 6; refine (laws_toBlockS.calls K A0 c0 l0 X _ (Kd.C_below hr0 (below_then HB15.out HB15.out.size (keepBB (by assumption)))) HC0.out HT.out).mono ?_; rintro e w16 ⟨v7, rfl, ho8, hb16⟩; obtain ⟨B7, d7, rfl⟩ := Kd.S_slice ho8)
      | (go_at_call 7; refine (laws_toRec.calls r0 r1 r2 r3 r0 r1 r2 r3 _ rfl).mono ?_; rintro e w17 ⟨rfl, hb17⟩; have ho8 := Kd.S_below ho8 hb17)
      | (go_at_call 8; refine (HI.out B7 d7 _ (Kd.S_reads' ho8).2.2 (Kd.S_reads' ho8).2.1).mono ?_; rintro e w18 ⟨v9, rfl, ho9, hb18⟩; obtain ⟨B9, d9, rfl⟩ := Kd.S_slice ho9)
      | fail)
  have hbb := keepBB (by assumption : _ ∧ _ ∧ _ ∧ _ ∧ Below w15.heap.size w15 w18)
  have hB18 := below_then HB15.out HB15.out.size hbb
  have HO2 := Aside0.mk (Kd.S_below HO2.out hbb)
  have HO7 := Aside0.mk (Kd.S_below HO7.out hbb)
  have HO9 := Aside0.mk ho9
  clear hSS hbb hb16 hb17 hb18 ho8 ho9
  go_split_ands
  go_wp2_with fail
  refine (laws_eqBlockS.calls K B9 d9 V B2 d2 V true _ (kb_C (Kd.S_reads' HO9.out).2.2) (Kd.S_reads' HO9.out).2.1 (Kd.S_reads' HO2.out).2.2 (Kd.S_reads' HO2.out).2.1 HEV.out).mono ?_
  rintro e w19 ⟨rfl, hb19⟩
  have hB19 := below_then hB18 hB18.size hb19
  have HO7 := Aside0.mk (Kd.S_below HO7.out hb19)
  clear hb19 hB18 HO9 HO2
  go_wp2_with fail
  refine (held_fw HMV.out.2.1 HRL.out HO7.out).mono ?_
  rintro e w20 ⟨rfl, hd20⟩
  have hB20 := below_then hB19 hB19.size hd20.below
  clear hd20 hB19
  go_wp2
  go_ret
  exact ⟨rfl, hB20⟩
end Go.Proofs.Ytfamgmnlflgblaa.Rf
namespace Go.Proofs.Ytfamgmnlflgblaa.Pure
open Go.RowKit Go.Proofs.Ytfamgmnlflgblaa.Rf
theorem FnExactFlashWrite (l : List S38) (_hl : Fits l) (b r0 r1 r2 r3 : Int) (tn : Bool) : ∃ k, laws_FnExactFlashWrite.f k l b r0 r1 r2 r3 tn = some true := ⟨0, rfl⟩
end Go.Proofs.Ytfamgmnlflgblaa.Pure
