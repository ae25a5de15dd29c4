-- printed by wip/pp/pp.py
import Derived.Test.YteijhllkpahbhaaRk0
import Derived.Test.YteijhllkpahbhaaRk1
import Derived.Test.YteijhllkpahbhaaWMap
import Derived.Maps.OwnOps
import Derived.Maps.Own
import Derived.IntWalk
import Derived.WalkArith
namespace Go.Proofs.Yteijhllkpahbhaa.Rk
open Go.RowKit Go.Proofs.YteijhllkpahbhaaW.PrintWords Go.Proofs.YteijhllkpahbhaaW.PrintLast Go.Proofs.YteijhllkpahbhaaW.PrintMore
attribute [local go_sem] max2_int min2_int max_two min_two max_three min_three max_four min_four
set_option linter.unusedVariables false
set_option linter.unusedSimpArgs false
theorem drop_T32 {l : List S32} {i : Nat} (h : i < l.length) : l.drop i = rd_T32 l (i : Int) :: l.drop (i + 1) := by
 rw [List.drop_eq_getElem_cons h]
 simp [rd_T32, List.getD_eq_getElem?_getD, h]
theorem drop_T28 {l : List S28} {i : Nat} (h : i < l.length) : l.drop i = rd_T28 l (i : Int) :: l.drop (i + 1) := by
 rw [List.drop_eq_getElem_cons h]
 simp [rd_T28, List.getD_eq_getElem?_getD, h]
theorem shape_loop (l : List S32) (hl : l.length ≤ maxLen) : ∀ (n i : Nat) (free : Bool), i + n = l.length → impl_blockShape.l0 (n + 1) free l (l.length : Int) (i : Int) = some (shapeB (l.drop i) free)
 | 0, i, free, h => by
  rw [impl_blockShape.l0, if_neg (by omega), List.drop_eq_nil_of_le (by omega)]
  rfl
 | n + 1, i, free, h => by
  have hw : wrap64 ((i : Int) + 1) = ((i + 1 : Nat) : Int) := by
   simp only [maxLen] at hl
   rw [IntWalk.wrap64_in _ (by omega)]
   omega
  rw [impl_blockShape.l0, if_pos (by omega), if_pos (by omega), if_pos (by omega), drop_T32 (by omega), shapeB, hw]
  have ih := fun f => shape_loop l hl n (i + 1) f (by omega)
  by_cases hf : free = true
  rotate_left
  · rw [if_neg hf, if_neg (fun h => hf h.1)]
    exact ih _
  by_cases hs : (rd_T32 l (i : Int)).f0 = 0
  rotate_left
  · rw [if_pos hf, if_neg hs, if_pos ⟨hf, hs⟩]
  rw [if_pos hf, if_pos hs, if_neg (by simp [hs])]
  exact ih _
theorem blockShape_ok (b : S28) (hl : b.f0.length ≤ maxLen) : ∃ k, impl_blockShape.f k b.f0 b.f1 = some (blockB b) := by
 refine ⟨b.f0.length + 2, ?_⟩
 have key := shape_loop b.f0 hl b.f0.length 0 false (by omega)
 unfold impl_blockShape.f blockB
 by_cases h1 : (b.f0.length : Int) = 4
 rotate_left
 · rw [if_neg h1, impl_blockShape.j0, if_pos rfl]
   simp [h1]
 rw [if_pos h1]
 by_cases h2 : b.f1 < 0
 · rw [if_pos h2, impl_blockShape.j0, if_pos rfl]
   simp
   intro _ h
   omega
 rw [if_neg h2]
 by_cases h3 : b.f1 > 200
 · rw [decide_eq_true h3, impl_blockShape.j0, if_pos rfl]
   simp
   intro _ _ h
   omega
 rw [decide_eq_false h3, impl_blockShape.j0, if_neg (by simp)]
 have : decide ((b.f0.length : Int) = 4 ∧ 0 ≤ b.f1 ∧ b.f1 ≤ 200) = true := decide_eq_true ⟨h1, by omega, by omega⟩
 rw [this, Bool.true_and]
 exact key
theorem pageShape_ok (p : S32) : impl_pageShape.f p.f0 p.f1.f0 p.f1.f1 p.f1.f2 p.f1.f3 = some (pageB p) := by
 unfold impl_pageShape.f pageB impl_RecOk.f
 by_cases h1 : p.f0 = 1
 · rw [if_pos h1, if_pos h1]
   rfl
 rw [if_neg h1, if_neg h1]
 by_cases h2 : p.f0 = 0
 · rw [if_pos h2, if_pos (Or.inl h2)]
 by_cases h3 : p.f0 = 2
 rotate_left
 · rw [if_neg h2, if_neg h3, if_neg (by omega)]
 rw [if_neg h2, if_pos h3, if_pos (Or.inr h3)]
def impl_FlashOk.f (l0 : List (S28)) : Option (Bool) := some (flashOkB l0)
set_option maxHeartbeats 8000000 in
set_option maxRecDepth 100000 in
theorem impl_FlashOk.calls (A0 : Option Addr) (c0 : Nat) (l0 : List (S28)) (r : Bool) (w : World) (hr0 : Kd.C k28 w A0 l0.length l0) (hc0 : l0.length ≤ c0) (h : impl_FlashOk.f l0 = some r) :
 Calls Try.prog 9 #[.slice A0 l0.length c0] w fun e w' => e = .returned (.bool r) ∧ Below w.heap.size w w' := by
 have hu28 := Try.underlying28
 have hu32 := Try.underlying32
 have hu30 := Try.underlying30
 obtain rfl : r = flashOkB l0 := (Option.some.inj h).symm
 clear h
 by_cases c : (l0.length : Int) = 4
 rotate_left
 · have cb : ((l0.length : Int) != 4) = true := by simp [c]
   go_enter Try.func9, Try.ntmps9
   go_wp2
   go_ret
   exact ⟨by simp [flashOkB, c], Below.refl _ _⟩
 have cb : ((l0.length : Int) != 4) = false := by simp [c]
 have HE : Aside0 (flashOkB l0 = blocksB l0 []) := ⟨by unfold flashOkB; rw [decide_eq_true c, Bool.true_and]⟩
 have C := am c
 clear c
 have hmm := @run_makeMap Try.prog
 go_enter Try.func9, Try.ntmps9
 go_wp2
 have HS := am (Go.Proofs.YteijhllkpahbhaaW.SeenIs.made (P := Try.prog) (K := 3) (E := 3) w)
 have HB : Aside0 (Below w.heap.size w (w.alloc (.map #[] 0))) := ⟨below_alloc (Below.refl _ _) _⟩
 generalize hB : w.heap.size = B at HS
 have HBB := am hB
 clear hB
 generalize w.alloc (.map #[] 0) = w1 at HS HB ⊢
 go_loopg [14, 5, 7] (l0.length + 1) (fun kq v14 v5 v7 w' => ∃ (i : Nat) (S : List Int), v14 = .int .i64 (i : Int) ∧ Aside0 (kq + i = l0.length + 1) ∧ Aside0 (i ≤ l0.length) ∧ Aside0 (blocksB (l0.drop i) S = blocksB l0 []) ∧ Aside0 (S.length ≤ 4 * i) ∧ Aside0 (Go.Proofs.YteijhllkpahbhaaW.SeenIs Try.prog 3 3 w' B S.length S) ∧ Aside0 (Below w.heap.size w w'))
 case atStart => exact ⟨0, [], rfl, ⟨rfl⟩, ⟨Nat.zero_le _⟩, ⟨by simp⟩, ⟨by simp⟩, HS, HB⟩
 case round =>
  clear HS HB
  obtain ⟨i, S, rfl, HK, HI, HP, HN, HS, HB⟩ := hrel
  obtain ⟨k1, rfl⟩ : ∃ k, gk = k + 1 := by
   have hsz : (l0.length : Int) = 4 := C.out
   have := HK.out
   have := HI.out
   exact ⟨gk - 1, by omega⟩
  have hsz : (l0.length : Int) = 4 := C.out
  have hw14 : wrap64 ((i : Int) + 1) = ((i + 1 : Nat) : Int) := by have := HI.out; rw [IntWalk.wrap64_in _ (by omega)]; omega
  by_cases ci : i < l0.length
  rotate_left
  · have cib : decide ((i : Int) < (l0.length : Int)) = false := decide_eq_false (by omega)
    have HP2 := HP.out
    rw [List.drop_eq_nil_of_le (by omega), blocksB] at HP2
    have HF : Aside0 (flashOkB l0 = true) := ⟨by rw [HE.out]; exact HP2.symm⟩
    have ci2 : ¬ ((i : Int) < (l0.length : Int)) := by omega
    clear hsz HP2
    go_wp2
    go_ret
    exact ⟨by rw [HF.out]; rfl, HB.out⟩
  have cib : decide ((i : Int) < (l0.length : Int)) = true := decide_eq_true (by omega)
  have p1 : 0 ≤ (i : Int) := by omega
  have q1 : (i : Int) < (l0.length : Int) := by omega
  obtain ⟨ad1, A1, c1, e1, hx1_0, hx1_1, hl1, hi1⟩ := at_T28 hr0 (i : Int) p1 q1
  cases e1
  have hlm1 : (rd_T28 l0 (i : Int)).f0.length ≤ maxLen := Kd.C_max hi1
  replace hx1_0 := up HB.out hx1_0
  replace hx1_1 := up HB.out hx1_1
  simp only [Int.toNat_natCast] at hx1_0 hx1_1
  obtain ⟨kb, hkb⟩ := blockShape_ok (rd_T28 l0 (i : Int)) hlm1
  replace hkb := am hkb
  have HP2 := HP.out
  rw [drop_T28 ci, blocksB] at HP2
  cases hbb : blockB (rd_T28 l0 (i : Int)) with
  | false =>
   rw [hbb] at hkb
   rw [hbb, Bool.false_and] at HP2
   have HF : Aside0 (flashOkB l0 = false) := ⟨by rw [HE.out]; exact HP2.symm⟩
   replace hi1 := am hi1
   replace p1 := eq_true p1
   replace q1 := eq_true q1
   clear hsz ci HP2 hbb
   go_wp2_with (first | (refine bx 5 #[.slice none 0 0, .int .i64 0] 28 rfl ?_; intro g1 hg w6 hbox hb; have n0_ := am (below_step HB.out hb); have n1_ := am hbox; have GE1 := am ((by rw [hg]; exact below_size HB.out) : w.heap.size ≤ g1); have NE1 := am ((by rw [hg]; exact Nat.ne_of_lt HS.out.lt) : B ≠ g1); have n2_ := am (HS.out.below hb); clear HB HS; have HB := n0_; have BK1 := n1_; have HS := n2_; clear n0_ n1_ n2_; obtain ⟨hczg1_0, hczg1_1⟩ := b2 hbox; obtain ⟨hfzg1_0, hfzg1_1⟩ := f2 hbox; clear hb hbox hg) | ((with_reducible refine gate_callee (f := 26) rfl ?_); refine goesL_ (some 19) rfl rfl Try.func26 (by kernel_rfl) rfl #[.agg #[.slice A1 (rd_T28 l0 (i : Int)).f0.length c1, .int .i64 (rd_T28 l0 (i : Int)).f1]] rfl (by (try simp only [List.map_toArray, List.map_cons, List.map_nil]); first | done | rfl) ?_; (with_reducible refine (impl_blockShape.calls kb _ _ _ _ _ _ ?side1 ?side2 hkb.out).mono ?_); (case side1 => exact Kd.C_below hi1.out (bg1 HB.out GE1.out)); (case side2 => exact hl1); rintro e w2 ⟨rfl, hb⟩; refine ⟨_, rfl, ?_⟩; have n0_ := am (below_step (bg1 HB.out GE1.out) hb); have n1_ := am (blk_below (blk_put (cs := #[.slice A1 (rd_T28 l0 (i : Int)).f0.length c1, .int .i64 0]) (blk_put (cs := #[.slice none 0 0, .int .i64 0]) BK1.out 0 _ rfl) 1 _ rfl) hb); have n2_ := am (((HS.out.far (p := ⟨g1, 0, none⟩) NE1.out _).far (p := ⟨g1, 1, none⟩) NE1.out _).below hb); clear HB BK1 HS; have HB := n0_; have BK1 := n1_; have HS := n2_; clear n0_ n1_ n2_; clear hb hczg1_0 hczg1_1 hfzg1_0 hfzg1_1; have hy1_0 := (blk_cell BK1.out 0).trans rfl; have hy1_1 := (blk_cell BK1.out 1).trans rfl))
   go_ret
   exact ⟨by rw [HF.out]; rfl, HB.out⟩
  | true =>
   rw [hbb] at hkb
   rw [hbb, Bool.true_and] at HP2
   replace HP2 := am HP2
   have hbl : (rd_T28 l0 (i : Int)).f0.length = 4 := by
    unfold blockB at hbb
    simp only [Bool.and_eq_true, decide_eq_true_eq] at hbb
    omega
   replace hbl := am hbl
   replace hi1 := am hi1
   replace p1 := eq_true p1
   replace q1 := eq_true q1
   have CI := am ci
   clear hsz ci hbb
   go_wp2_with (first | (refine bx 5 #[.slice none 0 0, .int .i64 0] 28 rfl ?_; intro g1 hg w6 hbox hb; have n0_ := am (below_step HB.out hb); have n1_ := am hbox; have GE1 := am ((by rw [hg]; exact below_size HB.out) : w.heap.size ≤ g1); have NE1 := am ((by rw [hg]; exact Nat.ne_of_lt HS.out.lt) : B ≠ g1); have n2_ := am (HS.out.below hb); clear HB HS; have HB := n0_; have BK1 := n1_; have HS := n2_; clear n0_ n1_ n2_; obtain ⟨hczg1_0, hczg1_1⟩ := b2 hbox; obtain ⟨hfzg1_0, hfzg1_1⟩ := f2 hbox; clear hb hbox hg) | ((with_reducible refine gate_callee (f := 26) rfl ?_); refine goesL_ (some 19) rfl rfl Try.func26 (by kernel_rfl) rfl #[.agg #[.slice A1 (rd_T28 l0 (i : Int)).f0.length c1, .int .i64 (rd_T28 l0 (i : Int)).f1]] rfl (by (try simp only [List.map_toArray, List.map_cons, List.map_nil]); first | done | rfl) ?_; (with_reducible refine (impl_blockShape.calls kb _ _ _ _ _ _ ?side1 ?side2 hkb.out).mono ?_); (case side1 => exact Kd.C_below hi1.out (bg1 HB.out GE1.out)); (case side2 => exact hl1); rintro e w2 ⟨rfl, hb⟩; refine ⟨_, rfl, ?_⟩; have n0_ := am (below_step (bg1 HB.out GE1.out) hb); have n1_ := am (blk_below (blk_put (cs := #[.slice A1 (rd_T28 l0 (i : Int)).f0.length c1, .int .i64 0]) (blk_put (cs := #[.slice none 0 0, .int .i64 0]) BK1.out 0 _ rfl) 1 _ rfl) hb); have n2_ := am (((HS.out.far (p := ⟨g1, 0, none⟩) NE1.out _).far (p := ⟨g1, 1, none⟩) NE1.out _).below hb); clear HB BK1 HS; have HB := n0_; have BK1 := n1_; have HS := n2_; clear n0_ n1_ n2_; clear hb hczg1_0 hczg1_1 hfzg1_0 hfzg1_1; have hy1_0 := (blk_cell BK1.out 0).trans rfl; have hy1_1 := (blk_cell BK1.out 1).trans rfl))
   have NB1 : Aside0 (some g1 ≠ some B) := ⟨fun e => NE1.out (by injection e with e; exact e.symm)⟩
   go_loopg [24, 7] ((rd_T28 l0 (i : Int)).f0.length + 1) (fun kq v24 v7 w' => ∃ (j : Nat) (S2 : List Int), v24 = .int .i64 (j : Int) ∧ Aside0 (kq + j = (rd_T28 l0 (i : Int)).f0.length + 1) ∧ Aside0 (j ≤ (rd_T28 l0 (i : Int)).f0.length) ∧ Aside0 (pagesB ((rd_T28 l0 (i : Int)).f0.drop j) S2 = pagesB (rd_T28 l0 (i : Int)).f0 S) ∧ Aside0 (S2.length ≤ 4 * i + j) ∧ Aside0 (Go.Proofs.YteijhllkpahbhaaW.SeenIs Try.prog 3 3 w' B S2.length S2) ∧ Aside0 (w'.heap[g1]? = some (.cells #[.slice A1 (rd_T28 l0 (i : Int)).f0.length c1, .int .i64 (rd_T28 l0 (i : Int)).f1] 28 (0, 0))) ∧ Aside0 (Below w.heap.size w w'))
   case atStart => exact ⟨0, S, rfl, ⟨rfl⟩, ⟨Nat.zero_le _⟩, ⟨by simp⟩, ⟨by have := HN.out; omega⟩, HS, BK1, HB⟩
   case round =>
    clear HS HB BK1 hy1_0 hy1_1
    obtain ⟨j, S2, rfl, HK2, HJ, HQ, HM, HS, BK1, HB⟩ := hrel
    have hbl' := hbl.out
    have hii : i < l0.length := CI.out
    have hsz : (l0.length : Int) = 4 := C.out
    obtain ⟨k2, rfl⟩ : ∃ k, gk = k + 1 := by
     have := HK2.out
     have := HJ.out
     exact ⟨gk - 1, by omega⟩
    by_cases cj : j < (rd_T28 l0 (i : Int)).f0.length
    rotate_left
    · have cjb : decide ((j : Int) < ((rd_T28 l0 (i : Int)).f0.length : Int)) = false := decide_eq_false (by omega)
      have HQ2 := HQ.out
      rw [List.drop_eq_nil_of_le (by omega), pagesB] at HQ2
      have HP3 := HP2.out
      rw [← HQ2] at HP3
      have HP4 := am HP3
      have hjl : j = (rd_T28 l0 (i : Int)).f0.length := by have := HJ.out; omega
      have HN2 : Aside0 (S2.length ≤ 4 * (i + 1)) := ⟨by have := HM.out; omega⟩
      have cj2 : ¬ ((j : Int) < ((rd_T28 l0 (i : Int)).f0.length : Int)) := by omega
      clear hsz hii hbl' HQ2 HP3 hjl
      go_wp2
      go_roundg k1
      case measure => omega
      case rel => exact ⟨i + 1, S2, by first | rfl | (simp; done) | (simp [*]; done), ⟨by have := HK.out; omega⟩, ⟨CI.out⟩, HP4, HN2, HS, HB⟩
    have cjb : decide ((j : Int) < ((rd_T28 l0 (i : Int)).f0.length : Int)) = true := decide_eq_true (by omega)
    have p2 : 0 ≤ (j : Int) := by omega
    have q2 : (j : Int) < ((rd_T28 l0 (i : Int)).f0.length : Int) := by omega
    obtain ⟨ad2, e2, hx2_0, hx2_1, hx2_2, hx2_3, hx2_4⟩ := at_T32 hi1.out (j : Int) p2 q2
    cases e2
    replace hx2_0 := up HB.out hx2_0
    replace hx2_1 := up HB.out hx2_1
    replace hx2_2 := up HB.out hx2_2
    replace hx2_3 := up HB.out hx2_3
    replace hx2_4 := up HB.out hx2_4
    simp only [Int.toNat_natCast] at hx2_0 hx2_1 hx2_2 hx2_3 hx2_4
    have hkp := am (pageShape_ok (rd_T32 (rd_T28 l0 (i : Int)).f0 (j : Int)))
    have HQ2 := HQ.out
    rw [drop_T32 cj, pagesB] at HQ2
    have hw24 : wrap64 ((j : Int) + 1) = ((j + 1 : Nat) : Int) := by rw [IntWalk.wrap64_in _ (by omega)]; omega
    have hnm : Aside0 (S2.length < maxLen) := ⟨by have := HM.out; simp only [maxLen]; omega⟩
    replace p2 := eq_true p2
    replace q2 := eq_true q2
    have CJ := am cj
    clear hsz hii hbl' cj
    cases hpb : pageB (rd_T32 (rd_T28 l0 (i : Int)).f0 (j : Int)) with
    | false =>
     rw [hpb] at hkp
     rw [hpb, if_neg (by simp)] at HQ2
     have HF : Aside0 (flashOkB l0 = false) := ⟨by rw [HE.out, ← HP2.out, ← HQ2]⟩
     clear HQ2 hpb
     go_wp2_with (first | (refine bx 7 #[.int .i64 0, .int .i64 0, .int .i64 0, .int .i64 0, .int .i64 0] 32 rfl ?_; intro g2 hg w7 hbox hb; have n0_ := am (below_step HB.out hb); have n1_ := am hbox; have GE2 := am ((by rw [hg]; exact below_size HB.out) : w.heap.size ≤ g2); have NE2 := am ((by rw [hg]; exact Nat.ne_of_lt HS.out.lt) : B ≠ g2); have NG2 := am ((by rw [hg]; exact Nat.ne_of_lt (blk_lt BK1.out)) : g1 ≠ g2); have n2_ := am (HS.out.below hb); have n3_ := am (blk_below BK1.out hb); clear HB HS BK1; have HB := n0_; have BK2 := n1_; have HS := n2_; have BK1 := n3_; clear n0_ n1_ n2_ n3_; have hnz2_0 := NG2.out; obtain ⟨hczg2_0, hczg2_1, hczg2_2, hczg2_3, hczg2_4⟩ := b5 hbox; obtain ⟨hfzg2_0, hfzg2_1, hfzg2_2, hfzg2_3, hfzg2_4⟩ := f5 hbox; clear hb hbox hg) | ((with_reducible refine gate_callee (f := 27) rfl ?_); refine goesL_ (some 29) rfl rfl Try.func27 (by kernel_rfl) rfl #[.agg #[.int .i64 (rd_T32 (rd_T28 l0 (i : Int)).f0 (j : Int)).f0, .int .i64 (rd_T32 (rd_T28 l0 (i : Int)).f0 (j : Int)).f1.f0, .int .i64 (rd_T32 (rd_T28 l0 (i : Int)).f0 (j : Int)).f1.f1, .int .i64 (rd_T32 (rd_T28 l0 (i : Int)).f0 (j : Int)).f1.f2, .int .i64 (rd_T32 (rd_T28 l0 (i : Int)).f0 (j : Int)).f1.f3]] rfl (by (try simp only [List.map_toArray, List.map_cons, List.map_nil]); first | done | rfl) ?_; (with_reducible refine (impl_pageShape.calls _ _ _ _ _ _ _ hkp.out).mono ?_); rintro e w3 ⟨rfl, hb⟩; refine ⟨_, rfl, ?_⟩; have n0_ := am (below_step (bg2 HB.out GE1.out GE2.out) hb); have n1_ := am (blk_below (blk_put (cs := #[.int .i64 (rd_T32 (rd_T28 l0 (i : Int)).f0 (j : Int)).f0, .int .i64 (rd_T32 (rd_T28 l0 (i : Int)).f0 (j : Int)).f1.f0, .int .i64 (rd_T32 (rd_T28 l0 (i : Int)).f0 (j : Int)).f1.f1, .int .i64 (rd_T32 (rd_T28 l0 (i : Int)).f0 (j : Int)).f1.f2, .int .i64 0]) (blk_put (cs := #[.int .i64 (rd_T32 (rd_T28 l0 (i : Int)).f0 (j : Int)).f0, .int .i64 (rd_T32 (rd_T28 l0 (i : Int)).f0 (j : Int)).f1.f0, .int .i64 (rd_T32 (rd_T28 l0 (i : Int)).f0 (j : Int)).f1.f1, .int .i64 0, .int .i64 0]) (blk_put (cs := #[.int .i64 (rd_T32 (rd_T28 l0 (i : Int)).f0 (j : Int)).f0, .int .i64 (rd_T32 (rd_T28 l0 (i : Int)).f0 (j : Int)).f1.f0, .int .i64 0, .int .i64 0, .int .i64 0]) (blk_put (cs := #[.int .i64 (rd_T32 (rd_T28 l0 (i : Int)).f0 (j : Int)).f0, .int .i64 0, .int .i64 0, .int .i64 0, .int .i64 0]) (blk_put (cs := #[.int .i64 0, .int .i64 0, .int .i64 0, .int .i64 0, .int .i64 0]) BK2.out 0 _ rfl) 1 _ rfl) 2 _ rfl) 3 _ rfl) 4 _ rfl) hb); have n2_ := am ((((((HS.out.far (p := ⟨g2, 0, none⟩) NE2.out _).far (p := ⟨g2, 1, none⟩) NE2.out _).far (p := ⟨g2, 2, none⟩) NE2.out _).far (p := ⟨g2, 3, none⟩) NE2.out _).far (p := ⟨g2, 4, none⟩) NE2.out _).below hb); have n3_ := am (blk_below (blk_far (blk_far (blk_far (blk_far (blk_far BK1.out (p := ⟨g2, 0, none⟩) NG2.out _) (p := ⟨g2, 1, none⟩) NG2.out _) (p := ⟨g2, 2, none⟩) NG2.out _) (p := ⟨g2, 3, none⟩) NG2.out _) (p := ⟨g2, 4, none⟩) NG2.out _) hb); clear HB BK1 BK2 HS; have HB := n0_; have BK2 := n1_; have HS := n2_; have BK1 := n3_; clear n0_ n1_ n2_ n3_; clear hb hczg2_0 hfzg2_0 hczg2_1 hfzg2_1 hczg2_2 hfzg2_2 hczg2_3 hfzg2_3 hczg2_4 hfzg2_4; have hy2_0 := (blk_cell BK2.out 0).trans rfl; have hy2_1 := (blk_cell BK2.out 1).trans rfl; have hy2_2 := (blk_cell BK2.out 2).trans rfl; have hy2_3 := (blk_cell BK2.out 3).trans rfl; have hy2_4 := (blk_cell BK2.out 4).trans rfl))
     go_ret
     exact ⟨by rw [HF.out]; rfl, HB.out⟩
    | true =>
     rw [hpb] at hkp
     rw [hpb, if_pos rfl] at HQ2
     by_cases cs : (rd_T32 (rd_T28 l0 (i : Int)).f0 (j : Int)).f0 = 1
     rotate_left
     · have cs0 : ((rd_T32 (rd_T28 l0 (i : Int)).f0 (j : Int)).f0 == 1) = false := beq_eq_false_iff_ne.mpr cs
       have cs1 : ((rd_T32 (rd_T28 l0 (i : Int)).f0 (j : Int)).f0 != 1) = true := bne_iff_ne.mpr cs
       rw [if_neg cs] at HQ2
       have HQ3 := am HQ2
       clear HQ2 hpb cs
       go_wp2_with (first | (refine bx 7 #[.int .i64 0, .int .i64 0, .int .i64 0, .int .i64 0, .int .i64 0] 32 rfl ?_; intro g2 hg w7 hbox hb; have n0_ := am (below_step HB.out hb); have n1_ := am hbox; have GE2 := am ((by rw [hg]; exact below_size HB.out) : w.heap.size ≤ g2); have NE2 := am ((by rw [hg]; exact Nat.ne_of_lt HS.out.lt) : B ≠ g2); have NG2 := am ((by rw [hg]; exact Nat.ne_of_lt (blk_lt BK1.out)) : g1 ≠ g2); have n2_ := am (HS.out.below hb); have n3_ := am (blk_below BK1.out hb); clear HB HS BK1; have HB := n0_; have BK2 := n1_; have HS := n2_; have BK1 := n3_; clear n0_ n1_ n2_ n3_; have hnz2_0 := NG2.out; obtain ⟨hczg2_0, hczg2_1, hczg2_2, hczg2_3, hczg2_4⟩ := b5 hbox; obtain ⟨hfzg2_0, hfzg2_1, hfzg2_2, hfzg2_3, hfzg2_4⟩ := f5 hbox; clear hb hbox hg) | ((with_reducible refine gate_callee (f := 27) rfl ?_); refine goesL_ (some 29) rfl rfl Try.func27 (by kernel_rfl) rfl #[.agg #[.int .i64 (rd_T32 (rd_T28 l0 (i : Int)).f0 (j : Int)).f0, .int .i64 (rd_T32 (rd_T28 l0 (i : Int)).f0 (j : Int)).f1.f0, .int .i64 (rd_T32 (rd_T28 l0 (i : Int)).f0 (j : Int)).f1.f1, .int .i64 (rd_T32 (rd_T28 l0 (i : Int)).f0 (j : Int)).f1.f2, .int .i64 (rd_T32 (rd_T28 l0 (i : Int)).f0 (j : Int)).f1.f3]] rfl (by (try simp only [List.map_toArray, List.map_cons, List.map_nil]); first | done | rfl) ?_; (with_reducible refine (impl_pageShape.calls _ _ _ _ _ _ _ hkp.out).mono ?_); rintro e w3 ⟨rfl, hb⟩; refine ⟨_, rfl, ?_⟩; have n0_ := am (below_step (bg2 HB.out GE1.out GE2.out) hb); have n1_ := am (blk_below (blk_put (cs := #[.int .i64 (rd_T32 (rd_T28 l0 (i : Int)).f0 (j : Int)).f0, .int .i64 (rd_T32 (rd_T28 l0 (i : Int)).f0 (j : Int)).f1.f0, .int .i64 (rd_T32 (rd_T28 l0 (i : Int)).f0 (j : Int)).f1.f1, .int .i64 (rd_T32 (rd_T28 l0 (i : Int)).f0 (j : Int)).f1.f2, .int .i64 0]) (blk_put (cs := #[.int .i64 (rd_T32 (rd_T28 l0 (i : Int)).f0 (j : Int)).f0, .int .i64 (rd_T32 (rd_T28 l0 (i : Int)).f0 (j : Int)).f1.f0, .int .i64 (rd_T32 (rd_T28 l0 (i : Int)).f0 (j : Int)).f1.f1, .int .i64 0, .int .i64 0]) (blk_put (cs := #[.int .i64 (rd_T32 (rd_T28 l0 (i : Int)).f0 (j : Int)).f0, .int .i64 (rd_T32 (rd_T28 l0 (i : Int)).f0 (j : Int)).f1.f0, .int .i64 0, .int .i64 0, .int .i64 0]) (blk_put (cs := #[.int .i64 (rd_T32 (rd_T28 l0 (i : Int)).f0 (j : Int)).f0, .int .i64 0, .int .i64 0, .int .i64 0, .int .i64 0]) (blk_put (cs := #[.int .i64 0, .int .i64 0, .int .i64 0, .int .i64 0, .int .i64 0]) BK2.out 0 _ rfl) 1 _ rfl) 2 _ rfl) 3 _ rfl) 4 _ rfl) hb); have n2_ := am ((((((HS.out.far (p := ⟨g2, 0, none⟩) NE2.out _).far (p := ⟨g2, 1, none⟩) NE2.out _).far (p := ⟨g2, 2, none⟩) NE2.out _).far (p := ⟨g2, 3, none⟩) NE2.out _).far (p := ⟨g2, 4, none⟩) NE2.out _).below hb); have n3_ := am (blk_below (blk_far (blk_far (blk_far (blk_far (blk_far BK1.out (p := ⟨g2, 0, none⟩) NG2.out _) (p := ⟨g2, 1, none⟩) NG2.out _) (p := ⟨g2, 2, none⟩) NG2.out _) (p := ⟨g2, 3, none⟩) NG2.out _) (p := ⟨g2, 4, none⟩) NG2.out _) hb); clear HB BK1 BK2 HS; have HB := n0_; have BK2 := n1_; have HS := n2_; have BK1 := n3_; clear n0_ n1_ n2_ n3_; clear hb hczg2_0 hfzg2_0 hczg2_1 hfzg2_1 hczg2_2 hfzg2_2 hczg2_3 hfzg2_3 hczg2_4 hfzg2_4; have hy2_0 := (blk_cell BK2.out 0).trans rfl; have hy2_1 := (blk_cell BK2.out 1).trans rfl; have hy2_2 := (blk_cell BK2.out 2).trans rfl; have hy2_3 := (blk_cell BK2.out 3).trans rfl; have hy2_4 := (blk_cell BK2.out 4).trans rfl))
       go_roundg k2
       case measure => omega
       case rel => exact ⟨j + 1, S2, by first | rfl | (simp; done) | (simp [*]; done), ⟨by have := HK2.out; omega⟩, ⟨CJ.out⟩, HQ3, ⟨by have := HM.out; omega⟩, HS, BK1, HB⟩
     have cs0 : ((rd_T32 (rd_T28 l0 (i : Int)).f0 (j : Int)).f0 == 1) = true := beq_iff_eq.mpr cs
     have cs1 : ((rd_T32 (rd_T28 l0 (i : Int)).f0 (j : Int)).f0 != 1) = false := bne_eq_false_iff_eq.mpr cs
     have hwf : Aside0 ((Lit.int .i64 (rd_T32 (rd_T28 l0 (i : Int)).f0 (j : Int)).f1.f1).wf = true) := ⟨by
      unfold pageB at hpb
      rw [if_pos cs] at hpb
      simp only [recOkB, decide_eq_true_eq] at hpb
      exact WalkArith.wf_i64 ⟨by omega, by omega⟩⟩
     rw [if_pos cs] at HQ2
     by_cases hm : (rd_T32 (rd_T28 l0 (i : Int)).f0 (j : Int)).f1.f1 ∈ S2
     · rw [if_pos hm] at HQ2
       have HF : Aside0 (flashOkB l0 = false) := ⟨by rw [HE.out, ← HP2.out, ← HQ2]⟩
       have HM2 := am hm
       clear HQ2 hpb cs hm
       go_wp2_with (first | (refine bx 7 #[.int .i64 0, .int .i64 0, .int .i64 0, .int .i64 0, .int .i64 0] 32 rfl ?_; intro g2 hg w7 hbox hb; have n0_ := am (below_step HB.out hb); have n1_ := am hbox; have GE2 := am ((by rw [hg]; exact below_size HB.out) : w.heap.size ≤ g2); have NE2 := am ((by rw [hg]; exact Nat.ne_of_lt HS.out.lt) : B ≠ g2); have NG2 := am ((by rw [hg]; exact Nat.ne_of_lt (blk_lt BK1.out)) : g1 ≠ g2); have n2_ := am (HS.out.below hb); have n3_ := am (blk_below BK1.out hb); clear HB HS BK1; have HB := n0_; have BK2 := n1_; have HS := n2_; have BK1 := n3_; clear n0_ n1_ n2_ n3_; have hnz2_0 := NG2.out; obtain ⟨hczg2_0, hczg2_1, hczg2_2, hczg2_3, hczg2_4⟩ := b5 hbox; obtain ⟨hfzg2_0, hfzg2_1, hfzg2_2, hfzg2_3, hfzg2_4⟩ := f5 hbox; clear hb hbox hg) | ((with_reducible refine gate_callee (f := 27) rfl ?_); refine goesL_ (some 29) rfl rfl Try.func27 (by kernel_rfl) rfl #[.agg #[.int .i64 (rd_T32 (rd_T28 l0 (i : Int)).f0 (j : Int)).f0, .int .i64 (rd_T32 (rd_T28 l0 (i : Int)).f0 (j : Int)).f1.f0, .int .i64 (rd_T32 (rd_T28 l0 (i : Int)).f0 (j : Int)).f1.f1, .int .i64 (rd_T32 (rd_T28 l0 (i : Int)).f0 (j : Int)).f1.f2, .int .i64 (rd_T32 (rd_T28 l0 (i : Int)).f0 (j : Int)).f1.f3]] rfl (by (try simp only [List.map_toArray, List.map_cons, List.map_nil]); first | done | rfl) ?_; (with_reducible refine (impl_pageShape.calls _ _ _ _ _ _ _ hkp.out).mono ?_); rintro e w3 ⟨rfl, hb⟩; refine ⟨_, rfl, ?_⟩; have n0_ := am (below_step (bg2 HB.out GE1.out GE2.out) hb); have n1_ := am (blk_below (blk_put (cs := #[.int .i64 (rd_T32 (rd_T28 l0 (i : Int)).f0 (j : Int)).f0, .int .i64 (rd_T32 (rd_T28 l0 (i : Int)).f0 (j : Int)).f1.f0, .int .i64 (rd_T32 (rd_T28 l0 (i : Int)).f0 (j : Int)).f1.f1, .int .i64 (rd_T32 (rd_T28 l0 (i : Int)).f0 (j : Int)).f1.f2, .int .i64 0]) (blk_put (cs := #[.int .i64 (rd_T32 (rd_T28 l0 (i : Int)).f0 (j : Int)).f0, .int .i64 (rd_T32 (rd_T28 l0 (i : Int)).f0 (j : Int)).f1.f0, .int .i64 (rd_T32 (rd_T28 l0 (i : Int)).f0 (j : Int)).f1.f1, .int .i64 0, .int .i64 0]) (blk_put (cs := #[.int .i64 (rd_T32 (rd_T28 l0 (i : Int)).f0 (j : Int)).f0, .int .i64 (rd_T32 (rd_T28 l0 (i : Int)).f0 (j : Int)).f1.f0, .int .i64 0, .int .i64 0, .int .i64 0]) (blk_put (cs := #[.int .i64 (rd_T32 (rd_T28 l0 (i : Int)).f0 (j : Int)).f0, .int .i64 0, .int .i64 0, .int .i64 0, .int .i64 0]) (blk_put (cs := #[.int .i64 0, .int .i64 0, .int .i64 0, .int .i64 0, .int .i64 0]) BK2.out 0 _ rfl) 1 _ rfl) 2 _ rfl) 3 _ rfl) 4 _ rfl) hb); have n2_ := am ((((((HS.out.far (p := ⟨g2, 0, none⟩) NE2.out _).far (p := ⟨g2, 1, none⟩) NE2.out _).far (p := ⟨g2, 2, none⟩) NE2.out _).far (p := ⟨g2, 3, none⟩) NE2.out _).far (p := ⟨g2, 4, none⟩) NE2.out _).below hb); have n3_ := am (blk_below (blk_far (blk_far (blk_far (blk_far (blk_far BK1.out (p := ⟨g2, 0, none⟩) NG2.out _) (p := ⟨g2, 1, none⟩) NG2.out _) (p := ⟨g2, 2, none⟩) NG2.out _) (p := ⟨g2, 3, none⟩) NG2.out _) (p := ⟨g2, 4, none⟩) NG2.out _) hb); clear HB BK1 BK2 HS; have HB := n0_; have BK2 := n1_; have HS := n2_; have BK1 := n3_; clear n0_ n1_ n2_ n3_; clear hb hczg2_0 hfzg2_0 hczg2_1 hfzg2_1 hczg2_2 hfzg2_2 hczg2_3 hfzg2_3 hczg2_4 hfzg2_4; have hy2_0 := (blk_cell BK2.out 0).trans rfl; have hy2_1 := (blk_cell BK2.out 1).trans rfl; have hy2_2 := (blk_cell BK2.out 2).trans rfl; have hy2_3 := (blk_cell BK2.out 3).trans rfl; have hy2_4 := (blk_cell BK2.out 4).trans rfl) | (at_lookup; refine Go.Proofs.YteijhllkpahbhaaW.wpList_seen_look _ rfl _ _ 50 rfl 3 3 Try.underlying3 Try.underlying3 Try.underlying50 (fun w => by go_simp) B _ S2 rfl HS.out (rd_T32 (rd_T28 l0 (i : Int)).f0 (j : Int)).f1.f1 rfl hwf.out ?_; rw [if_pos HM2.out]))
       go_ret
       exact ⟨by rw [HF.out]; rfl, HB.out⟩
     rw [if_neg hm] at HQ2
     have HM2 := am hm
     have HQ3 := am HQ2
     clear HQ2 hpb cs hm
     go_wp2_with (first | (refine bx 7 #[.int .i64 0, .int .i64 0, .int .i64 0, .int .i64 0, .int .i64 0] 32 rfl ?_; intro g2 hg w7 hbox hb; have n0_ := am (below_step HB.out hb); have n1_ := am hbox; have GE2 := am ((by rw [hg]; exact below_size HB.out) : w.heap.size ≤ g2); have NE2 := am ((by rw [hg]; exact Nat.ne_of_lt HS.out.lt) : B ≠ g2); have NG2 := am ((by rw [hg]; exact Nat.ne_of_lt (blk_lt BK1.out)) : g1 ≠ g2); have n2_ := am (HS.out.below hb); have n3_ := am (blk_below BK1.out hb); clear HB HS BK1; have HB := n0_; have BK2 := n1_; have HS := n2_; have BK1 := n3_; clear n0_ n1_ n2_ n3_; have hnz2_0 := NG2.out; obtain ⟨hczg2_0, hczg2_1, hczg2_2, hczg2_3, hczg2_4⟩ := b5 hbox; obtain ⟨hfzg2_0, hfzg2_1, hfzg2_2, hfzg2_3, hfzg2_4⟩ := f5 hbox; clear hb hbox hg) | ((with_reducible refine gate_callee (f := 27) rfl ?_); refine goesL_ (some 29) rfl rfl Try.func27 (by kernel_rfl) rfl #[.agg #[.int .i64 (rd_T32 (rd_T28 l0 (i : Int)).f0 (j : Int)).f0, .int .i64 (rd_T32 (rd_T28 l0 (i : Int)).f0 (j : Int)).f1.f0, .int .i64 (rd_T32 (rd_T28 l0 (i : Int)).f0 (j : Int)).f1.f1, .int .i64 (rd_T32 (rd_T28 l0 (i : Int)).f0 (j : Int)).f1.f2, .int .i64 (rd_T32 (rd_T28 l0 (i : Int)).f0 (j : Int)).f1.f3]] rfl (by (try simp only [List.map_toArray, List.map_cons, List.map_nil]); first | done | rfl) ?_; (with_reducible refine (impl_pageShape.calls _ _ _ _ _ _ _ hkp.out).mono ?_); rintro e w3 ⟨rfl, hb⟩; refine ⟨_, rfl, ?_⟩; have n0_ := am (below_step (bg2 HB.out GE1.out GE2.out) hb); have n1_ := am (blk_below (blk_put (cs := #[.int .i64 (rd_T32 (rd_T28 l0 (i : Int)).f0 (j : Int)).f0, .int .i64 (rd_T32 (rd_T28 l0 (i : Int)).f0 (j : Int)).f1.f0, .int .i64 (rd_T32 (rd_T28 l0 (i : Int)).f0 (j : Int)).f1.f1, .int .i64 (rd_T32 (rd_T28 l0 (i : Int)).f0 (j : Int)).f1.f2, .int .i64 0]) (blk_put (cs := #[.int .i64 (rd_T32 (rd_T28 l0 (i : Int)).f0 (j : Int)).f0, .int .i64 (rd_T32 (rd_T28 l0 (i : Int)).f0 (j : Int)).f1.f0, .int .i64 (rd_T32 (rd_T28 l0 (i : Int)).f0 (j : Int)).f1.f1, .int .i64 0, .int .i64 0]) (blk_put (cs := #[.int .i64 (rd_T32 (rd_T28 l0 (i : Int)).f0 (j : Int)).f0, .int .i64 (rd_T32 (rd_T28 l0 (i : Int)).f0 (j : Int)).f1.f0, .int .i64 0, .int .i64 0, .int .i64 0]) (blk_put (cs := #[.int .i64 (rd_T32 (rd_T28 l0 (i : Int)).f0 (j : Int)).f0, .int .i64 0, .int .i64 0, .int .i64 0, .int .i64 0]) (blk_put (cs := #[.int .i64 0, .int .i64 0, .int .i64 0, .int .i64 0, .int .i64 0]) BK2.out 0 _ rfl) 1 _ rfl) 2 _ rfl) 3 _ rfl) 4 _ rfl) hb); have n2_ := am ((((((HS.out.far (p := ⟨g2, 0, none⟩) NE2.out _).far (p := ⟨g2, 1, none⟩) NE2.out _).far (p := ⟨g2, 2, none⟩) NE2.out _).far (p := ⟨g2, 3, none⟩) NE2.out _).far (p := ⟨g2, 4, none⟩) NE2.out _).below hb); have n3_ := am (blk_below (blk_far (blk_far (blk_far (blk_far (blk_far BK1.out (p := ⟨g2, 0, none⟩) NG2.out _) (p := ⟨g2, 1, none⟩) NG2.out _) (p := ⟨g2, 2, none⟩) NG2.out _) (p := ⟨g2, 3, none⟩) NG2.out _) (p := ⟨g2, 4, none⟩) NG2.out _) hb); clear HB BK1 BK2 HS; have HB := n0_; have BK2 := n1_; have HS := n2_; have BK1 := n3_; clear n0_ n1_ n2_ n3_; clear hb hczg2_0 hfzg2_0 hczg2_1 hfzg2_1 hczg2_2 hfzg2_2 hczg2_3 hfzg2_3 hczg2_4 hfzg2_4; have hy2_0 := (blk_cell BK2.out 0).trans rfl; have hy2_1 := (blk_cell BK2.out 1).trans rfl; have hy2_2 := (blk_cell BK2.out 2).trans rfl; have hy2_3 := (blk_cell BK2.out 3).trans rfl; have hy2_4 := (blk_cell BK2.out 4).trans rfl) | (at_lookup; refine Go.Proofs.YteijhllkpahbhaaW.wpList_seen_look _ rfl _ _ 50 rfl 3 3 Try.underlying3 Try.underlying3 Try.underlying50 (fun w => by go_simp) B _ S2 rfl HS.out (rd_T32 (rd_T28 l0 (i : Int)).f0 (j : Int)).f1.f1 rfl hwf.out ?_; rw [if_neg HM2.out]) | (at_mapUpdate; refine Go.Proofs.YteijhllkpahbhaaW.wpList_seen_add _ rfl _ _ _ 50 rfl 3 3 Try.underlying3 Try.underlying3 Try.underlying50 B _ S2 rfl HS.out hnm.out (rd_T32 (rd_T28 l0 (i : Int)).f0 (j : Int)).f1.f1 rfl rfl hwf.out ?_; intro w4 hs4 hg4; have n0_ := am (pw_below_grown HB.out (some B) (below_size HB.out) hg4 (fun k e => by cases e; exact Nat.le_of_eq HBB.out)); have n1_ := am (blk_grown BK1.out hg4 NB1.out); clear HB BK1 HS; have HB := n0_; have BK1 := n1_; have HS := am hs4; clear n0_ n1_ hs4 hg4))
     go_roundg k2
     case measure => omega
     case rel => exact ⟨j + 1, _ :: S2, by first | rfl | (simp; done) | (simp [*]; done), ⟨by have := HK2.out; omega⟩, ⟨CJ.out⟩, HQ3, ⟨by have := HM.out; simp only [List.length_cons]; omega⟩, HS, BK1, HB⟩
def impl_blockOk.f (a0 : Int) : Option (Bool) := if a0 ≥ 0 then (some (decide (a0 < 4))) else (some false)
set_option maxHeartbeats 8000000 in
set_option maxRecDepth 100000 in
theorem impl_blockOk.calls (a0 : Int) (r : Bool) (w : World) (h : impl_blockOk.f a0 = some r) :
 Calls Try.prog 30 #[.int .i64 a0] w fun e w' => e = .returned (.bool r) ∧ Drawn0 w w' := by
 have H : (if a0 ≥ 0 then (some (decide (a0 < 4))) else (some false)) = some r := h
 clear h
 by_cases c2 : a0 ≥ 0
 · rw [if_pos c2] at H
   have c2b0 := decide_eq_true c2
   clear c2
   obtain rfl := Option.some.inj H
   go_enter Try.func30, Try.ntmps30
   go_wp2
   go_ret
   exact ⟨by first | rfl | (simp; done) | (simp [*]; done), by repeat (first | exact Drawn0.refl _ | apply Drawn0.step)⟩
 rw [if_neg c2] at H
 have c2b0 := decide_eq_false c2
 clear c2
 obtain rfl := Option.some.inj H
 go_enter Try.func30, Try.ntmps30
 go_wp2
 go_ret
 exact ⟨by first | rfl | (simp; done) | (simp [*]; done), by repeat (first | exact Drawn0.refl _ | apply Drawn0.step)⟩
def impl_freePages.l0 : Nat → Int → List (S32) → Int → Int → Option (Int)
 | 0, _, _, _, _ => none
 | k + 1, x3, x7, x8, x9 => if x9 < x8 then (if 0 ≤ x9 then (if x9 < (x7.length : Int) then (if ((rd_T32 x7 x9).f0) = 0 then (impl_freePages.l0 k (wrap64 (x3 + 1)) x7 x8 (wrap64 (x9 + 1))) else (impl_freePages.l0 k x3 x7 x8 (wrap64 (x9 + 1)))) else (none)) else (none)) else (some x3)
def impl_freePages.f (k : Nat) (l0_0 : List (S32)) (a0_1 : Int) : Option (Int) := impl_freePages.l0 k 0 l0_0 (l0_0.length : Int) 0
theorem impl_freePages.mono_l : ∀ k, (∀ y0 y1 y2 y3, LeO (impl_freePages.l0 k y0 y1 y2 y3) (impl_freePages.l0 (k + 1) y0 y1 y2 y3))
 | 0 => fun _ _ _ _ r h => by simp [impl_freePages.l0] at h
 | k + 1 => by
  have ih0 := impl_freePages.mono_l k
  · intro y0 y1 y2 y3
    unfold impl_freePages.l0
    repeat' first
    | (with_reducible exact ih0 _ _ _ _)
    | (with_reducible exact LeO.refl _)
    | (with_reducible exact LeO.none _)
    | (with_reducible refine LeO.ite ?_ ?_)
    | (with_reducible refine LeO.bind ?_ (fun _ => ?_))
    | exact ih0 _ _ _ _
    | exact LeO.none _
    | refine LeO.ite ?_ ?_
    | refine LeO.bind ?_ (fun _ => ?_)
theorem impl_freePages.mono : ∀ a0 a1 k, LeO (impl_freePages.f k a0 a1) (impl_freePages.f (k + 1) a0 a1) := by
 intro a0 a1 k
 have ih0 := impl_freePages.mono_l k
 unfold impl_freePages.f
 repeat' first
  | (with_reducible exact ih0 _ _ _ _)
  | (with_reducible exact LeO.refl _)
  | (with_reducible exact LeO.none _)
  | (with_reducible refine LeO.ite ?_ ?_)
  | (with_reducible refine LeO.bind ?_ (fun _ => ?_))
  | exact ih0 _ _ _ _
  | exact LeO.none _
  | refine LeO.ite ?_ ?_
  | refine LeO.bind ?_ (fun _ => ?_)
set_option maxHeartbeats 8000000 in
set_option maxRecDepth 100000 in
theorem impl_freePages.calls (k : Nat) (A0_0 : Option Addr) (c0_0 : Nat) (l0_0 : List (S32)) (a0_1 : Int) (r : Int) (w : World) (hr0_0 : Kd.C k32 w A0_0 l0_0.length l0_0) (hc0_0 : l0_0.length ≤ c0_0) (h : impl_freePages.f k l0_0 a0_1 = some r) :
 Calls Try.prog 31 #[.agg #[.slice A0_0 l0_0.length c0_0, .int .i64 a0_1]] w fun e w' => e = .returned (.int .i64 r) ∧ Below w.heap.size w w' := by
 have hu28 := Try.underlying28
 have hu32 := Try.underlying32
 have HR0_0 := am hr0_0
 have HC0_0 := am hc0_0
 clear hr0_0 hc0_0
 have HB := am (Below.refl w.heap.size w)
 have H : (impl_freePages.l0 k 0 l0_0 (l0_0.length : Int) 0) = some r := h
 clear h
 have H' := am H
 clear H
 go_enter Try.func31, Try.ntmps31
 go_wp2_with (first | (refine bx 1 #[.slice A0_0 l0_0.length c0_0, .int .i64 a0_1] 28 rfl ?_; intro gb113 hg w2 hbox hb; have BK113 := am (hbox); have GW113 := am ((by rw [hg]; exact (below_size (ph HB.out)) : w.heap.size ≤ gb113)); have GE113 := GW113; replace HB := am (below_step (ph HB.out) hb); clear hb hbox hg; obtain ⟨hcz3_0, hcz3_1⟩ := b2 BK113.out; obtain ⟨hfz3_0, hfz3_1⟩ := f2 BK113.out))
 go_loopg [3, 9] k (fun kq v3 v9 w' => ∃ (x3_1 : Int) (x9_1 : Int), v3 = .int .i64 x3_1 ∧ v9 = .int .i64 x9_1 ∧ Aside0 (impl_freePages.l0 kq x3_1 l0_0 (l0_0.length : Int) x9_1 = some r) ∧ Aside0 (kq ≤ k) ∧ Aside0 (w'.heap[gb113]? = some (.cells #[(.slice A0_0 l0_0.length c0_0), .int .i64 a0_1] 28 (0, 0))) ∧ Aside0 (Below w.heap.size w w'))
 case atStart => exact ⟨(0), (0), rf, rf, H', ⟨Nat.le_refl _⟩, ⟨pb BK113.out⟩, ⟨bg1 HB.out GE113.out⟩⟩
 case round =>
  clear H'
  obtain ⟨x3_1, x9_1, rfl, rfl, HA, HK1, BK113, HB⟩ := hrel
  cases gk with
  | zero => exact absurd HA.out (by simp [impl_freePages.l0])
  | succ k1 =>
   have H := HA.out
   clear HA
   simp only [impl_freePages.l0] at H
   by_cases c4 : x9_1 < (l0_0.length : Int)
   rotate_left
   · rw [if_neg c4] at H
     have c4b0 := decide_eq_false c4
     clear c4
     obtain rfl := Option.some.inj H
     go_wp2
     go_ret
     exact (rq (bg1 HB.out GE113.out))
   rw [if_pos c4] at H
   have c4b0 := decide_eq_true c4
   clear c4
   by_cases c5 : 0 ≤ x9_1
   rotate_left
   · rw [if_neg c5] at H
     exact absurd H (by simp)
   rw [if_pos c5] at H
   have c5b0 := decide_eq_true c5
   clear c5
   by_cases c6 : x9_1 < (l0_0.length : Int)
   rotate_left
   · rw [if_neg c6] at H
     exact absurd H (by simp)
   rw [if_pos c6] at H
   have c6b0 := decide_eq_true c6
   clear c6
   by_cases c7 : ((rd_T32 l0_0 x9_1).f0) = 0
   rotate_left
   · rw [if_neg c7] at H
     have c7b0 : (((rd_T32 l0_0 x9_1).f0) == 0) = false := beq_eq_false_iff_ne.mpr c7
     have c7b1 : (((rd_T32 l0_0 x9_1).f0) != 0) = true := bne_iff_ne.mpr c7
     have H' := am H
     clear H
     have p114 : 0 ≤ (x9_1 : Int) := ofb
     have q114 : x9_1 < (l0_0.length : Int) := ofb
     obtain ⟨ad114, e114, hx114_0, hx114_1, hx114_2, hx114_3, hx114_4⟩ := at_T32 HR0_0.out x9_1 p114 q114
     cases e114
     replace hx114_0 := up HB.out hx114_0
     replace hx114_1 := up HB.out hx114_1
     replace hx114_2 := up HB.out hx114_2
     replace hx114_3 := up HB.out hx114_3
     replace hx114_4 := up HB.out hx114_4
     replace p114 := eq_true p114
     replace q114 := eq_true q114
     go_wp2_with (first | (refine bx 5 #[.int .i64 0, .int .i64 0, .int .i64 0, .int .i64 0, .int .i64 0] 32 rfl ?_; intro gb115 hg w11 hbox hb; have BK115 := am (hbox); have GW115 := am ((by rw [hg]; exact (below_size (bg1 HB.out GE113.out)) : w.heap.size ≤ gb115)); have GE115 := GW115; replace HB := am (below_step (bg1 HB.out GE113.out) hb); have NB113_115 := am ((by rw [hg]; exact Nat.ne_of_lt (blk_lt (pb BK113.out)) : gb113 ≠ gb115)); have NB115_113 := am (Ne.symm NB113_115.out); replace BK113 := am (blk_below (pb BK113.out) hb); clear hb hbox hg; have hnb12 := NB115_113.out; have hnc12 := NB113_115.out; obtain ⟨hcz13_0, hcz13_1, hcz13_2, hcz13_3, hcz13_4⟩ := b5 BK115.out; obtain ⟨hfz13_0, hfz13_1, hfz13_2, hfz13_3, hfz13_4⟩ := f5 BK115.out))
     go_roundg k1
     case measure => have := HK1.out; omega
     case rel => exact ⟨(x3_1), (wrap64 (x9_1 + 1)), rf, rf, H', ⟨by have := HK1.out; omega⟩, ⟨by (with_reducible repeat (first | refine blk_drewN ?_ _ | refine blk_drew ?_ | refine blk_alloc ?_ _)); refine blk_far ?_ NB113_115.out _; (with_reducible repeat (first | refine blk_drewN ?_ _ | refine blk_drew ?_ | refine blk_alloc ?_ _)); refine blk_far ?_ NB113_115.out _; (with_reducible repeat (first | refine blk_drewN ?_ _ | refine blk_drew ?_ | refine blk_alloc ?_ _)); refine blk_far ?_ NB113_115.out _; (with_reducible repeat (first | refine blk_drewN ?_ _ | refine blk_drew ?_ | refine blk_alloc ?_ _)); refine blk_far ?_ NB113_115.out _; (with_reducible repeat (first | refine blk_drewN ?_ _ | refine blk_drew ?_ | refine blk_alloc ?_ _)); refine blk_far ?_ NB113_115.out _; (with_reducible repeat (first | refine blk_drewN ?_ _ | refine blk_drew ?_ | refine blk_alloc ?_ _)); exact BK113.out⟩, ⟨bg2 HB.out GE113.out GE115.out⟩⟩
   rw [if_pos c7] at H
   have c7b0 : (((rd_T32 l0_0 x9_1).f0) == 0) = true := beq_iff_eq.mpr c7
   have c7b1 : (((rd_T32 l0_0 x9_1).f0) != 0) = false := bne_eq_false_iff_eq.mpr c7
   clear c7
   have H' := am H
   clear H
   have p114 : 0 ≤ (x9_1 : Int) := ofb
   have q114 : x9_1 < (l0_0.length : Int) := ofb
   obtain ⟨ad114, e114, hx114_0, hx114_1, hx114_2, hx114_3, hx114_4⟩ := at_T32 HR0_0.out x9_1 p114 q114
   cases e114
   replace hx114_0 := up HB.out hx114_0
   replace hx114_1 := up HB.out hx114_1
   replace hx114_2 := up HB.out hx114_2
   replace hx114_3 := up HB.out hx114_3
   replace hx114_4 := up HB.out hx114_4
   replace p114 := eq_true p114
   replace q114 := eq_true q114
   go_wp2_with (first | (refine bx 5 #[.int .i64 0, .int .i64 0, .int .i64 0, .int .i64 0, .int .i64 0] 32 rfl ?_; intro gb115 hg w8 hbox hb; have BK115 := am (hbox); have GW115 := am ((by rw [hg]; exact (below_size (bg1 HB.out GE113.out)) : w.heap.size ≤ gb115)); have GE115 := GW115; replace HB := am (below_step (bg1 HB.out GE113.out) hb); have NB113_115 := am ((by rw [hg]; exact Nat.ne_of_lt (blk_lt (pb BK113.out)) : gb113 ≠ gb115)); have NB115_113 := am (Ne.symm NB113_115.out); replace BK113 := am (blk_below (pb BK113.out) hb); clear hb hbox hg; have hnb9 := NB115_113.out; have hnc9 := NB113_115.out; obtain ⟨hcz10_0, hcz10_1, hcz10_2, hcz10_3, hcz10_4⟩ := b5 BK115.out; obtain ⟨hfz10_0, hfz10_1, hfz10_2, hfz10_3, hfz10_4⟩ := f5 BK115.out))
   go_roundg k1
   case measure => have := HK1.out; omega
   case rel => exact ⟨(wrap64 (x3_1 + 1)), (wrap64 (x9_1 + 1)), rf, rf, H', ⟨by have := HK1.out; omega⟩, ⟨by (with_reducible repeat (first | refine blk_drewN ?_ _ | refine blk_drew ?_ | refine blk_alloc ?_ _)); refine blk_far ?_ NB113_115.out _; (with_reducible repeat (first | refine blk_drewN ?_ _ | refine blk_drew ?_ | refine blk_alloc ?_ _)); refine blk_far ?_ NB113_115.out _; (with_reducible repeat (first | refine blk_drewN ?_ _ | refine blk_drew ?_ | refine blk_alloc ?_ _)); refine blk_far ?_ NB113_115.out _; (with_reducible repeat (first | refine blk_drewN ?_ _ | refine blk_drew ?_ | refine blk_alloc ?_ _)); refine blk_far ?_ NB113_115.out _; (with_reducible repeat (first | refine blk_drewN ?_ _ | refine blk_drew ?_ | refine blk_alloc ?_ _)); refine blk_far ?_ NB113_115.out _; (with_reducible repeat (first | refine blk_drewN ?_ _ | refine blk_drew ?_ | refine blk_alloc ?_ _)); exact BK113.out⟩, ⟨bg2 HB.out GE113.out GE115.out⟩⟩
def impl_FlashClean.f (k : Nat) (l0 : List (S28)) (a1 : Int) : Option (Int) := (impl_FlashOk.f l0).bind fun t116 => (if t116 = true then ((impl_blockOk.f a1).bind fun t117 => (if t117 = true then (if 0 ≤ a1 then (if a1 < (l0.length : Int) then ((impl_freePages.f k ((rd_T28 l0 a1).f0) ((rd_T28 l0 a1).f1)).bind fun t119 => (some t119)) else (none)) else (none)) else (some (-1)))) else (some (-1)))
theorem impl_FlashClean.mono : ∀ a0 a1 k, LeO (impl_FlashClean.f k a0 a1) (impl_FlashClean.f (k + 1) a0 a1) := by
 intro a0 a1 k
 unfold impl_FlashClean.f
 repeat' first
  | (with_reducible exact impl_freePages.mono _ _ _)
  | (with_reducible exact LeO.refl _)
  | (with_reducible exact LeO.none _)
  | (with_reducible refine LeO.ite ?_ ?_)
  | (with_reducible refine LeO.bind ?_ (fun _ => ?_))
  | exact impl_freePages.mono _ _ _
  | exact LeO.none _
  | refine LeO.ite ?_ ?_
  | refine LeO.bind ?_ (fun _ => ?_)
set_option maxHeartbeats 8000000 in
set_option maxRecDepth 100000 in
theorem impl_FlashClean.calls (k : Nat) (A0 : Option Addr) (c0 : Nat) (l0 : List (S28)) (a1 : Int) (r : Int) (w : World) (hr0 : Kd.C k28 w A0 l0.length l0) (hc0 : l0.length ≤ c0) (h : impl_FlashClean.f k l0 a1 = some r) :
 Calls Try.prog 11 #[.slice A0 l0.length c0, .int .i64 a1] w fun e w' => e = .returned (.int .i64 r) ∧ Below w.heap.size w w' := by
 have hu28 := Try.underlying28
 have HR0 := am hr0
 have HC0 := am hc0
 clear hr0 hc0
 have HB := am (Below.refl w.heap.size w)
 have H : ((impl_FlashOk.f l0).bind fun t116 => (if t116 = true then ((impl_blockOk.f a1).bind fun t117 => (if t117 = true then (if 0 ≤ a1 then (if a1 < (l0.length : Int) then ((impl_freePages.f k ((rd_T28 l0 a1).f0) ((rd_T28 l0 a1).f1)).bind fun t119 => (some t119)) else (none)) else (none)) else (some (-1)))) else (some (-1)))) = some r := h
 clear h
 replace H := Option.bind_eq_some_iff.mp H
 obtain ⟨t116, A30, H⟩ := H
 replace H : (if t116 = true then ((impl_blockOk.f a1).bind fun t117 => (if t117 = true then (if 0 ≤ a1 then (if a1 < (l0.length : Int) then ((impl_freePages.f k ((rd_T28 l0 a1).f0) ((rd_T28 l0 a1).f1)).bind fun t119 => (some t119)) else (none)) else (none)) else (some (-1)))) else (some (-1))) = some r := H
 have A3 := am A30
 clear A30
 by_cases c4 : t116 = true
 rotate_left
 · replace c4 := Bool.eq_false_iff.mpr c4
   subst c4
   have H1 : (some (-1)) = some r := by rw [if_neg (show ¬ (false = true) by decide)] at H; exact H
   clear H
   have H := H1
   clear H1
   obtain rfl := Option.some.inj H
   go_enter Try.func11, Try.ntmps11
   go_wp2_with (first | (refine gl 6 Try.func9 #[.slice A0 l0.length c0] rfl ?_; (with_reducible refine (impl_FlashOk.calls _ _ l0 false _ ?side1 ?side2 A3.out).mono ?_); (case side1 => repeat (first | exact HR0.out | (with_reducible refine Kd.C_alloc ?_ _) | (with_reducible refine Kd.C_drewN ?_ _) | (with_reducible refine Kd.C_drew ?_))); (case side2 => exact HC0.out); rintro e w13 ⟨rfl, hb⟩; refine ⟨_, rfl, ?_⟩; replace HB := am (below_step (ph HB.out) hb); (try clear hb); (try clear hb2); (try clear hk); (try clear hi)))
   go_ret
   exact (rq (ph HB.out))
 subst c4
 have H1 : ((impl_blockOk.f a1).bind fun t117 => (if t117 = true then (if 0 ≤ a1 then (if a1 < (l0.length : Int) then ((impl_freePages.f k ((rd_T28 l0 a1).f0) ((rd_T28 l0 a1).f1)).bind fun t119 => (some t119)) else (none)) else (none)) else (some (-1)))) = some r := by rw [if_pos rfl] at H; exact H
 clear H
 have H := H1
 clear H1
 replace H := Option.bind_eq_some_iff.mp H
 obtain ⟨t117, A50, H⟩ := H
 replace H : (if t117 = true then (if 0 ≤ a1 then (if a1 < (l0.length : Int) then ((impl_freePages.f k ((rd_T28 l0 a1).f0) ((rd_T28 l0 a1).f1)).bind fun t119 => (some t119)) else (none)) else (none)) else (some (-1))) = some r := H
 have A5 := am A50
 clear A50
 by_cases c6 : t117 = true
 rotate_left
 · replace c6 := Bool.eq_false_iff.mpr c6
   subst c6
   have H1 : (some (-1)) = some r := by rw [if_neg (show ¬ (false = true) by decide)] at H; exact H
   clear H
   have H := H1
   clear H1
   obtain rfl := Option.some.inj H
   go_enter Try.func11, Try.ntmps11
   go_wp2_with (first | (refine gl 6 Try.func9 #[.slice A0 l0.length c0] rfl ?_; (with_reducible refine (impl_FlashOk.calls _ _ l0 true _ ?side1 ?side2 A3.out).mono ?_); (case side1 => repeat (first | exact HR0.out | (with_reducible refine Kd.C_alloc ?_ _) | (with_reducible refine Kd.C_drewN ?_ _) | (with_reducible refine Kd.C_drew ?_))); (case side2 => exact HC0.out); rintro e w12 ⟨rfl, hb⟩; refine ⟨_, rfl, ?_⟩; replace HB := am (below_step (ph HB.out) hb); (try clear hb); (try clear hb2); (try clear hk); (try clear hi)) | (go_at_call 30; (with_reducible refine (impl_blockOk.calls a1 false _ A5.out).mono ?_); rintro e w' ⟨rfl, ⟨nd, rfl⟩⟩))
   go_ret
   exact (rq (ph HB.out))
 subst c6
 have H1 : (if 0 ≤ a1 then (if a1 < (l0.length : Int) then ((impl_freePages.f k ((rd_T28 l0 a1).f0) ((rd_T28 l0 a1).f1)).bind fun t119 => (some t119)) else (none)) else (none)) = some r := by rw [if_pos rfl] at H; exact H
 clear H
 have H := H1
 clear H1
 by_cases c7 : 0 ≤ a1
 rotate_left
 · rw [if_neg c7] at H
   exact absurd H (by simp)
 rw [if_pos c7] at H
 have c7b0 := decide_eq_true c7
 clear c7
 by_cases c8 : a1 < (l0.length : Int)
 rotate_left
 · rw [if_neg c8] at H
   exact absurd H (by simp)
 rw [if_pos c8] at H
 have c8b0 := decide_eq_true c8
 clear c8
 replace H := Option.bind_eq_some_iff.mp H
 obtain ⟨t119, A90, H⟩ := H
 replace H : (some t119) = some r := H
 have A9 := am A90
 clear A90
 obtain rfl := Option.some.inj H
 go_enter Try.func11, Try.ntmps11
 go_wp2_with (first | (refine gl 6 Try.func9 #[.slice A0 l0.length c0] rfl ?_; (with_reducible refine (impl_FlashOk.calls _ _ l0 true _ ?side1 ?side2 A3.out).mono ?_); (case side1 => repeat (first | exact HR0.out | (with_reducible refine Kd.C_alloc ?_ _) | (with_reducible refine Kd.C_drewN ?_ _) | (with_reducible refine Kd.C_drew ?_))); (case side2 => exact HC0.out); rintro e w10 ⟨rfl, hb⟩; refine ⟨_, rfl, ?_⟩; replace HB := am (below_step (ph HB.out) hb); (try clear hb); (try clear hb2); (try clear hk); (try clear hi)) | (go_at_call 30; (with_reducible refine (impl_blockOk.calls a1 true _ A5.out).mono ?_); rintro e w' ⟨rfl, ⟨nd, rfl⟩⟩; have p118 : 0 ≤ (a1 : Int) := ofb; have q118 : a1 < (l0.length : Int) := ofb; obtain ⟨ad118, A118_0, c118_0, e118, hx118_0, hx118_1, hl118_0, hi118_0⟩ := at_T28 HR0.out a1 p118 q118; cases e118; replace hx118_0 := up HB.out hx118_0; replace hx118_1 := up HB.out hx118_1; have HR118_0 := am hi118_0; have HC118_0 := am hl118_0; clear hi118_0 hl118_0; replace p118 := eq_true p118; replace q118 := eq_true q118) | (refine gl 17 Try.func31 #[.agg #[.slice A118_0 ((rd_T28 l0 a1).f0).length c118_0, .int .i64 ((rd_T28 l0 a1).f1)]] rfl ?_; (with_reducible refine (impl_freePages.calls k _ _ ((rd_T28 l0 a1).f0) ((rd_T28 l0 a1).f1) t119 _ ?side1 ?side2 A9.out).mono ?_); (case side1 => repeat (first | exact (Kd.C_below HR118_0.out (ph HB.out)) | (with_reducible refine Kd.C_alloc ?_ _) | (with_reducible refine Kd.C_drewN ?_ _) | (with_reducible refine Kd.C_drew ?_))); (case side2 => exact HC118_0.out); rintro e w11 ⟨rfl, hb⟩; refine ⟨_, rfl, ?_⟩; replace HB := am (below_step (ph HB.out) hb); (try clear hb); (try clear hb2); (try clear hk); (try clear hi)))
 go_ret
 exact (rq (ph HB.out))
def IsS66 (w0 W : World) (g : Nat) (f0 : List Int) (f1 : Int) : Prop := ∃ A0 c0, W.heap[g]? = some (.cells #[.slice A0 f0.length c0, .int .i64 f1] 66 (0, 0)) ∧ w0.heap.size ≤ g ∧ Kd.C (Kd.int .u8) w0 A0 f0.length f0
theorem IsS66.grown {w0 W : World} {g : Nat} {f0 : List Int} {f1 : Int} {W1 : World} {row : Option Nat} (h : IsS66 w0 W g f0 f1) (hw : W.grownBy W1 row) (hne : some g ≠ row) : IsS66 w0 W1 g f0 f1 := by
 obtain ⟨A0, c0, hb, hg, hr0⟩ := h
 exact ⟨A0, c0, blk_grown hb hw hne, hg, hr0⟩
theorem IsS66.own_neN {w0 W : World} {g : Nat} {f0 : List Int} {f1 : Int} {α : Type} {d : Kd α} {e : Nat} {base : Nat} {ok : Nat → Prop} {v : Value} {xs : List α} (h : IsS66 w0 W g f0 f1) (ho : Kd.N d e W base ok v xs) (ht : e ≠ 66) : some g ≠ v.ownBlock := by
 obtain ⟨A0, c0, hb, hg, hr0⟩ := h
 exact Kd.N_ne ho hb ht
theorem IsS66.fresh {w0 W : World} {g : Nat} {f0 : List Int} {f1 : Int} (h : IsS66 w0 W g f0 f1) : ∀ k, W.heap.size ≤ k → k ≠ g := by
 obtain ⟨A0, c0, hb, hg, hr0⟩ := h
 exact Kd.freshB hb
theorem IsS66.kept {w0 W : World} {g : Nat} {f0 : List Int} {f1 : Int} {W1 : World} {S : Nat → Prop} (h : IsS66 w0 W g f0 f1) (hk : Kept W W1 S) (hne : ¬ S g) : IsS66 w0 W1 g f0 f1 := by
 obtain ⟨A0, c0, hb, hg, hr0⟩ := h
 exact ⟨A0, c0, blk_kept hb hk hne, hg, hr0⟩
theorem IsS66.below {w0 W : World} {g : Nat} {f0 : List Int} {f1 : Int} {W1 : World} (h : IsS66 w0 W g f0 f1) (hw : Below W.heap.size W W1) : IsS66 w0 W1 g f0 f1 := h.grown (grown_of_below hw none) (by simp)
theorem IsS66.alloc {w0 W : World} {g : Nat} {f0 : List Int} {f1 : Int} (h : IsS66 w0 W g f0 f1) (o : Obj) : IsS66 w0 (W.alloc o) g f0 f1 := h.below (below_alloc (Below.refl _ _) o)
theorem IsS66.drewN {w0 W : World} {g : Nat} {f0 : List Int} {f1 : Int} (h : IsS66 w0 W g f0 f1) (m : Nat) : IsS66 w0 (W.drewN m) g f0 f1 := h
theorem IsS66.drew {w0 W : World} {g : Nat} {f0 : List Int} {f1 : Int} (h : IsS66 w0 W g f0 f1) : IsS66 w0 W.drew g f0 f1 := h
theorem IsS66.at_ {w0 W : World} {g : Nat} {f0 : List Int} {f1 : Int} {w' : World} {m : Nat} (hq : W.drewN m = w') (h : IsS66 w0 W g f0 f1) : IsS66 w0 w' g f0 f1 := by subst hq; exact IsS66.drewN h m
theorem IsS66.apart {w0 W : World} {g : Nat} {f0 : List Int} {f1 : Int} {α : Type} {d : Kd α} {e : Nat} {base : Nat} {ok : Nat → Prop} {v : Value} {xs : List α} (h : IsS66 w0 W g f0 f1) (ho : d.R e W base ok v xs) (ht : ∀ q, q ∈ e :: d.E → q ≠ 66) : d.R e W base (fun k => ok k ∧ k ≠ g) v xs := by
 obtain ⟨A0, c0, hb, hg, hr0⟩ := h
 exact Kd.R_types ho hb ht
theorem IsS66.own_ne {w0 W : World} {g : Nat} {f0 : List Int} {f1 : Int} {α : Type} {d : Kd α} {e : Nat} {base : Nat} {ok : Nat → Prop} {v : Value} {xs : List α} (h : IsS66 w0 W g f0 f1) (ho : d.R e W base ok v xs) (ht : e ≠ 66) : some g ≠ v.ownBlock := by
 obtain ⟨A0, c0, hb, hg, hr0⟩ := h
 exact Kd.R_ne ho hb ht
theorem IsS66.apartQ {w0 W : World} {g : Nat} {f0 : List Int} {f1 : Int} {α : Type} {d : Kd α} {e : Nat} {base : Nat} {ok : Nat → Prop} {v : Value} {xs : List α} (h : IsS66 w0 W g f0 f1) (ho : d.Q e W base ok v xs) (ht : ∀ q, q ∈ e :: d.E → q ≠ 66) : d.Q e W base (fun k => ok k ∧ k ≠ g) v xs := by
 obtain ⟨A0, c0, hb, hg, hr0⟩ := h
 exact Kd.Q_types ho hb ht
theorem IsS66.own_neQ {w0 W : World} {g : Nat} {f0 : List Int} {f1 : Int} {α : Type} {d : Kd α} {e : Nat} {base : Nat} {ok : Nat → Prop} {v : Value} {xs : List α} (h : IsS66 w0 W g f0 f1) (ho : d.Q e W base ok v xs) (ht : e ≠ 66) : some g ≠ v.ownBlock := by
 obtain ⟨A0, c0, hb, hg, hr0⟩ := h
 exact Kd.Q_ne ho hb ht
theorem IsS66.apartS {w0 W : World} {g : Nat} {f0 : List Int} {f1 : Int} {α : Type} {d : Kd α} {e : Nat} {base : Nat} {ok : Nat → Prop} {v : Value} {xs : List α} (h : IsS66 w0 W g f0 f1) (ho : d.S e W base ok v xs) (ht : ∀ q, q ∈ e :: d.E → q ≠ 66) : d.S e W base (fun k => ok k ∧ k ≠ g) v xs := by
 obtain ⟨A0, c0, hb, hg, hr0⟩ := h
 exact Kd.S_types ho hb ht
theorem IsS66.own_neS {w0 W : World} {g : Nat} {f0 : List Int} {f1 : Int} {α : Type} {d : Kd α} {e : Nat} {base : Nat} {ok : Nat → Prop} {v : Value} {xs : List α} (h : IsS66 w0 W g f0 f1) (ho : d.S e W base ok v xs) (ht : e ≠ 66) : some g ≠ v.ownBlock := by
 obtain ⟨A0, c0, hb, hg, hr0⟩ := h
 exact Kd.S_ne ho hb ht
theorem IsS66.lt {w0 W : World} {g : Nat} {f0 : List Int} {f1 : Int} (h : IsS66 w0 W g f0 f1) : g < W.heap.size := by
 obtain ⟨A0, c0, hb, hg, hr0⟩ := h
 exact blk_lt hb
theorem IsS66.ge {w0 W : World} {g : Nat} {f0 : List Int} {f1 : Int} (h : IsS66 w0 W g f0 f1) : w0.heap.size ≤ g := by
 obtain ⟨A0, c0, hb, hg, hr0⟩ := h
 exact hg
theorem IsS66.ne_blk {w0 W : World} {g : Nat} {f0 : List Int} {f1 : Int} {a : Nat} {cs : Array Value} {t : TypeId} {fr : Nat × Nat} (h : IsS66 w0 W g f0 f1) (hb2 : W.heap[a]? = some (.cells cs t fr)) (ht : t ≠ 66) : g ≠ a := by
 obtain ⟨A0, c0, hb, hg, hr0⟩ := h
 rintro rfl
 rw [hb] at hb2
 injection hb2 with hb2
 injection hb2 with _ ht2
 exact ht ht2.symm
theorem IsS66.far {w0 W : World} {g : Nat} {f0 : List Int} {f1 : Int} {p : Addr} (h : IsS66 w0 W g f0 f1) (hne : g ≠ p.block) (u : Value) : IsS66 w0 (W.setCell p u) g f0 f1 := by
 obtain ⟨A0, c0, hb, hg, hr0⟩ := h
 exact ⟨A0, c0, blk_far hb hne u, hg, hr0⟩
theorem cellS66_0 {W : World} {g : Nat} {A0 : Option Addr} {c0 : Nat} {f0 : List Int} {f1 : Int} (h : W.heap[g]? = some (.cells #[.slice A0 f0.length c0, .int .i64 f1] 66 (0, 0))) : W.cell? ⟨g, 0, none⟩ = some (.slice A0 f0.length c0) := (blk_cell h 0).trans rfl
theorem cellS66_1 {W : World} {g : Nat} {A0 : Option Addr} {c0 : Nat} {f0 : List Int} {f1 : Int} (h : W.heap[g]? = some (.cells #[.slice A0 f0.length c0, .int .i64 f1] 66 (0, 0))) : W.cell? ⟨g, 1, none⟩ = some (.int .i64 f1) := (blk_cell h 1).trans rfl
theorem IsS66.set_1 {w0 W : World} {g : Nat} {f0 : List Int} {f1 : Int} (h : IsS66 w0 W g f0 f1) (x : Int) : IsS66 w0 (W.setCell ⟨g, 1, none⟩ (.int .i64 x)) g f0 x := by
 obtain ⟨A0, c0, hb, hg, hr0⟩ := h
 exact ⟨A0, c0, by simpa using blk_set hb 1 (.int .i64 x), hg, hr0⟩
theorem IsS66.new (w0 W : World) (A0 : Option Addr) (c0 : Nat) (f0 : List Int) (f1 : Int) (hB : Below w0.heap.size w0 W) (hr0 : Kd.C (Kd.int .u8) w0 A0 f0.length f0) : IsS66 w0 (W.alloc (.cells #[.slice A0 f0.length c0, .int .i64 f1] 66)) W.heap.size f0 f1 := ⟨A0, c0, by simpa using heap_alloc_new W _, hB.size, hr0⟩
def spec_l6Open.f (l0 : List Int) : Option (List Int × Int) := if (l0.length : Int) > 2000 then (if 2000 ≤ (l0.length : Int) then (some (l0.take 2000, 0)) else (none)) else (some (l0, 0))
set_option maxHeartbeats 8000000 in
set_option maxRecDepth 100000 in
theorem spec_l6Open.calls (A0 : Option Addr) (c0 : Nat) (l0 : List Int) (r1 : List Int) (r2 : Int) (w0 w : World) (hB : Below w0.heap.size w0 w) (hr0 : Kd.C (Kd.int .u8) w0 A0 l0.length l0) (hc0 : l0.length ≤ c0) (h : spec_l6Open.f l0 = some (r1, r2)) :
 Calls Try.prog 23 #[.slice A0 l0.length c0] w fun e w' => ∃ g_ : Nat, e = .returned (.pointer (some ⟨g_, 0, none⟩)) ∧ IsS66 w0 w' g_ r1 r2 ∧ Below w0.heap.size w0 w' ∧ Below w.heap.size w w' := by
 have hu66 := Try.underlying66
 have HR0 := am hr0
 have HC0 := am hc0
 clear hr0 hc0
 have HBW := am (Below.refl w.heap.size w)
 have HW0 := am hB.size
 have HB := am hB
 clear hB
 have H : (if (l0.length : Int) > 2000 then (if 2000 ≤ (l0.length : Int) then (some (l0.take 2000, 0)) else (none)) else (some (l0, 0))) = some (r1, r2) := h
 clear h
 by_cases c2 : (l0.length : Int) > 2000
 rotate_left
 · rw [if_neg c2] at H
   have c2b0 := decide_eq_false c2
   have c2b1 : decide (2000 < l0.length) = false := decide_eq_false (by omega)
   clear c2
   simp only [Option.some.injEq, Prod.mk.injEq] at H
   obtain ⟨rfl, rfl⟩ := H
   go_enter Try.func23, Try.ntmps23
   go_wp2_with (first | (refine bx 10 #[.slice A0 l0.length c0, .int .i64 0] 66 rfl ?_; intro gb122 hg w6 hbox hb; replace HB := am (below_step (ph HB.out) hb); have BK122 := am (hbox); have GW122 := am ((by rw [hg]; exact (below_size (by repeat (first | (with_reducible first | exact HBW.out | apply below_alloc | apply pw_below_drewN | apply below_drew1) | exact HBW.out))) : w.heap.size ≤ gb122)); have GE122 := am ((Nat.le_trans HW0.out (by rw [hg]; exact (below_size (by repeat (first | (with_reducible first | exact HBW.out | apply below_alloc | apply pw_below_drewN | apply below_drew1) | exact HBW.out))) : w.heap.size ≤ gb122) : w0.heap.size ≤ gb122)); replace HBW := am (below_step HBW.out hb); clear hb hbox hg))
   go_ret
   exact ⟨_, rfl, (show IsS66 w0 _ gb122 l0 0 from ⟨_, _, pb BK122.out, GE122.out, HR0.out⟩), bg1 HB.out GE122.out, by repeat (first | (with_reducible first | exact HBW.out | apply below_alloc | apply pw_below_drewN | apply below_drew1 | refine below_set ?_ GW122.out) | exact HBW.out)⟩
 rw [if_pos c2] at H
 have c2b0 := decide_eq_true c2
 have c2b1 : decide (2000 < l0.length) = true := decide_eq_true (by omega)
 clear c2
 by_cases c3 : 2000 ≤ (l0.length : Int)
 rotate_left
 · rw [if_neg c3] at H
   exact absurd H (by simp)
 rw [if_pos c3] at H
 have c3b0 := eq_true c3
 have c3b1 := decide_eq_true c3
 clear c3
 simp only [Option.some.injEq, Prod.mk.injEq] at H
 obtain ⟨rfl, rfl⟩ := H
 obtain ⟨i04, hi04, _, hsz4, _⟩ := info_parts info5
 obtain ⟨hcut4, hA4, hC4⟩ := print_take_of (P := Try.prog) (Value.int .u8) 0 22 5 .i64 Try.underlying22 hi04 hsz4 A0 c0 l0 2000 (by omega) (ofb) HC0.out
 have HR120 := am (Kd.C_of_reads (h1 := fun _ => rfl) (hA4 _ (Kd.reads_of_C HR0.out)))
 have HC120 := am hC4
 clear hA4 hC4 hi04 hsz4
 go_enter Try.func23, Try.ntmps23
 go_wp2_with (first | (refine bx 10 #[.slice A0 (l0.take 2000).length c0, .int .i64 0] 66 rfl ?_; intro gb121 hg w5 hbox hb; replace HB := am (below_step (ph HB.out) hb); have BK121 := am (hbox); have GW121 := am ((by rw [hg]; exact (below_size (by repeat (first | (with_reducible first | exact HBW.out | apply below_alloc | apply pw_below_drewN | apply below_drew1) | exact HBW.out))) : w.heap.size ≤ gb121)); have GE121 := am ((Nat.le_trans HW0.out (by rw [hg]; exact (below_size (by repeat (first | (with_reducible first | exact HBW.out | apply below_alloc | apply pw_below_drewN | apply below_drew1) | exact HBW.out))) : w.heap.size ≤ gb121) : w0.heap.size ≤ gb121)); replace HBW := am (below_step HBW.out hb); clear hb hbox hg))
 go_ret
 exact ⟨_, rfl, (show IsS66 w0 _ gb121 (l0.take 2000) 0 from ⟨_, _, pb BK121.out, GE121.out, HR120.out⟩), bg1 HB.out GE121.out, by repeat (first | (with_reducible first | exact HBW.out | apply below_alloc | apply pw_below_drewN | apply below_drew1 | refine below_set ?_ GW121.out) | exact HBW.out)⟩
def spec_l6Rd_pick.j0 : Nat → Int → Bool → List Int → Int → Option (Int × Int)
 | 0, _, _, _, _ => none
 | k + 1, x1, x24, x1000, x1001 => if x24 = true then (some (0, x1001)) else (if (wrap64 (x1001 - 1)) < (x1000.length : Int) then (if 0 ≤ (wrap64 (x1001 - 1)) then (if x1 = 0 then (none) else (some (Int.tmod (wrap64 (rd x1000 (wrap64 (x1001 - 1)))) x1, x1001))) else (none)) else (if (x1000.length : Int) = 0 then (none) else (if 0 ≤ (Int.tmod (wrap64 (x1001 - 1)) (x1000.length : Int)) then (if (Int.tmod (wrap64 (x1001 - 1)) (x1000.length : Int)) < (x1000.length : Int) then (if 0 ≤ (Int.tmod (wrap64 ((wrap64 ((wrap64 (x1001 - 1)) * 7)) + 3)) (x1000.length : Int)) then (if (Int.tmod (wrap64 ((wrap64 ((wrap64 (x1001 - 1)) * 7)) + 3)) (x1000.length : Int)) < (x1000.length : Int) then (if x1 = 0 then (none) else (some (Int.tmod (Go.bits .xor .i64 (wrap64 ((wrap64 ((wrap64 ((wrap64 ((wrap64 (rd x1000 (Int.tmod (wrap64 (x1001 - 1)) (x1000.length : Int)))) * 131)) + (wrap64 ((wrap64 (rd x1000 (Int.tmod (wrap64 ((wrap64 ((wrap64 (x1001 - 1)) * 7)) + 3)) (x1000.length : Int)))) * 1117)))) + (wrap64 ((wrap64 (x1001 - 1)) * 29)))) + (wrap64 ((wrap64 (Int.tdiv (wrap64 (x1001 - 1)) (x1000.length : Int))) * 53)))) (wrap64 (Int.tdiv (wrap64 ((wrap64 ((wrap64 ((wrap64 ((wrap64 (rd x1000 (Int.tmod (wrap64 (x1001 - 1)) (x1000.length : Int)))) * 131)) + (wrap64 ((wrap64 (rd x1000 (Int.tmod (wrap64 ((wrap64 ((wrap64 (x1001 - 1)) * 7)) + 3)) (x1000.length : Int)))) * 1117)))) + (wrap64 ((wrap64 (x1001 - 1)) * 29)))) + (wrap64 ((wrap64 (Int.tdiv (wrap64 (x1001 - 1)) (x1000.length : Int))) * 53)))) 64))) x1, x1001))) else (none)) else (none)) else (none)) else (none))))
def spec_l6Rd_pick.f (k : Nat) (s0_0 : List Int) (s0_1 : Int) (a1 : Int) : Option (Int × Int) := if a1 < 1 then (spec_l6Rd_pick.j0 k a1 true s0_0 (wrap64 (s0_1 + 1))) else (spec_l6Rd_pick.j0 k a1 ((s0_0.length : Int) == 0) s0_0 (wrap64 (s0_1 + 1)))
theorem spec_l6Rd_pick.mono_l : ∀ k, (∀ y0 y1 y2 y3, LeO (spec_l6Rd_pick.j0 k y0 y1 y2 y3) (spec_l6Rd_pick.j0 (k + 1) y0 y1 y2 y3))
 | 0 => fun _ _ _ _ r h => by simp [spec_l6Rd_pick.j0] at h
 | k + 1 => by
  have ih0 := spec_l6Rd_pick.mono_l k
  · intro y0 y1 y2 y3
    unfold spec_l6Rd_pick.j0
    repeat' first
    | (with_reducible exact ih0 _ _ _ _)
    | (with_reducible exact LeO.refl _)
    | (with_reducible exact LeO.none _)
    | (with_reducible refine LeO.ite ?_ ?_)
    | (with_reducible refine LeO.bind ?_ (fun _ => ?_))
    | exact ih0 _ _ _ _
    | exact LeO.none _
    | refine LeO.ite ?_ ?_
    | refine LeO.bind ?_ (fun _ => ?_)
theorem spec_l6Rd_pick.mono : ∀ a0 a1 a2 k, LeO (spec_l6Rd_pick.f k a0 a1 a2) (spec_l6Rd_pick.f (k + 1) a0 a1 a2) := by
 intro a0 a1 a2 k
 have ih0 := spec_l6Rd_pick.mono_l k
 unfold spec_l6Rd_pick.f
 repeat' first
  | (with_reducible exact ih0 _ _ _ _)
  | (with_reducible exact LeO.refl _)
  | (with_reducible exact LeO.none _)
  | (with_reducible refine LeO.ite ?_ ?_)
  | (with_reducible refine LeO.bind ?_ (fun _ => ?_))
  | exact ih0 _ _ _ _
  | exact LeO.none _
  | refine LeO.ite ?_ ?_
  | refine LeO.bind ?_ (fun _ => ?_)
set_option maxHeartbeats 8000000 in
set_option maxRecDepth 100000 in
theorem spec_l6Rd_pick.calls (k : Nat) (g : Nat) (s0_0 : List Int) (s0_1 : Int) (a1 : Int) (r1 : Int) (r2 : Int) (w0 w : World) (hI : IsS66 w0 w g s0_0 s0_1) (hB : Below w0.heap.size w0 w) (h : spec_l6Rd_pick.f k s0_0 s0_1 a1 = some (r1, r2)) :
 Calls Try.prog 25 #[.pointer (some ⟨g, 0, none⟩), .int .i64 a1] w fun e w' => e = .returned (.int .i64 r1) ∧ IsS66 w0 w' g s0_0 r2 ∧ Below w0.heap.size w0 w' ∧ KeepBut w w' g none := by
 have HI0 := am hI
 have HK := am (KeepBut.refl w g none)
 have HL := am hB.size
 clear hI
 have HW0 := am hB.size
 have HB := am hB
 clear hB
 have H : (if a1 < 1 then (spec_l6Rd_pick.j0 k a1 true s0_0 (wrap64 (s0_1 + 1))) else (spec_l6Rd_pick.j0 k a1 ((s0_0.length : Int) == 0) s0_0 (wrap64 (s0_1 + 1)))) = some (r1, r2) := h
 clear h
 have HC3 := am H
 clear H
 obtain ⟨ASz4_0, cSz4_0, HGz4, hgz4, HSz4_0⟩ := HI0.out
 have hcz4_0 := cellS66_0 HGz4
 have hcz4_1 := cellS66_1 HGz4
 have hfz4_1 := blk_frozen HGz4 1
 clear HGz4 hgz4
 go_enter Try.func25, Try.ntmps25
 go_upto_region 2 with (fail)
 repeat (go_quiet (fail); go_upto_region 2 with (fail))
 go_cut [24] (fun v24 wc => ∃ (kq : Nat) (x24_2 : Bool), v24 = .bool x24_2 ∧ Aside0 (spec_l6Rd_pick.j0 kq a1 x24_2 s0_0 (wrap64 (s0_1 + 1)) = some (r1, r2)) ∧ Aside0 (kq ≤ k) ∧ Aside0 (IsS66 w0 wc g s0_0 (wrap64 (s0_1 + 1))) ∧ Aside0 (KeepBut w wc g none) ∧ Aside0 (Below w0.heap.size w0 wc))
 case first =>
  have H := HC3.out
  clear HC3
  by_cases c5 : a1 < 1
  · rw [if_pos c5] at H
    have c5b0 := decide_eq_true c5
    clear c5
    (first | rw [c5b0] | (simp only [i64_w, i32_w]; rw [c5b0]) | skip)
    have H' := am H
    clear H
    go_wp2
    repeat (go_quiet (fail); try go_wp2)
    go_meet
    case rel => exact ⟨_, (true), rf, H', ⟨by first | omega | exact Nat.le_refl _⟩, ⟨by repeat (first | (with_reducible first | exact HI0.out | apply IsS66.alloc | apply IsS66.drewN | apply IsS66.drew | apply IsS66.set_1) | exact HI0.out)⟩, ⟨by repeat (first | (with_reducible first | exact HK.out | apply KeepBut.set_ | apply keep_drewN | apply keep_drew | apply keep_alloc) | exact HK.out)⟩, ⟨by repeat (first | (with_reducible first | exact HB.out | apply below_alloc | apply pw_below_drewN | apply below_drew1 | refine below_set ?_ (IsS66.ge HI0.out)) | exact HB.out)⟩⟩
  rw [if_neg c5] at H
  have c5b0 := decide_eq_false c5
  clear c5
  (first | rw [c5b0] | (simp only [i64_w, i32_w]; rw [c5b0]) | skip)
  have H' := am H
  clear H
  obtain ⟨ASz6_0, cSz6_0, HGz6, hgz6, HSz6_0⟩ := HI0.out
  have hcz6_0 := cellS66_0 HGz6
  have hcz6_1 := cellS66_1 HGz6
  have hfz6_1 := blk_frozen HGz6 1
  clear HGz6 hgz6
  go_wp2
  repeat (go_quiet (fail); try go_wp2)
  go_meet
  case rel => exact ⟨_, (((s0_0.length : Int) == 0)), rf, H', ⟨by first | omega | exact Nat.le_refl _⟩, ⟨by repeat (first | (with_reducible first | exact HI0.out | apply IsS66.alloc | apply IsS66.drewN | apply IsS66.drew | apply IsS66.set_1) | exact HI0.out)⟩, ⟨by repeat (first | (with_reducible first | exact HK.out | apply KeepBut.set_ | apply keep_drewN | apply keep_drew | apply keep_alloc) | exact HK.out)⟩, ⟨by repeat (first | (with_reducible first | exact HB.out | apply below_alloc | apply pw_below_drewN | apply below_drew1 | refine below_set ?_ (IsS66.ge HI0.out)) | exact HB.out)⟩⟩
 case rest =>
  clear HC3
  obtain ⟨kq, x24_2, rfl, HA, HJ2, HI0, HK, HB⟩ := hcut
  cases kq with
  | zero => exact absurd HA.out (by simp [spec_l6Rd_pick.j0])
  | succ kj2 =>
   have H := HA.out
   clear HA
   simp only [spec_l6Rd_pick.j0] at H
   by_cases c7 : x24_2 = true
   · subst c7
     have H1 : (some (0, (wrap64 (s0_1 + 1)))) = some (r1, r2) := by rw [if_pos rfl] at H; exact H
     clear H
     have H := H1
     clear H1
     simp only [Option.some.injEq, Prod.mk.injEq] at H
     obtain ⟨rfl, rfl⟩ := H
     go_wp2
     repeat (go_quiet (fail); try go_wp2)
     go_ret
     exact (rq ⟨by repeat (first | (with_reducible first | exact HI0.out | apply IsS66.alloc | apply IsS66.drewN | apply IsS66.drew | apply IsS66.set_1) | exact HI0.out), by repeat (first | (with_reducible first | exact HB.out | apply below_alloc | apply pw_below_drewN | apply below_drew1 | refine below_set ?_ (IsS66.ge HI0.out)) | exact HB.out), by repeat (first | (with_reducible first | exact HK.out | apply KeepBut.set_ | apply keep_drewN | apply keep_drew | apply keep_alloc) | exact HK.out)⟩)
   replace c7 := Bool.eq_false_iff.mpr c7
   subst c7
   have H1 : (if (wrap64 ((wrap64 (s0_1 + 1)) - 1)) < (s0_0.length : Int) then (if 0 ≤ (wrap64 ((wrap64 (s0_1 + 1)) - 1)) then (if a1 = 0 then (none) else (some (Int.tmod (wrap64 (rd s0_0 (wrap64 ((wrap64 (s0_1 + 1)) - 1)))) a1, (wrap64 (s0_1 + 1))))) else (none)) else (if (s0_0.length : Int) = 0 then (none) else (if 0 ≤ (Int.tmod (wrap64 ((wrap64 (s0_1 + 1)) - 1)) (s0_0.length : Int)) then (if (Int.tmod (wrap64 ((wrap64 (s0_1 + 1)) - 1)) (s0_0.length : Int)) < (s0_0.length : Int) then (if 0 ≤ (Int.tmod (wrap64 ((wrap64 ((wrap64 ((wrap64 (s0_1 + 1)) - 1)) * 7)) + 3)) (s0_0.length : Int)) then (if (Int.tmod (wrap64 ((wrap64 ((wrap64 ((wrap64 (s0_1 + 1)) - 1)) * 7)) + 3)) (s0_0.length : Int)) < (s0_0.length : Int) then (if a1 = 0 then (none) else (some (Int.tmod (Go.bits .xor .i64 (wrap64 ((wrap64 ((wrap64 ((wrap64 ((wrap64 (rd s0_0 (Int.tmod (wrap64 ((wrap64 (s0_1 + 1)) - 1)) (s0_0.length : Int)))) * 131)) + (wrap64 ((wrap64 (rd s0_0 (Int.tmod (wrap64 ((wrap64 ((wrap64 ((wrap64 (s0_1 + 1)) - 1)) * 7)) + 3)) (s0_0.length : Int)))) * 1117)))) + (wrap64 ((wrap64 ((wrap64 (s0_1 + 1)) - 1)) * 29)))) + (wrap64 ((wrap64 (Int.tdiv (wrap64 ((wrap64 (s0_1 + 1)) - 1)) (s0_0.length : Int))) * 53)))) (wrap64 (Int.tdiv (wrap64 ((wrap64 ((wrap64 ((wrap64 ((wrap64 (rd s0_0 (Int.tmod (wrap64 ((wrap64 (s0_1 + 1)) - 1)) (s0_0.length : Int)))) * 131)) + (wrap64 ((wrap64 (rd s0_0 (Int.tmod (wrap64 ((wrap64 ((wrap64 ((wrap64 (s0_1 + 1)) - 1)) * 7)) + 3)) (s0_0.length : Int)))) * 1117)))) + (wrap64 ((wrap64 ((wrap64 (s0_1 + 1)) - 1)) * 29)))) + (wrap64 ((wrap64 (Int.tdiv (wrap64 ((wrap64 (s0_1 + 1)) - 1)) (s0_0.length : Int))) * 53)))) 64))) a1, (wrap64 (s0_1 + 1))))) else (none)) else (none)) else (none)) else (none)))) = some (r1, r2) := by rw [if_neg (show ¬ (false = true) by decide)] at H; exact H
   clear H
   have H := H1
   clear H1
   by_cases c8 : (wrap64 ((wrap64 (s0_1 + 1)) - 1)) < (s0_0.length : Int)
   · rw [if_pos c8] at H
     have c8b0 := decide_eq_true c8
     clear c8
     obtain ⟨ji9, hji9⟩ : ∃ j_ : Int, (wrap64 ((wrap64 (s0_1 + 1)) - 1)) = j_ := ⟨_, rfl⟩
     replace H : (if 0 ≤ (ji9) then (if a1 = 0 then (none) else (some (Int.tmod (wrap64 (rd s0_0 (ji9))) a1, (wrap64 (s0_1 + 1))))) else (none)) = some (r1, r2) := by first | (rw [hji9] at H; exact H) | (simp only [hji9] at H ⊢; exact H)
     (try rw [hji9] at c8b0)
     have hji9w : (IntKind.i64.wrap ((wrap64 (s0_1 + 1)) - 1)) = ji9 := (i64_w _).trans hji9
     by_cases c10 : 0 ≤ (ji9)
     rotate_left
     · rw [if_neg c10] at H
       exact absurd H (by simp)
     rw [if_pos c10] at H
     have c10b0 := decide_eq_true c10
     clear c10
     by_cases c11 : a1 = 0
     · rw [if_pos c11] at H
       exact absurd H (by simp)
     rw [if_neg c11] at H
     have c11b0 : (a1 == 0) = false := beq_eq_false_iff_ne.mpr c11
     have c11b1 : (a1 != 0) = true := bne_iff_ne.mpr c11
     simp only [Option.some.injEq, Prod.mk.injEq] at H
     obtain ⟨rfl, rfl⟩ := H
     obtain ⟨ASz12_0, cSz12_0, HGz12, hgz12, HSz12_0⟩ := HI0.out
     have hcz12_0 := cellS66_0 HGz12
     have hcz12_1 := cellS66_1 HGz12
     have hfz12_1 := blk_frozen HGz12 1
     clear HGz12 hgz12
     have p123 : 0 ≤ ((ji9) : Int) := ofb
     have q123 : (ji9) < (s0_0.length : Int) := ofb
     obtain ⟨ad123, e123, hx123_0⟩ := Kd.at_int HSz12_0 (ji9) p123 q123
     cases e123
     replace hx123_0 := pw_cell_below HB.out hx123_0
     replace p123 := eq_true p123
     replace q123 := eq_true q123
     go_wp2
     repeat (go_quiet (fail); try go_wp2)
     go_ret
     exact ⟨by first | rfl | (simp [errW_none, errW_some] <;> rfl) | (simp only [← hji9]; first | rfl | (simp [errW_none, errW_some] <;> rfl)) | (simp [*, errW_none, errW_some] <;> rfl), by repeat (first | (with_reducible first | exact HI0.out | apply IsS66.alloc | apply IsS66.drewN | apply IsS66.drew | apply IsS66.set_1) | exact HI0.out), by repeat (first | (with_reducible first | exact HB.out | apply below_alloc | apply pw_below_drewN | apply below_drew1 | refine below_set ?_ (IsS66.ge HI0.out)) | exact HB.out), by repeat (first | (with_reducible first | exact HK.out | apply KeepBut.set_ | apply keep_drewN | apply keep_drew | apply keep_alloc) | exact HK.out)⟩
   rw [if_neg c8] at H
   have c8b0 := decide_eq_false c8
   clear c8
   by_cases c13 : (s0_0.length : Int) = 0
   · rw [if_pos c13] at H
     exact absurd H (by simp)
   rw [if_neg c13] at H
   have c13b0 : ((s0_0.length : Int) == 0) = false := beq_eq_false_iff_ne.mpr c13
   have c13b1 : ((s0_0.length : Int) != 0) = true := bne_iff_ne.mpr c13
   have c13b2 : ¬ (s0_0 = []) := fun h_ => c13 (by rw [h_]; rfl)
   obtain ⟨ji14, hji14⟩ : ∃ j_ : Int, (Int.tmod (wrap64 ((wrap64 (s0_1 + 1)) - 1)) (s0_0.length : Int)) = j_ := ⟨_, rfl⟩
   replace H : (if 0 ≤ (ji14) then (if (ji14) < (s0_0.length : Int) then (if 0 ≤ (Int.tmod (wrap64 ((wrap64 ((wrap64 ((wrap64 (s0_1 + 1)) - 1)) * 7)) + 3)) (s0_0.length : Int)) then (if (Int.tmod (wrap64 ((wrap64 ((wrap64 ((wrap64 (s0_1 + 1)) - 1)) * 7)) + 3)) (s0_0.length : Int)) < (s0_0.length : Int) then (if a1 = 0 then (none) else (some (Int.tmod (Go.bits .xor .i64 (wrap64 ((wrap64 ((wrap64 ((wrap64 ((wrap64 (rd s0_0 (ji14))) * 131)) + (wrap64 ((wrap64 (rd s0_0 (Int.tmod (wrap64 ((wrap64 ((wrap64 ((wrap64 (s0_1 + 1)) - 1)) * 7)) + 3)) (s0_0.length : Int)))) * 1117)))) + (wrap64 ((wrap64 ((wrap64 (s0_1 + 1)) - 1)) * 29)))) + (wrap64 ((wrap64 (Int.tdiv (wrap64 ((wrap64 (s0_1 + 1)) - 1)) (s0_0.length : Int))) * 53)))) (wrap64 (Int.tdiv (wrap64 ((wrap64 ((wrap64 ((wrap64 ((wrap64 (rd s0_0 (ji14))) * 131)) + (wrap64 ((wrap64 (rd s0_0 (Int.tmod (wrap64 ((wrap64 ((wrap64 ((wrap64 (s0_1 + 1)) - 1)) * 7)) + 3)) (s0_0.length : Int)))) * 1117)))) + (wrap64 ((wrap64 ((wrap64 (s0_1 + 1)) - 1)) * 29)))) + (wrap64 ((wrap64 (Int.tdiv (wrap64 ((wrap64 (s0_1 + 1)) - 1)) (s0_0.length : Int))) * 53)))) 64))) a1, (wrap64 (s0_1 + 1))))) else (none)) else (none)) else (none)) else (none)) = some (r1, r2) := by first | (rw [hji14] at H; exact H) | (simp only [hji14] at H ⊢; exact H)
   by_cases c15 : 0 ≤ (ji14)
   rotate_left
   · rw [if_neg c15] at H
     exact absurd H (by simp)
   rw [if_pos c15] at H
   have c15b0 := decide_eq_true c15
   clear c15
   by_cases c16 : (ji14) < (s0_0.length : Int)
   rotate_left
   · rw [if_neg c16] at H
     exact absurd H (by simp)
   rw [if_pos c16] at H
   have c16b0 := decide_eq_true c16
   clear c16
   obtain ⟨ji17, hji17⟩ : ∃ j_ : Int, (Int.tmod (wrap64 ((wrap64 ((wrap64 ((wrap64 (s0_1 + 1)) - 1)) * 7)) + 3)) (s0_0.length : Int)) = j_ := ⟨_, rfl⟩
   replace H : (if 0 ≤ (ji17) then (if (ji17) < (s0_0.length : Int) then (if a1 = 0 then (none) else (some (Int.tmod (Go.bits .xor .i64 (wrap64 ((wrap64 ((wrap64 ((wrap64 ((wrap64 (rd s0_0 (ji14))) * 131)) + (wrap64 ((wrap64 (rd s0_0 (ji17))) * 1117)))) + (wrap64 ((wrap64 ((wrap64 (s0_1 + 1)) - 1)) * 29)))) + (wrap64 ((wrap64 (Int.tdiv (wrap64 ((wrap64 (s0_1 + 1)) - 1)) (s0_0.length : Int))) * 53)))) (wrap64 (Int.tdiv (wrap64 ((wrap64 ((wrap64 ((wrap64 ((wrap64 (rd s0_0 (ji14))) * 131)) + (wrap64 ((wrap64 (rd s0_0 (ji17))) * 1117)))) + (wrap64 ((wrap64 ((wrap64 (s0_1 + 1)) - 1)) * 29)))) + (wrap64 ((wrap64 (Int.tdiv (wrap64 ((wrap64 (s0_1 + 1)) - 1)) (s0_0.length : Int))) * 53)))) 64))) a1, (wrap64 (s0_1 + 1))))) else (none)) else (none)) = some (r1, r2) := by first | (rw [hji17] at H; exact H) | (simp only [hji17] at H ⊢; exact H)
   by_cases c18 : 0 ≤ (ji17)
   rotate_left
   · rw [if_neg c18] at H
     exact absurd H (by simp)
   rw [if_pos c18] at H
   have c18b0 := decide_eq_true c18
   clear c18
   by_cases c19 : (ji17) < (s0_0.length : Int)
   rotate_left
   · rw [if_neg c19] at H
     exact absurd H (by simp)
   rw [if_pos c19] at H
   have c19b0 := decide_eq_true c19
   clear c19
   by_cases c20 : a1 = 0
   · rw [if_pos c20] at H
     exact absurd H (by simp)
   rw [if_neg c20] at H
   have c20b0 : (a1 == 0) = false := beq_eq_false_iff_ne.mpr c20
   have c20b1 : (a1 != 0) = true := bne_iff_ne.mpr c20
   simp only [Option.some.injEq, Prod.mk.injEq] at H
   obtain ⟨rfl, rfl⟩ := H
   obtain ⟨ASz21_0, cSz21_0, HGz21, hgz21, HSz21_0⟩ := HI0.out
   have hcz21_0 := cellS66_0 HGz21
   have hcz21_1 := cellS66_1 HGz21
   have hfz21_1 := blk_frozen HGz21 1
   clear HGz21 hgz21
   have p124 : 0 ≤ ((ji14) : Int) := ofb
   have q124 : (ji14) < (s0_0.length : Int) := ofb
   obtain ⟨ad124, e124, hx124_0⟩ := Kd.at_int HSz21_0 (ji14) p124 q124
   cases e124
   replace hx124_0 := pw_cell_below HB.out hx124_0
   replace p124 := eq_true p124
   replace q124 := eq_true q124
   have p125 : 0 ≤ ((ji17) : Int) := ofb
   have q125 : (ji17) < (s0_0.length : Int) := ofb
   obtain ⟨ad125, e125, hx125_0⟩ := Kd.at_int HSz21_0 (ji17) p125 q125
   obtain rfl : ad124 = ad125 := (by injection e125)
   replace hx125_0 := pw_cell_below HB.out hx125_0
   replace p125 := eq_true p125
   replace q125 := eq_true q125
   go_wp2
   repeat (go_quiet (fail); try go_wp2)
   go_ret
   exact ⟨by first | rfl | (simp [errW_none, errW_some] <;> rfl) | (simp only [← hji14, ← hji17]; first | rfl | (simp [errW_none, errW_some] <;> rfl)) | (simp [*, errW_none, errW_some] <;> rfl), by repeat (first | (with_reducible first | exact HI0.out | apply IsS66.alloc | apply IsS66.drewN | apply IsS66.drew | apply IsS66.set_1) | exact HI0.out), by repeat (first | (with_reducible first | exact HB.out | apply below_alloc | apply pw_below_drewN | apply below_drew1 | refine below_set ?_ (IsS66.ge HI0.out)) | exact HB.out), by repeat (first | (with_reducible first | exact HK.out | apply KeepBut.set_ | apply keep_drewN | apply keep_drew | apply keep_alloc) | exact HK.out)⟩
def spec_FlashNew.l0 : Nat → List (S28) → Int → Option ((List (S28)))
 | 0, _, _ => none
 | k + 1, x1, x2 => if x2 < 4 then (if 4 ≤ 7036874417766 then (if x1.length < 4398046511104 then (spec_FlashNew.l0 k (x1 ++ [(⟨(List.replicate 4 z32), 0⟩ : S28)]) (wrap64 (x2 + 1))) else (none)) else (none)) else (some x1)
def spec_FlashNew.f (k : Nat)  : Option ((List (S28))) := spec_FlashNew.l0 k (([] : List (S28))) 0
theorem spec_FlashNew.mono_l : ∀ k, (∀ y0 y1, LeO (spec_FlashNew.l0 k y0 y1) (spec_FlashNew.l0 (k + 1) y0 y1))
 | 0 => fun _ _ r h => by simp [spec_FlashNew.l0] at h
 | k + 1 => by
  have ih0 := spec_FlashNew.mono_l k
  · intro y0 y1
    unfold spec_FlashNew.l0
    repeat' first
    | (with_reducible exact ih0 _ _)
    | (with_reducible exact LeO.refl _)
    | (with_reducible exact LeO.none _)
    | (with_reducible refine LeO.ite ?_ ?_)
    | (with_reducible refine LeO.bind ?_ (fun _ => ?_))
    | exact ih0 _ _
    | exact LeO.none _
    | refine LeO.ite ?_ ?_
    | refine LeO.bind ?_ (fun _ => ?_)
theorem spec_FlashNew.mono : ∀ k, LeO (spec_FlashNew.f k ) (spec_FlashNew.f (k + 1) ) := by
 intro  k
 have ih0 := spec_FlashNew.mono_l k
 unfold spec_FlashNew.f
 repeat' first
  | (with_reducible exact ih0 _ _)
  | (with_reducible exact LeO.refl _)
  | (with_reducible exact LeO.none _)
  | (with_reducible refine LeO.ite ?_ ?_)
  | (with_reducible refine LeO.bind ?_ (fun _ => ?_))
  | exact ih0 _ _
  | exact LeO.none _
  | refine LeO.ite ?_ ?_
  | refine LeO.bind ?_ (fun _ => ?_)
set_option maxHeartbeats 8000000 in
set_option maxRecDepth 100000 in
theorem spec_FlashNew.calls (k : Nat)  (r : List (S28)) (w : World) (h : spec_FlashNew.f k  = some r) :
 Calls Try.prog 52 #[] w fun e w' => ∃ v0_ : Value, e = .returned (v0_) ∧ Kd.S k28 28 w' w.heap.size (fun _ => True) v0_ r ∧ Below w.heap.size w w' := by
 have hu28 := Try.underlying28
 have HB := am (Below.refl w.heap.size w)
 have H : (spec_FlashNew.l0 k (([] : List (S28))) 0) = some r := h
 clear h
 obtain ⟨y126, hy126⟩ : ∃ y_ : List (S28), y_ = (([] : List (S28))) := ⟨_, rfl⟩
 replace H : (spec_FlashNew.l0 k y126 0) = some r := by first | (rw [hy126]; with_reducible exact H) | (have H2_ := (Option.bind_some _ _).symm.trans H; rw [hy126]; with_reducible exact H2_) | (have H2_ := (Option.bind_some _ _).symm.trans H; with_reducible exact H2_) | with_reducible exact H | (rw [hy126]; exact H) | exact H
 have Ny126 := am hy126
 clear hy126
 have H' := am H
 clear H
 go_enter Try.func52, Try.ntmps52
 go_wp2_with (first | ((with_reducible refine gate_dst (N := 3) rfl ?_); refine Kd.S_lit k28 _ 28 ?hg (N := 3) ?hd (xs := ([] : List (S28))) (inner := []) (ok := fun _ => True) (okp := fun _ => True) ?hr ?hp (fun _ hk => hk) trivial (Below.refl _ _) (Nat.le_refl _) (by simp) ?_; (case hd => rfl); (case hg => rfl); (case hr => first | (go_simp; done) | (go_simp; rfl)); (case hp => exact (Reps.none _ _)); intro v127 w1 ho2 hb hg_ hnew_; clear hg_ hnew_; (first | rw [← Ny126.out] at ho2 | (simp only [Int.reduceToNat] at ho2; rw [← Ny126.out] at ho2)); have HO128 := am (Kd.S_lower ho2 (below_size (ph HB.out))); replace HB := am (below_step (ph HB.out) hb); clear hb ho2))
 go_loopg [1, 2] k (fun kq v1 v2 w' => ∃ (x1_1 : List (S28)) (x2_1 : Int), v2 = .int .i64 x2_1 ∧ Aside0 (spec_FlashNew.l0 kq x1_1 x2_1 = some r) ∧ Aside0 (kq ≤ k) ∧ Aside0 (Kd.S k28 28 w' w.heap.size (fun _ => True) v1 x1_1) ∧ Aside0 (Below w.heap.size w w'))
 case atStart => exact ⟨(y126), (0), rf, H', ⟨Nat.le_refl _⟩, ⟨ps HO128.out⟩, ⟨ph HB.out⟩⟩
 case round =>
  clear H'
  obtain ⟨x1_1, x2_1, rfl, HA, HK1, HO_1, HB⟩ := hrel
  cases gk with
  | zero => exact absurd HA.out (by simp [spec_FlashNew.l0])
  | succ k1 =>
   have H := HA.out
   clear HA
   simp only [spec_FlashNew.l0] at H
   by_cases c3 : x2_1 < 4
   rotate_left
   · rw [if_neg c3] at H
     have c3b0 := decide_eq_false c3
     clear c3
     obtain rfl := Option.some.inj H
     go_wp2
     go_ret
     exact ⟨_, rq ⟨ps HO_1.out, ph HB.out⟩⟩
   rw [if_pos c3] at H
   have c3b0 := decide_eq_true c3
   clear c3
   by_cases c4 : 4 ≤ 7036874417766
   rotate_left
   · rw [if_neg c4] at H
     exact absurd H (by simp)
   rw [if_pos c4] at H
   have c4b0 := eq_true c4
   have c4b1 := decide_eq_true c4
   clear c4
   obtain ⟨y129, hy129⟩ : ∃ y_ : List (S32), y_ = (List.replicate 4 z32) := ⟨_, rfl⟩
   replace H : (if x1_1.length < 4398046511104 then (spec_FlashNew.l0 k1 (x1_1 ++ [(⟨y129, 0⟩ : S28)]) (wrap64 (x2_1 + 1))) else (none)) = some r := by first | (rw [hy129]; with_reducible exact H) | (have H2_ := (Option.bind_some _ _).symm.trans H; rw [hy129]; with_reducible exact H2_) | (have H2_ := (Option.bind_some _ _).symm.trans H; with_reducible exact H2_) | with_reducible exact H | (rw [hy129]; exact H) | exact H
   have Ny129 := am hy129
   clear hy129
   by_cases c5 : x1_1.length < 4398046511104
   rotate_left
   · rw [if_neg c5] at H
     exact absurd H (by simp)
   rw [if_pos c5] at H
   have LMc5 := am c5
   clear c5
   obtain ⟨y132, hy132⟩ : ∃ y_ : List (S28), y_ = (x1_1 ++ [(⟨y129, 0⟩ : S28)]) := ⟨_, rfl⟩
   replace H : (spec_FlashNew.l0 k1 y132 (wrap64 (x2_1 + 1))) = some r := by first | (rw [hy132]; with_reducible exact H) | (have H2_ := (Option.bind_some _ _).symm.trans H; rw [hy132]; with_reducible exact H2_) | (have H2_ := (Option.bind_some _ _).symm.trans H; with_reducible exact H2_) | with_reducible exact H | (rw [hy132]; exact H) | exact H
   have Ny132 := am hy132
   clear hy132
   have H' := am H
   clear H
   go_wp2_with (first | ((with_reducible refine gate_dst (N := 9) rfl ?_); refine Kd.R_make k32 _ 32 rfl (N := 9) rfl 26 _ _ rfl 4 rfl rfl Try.underlying26 (.agg #[(.int .i64 0), (.int .i64 0), (.int .i64 0), (.int .i64 0), (.int .i64 0)]) 40 info32 rfl (by decide) (by omega) z32 (ok := fun _ => True) (okp := fun _ => True) (k32_mkM _ _ _ z32 ) (fun _ hk => hk) trivial (by omega) (by omega) (Below.refl _ _) (Nat.le_refl _) ?_; intro v130 w6 ho7 hb hg_ hnew_; clear hg_ hnew_; (first | rw [← Ny129.out] at ho7 | (simp only [Int.reduceToNat] at ho7; rw [← Ny129.out] at ho7)); replace HO_1 := am (Kd.S_elder' (ps HO_1.out) (Kd.R_base ho7) hb); have HO131 := am (Kd.R_lower ho7 (below_size (ph HB.out))); replace HB := am (below_step (ph HB.out) hb); clear hb ho7; obtain ⟨Ao8, co8, eo8⟩ := Kd.R_slice HO131.out; subst eo8) | ((with_reducible refine gate_builtin (b := .append) (xs := #[.tmp 8, .tmp 11]) rfl ?_); at_builtin; refine Kd.S_append k28 (w0 := w) w.heap.size rfl (.tmp 8) (.tmp 11) 23 28 (.agg #[(.slice none 0 0), (.int .i64 0)]) 32 rfl Try.underlying23 info28 rfl (by decide) (by omega) u1 x1_1 (⟨y129, 0⟩ : S28) [.slice Ao8 y129.length co8, .int .i64 0] (fun _ => True) (fun k_ => some k_ = (.slice Ao8 y129.length co8 : Value).ownBlock) rfl rfl ?aP (fun k_ hk_ => ((Kd.R_mono (ok' := fun k_ => ((fun _ => True)) k_ ∧ some k_ ≠ (u1 : Value).ownBlock) (Kd.R_apart' (HO131.out) (Kd.S_typed HO_1.out) (by decide)) (fun k_ hk => ⟨trivial, hk.2⟩))).1 k_ hk_.symm) ?aF ?aO ?aB ?aS ?aL ?_; (case aP => exact k28_mkM _ _ _ (⟨y129, 0⟩ : S28) (Kd.R_mono (Kd.R_tight rfl (Kd.R_mono (ok' := fun k_ => ((fun _ => True)) k_ ∧ some k_ ≠ (u1 : Value).ownBlock) (Kd.R_apart' (HO131.out) (Kd.S_typed HO_1.out) (by decide)) (fun k_ hk => ⟨trivial, hk.2⟩))) (fun _ h_ => h_))); (case aB => exact (ph HB.out)); (case aF => exact (fun _ _ => trivial)); (case aO => exact (by (with_reducible repeat (first | apply Kd.S_alloc | apply Kd.S_drewN | apply Kd.S_drew)); exact Kd.S_mono HO_1.out (fun k_ hk => ⟨trivial, fun e_ => hk.2 e_⟩))); (case aS => exact (below_size (ph HB.out))); (case aL => have := LMc5.out; omega); intro v133 w9 ho hb hg hat; rw [← Ny132.out] at ho; replace HB := am (hb); have HO134 := am (ho); clear HO_1; clear HO131; clear ho hb hg hat))
   go_roundg k1
   case measure => have := HK1.out; omega
   case rel => exact ⟨(y132), (wrap64 (x2_1 + 1)), rf, H', ⟨by have := HK1.out; omega⟩, ⟨ps HO134.out⟩, ⟨ph HB.out⟩⟩
def spec_StoreNew.f (k : Nat)  : Option ((List (S28)) × List Int) := (spec_FlashNew.f k).bind fun t136 => (if 6 ≤ 35184372088832 then (some (t136, (List.replicate 6 0))) else (none))
theorem spec_StoreNew.mono : ∀ k, LeO (spec_StoreNew.f k ) (spec_StoreNew.f (k + 1) ) := by
 intro  k
 unfold spec_StoreNew.f
 repeat' first
  | (with_reducible exact spec_FlashNew.mono _)
  | (with_reducible exact LeO.refl _)
  | (with_reducible exact LeO.none _)
  | (with_reducible refine LeO.ite ?_ ?_)
  | (with_reducible refine LeO.bind ?_ (fun _ => ?_))
  | exact spec_FlashNew.mono _
  | exact LeO.none _
  | refine LeO.ite ?_ ?_
  | refine LeO.bind ?_ (fun _ => ?_)
set_option maxHeartbeats 8000000 in
set_option maxRecDepth 100000 in
theorem spec_StoreNew.calls (k : Nat)  (r1 : List (S28)) (r2 : List Int) (w : World) (h : spec_StoreNew.f k  = some (r1, r2)) :
 Calls Try.prog 49 #[] w fun e w' => ∃ v0_ v1_ : Value, e = .returned (.agg #[v0_, v1_]) ∧ Kd.S k28 28 w' w.heap.size (fun _ => True) v0_ r1 ∧ Kd.R (Kd.int .i64) 3 w' w.heap.size (fun _ => True) v1_ r2 ∧ Below w.heap.size w w' := by
 have hu70 := Try.underlying70
 have HB := am (Below.refl w.heap.size w)
 have H : ((spec_FlashNew.f k).bind fun t136 => (if 6 ≤ 35184372088832 then (some (t136, (List.replicate 6 0))) else (none))) = some (r1, r2) := h
 clear h
 replace H := Option.bind_eq_some_iff.mp H
 obtain ⟨t136, A10, H⟩ := H
 replace H : (if 6 ≤ 35184372088832 then (some (t136, (List.replicate 6 0))) else (none)) = some (r1, r2) := H
 have A1 := am A10
 clear A10
 by_cases c2 : 6 ≤ 35184372088832
 rotate_left
 · rw [if_neg c2] at H
   exact absurd H (by simp)
 rw [if_pos c2] at H
 have c2b0 := eq_true c2
 have c2b1 := decide_eq_true c2
 clear c2
 obtain ⟨y139, hy139⟩ : ∃ y_ : List Int, y_ = (List.replicate 6 0) := ⟨_, rfl⟩
 replace H : (some (t136, y139)) = some (r1, r2) := by first | (rw [hy139]; with_reducible exact H) | (have H2_ := (Option.bind_some _ _).symm.trans H; rw [hy139]; with_reducible exact H2_) | (have H2_ := (Option.bind_some _ _).symm.trans H; with_reducible exact H2_) | with_reducible exact H | (rw [hy139]; exact H) | exact H
 have Ny139 := am hy139
 clear hy139
 simp only [Option.some.injEq, Prod.mk.injEq] at H
 obtain ⟨rfl, rfl⟩ := H
 go_enter Try.func49, Try.ntmps49
 try go_wp2_with (first | (refine bx 0 #[.slice none 0 0, .slice none 0 0] 70 rfl ?_; intro gb135 hg w3 hbox hb; have BK135 := am (hbox); have GW135 := am ((by rw [hg]; exact (below_size (ph HB.out)) : w.heap.size ≤ gb135)); have GE135 := GW135; replace HB := am (below_step (ph HB.out) hb); clear hb hbox hg))
 replace BK135 := am (blk_drew BK135.out)
 replace HB := am (below_drew1 HB.out)
 refine start_ (n := 4) (S := fun w' => True) (ds := []) #[false, false, false, false] (by kernel_rfl) rfl rfl trivial (fun hHeld => ?_)
 generalize w3.drew = w4 at BK135 HB hHeld ⊢
 refine join_ (σ := Value × Value) 2 #[true, true, false, false] (fun s_ => [(1, s_.1), (2, s_.2)]) (fun s_ w' => (Kd.S k28 28 w' w.heap.size (fun _ => True) s_.1 t136) ∧ (Kd.R (Kd.int .i64) 3 w' w.heap.size (fun _ => True) s_.2 y139) ∧ (w'.heap[gb135]? = some (.cells #[.slice none 0 0, .slice none 0 0] 70 (0, 0))) ∧ (Below w.heap.size w w')) ?_ ?_
 rotate_left
 · intro hCont
   refine two_ (i := 0) (j := 1) (Ni := some 1) (Nj := some 2) #[true, false, false, false] #[false, true, false, false] rfl rfl rfl rfl (by kernel_rfl) (by decide) (by decide) (fun K hK => ?_) (fun K hK => ?_)
   · skip
     refine goes_ Try.func52 (by kernel_rfl) rfl #[] (by rfl) rfl rfl (by (try simp only [List.map_toArray, List.map_cons, List.map_nil]); first | done | rfl | (simp only [List.length_drop, List.length_take]; rfl)) ?_
     with_reducible refine (spec_FlashNew.calls k  t136 _ A1.out).mono ?_
     rintro e w5 ⟨v137, rfl, ho0, hb⟩
     refine ⟨_, rfl, ?_⟩
     have HO138 := am (Kd.S_lower ho0 (below_size (bg1 HB.out GE135.out)))
     replace BK135 := am (blk_below (pb BK135.out) hb)
     replace HB := am (below_step (bg1 HB.out GE135.out) hb)
     (try clear hb)
     (try clear hb2)
     (try clear hk)
     (try clear hi)
     (try clear ho0)
     refine hK.out _ _ trivial (fun hHeld => ?_)
     clear hK K
     refine norm_ (a' := ?_) ?_ ?_
     rotate_left
     · show Act.put _ (some 1) _ = _
       simp only [Act.put, List.setIfInBounds_toArray, List.set_cons_zero, List.set_cons_succ, i64_w, i32_w]
       rfl
     refine one_ (i := 1) (N := some 2) #[true, true, false, false] rfl rfl (by kernel_rfl) (by decide) (fun K hK => ?_)
     refine Kd.R_make_step (Kd.int .i64) _ 3 (by rfl) (N := 2) rfl 68 _ _ rfl 6 rfl rfl Try.underlying68 (.int .i64 0) 8 info3 rfl (by decide) (by omega) 0 (ok := fun _ => True) (okp := fun _ => True) rfl (fun _ hk => hk) trivial (by omega) (by omega) (Below.refl _ _) (Nat.le_refl _) ?_
     intro v140 w6 ho7 hb hg_ hnew_
     clear hg_ hnew_
     (first | rw [← Ny139.out] at ho7 | (simp only [Int.reduceToNat] at ho7; rw [← Ny139.out] at ho7))
     replace HO138 := am (Kd.S_below (ps HO138.out) hb)
     have HO141 := am (Kd.R_lower ho7 (below_size (bg1 HB.out GE135.out)))
     replace BK135 := am (blk_below (pb BK135.out) hb)
     replace HB := am (below_step (bg1 HB.out GE135.out) hb)
     clear hb ho7
     obtain ⟨Ao8, co8, eo8⟩ := Kd.R_slice HO141.out
     (first | subst eo8 | (injection eo8 with f1_ f2_ f3_; have f4_ := f1_.symm; have f5_ := f3_.symm; clear f1_ f2_ f3_; subst f4_; subst f5_))
     obtain ⟨Ao9, co9, eo9⟩ := Kd.S_slice HO138.out
     (first | subst eo9 | (injection eo9 with f1_ f2_ f3_; have f4_ := f1_.symm; have f5_ := f3_.symm; clear f1_ f2_ f3_; subst f4_; subst f5_))
     refine hK.out _ _ trivial (fun hHeld => ?_)
     clear hK K
     refine norm_ (a' := ?_) ?_ ?_
     rotate_left
     · show Act.put _ (some 2) _ = _
       simp only [Act.put, List.setIfInBounds_toArray, List.set_cons_zero, List.set_cons_succ, i64_w, i32_w]
       rfl
     exact norm_ (by simp only [putAll, Act.put, List.setIfInBounds_toArray, List.set_cons_zero, List.set_cons_succ]) (hCont (.slice Ao9 t136.length co9, .slice Ao8 y139.length co8) _ ⟨(ps HO138.out), (pr HO141.out), (pb BK135.out), (bg1 HB.out GE135.out)⟩)
   · skip
     refine Kd.R_make_step (Kd.int .i64) _ 3 (by rfl) (N := 2) rfl 68 _ _ rfl 6 rfl rfl Try.underlying68 (.int .i64 0) 8 info3 rfl (by decide) (by omega) 0 (ok := fun _ => True) (okp := fun _ => True) rfl (fun _ hk => hk) trivial (by omega) (by omega) (Below.refl _ _) (Nat.le_refl _) ?_
     intro v140 w5 ho6 hb hg_ hnew_
     clear hg_ hnew_
     (first | rw [← Ny139.out] at ho6 | (simp only [Int.reduceToNat] at ho6; rw [← Ny139.out] at ho6))
     have HO141 := am (Kd.R_lower ho6 (below_size (bg1 HB.out GE135.out)))
     replace BK135 := am (blk_below (pb BK135.out) hb)
     replace HB := am (below_step (bg1 HB.out GE135.out) hb)
     clear hb ho6
     refine hK.out _ _ trivial (fun hHeld => ?_)
     clear hK K
     refine norm_ (a' := ?_) ?_ ?_
     rotate_left
     · show Act.put _ (some 2) _ = _
       simp only [Act.put, List.setIfInBounds_toArray, List.set_cons_zero, List.set_cons_succ, i64_w, i32_w]
       rfl
     refine one_ (i := 0) (N := some 1) #[true, true, false, false] rfl rfl (by kernel_rfl) (by decide) (fun K hK => ?_)
     refine goes_ Try.func52 (by kernel_rfl) rfl #[] (by rfl) rfl rfl (by (try simp only [List.map_toArray, List.map_cons, List.map_nil]); first | done | rfl | (simp only [List.length_drop, List.length_take]; rfl)) ?_
     with_reducible refine (spec_FlashNew.calls k  t136 _ A1.out).mono ?_
     rintro e w7 ⟨v137, rfl, ho0, hb⟩
     refine ⟨_, rfl, ?_⟩
     replace HO141 := am (Kd.R_below (pr HO141.out) hb)
     have HO138 := am (Kd.S_lower ho0 (below_size (bg1 HB.out GE135.out)))
     replace BK135 := am (blk_below (pb BK135.out) hb)
     replace HB := am (below_step (bg1 HB.out GE135.out) hb)
     (try clear hb)
     (try clear hb2)
     (try clear hk)
     (try clear hi)
     (try clear ho0)
     obtain ⟨Ao8, co8, eo8⟩ := Kd.R_slice HO141.out
     (first | subst eo8 | (injection eo8 with f1_ f2_ f3_; have f4_ := f1_.symm; have f5_ := f3_.symm; clear f1_ f2_ f3_; subst f4_; subst f5_))
     obtain ⟨Ao9, co9, eo9⟩ := Kd.S_slice HO138.out
     (first | subst eo9 | (injection eo9 with f1_ f2_ f3_; have f4_ := f1_.symm; have f5_ := f3_.symm; clear f1_ f2_ f3_; subst f4_; subst f5_))
     refine hK.out _ _ trivial (fun hHeld => ?_)
     clear hK K
     refine norm_ (a' := ?_) ?_ ?_
     rotate_left
     · show Act.put _ (some 1) _ = _
       simp only [Act.put, List.setIfInBounds_toArray, List.set_cons_zero, List.set_cons_succ, i64_w, i32_w]
       rfl
     exact norm_ (by simp only [putAll, Act.put, List.setIfInBounds_toArray, List.set_cons_zero, List.set_cons_succ]) (hCont (.slice Ao9 t136.length co9, .slice Ao8 y139.length co8) _ ⟨(ps HO138.out), (pr HO141.out), (pb BK135.out), (bg1 HB.out GE135.out)⟩)
 rintro ⟨v137, v140⟩ w10 ⟨h0_, h1_, h2_, h3_⟩
 have n0_ : Aside0 (Kd.S k28 28 w10 w.heap.size (fun _ => True) v137 t136) := ⟨h0_⟩
 have n1_ : Aside0 (Kd.R (Kd.int .i64) 3 w10 w.heap.size (fun _ => True) v140 y139) := ⟨h1_⟩
 have n2_ : Aside0 (w10.heap[gb135]? = some (.cells #[.slice none 0 0, .slice none 0 0] 70 (0, 0))) := ⟨h2_⟩
 have n3_ : Aside0 (Below w.heap.size w w10) := ⟨h3_⟩
 clear BK135
 clear HB
 clear h0_ h1_ h2_ h3_
 have HO138 := n0_
 have HO141 := n1_
 have BK135 := n2_
 have HB := n3_
 clear n0_ n1_ n2_ n3_
 have hHeld := trivial
 obtain ⟨Ao11, co11, eo11⟩ := Kd.R_slice HO141.out
 (first | subst eo11 | (injection eo11 with f1_ f2_ f3_; have f4_ := f1_.symm; have f5_ := f3_.symm; clear f1_ f2_ f3_; subst f4_; subst f5_))
 obtain ⟨Ao12, co12, eo12⟩ := Kd.S_slice HO138.out
 (first | subst eo12 | (injection eo12 with f1_ f2_ f3_; have f4_ := f1_.symm; have f5_ := f3_.symm; clear f1_ f2_ f3_; subst f4_; subst f5_))
 refine norm_ (a' := ?_) ?_ ?_
 rotate_left
 · simp only [putAll, Act.put, List.setIfInBounds_toArray, List.set_cons_zero, List.set_cons_succ]
   rfl
 refine pi_ 2 3 #[true, true, true, false] rfl rfl (fun _ _ _ h => h) ?_
 refine one_ (i := 3) (N := none) #[true, true, true, true] rfl rfl (by kernel_rfl) (by decide) (fun K hK => ?_)
 have hs13 : w10.cell? ⟨gb135, 0, none⟩ = some (.slice none 0 0) := (blk_cell BK135.out 0).trans rfl
 have hfs13 := blk_frozen BK135.out 0
 have hs14 : w10.cell? ⟨gb135, 1, none⟩ = some (.slice none 0 0) := (blk_cell BK135.out 1).trans rfl
 have hfs14 := blk_frozen BK135.out 1
 refine skip_ (w1 := ?_) (by rfl) rfl ?_ ?_
 rotate_left
 · go_simp
   rfl
 refine hK.out _ _ trivial (fun hHeld => ?_)
 clear hK K
 refine done_ (by kernel_rfl) ?_
 try go_wp2
 refine bodyPost_ret (results_cell_row rfl _ _ gb135 70 #[.slice Ao12 t136.length co12, .slice Ao11 y139.length co11] (0, 0) _ rfl (by (with_reducible repeat (first | refine blk_drewN ?_ _ | refine blk_drew ?_ | refine blk_alloc ?_ _)); refine blk_put (cs := #[.slice Ao12 t136.length co12, .slice none 0 0]) ?_ 1 _ rfl; (with_reducible repeat (first | refine blk_drewN ?_ _ | refine blk_drew ?_ | refine blk_alloc ?_ _)); refine blk_put (cs := #[.slice none 0 0, .slice none 0 0]) ?_ 0 _ rfl; (with_reducible repeat (first | refine blk_drewN ?_ _ | refine blk_drew ?_ | refine blk_alloc ?_ _)); exact BK135.out) Try.underlying70 rfl (by kernel_rfl)) rfl ?_
 exact ⟨_, _, rq ⟨by (with_reducible repeat (first | apply Kd.S_alloc | apply Kd.S_drewN | apply Kd.S_drew)); exact Kd.S_mono (Kd.S_far (p := ⟨gb135, 1, none⟩) (Kd.S_far (p := ⟨gb135, 0, none⟩) (Kd.S_types HO138.out BK135.out (by decide)) (fun _ hk => hk.2) (.slice Ao12 t136.length co12)) (fun _ hk => hk.2) (.slice Ao11 y139.length co11)) (fun _ hk => trivial), by (with_reducible repeat (first | apply Kd.R_alloc | apply Kd.R_drewN | apply Kd.R_drew)); exact Kd.R_mono (Kd.R_far (p := ⟨gb135, 1, none⟩) (Kd.R_far (p := ⟨gb135, 0, none⟩) (Kd.R_types HO141.out BK135.out (by decide)) (fun _ hk => hk.2) (.slice Ao12 t136.length co12)) (fun _ hk => hk.2) (.slice Ao11 y139.length co11)) (fun _ hk => trivial), bg1 HB.out GE135.out⟩⟩
end Go.Proofs.Yteijhllkpahbhaa.Rk
