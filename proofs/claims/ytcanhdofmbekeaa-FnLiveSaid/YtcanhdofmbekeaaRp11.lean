-- printed by wip/pp/pp.py
import Derived.Test.YtcanhdofmbekeaaRp0
import Derived.Test.YtcanhdofmbekeaaRp10
import Derived.Test.YtcanhdofmbekeaaWMap
import Derived.Maps.OwnOps
import Derived.Maps.Own
import Derived.IntWalk
import Derived.WalkArith
import Derived.RangeFuncNested
import Derived.RangeFuncBound
import Derived.RangeFuncCalls
import Derived.RangeFuncLeaves
import Derived.Shelf.Abstract
import Derived.WalkKit
import Derived.OwnWalkIn
import Derived.TacticsInMore
import Derived.LoopNIn
import Derived.LoopIn
namespace Go.Proofs.Ytcanhdofmbekeaa.Rp
open Go.RowKit Go.Proofs.YtcanhdofmbekeaaW.PrintWords Go.Proofs.YtcanhdofmbekeaaW.PrintLast Go.Proofs.YtcanhdofmbekeaaW.PrintMore
attribute [local go_sem] max2_int min2_int max_two min_two max_three min_three max_four min_four
set_option linter.unusedVariables false
set_option linter.unusedSimpArgs false
theorem drop_T32 {l : List S32} {i : Nat} (h : i < l.length) : l.drop i = rd_T32 l (i : Int) :: l.drop (i + 1) := by
 rw [List.drop_eq_getElem_cons h]
 simp [rd_T32, List.getD_eq_getElem?_getD, h]
theorem drop_T35 {l : List S35} {i : Nat} (h : i < l.length) : l.drop i = rd_T35 l (i : Int) :: l.drop (i + 1) := by
 rw [List.drop_eq_getElem_cons h]
 simp [rd_T35, List.getD_eq_getElem?_getD, h]
theorem shape_loop (l : List S32) (hl : l.length ≤ maxLen) : ∀ (n i : Nat) (free : Bool), i + n = l.length → impl_blockShape.l0 (n + 1) free l (l.length : Int) (i : Int) = some (shapeB (l.drop i) free)
 | 0, i, free, h => by
  rw [impl_blockShape.l0, if_neg (by omega), List.drop_eq_nil_of_le (by omega)]
  rfl
 | n + 1, i, free, h => by
  have hw : wrap64 ((i : Int) + 1) = ((i + 1 : Nat) : Int) := by
   simp only [maxLen] at hl
   rw [IntWalk.wrap64_in _ (by omega)]
   omega
  rw [impl_blockShape.l0, if_pos (by omega), if_pos (by omega), if_pos (by omega), drop_T32 (by omega), shapeB, hw]
  have ih := fun f => shape_loop l hl n (i + 1) f (by omega)
  by_cases hf : free = true
  rotate_left
  · rw [if_neg hf, if_neg (fun h => hf h.1)]
    exact ih _
  by_cases hs : (rd_T32 l (i : Int)).f0 = 0
  rotate_left
  · rw [if_pos hf, if_neg hs, if_pos ⟨hf, hs⟩]
  rw [if_pos hf, if_pos hs, if_neg (by simp [hs])]
  exact ih _
theorem blockShape_ok (b : S35) (hl : b.f0.length ≤ maxLen) : ∃ k, impl_blockShape.f k b.f0 b.f1 = some (blockB b) := by
 refine ⟨b.f0.length + 2, ?_⟩
 have key := shape_loop b.f0 hl b.f0.length 0 false (by omega)
 unfold impl_blockShape.f blockB
 by_cases h1 : (b.f0.length : Int) = 4
 rotate_left
 · rw [if_neg h1, impl_blockShape.j0, if_pos rfl]
   simp [h1]
 rw [if_pos h1]
 by_cases h2 : b.f1 < 0
 · rw [if_pos h2, impl_blockShape.j0, if_pos rfl]
   simp
   intro _ h
   omega
 rw [if_neg h2]
 by_cases h3 : b.f1 > 200
 · rw [decide_eq_true h3, impl_blockShape.j0, if_pos rfl]
   simp
   intro _ _ h
   omega
 rw [decide_eq_false h3, impl_blockShape.j0, if_neg (by simp)]
 have : decide ((b.f0.length : Int) = 4 ∧ 0 ≤ b.f1 ∧ b.f1 ≤ 200) = true := decide_eq_true ⟨h1, by omega, by omega⟩
 rw [this, Bool.true_and]
 exact key
theorem pageShape_ok (p : S32) : impl_pageShape.f p.f0 p.f1.f0 p.f1.f1 p.f1.f2 p.f1.f3 = some (pageB p) := by
 unfold impl_pageShape.f pageB impl_RecOk.f
 by_cases h1 : p.f0 = 1
 · rw [if_pos h1, if_pos h1]
   rfl
 rw [if_neg h1, if_neg h1]
 by_cases h2 : p.f0 = 0
 · rw [if_pos h2, if_pos (Or.inl h2)]
 by_cases h3 : p.f0 = 2
 rotate_left
 · rw [if_neg h2, if_neg h3, if_neg (by omega)]
 rw [if_neg h2, if_pos h3, if_pos (Or.inr h3)]
def impl_FlashOk.f (l0 : List (S35)) : Option (Bool) := some (flashOkB l0)
set_option maxHeartbeats 8000000 in
set_option maxRecDepth 100000 in
theorem impl_FlashOk.calls (A0 : Option Addr) (c0 : Nat) (l0 : List (S35)) (r : Bool) (w : World) (hr0 : Kd.C k35 w A0 l0.length l0) (hc0 : l0.length ≤ c0) (h : impl_FlashOk.f l0 = some r) :
 Calls Try.prog 12 #[.slice A0 l0.length c0] w fun e w' => e = .returned (.bool r) ∧ Below w.heap.size w w' := by
 have hu35 := Try.underlying35
 have hu32 := Try.underlying32
 have hu30 := Try.underlying30
 obtain rfl : r = flashOkB l0 := (Option.some.inj h).symm
 clear h
 by_cases c : (l0.length : Int) = 4
 rotate_left
 · have cb : ((l0.length : Int) != 4) = true := by simp [c]
   go_enter Try.func12, Try.ntmps12
   go_wp2
   go_ret
   exact ⟨by simp [flashOkB, c], Below.refl _ _⟩
 have cb : ((l0.length : Int) != 4) = false := by simp [c]
 have HE : Aside0 (flashOkB l0 = blocksB l0 []) := ⟨by unfold flashOkB; rw [decide_eq_true c, Bool.true_and]⟩
 have C := am c
 clear c
 have hmm := @run_makeMap Try.prog
 go_enter Try.func12, Try.ntmps12
 go_wp2
 have HS := am (Go.Proofs.YtcanhdofmbekeaaW.SeenIs.made (P := Try.prog) (K := 3) (E := 3) w)
 have HB : Aside0 (Below w.heap.size w (w.alloc (.map #[] 0))) := ⟨below_alloc (Below.refl _ _) _⟩
 generalize hB : w.heap.size = B at HS
 have HBB := am hB
 clear hB
 generalize w.alloc (.map #[] 0) = w1 at HS HB ⊢
 go_loopg [14, 5, 7] (l0.length + 1) (fun kq v14 v5 v7 w' => ∃ (i : Nat) (S : List Int), v14 = .int .i64 (i : Int) ∧ Aside0 (kq + i = l0.length + 1) ∧ Aside0 (i ≤ l0.length) ∧ Aside0 (blocksB (l0.drop i) S = blocksB l0 []) ∧ Aside0 (S.length ≤ 4 * i) ∧ Aside0 (Go.Proofs.YtcanhdofmbekeaaW.SeenIs Try.prog 3 3 w' B S.length S) ∧ Aside0 (Below w.heap.size w w'))
 case atStart => exact ⟨0, [], rfl, ⟨rfl⟩, ⟨Nat.zero_le _⟩, ⟨by simp⟩, ⟨by simp⟩, HS, HB⟩
 case round =>
  clear HS HB
  obtain ⟨i, S, rfl, HK, HI, HP, HN, HS, HB⟩ := hrel
  obtain ⟨k1, rfl⟩ : ∃ k, gk = k + 1 := by
   have hsz : (l0.length : Int) = 4 := C.out
   have := HK.out
   have := HI.out
   exact ⟨gk - 1, by omega⟩
  have hsz : (l0.length : Int) = 4 := C.out
  have hw14 : wrap64 ((i : Int) + 1) = ((i + 1 : Nat) : Int) := by have := HI.out; rw [IntWalk.wrap64_in _ (by omega)]; omega
  by_cases ci : i < l0.length
  rotate_left
  · have cib : decide ((i : Int) < (l0.length : Int)) = false := decide_eq_false (by omega)
    have HP2 := HP.out
    rw [List.drop_eq_nil_of_le (by omega), blocksB] at HP2
    have HF : Aside0 (flashOkB l0 = true) := ⟨by rw [HE.out]; exact HP2.symm⟩
    have ci2 : ¬ ((i : Int) < (l0.length : Int)) := by omega
    clear hsz HP2
    go_wp2
    go_ret
    exact ⟨by rw [HF.out]; rfl, HB.out⟩
  have cib : decide ((i : Int) < (l0.length : Int)) = true := decide_eq_true (by omega)
  have p1 : 0 ≤ (i : Int) := by omega
  have q1 : (i : Int) < (l0.length : Int) := by omega
  obtain ⟨ad1, A1, c1, e1, hx1_0, hx1_1, hl1, hi1⟩ := at_T35 hr0 (i : Int) p1 q1
  cases e1
  have hlm1 : (rd_T35 l0 (i : Int)).f0.length ≤ maxLen := Kd.C_max hi1
  replace hx1_0 := up HB.out hx1_0
  replace hx1_1 := up HB.out hx1_1
  simp only [Int.toNat_natCast] at hx1_0 hx1_1
  obtain ⟨kb, hkb⟩ := blockShape_ok (rd_T35 l0 (i : Int)) hlm1
  replace hkb := am hkb
  have HP2 := HP.out
  rw [drop_T35 ci, blocksB] at HP2
  cases hbb : blockB (rd_T35 l0 (i : Int)) with
  | false =>
   rw [hbb] at hkb
   rw [hbb, Bool.false_and] at HP2
   have HF : Aside0 (flashOkB l0 = false) := ⟨by rw [HE.out]; exact HP2.symm⟩
   replace hi1 := am hi1
   replace p1 := eq_true p1
   replace q1 := eq_true q1
   clear hsz ci HP2 hbb
   go_wp2_with (first | (refine bx 5 #[.slice none 0 0, .int .i64 0] 35 rfl ?_; intro g1 hg w6 hbox hb; have n0_ := am (below_step HB.out hb); have n1_ := am hbox; have GE1 := am ((by rw [hg]; exact below_size HB.out) : w.heap.size ≤ g1); have NE1 := am ((by rw [hg]; exact Nat.ne_of_lt HS.out.lt) : B ≠ g1); have n2_ := am (HS.out.below hb); clear HB HS; have HB := n0_; have BK1 := n1_; have HS := n2_; clear n0_ n1_ n2_; obtain ⟨hczg1_0, hczg1_1⟩ := b2 hbox; obtain ⟨hfzg1_0, hfzg1_1⟩ := f2 hbox; clear hb hbox hg) | ((with_reducible refine gate_callee (f := 21) rfl ?_); refine goesL_ (some 19) rfl rfl Try.func21 (by kernel_rfl) rfl #[.agg #[.slice A1 (rd_T35 l0 (i : Int)).f0.length c1, .int .i64 (rd_T35 l0 (i : Int)).f1]] rfl (by (try simp only [List.map_toArray, List.map_cons, List.map_nil]); first | done | rfl) ?_; (with_reducible refine (impl_blockShape.calls kb _ _ _ _ _ _ ?side1 ?side2 hkb.out).mono ?_); (case side1 => exact Kd.C_below hi1.out (bg1 HB.out GE1.out)); (case side2 => exact hl1); rintro e w2 ⟨rfl, hb⟩; refine ⟨_, rfl, ?_⟩; have n0_ := am (below_step (bg1 HB.out GE1.out) hb); have n1_ := am (blk_below (blk_put (cs := #[.slice A1 (rd_T35 l0 (i : Int)).f0.length c1, .int .i64 0]) (blk_put (cs := #[.slice none 0 0, .int .i64 0]) BK1.out 0 _ rfl) 1 _ rfl) hb); have n2_ := am (((HS.out.far (p := ⟨g1, 0, none⟩) NE1.out _).far (p := ⟨g1, 1, none⟩) NE1.out _).below hb); clear HB BK1 HS; have HB := n0_; have BK1 := n1_; have HS := n2_; clear n0_ n1_ n2_; clear hb hczg1_0 hczg1_1 hfzg1_0 hfzg1_1; have hy1_0 := (blk_cell BK1.out 0).trans rfl; have hy1_1 := (blk_cell BK1.out 1).trans rfl))
   go_ret
   exact ⟨by rw [HF.out]; rfl, HB.out⟩
  | true =>
   rw [hbb] at hkb
   rw [hbb, Bool.true_and] at HP2
   replace HP2 := am HP2
   have hbl : (rd_T35 l0 (i : Int)).f0.length = 4 := by
    unfold blockB at hbb
    simp only [Bool.and_eq_true, decide_eq_true_eq] at hbb
    omega
   replace hbl := am hbl
   replace hi1 := am hi1
   replace p1 := eq_true p1
   replace q1 := eq_true q1
   have CI := am ci
   clear hsz ci hbb
   go_wp2_with (first | (refine bx 5 #[.slice none 0 0, .int .i64 0] 35 rfl ?_; intro g1 hg w6 hbox hb; have n0_ := am (below_step HB.out hb); have n1_ := am hbox; have GE1 := am ((by rw [hg]; exact below_size HB.out) : w.heap.size ≤ g1); have NE1 := am ((by rw [hg]; exact Nat.ne_of_lt HS.out.lt) : B ≠ g1); have n2_ := am (HS.out.below hb); clear HB HS; have HB := n0_; have BK1 := n1_; have HS := n2_; clear n0_ n1_ n2_; obtain ⟨hczg1_0, hczg1_1⟩ := b2 hbox; obtain ⟨hfzg1_0, hfzg1_1⟩ := f2 hbox; clear hb hbox hg) | ((with_reducible refine gate_callee (f := 21) rfl ?_); refine goesL_ (some 19) rfl rfl Try.func21 (by kernel_rfl) rfl #[.agg #[.slice A1 (rd_T35 l0 (i : Int)).f0.length c1, .int .i64 (rd_T35 l0 (i : Int)).f1]] rfl (by (try simp only [List.map_toArray, List.map_cons, List.map_nil]); first | done | rfl) ?_; (with_reducible refine (impl_blockShape.calls kb _ _ _ _ _ _ ?side1 ?side2 hkb.out).mono ?_); (case side1 => exact Kd.C_below hi1.out (bg1 HB.out GE1.out)); (case side2 => exact hl1); rintro e w2 ⟨rfl, hb⟩; refine ⟨_, rfl, ?_⟩; have n0_ := am (below_step (bg1 HB.out GE1.out) hb); have n1_ := am (blk_below (blk_put (cs := #[.slice A1 (rd_T35 l0 (i : Int)).f0.length c1, .int .i64 0]) (blk_put (cs := #[.slice none 0 0, .int .i64 0]) BK1.out 0 _ rfl) 1 _ rfl) hb); have n2_ := am (((HS.out.far (p := ⟨g1, 0, none⟩) NE1.out _).far (p := ⟨g1, 1, none⟩) NE1.out _).below hb); clear HB BK1 HS; have HB := n0_; have BK1 := n1_; have HS := n2_; clear n0_ n1_ n2_; clear hb hczg1_0 hczg1_1 hfzg1_0 hfzg1_1; have hy1_0 := (blk_cell BK1.out 0).trans rfl; have hy1_1 := (blk_cell BK1.out 1).trans rfl))
   have NB1 : Aside0 (some g1 ≠ some B) := ⟨fun e => NE1.out (by injection e with e; exact e.symm)⟩
   go_loopg [24, 7] ((rd_T35 l0 (i : Int)).f0.length + 1) (fun kq v24 v7 w' => ∃ (j : Nat) (S2 : List Int), v24 = .int .i64 (j : Int) ∧ Aside0 (kq + j = (rd_T35 l0 (i : Int)).f0.length + 1) ∧ Aside0 (j ≤ (rd_T35 l0 (i : Int)).f0.length) ∧ Aside0 (pagesB ((rd_T35 l0 (i : Int)).f0.drop j) S2 = pagesB (rd_T35 l0 (i : Int)).f0 S) ∧ Aside0 (S2.length ≤ 4 * i + j) ∧ Aside0 (Go.Proofs.YtcanhdofmbekeaaW.SeenIs Try.prog 3 3 w' B S2.length S2) ∧ Aside0 (w'.heap[g1]? = some (.cells #[.slice A1 (rd_T35 l0 (i : Int)).f0.length c1, .int .i64 (rd_T35 l0 (i : Int)).f1] 35 (0, 0))) ∧ Aside0 (Below w.heap.size w w'))
   case atStart => exact ⟨0, S, rfl, ⟨rfl⟩, ⟨Nat.zero_le _⟩, ⟨by simp⟩, ⟨by have := HN.out; omega⟩, HS, BK1, HB⟩
   case round =>
    clear HS HB BK1 hy1_0 hy1_1
    obtain ⟨j, S2, rfl, HK2, HJ, HQ, HM, HS, BK1, HB⟩ := hrel
    have hbl' := hbl.out
    have hii : i < l0.length := CI.out
    have hsz : (l0.length : Int) = 4 := C.out
    obtain ⟨k2, rfl⟩ : ∃ k, gk = k + 1 := by
     have := HK2.out
     have := HJ.out
     exact ⟨gk - 1, by omega⟩
    by_cases cj : j < (rd_T35 l0 (i : Int)).f0.length
    rotate_left
    · have cjb : decide ((j : Int) < ((rd_T35 l0 (i : Int)).f0.length : Int)) = false := decide_eq_false (by omega)
      have HQ2 := HQ.out
      rw [List.drop_eq_nil_of_le (by omega), pagesB] at HQ2
      have HP3 := HP2.out
      rw [← HQ2] at HP3
      have HP4 := am HP3
      have hjl : j = (rd_T35 l0 (i : Int)).f0.length := by have := HJ.out; omega
      have HN2 : Aside0 (S2.length ≤ 4 * (i + 1)) := ⟨by have := HM.out; omega⟩
      have cj2 : ¬ ((j : Int) < ((rd_T35 l0 (i : Int)).f0.length : Int)) := by omega
      clear hsz hii hbl' HQ2 HP3 hjl
      go_wp2
      go_roundg k1
      case measure => omega
      case rel => exact ⟨i + 1, S2, by first | rfl | (simp; done) | (simp [*]; done), ⟨by have := HK.out; omega⟩, ⟨CI.out⟩, HP4, HN2, HS, HB⟩
    have cjb : decide ((j : Int) < ((rd_T35 l0 (i : Int)).f0.length : Int)) = true := decide_eq_true (by omega)
    have p2 : 0 ≤ (j : Int) := by omega
    have q2 : (j : Int) < ((rd_T35 l0 (i : Int)).f0.length : Int) := by omega
    obtain ⟨ad2, e2, hx2_0, hx2_1, hx2_2, hx2_3, hx2_4⟩ := at_T32 hi1.out (j : Int) p2 q2
    cases e2
    replace hx2_0 := up HB.out hx2_0
    replace hx2_1 := up HB.out hx2_1
    replace hx2_2 := up HB.out hx2_2
    replace hx2_3 := up HB.out hx2_3
    replace hx2_4 := up HB.out hx2_4
    simp only [Int.toNat_natCast] at hx2_0 hx2_1 hx2_2 hx2_3 hx2_4
    have hkp := am (pageShape_ok (rd_T32 (rd_T35 l0 (i : Int)).f0 (j : Int)))
    have HQ2 := HQ.out
    rw [drop_T32 cj, pagesB] at HQ2
    have hw24 : wrap64 ((j : Int) + 1) = ((j + 1 : Nat) : Int) := by rw [IntWalk.wrap64_in _ (by omega)]; omega
    have hnm : Aside0 (S2.length < maxLen) := ⟨by have := HM.out; simp only [maxLen]; omega⟩
    replace p2 := eq_true p2
    replace q2 := eq_true q2
    have CJ := am cj
    clear hsz hii hbl' cj
    cases hpb : pageB (rd_T32 (rd_T35 l0 (i : Int)).f0 (j : Int)) with
    | false =>
     rw [hpb] at hkp
     rw [hpb, if_neg (by simp)] at HQ2
     have HF : Aside0 (flashOkB l0 = false) := ⟨by rw [HE.out, ← HP2.out, ← HQ2]⟩
     clear HQ2 hpb
     go_wp2_with (first | (refine bx 7 #[.int .i64 0, .int .i64 0, .int .i64 0, .int .i64 0, .int .i64 0] 32 rfl ?_; intro g2 hg w7 hbox hb; have n0_ := am (below_step HB.out hb); have n1_ := am hbox; have GE2 := am ((by rw [hg]; exact below_size HB.out) : w.heap.size ≤ g2); have NE2 := am ((by rw [hg]; exact Nat.ne_of_lt HS.out.lt) : B ≠ g2); have NG2 := am ((by rw [hg]; exact Nat.ne_of_lt (blk_lt BK1.out)) : g1 ≠ g2); have n2_ := am (HS.out.below hb); have n3_ := am (blk_below BK1.out hb); clear HB HS BK1; have HB := n0_; have BK2 := n1_; have HS := n2_; have BK1 := n3_; clear n0_ n1_ n2_ n3_; have hnz2_0 := NG2.out; obtain ⟨hczg2_0, hczg2_1, hczg2_2, hczg2_3, hczg2_4⟩ := b5 hbox; obtain ⟨hfzg2_0, hfzg2_1, hfzg2_2, hfzg2_3, hfzg2_4⟩ := f5 hbox; clear hb hbox hg) | ((with_reducible refine gate_callee (f := 22) rfl ?_); refine goesL_ (some 29) rfl rfl Try.func22 (by kernel_rfl) rfl #[.agg #[.int .i64 (rd_T32 (rd_T35 l0 (i : Int)).f0 (j : Int)).f0, .int .i64 (rd_T32 (rd_T35 l0 (i : Int)).f0 (j : Int)).f1.f0, .int .i64 (rd_T32 (rd_T35 l0 (i : Int)).f0 (j : Int)).f1.f1, .int .i64 (rd_T32 (rd_T35 l0 (i : Int)).f0 (j : Int)).f1.f2, .int .i64 (rd_T32 (rd_T35 l0 (i : Int)).f0 (j : Int)).f1.f3]] rfl (by (try simp only [List.map_toArray, List.map_cons, List.map_nil]); first | done | rfl) ?_; (with_reducible refine (impl_pageShape.calls _ _ _ _ _ _ _ hkp.out).mono ?_); rintro e w3 ⟨rfl, hb⟩; refine ⟨_, rfl, ?_⟩; have n0_ := am (below_step (bg2 HB.out GE1.out GE2.out) hb); have n1_ := am (blk_below (blk_put (cs := #[.int .i64 (rd_T32 (rd_T35 l0 (i : Int)).f0 (j : Int)).f0, .int .i64 (rd_T32 (rd_T35 l0 (i : Int)).f0 (j : Int)).f1.f0, .int .i64 (rd_T32 (rd_T35 l0 (i : Int)).f0 (j : Int)).f1.f1, .int .i64 (rd_T32 (rd_T35 l0 (i : Int)).f0 (j : Int)).f1.f2, .int .i64 0]) (blk_put (cs := #[.int .i64 (rd_T32 (rd_T35 l0 (i : Int)).f0 (j : Int)).f0, .int .i64 (rd_T32 (rd_T35 l0 (i : Int)).f0 (j : Int)).f1.f0, .int .i64 (rd_T32 (rd_T35 l0 (i : Int)).f0 (j : Int)).f1.f1, .int .i64 0, .int .i64 0]) (blk_put (cs := #[.int .i64 (rd_T32 (rd_T35 l0 (i : Int)).f0 (j : Int)).f0, .int .i64 (rd_T32 (rd_T35 l0 (i : Int)).f0 (j : Int)).f1.f0, .int .i64 0, .int .i64 0, .int .i64 0]) (blk_put (cs := #[.int .i64 (rd_T32 (rd_T35 l0 (i : Int)).f0 (j : Int)).f0, .int .i64 0, .int .i64 0, .int .i64 0, .int .i64 0]) (blk_put (cs := #[.int .i64 0, .int .i64 0, .int .i64 0, .int .i64 0, .int .i64 0]) BK2.out 0 _ rfl) 1 _ rfl) 2 _ rfl) 3 _ rfl) 4 _ rfl) hb); have n2_ := am ((((((HS.out.far (p := ⟨g2, 0, none⟩) NE2.out _).far (p := ⟨g2, 1, none⟩) NE2.out _).far (p := ⟨g2, 2, none⟩) NE2.out _).far (p := ⟨g2, 3, none⟩) NE2.out _).far (p := ⟨g2, 4, none⟩) NE2.out _).below hb); have n3_ := am (blk_below (blk_far (blk_far (blk_far (blk_far (blk_far BK1.out (p := ⟨g2, 0, none⟩) NG2.out _) (p := ⟨g2, 1, none⟩) NG2.out _) (p := ⟨g2, 2, none⟩) NG2.out _) (p := ⟨g2, 3, none⟩) NG2.out _) (p := ⟨g2, 4, none⟩) NG2.out _) hb); clear HB BK1 BK2 HS; have HB := n0_; have BK2 := n1_; have HS := n2_; have BK1 := n3_; clear n0_ n1_ n2_ n3_; clear hb hczg2_0 hfzg2_0 hczg2_1 hfzg2_1 hczg2_2 hfzg2_2 hczg2_3 hfzg2_3 hczg2_4 hfzg2_4; have hy2_0 := (blk_cell BK2.out 0).trans rfl; have hy2_1 := (blk_cell BK2.out 1).trans rfl; have hy2_2 := (blk_cell BK2.out 2).trans rfl; have hy2_3 := (blk_cell BK2.out 3).trans rfl; have hy2_4 := (blk_cell BK2.out 4).trans rfl))
     go_ret
     exact ⟨by rw [HF.out]; rfl, HB.out⟩
    | true =>
     rw [hpb] at hkp
     rw [hpb, if_pos rfl] at HQ2
     by_cases cs : (rd_T32 (rd_T35 l0 (i : Int)).f0 (j : Int)).f0 = 1
     rotate_left
     · have cs0 : ((rd_T32 (rd_T35 l0 (i : Int)).f0 (j : Int)).f0 == 1) = false := beq_eq_false_iff_ne.mpr cs
       have cs1 : ((rd_T32 (rd_T35 l0 (i : Int)).f0 (j : Int)).f0 != 1) = true := bne_iff_ne.mpr cs
       rw [if_neg cs] at HQ2
       have HQ3 := am HQ2
       clear HQ2 hpb cs
       go_wp2_with (first | (refine bx 7 #[.int .i64 0, .int .i64 0, .int .i64 0, .int .i64 0, .int .i64 0] 32 rfl ?_; intro g2 hg w7 hbox hb; have n0_ := am (below_step HB.out hb); have n1_ := am hbox; have GE2 := am ((by rw [hg]; exact below_size HB.out) : w.heap.size ≤ g2); have NE2 := am ((by rw [hg]; exact Nat.ne_of_lt HS.out.lt) : B ≠ g2); have NG2 := am ((by rw [hg]; exact Nat.ne_of_lt (blk_lt BK1.out)) : g1 ≠ g2); have n2_ := am (HS.out.below hb); have n3_ := am (blk_below BK1.out hb); clear HB HS BK1; have HB := n0_; have BK2 := n1_; have HS := n2_; have BK1 := n3_; clear n0_ n1_ n2_ n3_; have hnz2_0 := NG2.out; obtain ⟨hczg2_0, hczg2_1, hczg2_2, hczg2_3, hczg2_4⟩ := b5 hbox; obtain ⟨hfzg2_0, hfzg2_1, hfzg2_2, hfzg2_3, hfzg2_4⟩ := f5 hbox; clear hb hbox hg) | ((with_reducible refine gate_callee (f := 22) rfl ?_); refine goesL_ (some 29) rfl rfl Try.func22 (by kernel_rfl) rfl #[.agg #[.int .i64 (rd_T32 (rd_T35 l0 (i : Int)).f0 (j : Int)).f0, .int .i64 (rd_T32 (rd_T35 l0 (i : Int)).f0 (j : Int)).f1.f0, .int .i64 (rd_T32 (rd_T35 l0 (i : Int)).f0 (j : Int)).f1.f1, .int .i64 (rd_T32 (rd_T35 l0 (i : Int)).f0 (j : Int)).f1.f2, .int .i64 (rd_T32 (rd_T35 l0 (i : Int)).f0 (j : Int)).f1.f3]] rfl (by (try simp only [List.map_toArray, List.map_cons, List.map_nil]); first | done | rfl) ?_; (with_reducible refine (impl_pageShape.calls _ _ _ _ _ _ _ hkp.out).mono ?_); rintro e w3 ⟨rfl, hb⟩; refine ⟨_, rfl, ?_⟩; have n0_ := am (below_step (bg2 HB.out GE1.out GE2.out) hb); have n1_ := am (blk_below (blk_put (cs := #[.int .i64 (rd_T32 (rd_T35 l0 (i : Int)).f0 (j : Int)).f0, .int .i64 (rd_T32 (rd_T35 l0 (i : Int)).f0 (j : Int)).f1.f0, .int .i64 (rd_T32 (rd_T35 l0 (i : Int)).f0 (j : Int)).f1.f1, .int .i64 (rd_T32 (rd_T35 l0 (i : Int)).f0 (j : Int)).f1.f2, .int .i64 0]) (blk_put (cs := #[.int .i64 (rd_T32 (rd_T35 l0 (i : Int)).f0 (j : Int)).f0, .int .i64 (rd_T32 (rd_T35 l0 (i : Int)).f0 (j : Int)).f1.f0, .int .i64 (rd_T32 (rd_T35 l0 (i : Int)).f0 (j : Int)).f1.f1, .int .i64 0, .int .i64 0]) (blk_put (cs := #[.int .i64 (rd_T32 (rd_T35 l0 (i : Int)).f0 (j : Int)).f0, .int .i64 (rd_T32 (rd_T35 l0 (i : Int)).f0 (j : Int)).f1.f0, .int .i64 0, .int .i64 0, .int .i64 0]) (blk_put (cs := #[.int .i64 (rd_T32 (rd_T35 l0 (i : Int)).f0 (j : Int)).f0, .int .i64 0, .int .i64 0, .int .i64 0, .int .i64 0]) (blk_put (cs := #[.int .i64 0, .int .i64 0, .int .i64 0, .int .i64 0, .int .i64 0]) BK2.out 0 _ rfl) 1 _ rfl) 2 _ rfl) 3 _ rfl) 4 _ rfl) hb); have n2_ := am ((((((HS.out.far (p := ⟨g2, 0, none⟩) NE2.out _).far (p := ⟨g2, 1, none⟩) NE2.out _).far (p := ⟨g2, 2, none⟩) NE2.out _).far (p := ⟨g2, 3, none⟩) NE2.out _).far (p := ⟨g2, 4, none⟩) NE2.out _).below hb); have n3_ := am (blk_below (blk_far (blk_far (blk_far (blk_far (blk_far BK1.out (p := ⟨g2, 0, none⟩) NG2.out _) (p := ⟨g2, 1, none⟩) NG2.out _) (p := ⟨g2, 2, none⟩) NG2.out _) (p := ⟨g2, 3, none⟩) NG2.out _) (p := ⟨g2, 4, none⟩) NG2.out _) hb); clear HB BK1 BK2 HS; have HB := n0_; have BK2 := n1_; have HS := n2_; have BK1 := n3_; clear n0_ n1_ n2_ n3_; clear hb hczg2_0 hfzg2_0 hczg2_1 hfzg2_1 hczg2_2 hfzg2_2 hczg2_3 hfzg2_3 hczg2_4 hfzg2_4; have hy2_0 := (blk_cell BK2.out 0).trans rfl; have hy2_1 := (blk_cell BK2.out 1).trans rfl; have hy2_2 := (blk_cell BK2.out 2).trans rfl; have hy2_3 := (blk_cell BK2.out 3).trans rfl; have hy2_4 := (blk_cell BK2.out 4).trans rfl))
       go_roundg k2
       case measure => omega
       case rel => exact ⟨j + 1, S2, by first | rfl | (simp; done) | (simp [*]; done), ⟨by have := HK2.out; omega⟩, ⟨CJ.out⟩, HQ3, ⟨by have := HM.out; omega⟩, HS, BK1, HB⟩
     have cs0 : ((rd_T32 (rd_T35 l0 (i : Int)).f0 (j : Int)).f0 == 1) = true := beq_iff_eq.mpr cs
     have cs1 : ((rd_T32 (rd_T35 l0 (i : Int)).f0 (j : Int)).f0 != 1) = false := bne_eq_false_iff_eq.mpr cs
     have hwf : Aside0 ((Lit.int .i64 (rd_T32 (rd_T35 l0 (i : Int)).f0 (j : Int)).f1.f1).wf = true) := ⟨by
      unfold pageB at hpb
      rw [if_pos cs] at hpb
      simp only [recOkB, decide_eq_true_eq] at hpb
      exact WalkArith.wf_i64 ⟨by omega, by omega⟩⟩
     rw [if_pos cs] at HQ2
     by_cases hm : (rd_T32 (rd_T35 l0 (i : Int)).f0 (j : Int)).f1.f1 ∈ S2
     · rw [if_pos hm] at HQ2
       have HF : Aside0 (flashOkB l0 = false) := ⟨by rw [HE.out, ← HP2.out, ← HQ2]⟩
       have HM2 := am hm
       clear HQ2 hpb cs hm
       go_wp2_with (first | (refine bx 7 #[.int .i64 0, .int .i64 0, .int .i64 0, .int .i64 0, .int .i64 0] 32 rfl ?_; intro g2 hg w7 hbox hb; have n0_ := am (below_step HB.out hb); have n1_ := am hbox; have GE2 := am ((by rw [hg]; exact below_size HB.out) : w.heap.size ≤ g2); have NE2 := am ((by rw [hg]; exact Nat.ne_of_lt HS.out.lt) : B ≠ g2); have NG2 := am ((by rw [hg]; exact Nat.ne_of_lt (blk_lt BK1.out)) : g1 ≠ g2); have n2_ := am (HS.out.below hb); have n3_ := am (blk_below BK1.out hb); clear HB HS BK1; have HB := n0_; have BK2 := n1_; have HS := n2_; have BK1 := n3_; clear n0_ n1_ n2_ n3_; have hnz2_0 := NG2.out; obtain ⟨hczg2_0, hczg2_1, hczg2_2, hczg2_3, hczg2_4⟩ := b5 hbox; obtain ⟨hfzg2_0, hfzg2_1, hfzg2_2, hfzg2_3, hfzg2_4⟩ := f5 hbox; clear hb hbox hg) | ((with_reducible refine gate_callee (f := 22) rfl ?_); refine goesL_ (some 29) rfl rfl Try.func22 (by kernel_rfl) rfl #[.agg #[.int .i64 (rd_T32 (rd_T35 l0 (i : Int)).f0 (j : Int)).f0, .int .i64 (rd_T32 (rd_T35 l0 (i : Int)).f0 (j : Int)).f1.f0, .int .i64 (rd_T32 (rd_T35 l0 (i : Int)).f0 (j : Int)).f1.f1, .int .i64 (rd_T32 (rd_T35 l0 (i : Int)).f0 (j : Int)).f1.f2, .int .i64 (rd_T32 (rd_T35 l0 (i : Int)).f0 (j : Int)).f1.f3]] rfl (by (try simp only [List.map_toArray, List.map_cons, List.map_nil]); first | done | rfl) ?_; (with_reducible refine (impl_pageShape.calls _ _ _ _ _ _ _ hkp.out).mono ?_); rintro e w3 ⟨rfl, hb⟩; refine ⟨_, rfl, ?_⟩; have n0_ := am (below_step (bg2 HB.out GE1.out GE2.out) hb); have n1_ := am (blk_below (blk_put (cs := #[.int .i64 (rd_T32 (rd_T35 l0 (i : Int)).f0 (j : Int)).f0, .int .i64 (rd_T32 (rd_T35 l0 (i : Int)).f0 (j : Int)).f1.f0, .int .i64 (rd_T32 (rd_T35 l0 (i : Int)).f0 (j : Int)).f1.f1, .int .i64 (rd_T32 (rd_T35 l0 (i : Int)).f0 (j : Int)).f1.f2, .int .i64 0]) (blk_put (cs := #[.int .i64 (rd_T32 (rd_T35 l0 (i : Int)).f0 (j : Int)).f0, .int .i64 (rd_T32 (rd_T35 l0 (i : Int)).f0 (j : Int)).f1.f0, .int .i64 (rd_T32 (rd_T35 l0 (i : Int)).f0 (j : Int)).f1.f1, .int .i64 0, .int .i64 0]) (blk_put (cs := #[.int .i64 (rd_T32 (rd_T35 l0 (i : Int)).f0 (j : Int)).f0, .int .i64 (rd_T32 (rd_T35 l0 (i : Int)).f0 (j : Int)).f1.f0, .int .i64 0, .int .i64 0, .int .i64 0]) (blk_put (cs := #[.int .i64 (rd_T32 (rd_T35 l0 (i : Int)).f0 (j : Int)).f0, .int .i64 0, .int .i64 0, .int .i64 0, .int .i64 0]) (blk_put (cs := #[.int .i64 0, .int .i64 0, .int .i64 0, .int .i64 0, .int .i64 0]) BK2.out 0 _ rfl) 1 _ rfl) 2 _ rfl) 3 _ rfl) 4 _ rfl) hb); have n2_ := am ((((((HS.out.far (p := ⟨g2, 0, none⟩) NE2.out _).far (p := ⟨g2, 1, none⟩) NE2.out _).far (p := ⟨g2, 2, none⟩) NE2.out _).far (p := ⟨g2, 3, none⟩) NE2.out _).far (p := ⟨g2, 4, none⟩) NE2.out _).below hb); have n3_ := am (blk_below (blk_far (blk_far (blk_far (blk_far (blk_far BK1.out (p := ⟨g2, 0, none⟩) NG2.out _) (p := ⟨g2, 1, none⟩) NG2.out _) (p := ⟨g2, 2, none⟩) NG2.out _) (p := ⟨g2, 3, none⟩) NG2.out _) (p := ⟨g2, 4, none⟩) NG2.out _) hb); clear HB BK1 BK2 HS; have HB := n0_; have BK2 := n1_; have HS := n2_; have BK1 := n3_; clear n0_ n1_ n2_ n3_; clear hb hczg2_0 hfzg2_0 hczg2_1 hfzg2_1 hczg2_2 hfzg2_2 hczg2_3 hfzg2_3 hczg2_4 hfzg2_4; have hy2_0 := (blk_cell BK2.out 0).trans rfl; have hy2_1 := (blk_cell BK2.out 1).trans rfl; have hy2_2 := (blk_cell BK2.out 2).trans rfl; have hy2_3 := (blk_cell BK2.out 3).trans rfl; have hy2_4 := (blk_cell BK2.out 4).trans rfl) | (at_lookup; refine Go.Proofs.YtcanhdofmbekeaaW.wpList_seen_look _ rfl _ _ 61 rfl 3 3 Try.underlying3 Try.underlying3 Try.underlying61 (fun w => by go_simp) B _ S2 rfl HS.out (rd_T32 (rd_T35 l0 (i : Int)).f0 (j : Int)).f1.f1 rfl hwf.out ?_; rw [if_pos HM2.out]))
       go_ret
       exact ⟨by rw [HF.out]; rfl, HB.out⟩
     rw [if_neg hm] at HQ2
     have HM2 := am hm
     have HQ3 := am HQ2
     clear HQ2 hpb cs hm
     go_wp2_with (first | (refine bx 7 #[.int .i64 0, .int .i64 0, .int .i64 0, .int .i64 0, .int .i64 0] 32 rfl ?_; intro g2 hg w7 hbox hb; have n0_ := am (below_step HB.out hb); have n1_ := am hbox; have GE2 := am ((by rw [hg]; exact below_size HB.out) : w.heap.size ≤ g2); have NE2 := am ((by rw [hg]; exact Nat.ne_of_lt HS.out.lt) : B ≠ g2); have NG2 := am ((by rw [hg]; exact Nat.ne_of_lt (blk_lt BK1.out)) : g1 ≠ g2); have n2_ := am (HS.out.below hb); have n3_ := am (blk_below BK1.out hb); clear HB HS BK1; have HB := n0_; have BK2 := n1_; have HS := n2_; have BK1 := n3_; clear n0_ n1_ n2_ n3_; have hnz2_0 := NG2.out; obtain ⟨hczg2_0, hczg2_1, hczg2_2, hczg2_3, hczg2_4⟩ := b5 hbox; obtain ⟨hfzg2_0, hfzg2_1, hfzg2_2, hfzg2_3, hfzg2_4⟩ := f5 hbox; clear hb hbox hg) | ((with_reducible refine gate_callee (f := 22) rfl ?_); refine goesL_ (some 29) rfl rfl Try.func22 (by kernel_rfl) rfl #[.agg #[.int .i64 (rd_T32 (rd_T35 l0 (i : Int)).f0 (j : Int)).f0, .int .i64 (rd_T32 (rd_T35 l0 (i : Int)).f0 (j : Int)).f1.f0, .int .i64 (rd_T32 (rd_T35 l0 (i : Int)).f0 (j : Int)).f1.f1, .int .i64 (rd_T32 (rd_T35 l0 (i : Int)).f0 (j : Int)).f1.f2, .int .i64 (rd_T32 (rd_T35 l0 (i : Int)).f0 (j : Int)).f1.f3]] rfl (by (try simp only [List.map_toArray, List.map_cons, List.map_nil]); first | done | rfl) ?_; (with_reducible refine (impl_pageShape.calls _ _ _ _ _ _ _ hkp.out).mono ?_); rintro e w3 ⟨rfl, hb⟩; refine ⟨_, rfl, ?_⟩; have n0_ := am (below_step (bg2 HB.out GE1.out GE2.out) hb); have n1_ := am (blk_below (blk_put (cs := #[.int .i64 (rd_T32 (rd_T35 l0 (i : Int)).f0 (j : Int)).f0, .int .i64 (rd_T32 (rd_T35 l0 (i : Int)).f0 (j : Int)).f1.f0, .int .i64 (rd_T32 (rd_T35 l0 (i : Int)).f0 (j : Int)).f1.f1, .int .i64 (rd_T32 (rd_T35 l0 (i : Int)).f0 (j : Int)).f1.f2, .int .i64 0]) (blk_put (cs := #[.int .i64 (rd_T32 (rd_T35 l0 (i : Int)).f0 (j : Int)).f0, .int .i64 (rd_T32 (rd_T35 l0 (i : Int)).f0 (j : Int)).f1.f0, .int .i64 (rd_T32 (rd_T35 l0 (i : Int)).f0 (j : Int)).f1.f1, .int .i64 0, .int .i64 0]) (blk_put (cs := #[.int .i64 (rd_T32 (rd_T35 l0 (i : Int)).f0 (j : Int)).f0, .int .i64 (rd_T32 (rd_T35 l0 (i : Int)).f0 (j : Int)).f1.f0, .int .i64 0, .int .i64 0, .int .i64 0]) (blk_put (cs := #[.int .i64 (rd_T32 (rd_T35 l0 (i : Int)).f0 (j : Int)).f0, .int .i64 0, .int .i64 0, .int .i64 0, .int .i64 0]) (blk_put (cs := #[.int .i64 0, .int .i64 0, .int .i64 0, .int .i64 0, .int .i64 0]) BK2.out 0 _ rfl) 1 _ rfl) 2 _ rfl) 3 _ rfl) 4 _ rfl) hb); have n2_ := am ((((((HS.out.far (p := ⟨g2, 0, none⟩) NE2.out _).far (p := ⟨g2, 1, none⟩) NE2.out _).far (p := ⟨g2, 2, none⟩) NE2.out _).far (p := ⟨g2, 3, none⟩) NE2.out _).far (p := ⟨g2, 4, none⟩) NE2.out _).below hb); have n3_ := am (blk_below (blk_far (blk_far (blk_far (blk_far (blk_far BK1.out (p := ⟨g2, 0, none⟩) NG2.out _) (p := ⟨g2, 1, none⟩) NG2.out _) (p := ⟨g2, 2, none⟩) NG2.out _) (p := ⟨g2, 3, none⟩) NG2.out _) (p := ⟨g2, 4, none⟩) NG2.out _) hb); clear HB BK1 BK2 HS; have HB := n0_; have BK2 := n1_; have HS := n2_; have BK1 := n3_; clear n0_ n1_ n2_ n3_; clear hb hczg2_0 hfzg2_0 hczg2_1 hfzg2_1 hczg2_2 hfzg2_2 hczg2_3 hfzg2_3 hczg2_4 hfzg2_4; have hy2_0 := (blk_cell BK2.out 0).trans rfl; have hy2_1 := (blk_cell BK2.out 1).trans rfl; have hy2_2 := (blk_cell BK2.out 2).trans rfl; have hy2_3 := (blk_cell BK2.out 3).trans rfl; have hy2_4 := (blk_cell BK2.out 4).trans rfl) | (at_lookup; refine Go.Proofs.YtcanhdofmbekeaaW.wpList_seen_look _ rfl _ _ 61 rfl 3 3 Try.underlying3 Try.underlying3 Try.underlying61 (fun w => by go_simp) B _ S2 rfl HS.out (rd_T32 (rd_T35 l0 (i : Int)).f0 (j : Int)).f1.f1 rfl hwf.out ?_; rw [if_neg HM2.out]) | (at_mapUpdate; refine Go.Proofs.YtcanhdofmbekeaaW.wpList_seen_add _ rfl _ _ _ 61 rfl 3 3 Try.underlying3 Try.underlying3 Try.underlying61 B _ S2 rfl HS.out hnm.out (rd_T32 (rd_T35 l0 (i : Int)).f0 (j : Int)).f1.f1 rfl rfl hwf.out ?_; intro w4 hs4 hg4; have n0_ := am (pw_below_grown HB.out (some B) (below_size HB.out) hg4 (fun k e => by cases e; exact Nat.le_of_eq HBB.out)); have n1_ := am (blk_grown BK1.out hg4 NB1.out); clear HB BK1 HS; have HB := n0_; have BK1 := n1_; have HS := am hs4; clear n0_ n1_ hs4 hg4))
     go_roundg k2
     case measure => omega
     case rel => exact ⟨j + 1, _ :: S2, by first | rfl | (simp; done) | (simp [*]; done), ⟨by have := HK2.out; omega⟩, ⟨CJ.out⟩, HQ3, ⟨by have := HM.out; simp only [List.length_cons]; omega⟩, HS, BK1, HB⟩
attribute [local go_sem] Oper.semAt_some
abbrev Spot := Nat × Nat × S32
def spotsB (i : Nat) : Nat → List S32 → List Spot
 | _, [] => []
 | j, p :: ps => (i, j, p) :: spotsB i (j + 1) ps
def spotsF : Nat → List S35 → List Spot
 | _, [] => []
 | i, b :: bs => spotsB i 0 b.f0 ++ spotsF (i + 1) bs
def pagesL (l : List S35) : List S32 := (spotsF 0 l).map (·.2.2)
abbrev spotArgs (x : Spot) : Array Value := #[.agg #[.int .i64 (x.1 : Int), .int .i64 (x.2.1 : Int)], .agg #[.int .i64 x.2.2.f0, .int .i64 x.2.2.f1.f0, .int .i64 x.2.2.f1.f1, .int .i64 x.2.2.f1.f2, .int .i64 x.2.2.f1.f3]]
theorem drop_pg {l : List S32} {i : Nat} (h : i < l.length) : l.drop i = rd_T32 l (i : Int) :: l.drop (i + 1) := by
 rw [List.drop_eq_getElem_cons h]
 simp [rd_T32, List.getD_eq_getElem?_getD, h]
theorem drop_bl {l : List S35} {i : Nat} (h : i < l.length) : l.drop i = rd_T35 l (i : Int) :: l.drop (i + 1) := by
 rw [List.drop_eq_getElem_cons h]
 simp [rd_T35, List.getD_eq_getElem?_getD, h]
set_option maxHeartbeats 1000000 in
theorem eachPage_in (F : Fence) (n : Nat) (hF : F.fn 18) (hro : F.round = none) (A : Option Addr) (len c : Nat) (w : World) :
 CallsIn F n Try.prog 18 #[.slice A len c] w fun e w' => e = .returned (.func (.func 25) #[] #[.pointer (some ⟨w.heap.size, 0, none⟩)]) ∧ w' = w.alloc (.cells #[.slice A len c] 23) := by
 refine callsIn_of_wp Try.func18 rfl hF ?_ hro
 simp only [Try.ntmps18, List.size_toArray, List.length_cons, List.length_nil, Nat.reduceAdd, Nat.reduceSub, Array.replicate_succ, Array.replicate_zero, List.push_toArray, List.append_toArray, List.nil_append, List.cons_append]
 gi_wp2
 go_ret
 exact ⟨rfl, rfl⟩
set_option maxRecDepth 100000 in
set_option maxHeartbeats 4000000 in
theorem eachPage1_in (F : Fence) (n : Nat) (hF : F.fn 25) (hro : F.round = none) (hn : 1 ≤ n) (T : Spot → Prop) (l Bf : Nat) (A0 : Option Addr) (c0 : Nat) (l0 : List S35) (w : World)
 (hr0 : Kd.C k35 w A0 l0.length l0) (hT : ∀ x ∈ spotsF 0 l0, T x) (J Jx : List {x : Spot // T x} → World → Prop) (W : World) (hJ : AbidesFrom W.heap.size J)
 (hY : ∀ pre x W1, J pre W1 → pre.length < (spotsF 0 l0).length → YieldAt F (n - 1) Try.prog l (spotArgs x.1) W1 fun e W' =>
  (e = .returned (.bool true) ∧ J (pre ++ [x]) W' ∧ Below w.heap.size W1 W') ∨ (e = .returned (.bool false) ∧ Jx (pre ++ [x]) W'))
 (hB : Below w.heap.size w W) (hBf : W.cell? ⟨Bf, 0, none⟩ = some (.slice A0 l0.length c0)) (h0 : J [] W) :
 CallsIn F n Try.prog 25 #[.func (.yield l) #[] #[], .pointer (some ⟨Bf, 0, none⟩)] W fun e W' => (∃ v, e = .returned v) ∧
  ((∃ ys, ys.map (·.1) = spotsF 0 l0 ∧ J ys W') ∨ (∃ pre, True ∧ Jx pre W')) := by
 have hJa : ∀ s A o, J s A → J s (A.alloc o) := fun s A o h => hJ s A _ none h (World.grownBy_alloc A o none) (by simp)
 have hBa : ∀ A o, Below w.heap.size w A → Below w.heap.size w (A.alloc o) := fun A o h => h.alloc h.size o
 have hlm := Kd.C_max hr0
 refine callsIn_of_wp Try.func25 rfl hF ?_ hro
 simp only [Try.ntmps25, List.size_toArray, List.length_cons, List.length_nil, Nat.reduceAdd, Nat.reduceSub, Array.replicate_succ, Array.replicate_zero, List.push_toArray, List.append_toArray, List.nil_append, List.cons_append]
 gi_wp2
 gi_loopw [9] (fun v9 wr => ∃ (i : Nat) (pre : List {x : Spot // T x}), v9 = .int .i64 (i : Int) ∧ i ≤ l0.length ∧ pre.map (·.1) ++ spotsF i (l0.drop i) = spotsF 0 l0 ∧ J pre wr ∧ Below w.heap.size w wr)
  (fun v9 _ => l0.length - (intOf v9).toNat)
 case atStart => exact ⟨0, [], rfl, Nat.zero_le _, rfl, h0, hB⟩
 case round =>
  obtain ⟨i, pre, rfl, hi, hp, hJs, hBs⟩ := hrel
  by_cases ci : i < l0.length
  rotate_left
  · obtain rfl : i = l0.length := by omega
    rw [List.drop_eq_nil_of_le (Nat.le_refl _), spotsF, List.append_nil] at hp
    gi_wp2
    go_end0
    exact ⟨⟨_, rfl⟩, .inl ⟨_, hp, hJs⟩⟩
  have cib : decide ((i : Int) < (l0.length : Int)) = true := decide_eq_true (by omega)
  have p1 : 0 ≤ (i : Int) := by omega
  have q1 : (i : Int) < (l0.length : Int) := by omega
  obtain ⟨ad1, A1, c1, e1, hx1_0, hx1_1, hl1, hi1⟩ := at_T35 hr0 (i : Int) p1 q1
  cases e1
  replace hx1_0 := (hBs.cell (World.block_lt_of_cell? w _ hx1_0)).trans hx1_0
  replace hx1_1 := (hBs.cell (World.block_lt_of_cell? w _ hx1_1)).trans hx1_1
  have hlm1 := Kd.C_max hi1
  simp only [Int.toNat_natCast] at hx1_0 hx1_1
  rw [drop_bl ci, spotsF] at hp
  generalize hbl : rd_T35 l0 (i : Int) = bl at hx1_0 hx1_1 hl1 hi1 hlm1 hp
  have hw9 : wrap64 ((i : Int) + 1) = ((i + 1 : Nat) : Int) := by rw [IntWalk.wrap64_in _ (by omega)]; omega
  gi_wp2
  gi_loopw [17] (fun v17 w2 => ∃ (j : Nat) (pre2 : List {x : Spot // T x}), v17 = .int .i64 (j : Int) ∧ j ≤ bl.f0.length ∧ pre2.map (·.1) ++ (spotsB i j (bl.f0.drop j) ++ spotsF (i + 1) (l0.drop (i + 1))) = spotsF 0 l0 ∧ J pre2 w2 ∧ Below w.heap.size w w2)
   (fun v17 _ => bl.f0.length - (intOf v17).toNat)
  case atStart => exact ⟨0, pre, rfl, Nat.zero_le _, hp, hJa _ _ _ hJs, hBa _ _ hBs⟩
  case round =>
   clear hx1_0 hx1_1 hJs hBs hp pre
   obtain ⟨j, pre2, rfl, hj, hp, hJs, hBs⟩ := hrel
   by_cases cj : j < bl.f0.length
   rotate_left
   · obtain rfl : j = bl.f0.length := by omega
     rw [List.drop_eq_nil_of_le (Nat.le_refl _), spotsB, List.nil_append] at hp
     gi_wp2
     go_roundw
     case rel => exact ⟨i + 1, pre2, by simp, by omega, hp, hJs, hBs⟩
     case measure => simp [intOf]; omega
   have cjb : decide ((j : Int) < (bl.f0.length : Int)) = true := decide_eq_true (by omega)
   have p2 : 0 ≤ (j : Int) := by omega
   have q2 : (j : Int) < (bl.f0.length : Int) := by omega
   obtain ⟨ad2, e2, hx2_0, hx2_1, hx2_2, hx2_3, hx2_4⟩ := at_T32 hi1 (j : Int) p2 q2
   cases e2
   replace hx2_0 := (hBs.cell (World.block_lt_of_cell? w _ hx2_0)).trans hx2_0
   replace hx2_1 := (hBs.cell (World.block_lt_of_cell? w _ hx2_1)).trans hx2_1
   replace hx2_2 := (hBs.cell (World.block_lt_of_cell? w _ hx2_2)).trans hx2_2
   replace hx2_3 := (hBs.cell (World.block_lt_of_cell? w _ hx2_3)).trans hx2_3
   replace hx2_4 := (hBs.cell (World.block_lt_of_cell? w _ hx2_4)).trans hx2_4
   simp only [Int.toNat_natCast] at hx2_0 hx2_1 hx2_2 hx2_3 hx2_4
   rw [drop_pg cj, spotsB] at hp
   generalize hpg : rd_T32 bl.f0 (j : Int) = pg at hx2_0 hx2_1 hx2_2 hx2_3 hx2_4 hp
   have hw17 : wrap64 ((j : Int) + 1) = ((j + 1 : Nat) : Int) := by rw [IntWalk.wrap64_in _ (by omega)]; omega
   have hTx : T (i, j, pg) := hT _ (by rw [← hp]; simp)
   have hlen : pre2.length < (spotsF 0 l0).length := by rw [← hp]; simp
   obtain ⟨fn, tmps, assign, body, hy, hR⟩ := hY pre2 ⟨(i, j, pg), hTx⟩ (wr.alloc (.cells #[.int .i64 pg.f0, .int .i64 pg.f1.f0, .int .i64 pg.f1.f1, .int .i64 pg.f1.f2, .int .i64 pg.f1.f3] 32)) (hJa _ _ _ hJs) hlen
   dsimp only [spotArgs] at hy
   gi_wp2
   refine hR.mono ?_
   rintro e W3 (⟨rfl, hJ3, hk3⟩ | ⟨rfl, hJx3⟩)
   · gi_wp2
     go_roundw
     case rel => exact ⟨j + 1, pre2 ++ [⟨(i, j, pg), hTx⟩], by simp, by omega, by rw [← hp]; simp, hJ3, (hBa _ _ hBs).trans hk3⟩
     case measure => simp [intOf]; omega
   · gi_wp2
     refine bodyPost_ret (results_none rfl _ _ _) rfl ?_
     exact ⟨⟨_, rfl⟩, .inr ⟨_, trivial, hJx3⟩⟩
theorem eachPage_stops (F : Fence) (n : Nat) (hF : F.fn 25) (hro : F.round = none) (hn : 1 ≤ n) (T : Spot → Prop) (Bf : Nat) (A0 : Option Addr) (c0 : Nat) (l0 : List S35) (w W0 : World)
 (hr0 : Kd.C k35 w A0 l0.length l0) (hT : ∀ x ∈ spotsF 0 l0, T x) (hB : Below w.heap.size w W0) (hBf : W0.cell? ⟨Bf, 0, none⟩ = some (.slice A0 l0.length c0)) :
 SeqStopsK F n Try.prog 25 #[.pointer (some ⟨Bf, 0, none⟩)] (fun x : {x : Spot // T x} => spotArgs x.1) (Below w.heap.size) (fun ys => ys.map (·.1) = spotsF 0 l0) (fun _ => True) (spotsF 0 l0).length W0 := fun l J Jx W hW hJ _ hY h0 =>
 eachPage1_in F n hF hro hn T l Bf A0 c0 l0 w hr0 hT J Jx W hJ hY (hB.trans (hW.mono hB.size)) ((hW.cell (p := ⟨Bf, 0, none⟩) (World.block_lt_of_cell? W0 _ hBf)).trans hBf) h0
def PageBox (W : World) (B : Nat) (p : S32) : Prop := W.heap[B]? = some (.cells #[.int .i64 p.f0, .int .i64 p.f1.f0, .int .i64 p.f1.f1, .int .i64 p.f1.f2, .int .i64 p.f1.f3] 32 (0, 0))
theorem PageBox.own (B : Nat) (b : Nat) (p : S32) : OwnFrom b (fun (_ : Unit) W => PageBox W B p) := Own.from (fun s X Y row hs hg hrow => (hg.block B (Array.getElem?_eq_some_iff.1 hs).1 (fun e => by obtain ⟨o, ho, hc⟩ := hrow B e.symm; rw [show X.heap[B]? = _ from hs] at ho; cases ho; cases hc)).trans hs) _
theorem PageBox.cells {W : World} {B : Nat} {p : S32} (h : PageBox W B p) : W.cell? ⟨B, 0, none⟩ = some (.int .i64 p.f0) ∧ W.cell? ⟨B, 1, none⟩ = some (.int .i64 p.f1.f0) ∧ W.cell? ⟨B, 2, none⟩ = some (.int .i64 p.f1.f1) ∧ W.cell? ⟨B, 3, none⟩ = some (.int .i64 p.f1.f2) ∧ W.cell? ⟨B, 4, none⟩ = some (.int .i64 p.f1.f3) :=
 ⟨(blk_cell h 0).trans rfl, (blk_cell h 1).trans rfl, (blk_cell h 2).trans rfl, (blk_cell h 3).trans rfl, (blk_cell h 4).trans rfl⟩
abbrev AnyPage := {x : Spot // True}
def RecBox (W : World) (B : Nat) (r : S30) : Prop := W.heap[B]? = some (.cells #[.int .i64 r.f0, .int .i64 r.f1, .int .i64 r.f2, .int .i64 r.f3] 30 (0, 0))
abbrev set4 (W : World) (B : Nat) (r : S30) : World := (((W.setCell ⟨B, 0, none⟩ (.int .i64 r.f0)).setCell ⟨B, 1, none⟩ (.int .i64 r.f1)).setCell ⟨B, 2, none⟩ (.int .i64 r.f2)).setCell ⟨B, 3, none⟩ (.int .i64 r.f3)
theorem RecBox.own (B : Nat) {β : Type} (f : β → S30) : Own (fun s W => RecBox W B (f s)) := fun s X Y row hs hg hrow => (hg.block B (Array.getElem?_eq_some_iff.1 hs).1 (fun e => by obtain ⟨o, ho, hc⟩ := hrow B e.symm; rw [show X.heap[B]? = _ from hs] at ho; cases ho; cases hc)).trans hs
theorem RecBox.cells {W : World} {B : Nat} {r : S30} (h : RecBox W B r) : W.cell? ⟨B, 0, none⟩ = some (.int .i64 r.f0) ∧ W.cell? ⟨B, 1, none⟩ = some (.int .i64 r.f1) ∧ W.cell? ⟨B, 2, none⟩ = some (.int .i64 r.f2) ∧ W.cell? ⟨B, 3, none⟩ = some (.int .i64 r.f3) :=
 ⟨(blk_cell h 0).trans rfl, (blk_cell h 1).trans rfl, (blk_cell h 2).trans rfl, (blk_cell h 3).trans rfl⟩
theorem RecBox.frozen {W : World} {B : Nat} {r : S30} (h : RecBox W B r) (i : Nat) : W.frozen? ⟨B, i, none⟩ = false := blk_frozen h i
theorem RecBox.put {W : World} {B : Nat} {r : S30} (h : RecBox W B r) (s : S30) : RecBox (set4 W B s) B s := blk_put (blk_put (blk_put (blk_put h 0 _ rfl) 1 _ rfl) 2 _ rfl) 3 _ rfl
theorem RecBox.far {W : World} {B B' : Nat} {r : S30} (h : RecBox W B r) (hne : B ≠ B') (s : S30) : RecBox (set4 W B' s) B r := blk_far (blk_far (blk_far (blk_far h (p := ⟨B', 0, none⟩) hne _) (p := ⟨B', 1, none⟩) hne _) (p := ⟨B', 2, none⟩) hne _) (p := ⟨B', 3, none⟩) hne _
theorem Boxed.far4 {W : World} {B B' t : Nat} {v : Value} (h : Boxed W B t v) (hne : B ≠ B') (s : S30) : Boxed (set4 W B' s) B t v := blk_far (blk_far (blk_far (blk_far h (p := ⟨B', 0, none⟩) hne _) (p := ⟨B', 1, none⟩) hne _) (p := ⟨B', 2, none⟩) hne _) (p := ⟨B', 3, none⟩) hne _
theorem below_set4 {b : Nat} {w W : World} (h : Below b w W) {B : Nat} (hb : b ≤ B) (s : S30) : Below b w (set4 W B s) := (((h.setCell (p := ⟨B, 0, none⟩) hb _).setCell (p := ⟨B, 1, none⟩) hb _).setCell (p := ⟨B, 2, none⟩) hb _).setCell (p := ⟨B, 3, none⟩) hb _
theorem keeps_set4 (W : World) (B : Nat) (s : S30) : KeepsOthers W (set4 W B s) := (((KeepsOthers.setCell W _ _).trans (KeepsOthers.setCell _ _ _)).trans (KeepsOthers.setCell _ _ _)).trans (KeepsOthers.setCell _ _ _)
attribute [local go_sem] Oper.semAt_some
def lastStep (a : Int) (r : S30) (p : S32) : S30 := if p.f0 = 1 ∧ p.f1.f2 = a ∧ p.f1.f1 > r.f1 then p.f1 else r
def lastA (l : List S35) (a : Int) : S30 := (pagesL l).foldl (lastStep a) ⟨0, 0, 0, 0⟩
def impl_FindLast.f (l0 : List (S35)) (a1 : Int) : Option (Int × Int × Int × Int × Bool) := some (if addrB a1 = true ∧ flashOkB l0 = true then ((lastA l0 a1).f0, (lastA l0 a1).f1, (lastA l0 a1).f2, (lastA l0 a1).f3, decide ((lastA l0 a1).f1 > 0)) else (0, 0, 0, 0, false))
def lastOf (a : Int) (pre : List AnyPage) : S30 := pre.foldl (fun m x => lastStep a m x.1.2.2) ⟨0, 0, 0, 0⟩
theorem lastOf_snoc (a : Int) (pre : List AnyPage) (x : AnyPage) : lastOf a (pre ++ [x]) = lastStep a (lastOf a pre) x.1.2.2 := by simp [lastOf]
theorem lastOf_all {a : Int} {ys : List AnyPage} {l0 : List S35} (h : ys.map (·.1) = spotsF 0 l0) : lastOf a ys = lastA l0 a := by
 unfold lastOf lastA pagesL
 rw [← h, List.foldl_map, List.foldl_map]
set_option maxRecDepth 100000 in
set_option maxHeartbeats 4000000 in
theorem impl_FindLast.calls (A0 : Option Addr) (c0 : Nat) (l0 : List (S35)) (a1 : Int) (r1 : Int) (r2 : Int) (r3 : Int) (r4 : Int) (r5 : Bool) (w : World) (hr0 : Kd.C k35 w A0 l0.length l0) (hc0 : l0.length ≤ c0) (h : impl_FindLast.f l0 a1 = some (r1, r2, r3, r4, r5)) :
 Calls Try.prog 8 #[.slice A0 l0.length c0, .int .i64 a1] w fun e w' => e = .returned (.tuple #[.agg #[.int .i64 r1, .int .i64 r2, .int .i64 r3, .int .i64 r4], .bool r5]) ∧ Below w.heap.size w w' := by
 have hu := Try.underlying30
 refine (callsIn_wide (n := 3)).1 ?_
 have hak : ∀ w, CallsIn Fence.wide 2 Try.prog 17 #[.int .i64 a1] w fun e w' => e = .returned (.bool (addrB a1)) ∧ w = w' := fun w => callsIn_wide.2 (addrOk_any a1 w)
 unfold impl_FindLast.f at h
 have h := Option.some.inj h
 have b3 := Boxed.new w 3 (.int .i64 a1)
 have b4 : RecBox ((w.alloc (.cells #[.int .i64 a1] 3)).alloc (.cells #[.int .i64 0, .int .i64 0, .int .i64 0, .int .i64 0] 30)) (w.heap.size + 1) ⟨0, 0, 0, 0⟩ := by have := blk_new (w.alloc (.cells #[.int .i64 a1] 3)) (.cells #[.int .i64 0, .int .i64 0, .int .i64 0, .int .i64 0] 30); rw [World.size_alloc] at this; exact this
 replace b3 := b3.alloc (.cells #[.int .i64 0, .int .i64 0, .int .i64 0, .int .i64 0] 30)
 have hbw : Below w.heap.size w ((w.alloc (.cells #[.int .i64 a1] 3)).alloc (.cells #[.int .i64 0, .int .i64 0, .int .i64 0, .int .i64 0] 30)) := ((Below.refl _ w).alloc (Nat.le_refl _) _).alloc (by simp) _
 cases ha : addrB a1 with
 | false =>
  simp only [ha] at hak
  rw [ha, if_neg (by simp)] at h
  cases h
  refine callsIn_of_wp_marks Try.func8 rfl trivial ?_ rfl
  simp only [Try.ntmps8, List.size_toArray, List.length_cons, List.length_nil, Nat.reduceAdd, Nat.reduceSub, Array.replicate_succ, Array.replicate_zero, List.push_toArray, List.append_toArray, List.nil_append, List.cons_append]
  gi_wp2_with (first | (refine ⟨trivial, ?_⟩; gi_at_call 17; refine (hak _).mono ?_; rintro e w1 ⟨rfl, rfl⟩) | (refine And.intro (show Fence.wide.fn 12 from trivial) ?_))
  exact ⟨_, results_ct rfl _ _ (w.heap.size + 1) _ _ _ _ rfl b4 hu rfl (by kernel_rfl), rfl, hbw⟩
 | true =>
  simp only [ha] at hak
  have hok := callsIn_wide (n := 2).2 (impl_FlashOk.calls A0 c0 l0 _ _ (Kd.C_below hr0 hbw) hc0 rfl)
  cases hf : flashOkB l0 with
  | false =>
   rw [hf] at hok
   rw [hf, if_neg (by simp)] at h
   cases h
   refine callsIn_of_wp_marks Try.func8 rfl trivial ?_ rfl
   simp only [Try.ntmps8, List.size_toArray, List.length_cons, List.length_nil, Nat.reduceAdd, Nat.reduceSub, Array.replicate_succ, Array.replicate_zero, List.push_toArray, List.append_toArray, List.nil_append, List.cons_append]
   gi_wp2_with (first | (refine ⟨trivial, ?_⟩; gi_at_call 17; refine (hak _).mono ?_; rintro e w1 ⟨rfl, rfl⟩) | (refine ⟨trivial, ?_⟩; gi_at_call 12; refine hok.mono ?_; rintro e w1 ⟨rfl, hb⟩; have b4' : RecBox w1 (w.heap.size + 1) ⟨0, 0, 0, 0⟩ := blk_below b4 hb; obtain ⟨hq0, hq1, hq2, hq3⟩ := b4'.cells; have hg0 := b4'.frozen 0; have hg1 := b4'.frozen 1; have hg2 := b4'.frozen 2; have hg3 := b4'.frozen 3))
   exact ⟨_, results_ct rfl _ _ (w.heap.size + 1) _ _ _ _ rfl (b4'.put ⟨0, 0, 0, 0⟩) hu rfl (by kernel_rfl), rfl, below_set4 (below_then hbw hbw.size hb) (by omega) ⟨0, 0, 0, 0⟩⟩
  | true =>
   rw [hf] at hok
   rw [ha, hf, if_pos ⟨rfl, rfl⟩] at h
   refine callsIn_of_wp_marks Try.func8 rfl trivial ?_ rfl
   simp only [Try.ntmps8, List.size_toArray, List.length_cons, List.length_nil, Nat.reduceAdd, Nat.reduceSub, Array.replicate_succ, Array.replicate_zero, List.push_toArray, List.append_toArray, List.nil_append, List.cons_append]
   gi_wp2_with (first | (refine ⟨trivial, ?_⟩; gi_at_call 17; refine (hak _).mono ?_; rintro e w1 ⟨rfl, rfl⟩) | (refine ⟨trivial, ?_⟩; gi_at_call 12; refine hok.mono ?_; rintro e w1 ⟨rfl, hb⟩) | (refine ⟨trivial, ?_⟩; gi_at_call 18; refine (eachPage_in Fence.wide 2 trivial rfl _ _ _ _).mono ?_; rintro e w2 ⟨rfl, rfl⟩))
   have hs1 := hb.size
   simp only [World.size_alloc] at hs1
   have b3' : Boxed w1 w.heap.size 3 (.int .i64 a1) := blk_below b3 hb
   have b4' : RecBox w1 (w.heap.size + 1) ⟨0, 0, 0, 0⟩ := blk_below b4 hb
   have hbw1 := below_then hbw hbw.size hb
   have bL : RecBox (w1.alloc (.cells #[.int .i64 0, .int .i64 0, .int .i64 0, .int .i64 0] 30)) w1.heap.size ⟨0, 0, 0, 0⟩ := blk_new w1 _
   have bN := Boxed.new (w1.alloc (.cells #[.int .i64 0, .int .i64 0, .int .i64 0, .int .i64 0] 30)) 23 (.slice A0 l0.length c0)
   rw [World.size_alloc] at bN
   have bL2 : RecBox ((w1.alloc (.cells #[.int .i64 0, .int .i64 0, .int .i64 0, .int .i64 0] 30)).alloc (.cells #[.slice A0 l0.length c0] 23)) w1.heap.size ⟨0, 0, 0, 0⟩ := blk_alloc bL _
   have hB0 : Below w.heap.size w ((w1.alloc (.cells #[.int .i64 0, .int .i64 0, .int .i64 0, .int .i64 0] 30)).alloc (.cells #[.slice A0 l0.length c0] 23)) := (hbw1.alloc hbw1.size _).alloc (hbw1.alloc hbw1.size _).size _
   refine wpIn_rangeFunc_ownH (F := Fence.wide) rfl (by decide) (gf := 25) (lb := #[.pointer (some ⟨w1.heap.size + 1, 0, none⟩)]) rfl trivial (enters_of Try.func25 (by kernel_rfl) rfl)
    (eachPage_stops Fence.wide 2 trivial rfl (by decide) (fun _ => True) (w1.heap.size + 1) A0 c0 l0 w _ hr0 (fun _ _ => trivial) hB0 bN.cell) belowK_t (belowK_b hB0.size) (Below.refl _ _) (fun _ => rfl)
    (fun pre W => RecBox W w1.heap.size (lastOf a1 pre) ∧ Boxed W w.heap.size 3 (.int .i64 a1) ∧ RecBox W (w.heap.size + 1) ⟨0, 0, 0, 0⟩ ∧ Below w.heap.size w W) (fun _ _ _ => False)
    (OwnFrom.and (Own.from (RecBox.own _ _) _) (OwnFrom.and (Own.from (boxed_own _ _ _) _) (OwnFrom.and (Own.from (RecBox.own _ _) _) (ownFrom_below (Nat.le_refl _) hB0.size)))) (fun _ _ _ _ _ hs _ _ => hs)
    ⟨bL2, (b3'.alloc _).alloc _, blk_alloc (blk_alloc b4' _) _, hB0⟩
    (fun x a' W => ∃ Bx, w1.heap.size < Bx ∧ PageBox W Bx x.1.2.2 ∧ a' = { tmps := #[.slice A0 l0.length c0, .int .i64 a1, undef, .pointer (some ⟨w.heap.size, 0, none⟩), .pointer (some ⟨w.heap.size + 1, 0, none⟩), .bool false, .pointer (some ⟨w1.heap.size, 0, none⟩), undef, .pointer (some ⟨Bx, 0, none⟩), .int .i64 a1, .bool true, .bool false, .bool false, .slice A0 l0.length c0, .bool true, .bool false, .bool false, undef, .slice A0 l0.length c0, .func (.func 25) #[] #[.pointer (some ⟨w1.heap.size + 1, 0, none⟩)], .agg #[.int .i64 (x.1.1 : Int), .int .i64 (x.1.2.1 : Int)], .agg #[.int .i64 x.1.2.2.f0, .int .i64 x.1.2.2.f1.f0, .int .i64 x.1.2.2.f1.f1, .int .i64 x.1.2.2.f1.f2, .int .i64 x.1.2.2.f1.f3], undef, undef, undef, undef, undef, undef, undef, undef, undef, undef, undef, undef, undef, undef, undef, undef, undef, undef, undef, undef, undef, undef, undef, undef], defers := [] })
    (fun x a' s X Y row hs hg hr => by obtain ⟨Bx, h1, h2, h3⟩ := hs; exact ⟨Bx, h1, PageBox.own Bx _ _ () X Y row h2 hg hr, h3⟩) ?assign ?body ?done ?stop
   case assign =>
    rintro l pre x W K ⟨hbx, hb3, hb4, hB⟩ hK
    gi_wp2
    exact hK _ _ ((KeepsOthers.alloc _ _).from _) ((Below.refl _ W).alloc hB.size _) ⟨blk_alloc hbx _, hb3.alloc _, blk_alloc hb4 _, hB.alloc hB.size _⟩ ⟨W.heap.size, blk_lt hbx, blk_new W _, rfl⟩
   case body =>
    rintro l pre x a' W hl ⟨r, hr⟩ ⟨hbx, hb3, hb4, hB⟩ ⟨Bx, hBx, bX, rfl⟩ hlt
    obtain ⟨hc0_, hc1_, hc2_, hc3_, hc4_⟩ := bX.cells
    have hcl := hb3.cell
    obtain ⟨hq0, hq1, hq2, hq3⟩ := hbx.cells
    have hg0 := hbx.frozen 0
    have hg1 := hbx.frozen 1
    have hg2 := hbx.frozen 2
    have hg3 := hbx.frozen 3
    have hsn := lastOf_snoc a1 pre x
    unfold lastStep at hsn
    by_cases hs1 : x.1.2.2.f0 = 1
    rotate_left
    · have hs2 : (x.1.2.2.f0 == 1) = false := by simp [hs1]
      rw [if_neg (fun h => hs1 h.1)] at hsn
      gi_wp2
      exact ⟨KeepsFrom.refl _ _, Below.refl _ _, by rw [hsn]; exact hbx, hb3, hb4, hB⟩
    have hs2 : (x.1.2.2.f0 == 1) = true := by simp [hs1]
    by_cases ht1 : x.1.2.2.f1.f2 = a1
    rotate_left
    · have ht2 : (x.1.2.2.f1.f2 == a1) = false := by simp [ht1]
      rw [if_neg (fun h => ht1 h.2.1)] at hsn
      gi_wp2
      exact ⟨KeepsFrom.refl _ _, Below.refl _ _, by rw [hsn]; exact hbx, hb3, hb4, hB⟩
    have ht2 : (x.1.2.2.f1.f2 == a1) = true := by simp [ht1]
    by_cases hv1 : x.1.2.2.f1.f1 > (lastOf a1 pre).f1
    rotate_left
    · have hv2 : decide ((lastOf a1 pre).f1 < x.1.2.2.f1.f1) = false := decide_eq_false hv1
      rw [if_neg (fun h => hv1 h.2.2)] at hsn
      gi_wp2
      exact ⟨KeepsFrom.refl _ _, Below.refl _ _, by rw [hsn]; exact hbx, hb3, hb4, hB⟩
    have hv2 : decide ((lastOf a1 pre).f1 < x.1.2.2.f1.f1) = true := decide_eq_true hv1
    rw [if_pos ⟨hs1, ht1, hv1⟩] at hsn
    obtain ⟨q, hq, hq_⟩ : ∃ q : S30, q = ⟨x.1.2.2.f1.f0, x.1.2.2.f1.f1, a1, x.1.2.2.f1.f3⟩ ∧ x.1.2.2.f1 = q := ⟨_, rfl, by rw [← ht1]⟩
    rw [hq_] at hsn
    have ok1 : RecBox (set4 W w1.heap.size q) w1.heap.size (lastOf a1 (pre ++ [x])) := by rw [hsn]; exact RecBox.put hbx _
    have ok2 : Boxed (set4 W w1.heap.size q) w.heap.size 3 (.int .i64 a1) := Boxed.far4 hb3 (by omega) _
    have ok3 : RecBox (set4 W w1.heap.size q) (w.heap.size + 1) ⟨0, 0, 0, 0⟩ := RecBox.far hb4 (by omega) _
    have ok4 : Below w.heap.size w (set4 W w1.heap.size q) := below_set4 hB (by omega) _
    have ok5 : Below w.heap.size W (set4 W w1.heap.size q) := below_set4 (Below.refl _ W) (by omega) _
    have OK1 := am ok1
    have OK2 := am ok2
    have OK3 := am ok3
    have OK4 := am ok4
    have OK5 := am ok5
    have OK6 := am ((keeps_set4 W w1.heap.size q).from ((w1.alloc (.cells #[.int .i64 0, .int .i64 0, .int .i64 0, .int .i64 0] 30)).alloc (.cells #[.slice A0 l0.length c0] 23)).heap.size)
    subst hq
    clear ok1 ok2 ok3 ok4 ok5 hsn hq_
    gi_wp2
    exact ⟨OK6.out, OK5.out, OK1.out, OK2.out, OK3.out, OK4.out⟩
   case done =>
    rintro D ys W hD hys ⟨hbx, hb3, hb4, hB⟩ hK
    rw [lastOf_all hys] at hbx
    cases h
    obtain ⟨hq0, hq1, hq2, hq3⟩ := hbx.cells
    obtain ⟨ho0, ho1, ho2, ho3⟩ := hb4.cells
    have hg0 := hb4.frozen 0
    have hg1 := hb4.frozen 1
    have hg2 := hb4.frozen 2
    have hg3 := hb4.frozen 3
    gi_wp2
    gi_region
    gi_wp2
    have hbp : RecBox (set4 W (w.heap.size + 1) (lastA l0 a1)).drew (w.heap.size + 1) (lastA l0 a1) := RecBox.put hb4 _
    have hK' : (set4 W (w.heap.size + 1) (lastA l0 a1)).drew.heap[D]? = some (.deferred (some [])) := (keeps_set4 W (w.heap.size + 1) (lastA l0 a1)).same D _ hK rfl
    have hB' : Below w.heap.size w (set4 W (w.heap.size + 1) (lastA l0 a1)).drew := below_drew (below_set4 hB (by omega) _)
    refine ⟨by simp, .inl ⟨_, _, rfl, run_takeDeferred hK', ?_⟩⟩
    have hbq := RecBox.own (β := Unit) _ (fun _ => lastA l0 a1) () _ _ _ hbp (grownBy_putObj' _ D (.deferred none)) (fun r e => by cases e; exact ⟨_, hK', rfl⟩)
    exact ⟨_, results_ct rfl _ _ (w.heap.size + 1) _ _ _ _ rfl hbq hu rfl (by kernel_rfl), rfl, hB'.trans (belowK_b (w := w) (Nat.le_refl _) _ D _ _ (by have := hB0.size; omega) hK' rfl rfl)⟩
   case stop =>
    rintro D c pre W _ _ h _
    exact h.elim
end Go.Proofs.Ytcanhdofmbekeaa.Rp
namespace Go.Proofs.Ytcanhdofmbekeaa.Rp
open Go.RowKit Go.Proofs.YtcanhdofmbekeaaW.PrintWords Go.Proofs.YtcanhdofmbekeaaW.PrintLast Go.Proofs.YtcanhdofmbekeaaW.PrintMore
attribute [local go_sem] max2_int min2_int max_two min_two max_three min_three max_four min_four
set_option linter.unusedVariables false
set_option linter.unusedSimpArgs false
attribute [local go_sem high] eqA30
def impl_blockOk.f (a0 : Int) : Option (Bool) := if a0 ≥ 0 then (some (decide (a0 < 4))) else (some false)
set_option maxHeartbeats 8000000 in
set_option maxRecDepth 100000 in
theorem impl_blockOk.calls (a0 : Int) (r : Bool) (w : World) (h : impl_blockOk.f a0 = some r) :
 Calls Try.prog 13 #[.int .i64 a0] w fun e w' => e = .returned (.bool r) ∧ Drawn0 w w' := by
 have H : (if a0 ≥ 0 then (some (decide (a0 < 4))) else (some false)) = some r := h
 clear h
 by_cases c2 : a0 ≥ 0
 · rw [if_pos c2] at H
   have c2b0 := decide_eq_true c2
   clear c2
   obtain rfl := Option.some.inj H
   go_enter Try.func13, Try.ntmps13
   go_wp2
   go_ret
   exact ⟨by first | rfl | (simp; done) | (simp [*]; done), by repeat (first | exact Drawn0.refl _ | apply Drawn0.step)⟩
 rw [if_neg c2] at H
 have c2b0 := decide_eq_false c2
 clear c2
 obtain rfl := Option.some.inj H
 go_enter Try.func13, Try.ntmps13
 go_wp2
 go_ret
 exact ⟨by first | rfl | (simp; done) | (simp [*]; done), by repeat (first | exact Drawn0.refl _ | apply Drawn0.step)⟩
def impl_FindLive.j0 : Nat → List (S35) → Int → Int → Bool → Option (Bool)
 | 0, _, _, _, _ => none
 | k + 1, x0, x1, x2, x25 => if x25 = true then (some false) else (if 0 ≤ x1 then (if x1 < (x0.length : Int) then (if 0 ≤ x2 then (if x2 < (((rd_T35 x0 x1).f0).length : Int) then (if ((rd_T32 ((rd_T35 x0 x1).f0) x2).f0) = 1 then ((impl_FindLast.f x0 ((rd_T32 ((rd_T35 x0 x1).f0) x2).f1.f2)).bind fun bt421 => (if bt421.2.2.2.2 = true then (some (bt421.1 == ((rd_T32 ((rd_T35 x0 x1).f0) x2).f1.f0) && (bt421.2.1 == ((rd_T32 ((rd_T35 x0 x1).f0) x2).f1.f1) && (bt421.2.2.1 == ((rd_T32 ((rd_T35 x0 x1).f0) x2).f1.f2) && (bt421.2.2.2.1 == ((rd_T32 ((rd_T35 x0 x1).f0) x2).f1.f3)))))) else (some false))) else (some false)) else (none)) else (none)) else (none)) else (none))
def impl_FindLive.f (k : Nat) (l0 : List (S35)) (a1 : Int) (a2 : Int) : Option (Bool) := (impl_FlashOk.f l0).bind fun t416 => (if t416 = true then ((impl_blockOk.f a1).bind fun t417 => (if t417 = true then (if a2 < 0 then (impl_FindLive.j0 k l0 a1 a2 true) else (impl_FindLive.j0 k l0 a1 a2 (decide (a2 ≥ 4)))) else (impl_FindLive.j0 k l0 a1 a2 true))) else (impl_FindLive.j0 k l0 a1 a2 true))
theorem impl_FindLive.mono_l : ∀ k, (∀ y0 y1 y2 y3, LeO (impl_FindLive.j0 k y0 y1 y2 y3) (impl_FindLive.j0 (k + 1) y0 y1 y2 y3))
 | 0 => fun _ _ _ _ r h => by simp [impl_FindLive.j0] at h
 | k + 1 => by
  have ih0 := impl_FindLive.mono_l k
  · intro y0 y1 y2 y3
    unfold impl_FindLive.j0
    repeat' first
    | (with_reducible exact ih0 _ _ _ _)
    | (with_reducible exact LeO.refl _)
    | (with_reducible exact LeO.none _)
    | (with_reducible refine LeO.ite ?_ ?_)
    | (with_reducible refine LeO.bind ?_ (fun _ => ?_))
    | exact ih0 _ _ _ _
    | exact LeO.none _
    | refine LeO.ite ?_ ?_
    | refine LeO.bind ?_ (fun _ => ?_)
theorem impl_FindLive.mono : ∀ a0 a1 a2 k, LeO (impl_FindLive.f k a0 a1 a2) (impl_FindLive.f (k + 1) a0 a1 a2) := by
 intro a0 a1 a2 k
 have ih0 := impl_FindLive.mono_l k
 unfold impl_FindLive.f
 repeat' first
  | (with_reducible exact ih0 _ _ _ _)
  | (with_reducible exact LeO.refl _)
  | (with_reducible exact LeO.none _)
  | (with_reducible refine LeO.ite ?_ ?_)
  | (with_reducible refine LeO.bind ?_ (fun _ => ?_))
  | exact ih0 _ _ _ _
  | exact LeO.none _
  | refine LeO.ite ?_ ?_
  | refine LeO.bind ?_ (fun _ => ?_)
set_option maxHeartbeats 8000000 in
set_option maxRecDepth 100000 in
theorem impl_FindLive.calls (k : Nat) (A0 : Option Addr) (c0 : Nat) (l0 : List (S35)) (a1 : Int) (a2 : Int) (r : Bool) (w : World) (hr0 : Kd.C k35 w A0 l0.length l0) (hc0 : l0.length ≤ c0) (h : impl_FindLive.f k l0 a1 a2 = some r) :
 Calls Try.prog 5 #[.slice A0 l0.length c0, .int .i64 a1, .int .i64 a2] w fun e w' => e = .returned (.bool r) ∧ Below w.heap.size w w' := by
 have hu32 := Try.underlying32
 have hu30 := Try.underlying30
 have HR0 := am hr0
 have HC0 := am hc0
 clear hr0 hc0
 have HB := am (Below.refl w.heap.size w)
 have H : ((impl_FlashOk.f l0).bind fun t416 => (if t416 = true then ((impl_blockOk.f a1).bind fun t417 => (if t417 = true then (if a2 < 0 then (impl_FindLive.j0 k l0 a1 a2 true) else (impl_FindLive.j0 k l0 a1 a2 (decide (a2 ≥ 4)))) else (impl_FindLive.j0 k l0 a1 a2 true))) else (impl_FindLive.j0 k l0 a1 a2 true))) = some r := h
 clear h
 have HC4 := am H
 clear H
 go_enter Try.func5, Try.ntmps5
 go_upto_region 1 with (fail)
 go_cut [25] (fun v25 wc => ∃ (kq : Nat) (x25_3 : Bool), v25 = .bool x25_3 ∧ Aside0 (impl_FindLive.j0 kq l0 a1 a2 x25_3 = some r) ∧ Aside0 (kq ≤ k) ∧ Aside0 (Below w.heap.size w wc))
 case first =>
  have H := HC4.out
  clear HC4
  replace H := Option.bind_eq_some_iff.mp H
  obtain ⟨t416, A50, H⟩ := H
  replace H : (if t416 = true then ((impl_blockOk.f a1).bind fun t417 => (if t417 = true then (if a2 < 0 then (impl_FindLive.j0 k l0 a1 a2 true) else (impl_FindLive.j0 k l0 a1 a2 (decide (a2 ≥ 4)))) else (impl_FindLive.j0 k l0 a1 a2 true))) else (impl_FindLive.j0 k l0 a1 a2 true)) = some r := H
  have A5 := am A50
  clear A50
  by_cases c6 : t416 = true
  rotate_left
  · replace c6 := Bool.eq_false_iff.mpr c6
    subst c6
    have H1 : (impl_FindLive.j0 k l0 a1 a2 true) = some r := by rw [if_neg (show ¬ (false = true) by decide)] at H; exact H
    clear H
    have H := H1
    clear H1
    have H' := am H
    clear H
    go_wp2_with (first | (refine gl 11 Try.func12 #[.slice A0 l0.length c0] rfl ?_; (with_reducible refine (impl_FlashOk.calls _ _ l0 false _ ?side1 ?side2 A5.out).mono ?_); (case side1 => exact pc (Kd.C_below HR0.out HB.out)); (case side2 => exact HC0.out); rintro e w13 ⟨rfl, hb⟩; refine ⟨_, rfl, ?_⟩; replace HB := am (below_step (ph HB.out) hb); (try clear hb); (try clear hb2); (try clear hk); (try clear hi)))
    go_meet
    case rel => exact ⟨_, (true), rf, H', ⟨by first | omega | exact Nat.le_refl _⟩, ⟨ph HB.out⟩⟩
  subst c6
  have H1 : ((impl_blockOk.f a1).bind fun t417 => (if t417 = true then (if a2 < 0 then (impl_FindLive.j0 k l0 a1 a2 true) else (impl_FindLive.j0 k l0 a1 a2 (decide (a2 ≥ 4)))) else (impl_FindLive.j0 k l0 a1 a2 true))) = some r := by rw [if_pos rfl] at H; exact H
  clear H
  have H := H1
  clear H1
  replace H := Option.bind_eq_some_iff.mp H
  obtain ⟨t417, A70, H⟩ := H
  replace H : (if t417 = true then (if a2 < 0 then (impl_FindLive.j0 k l0 a1 a2 true) else (impl_FindLive.j0 k l0 a1 a2 (decide (a2 ≥ 4)))) else (impl_FindLive.j0 k l0 a1 a2 true)) = some r := H
  have A7 := am A70
  clear A70
  by_cases c8 : t417 = true
  rotate_left
  · replace c8 := Bool.eq_false_iff.mpr c8
    subst c8
    have H1 : (impl_FindLive.j0 k l0 a1 a2 true) = some r := by rw [if_neg (show ¬ (false = true) by decide)] at H; exact H
    clear H
    have H := H1
    clear H1
    have H' := am H
    clear H
    go_wp2_with (first | (refine gl 11 Try.func12 #[.slice A0 l0.length c0] rfl ?_; (with_reducible refine (impl_FlashOk.calls _ _ l0 true _ ?side1 ?side2 A5.out).mono ?_); (case side1 => exact pc (Kd.C_below HR0.out HB.out)); (case side2 => exact HC0.out); rintro e w12 ⟨rfl, hb⟩; refine ⟨_, rfl, ?_⟩; replace HB := am (below_step (ph HB.out) hb); (try clear hb); (try clear hb2); (try clear hk); (try clear hi)) | (go_at_call 13; (with_reducible refine (impl_blockOk.calls a1 false _ A7.out).mono ?_); rintro e w' ⟨rfl, ⟨nd, rfl⟩⟩))
    go_meet
    case rel => exact ⟨_, (true), rf, H', ⟨by first | omega | exact Nat.le_refl _⟩, ⟨ph HB.out⟩⟩
  subst c8
  have H1 : (if a2 < 0 then (impl_FindLive.j0 k l0 a1 a2 true) else (impl_FindLive.j0 k l0 a1 a2 (decide (a2 ≥ 4)))) = some r := by rw [if_pos rfl] at H; exact H
  clear H
  have H := H1
  clear H1
  by_cases c9 : a2 < 0
  · rw [if_pos c9] at H
    have c9b0 := decide_eq_true c9
    clear c9
    (first | rw [c9b0] | (simp only [i64_w, i32_w]; rw [c9b0]) | skip)
    have H' := am H
    clear H
    go_wp2_with (first | (refine gl 11 Try.func12 #[.slice A0 l0.length c0] rfl ?_; (with_reducible refine (impl_FlashOk.calls _ _ l0 true _ ?side1 ?side2 A5.out).mono ?_); (case side1 => exact pc (Kd.C_below HR0.out HB.out)); (case side2 => exact HC0.out); rintro e w10 ⟨rfl, hb⟩; refine ⟨_, rfl, ?_⟩; replace HB := am (below_step (ph HB.out) hb); (try clear hb); (try clear hb2); (try clear hk); (try clear hi)) | (go_at_call 13; (with_reducible refine (impl_blockOk.calls a1 true _ A7.out).mono ?_); rintro e w' ⟨rfl, ⟨nd, rfl⟩⟩))
    go_meet
    case rel => exact ⟨_, (true), rf, H', ⟨by first | omega | exact Nat.le_refl _⟩, ⟨ph HB.out⟩⟩
  rw [if_neg c9] at H
  have c9b0 := decide_eq_false c9
  clear c9
  (first | rw [c9b0] | (simp only [i64_w, i32_w]; rw [c9b0]) | skip)
  have H' := am H
  clear H
  go_wp2_with (first | (refine gl 11 Try.func12 #[.slice A0 l0.length c0] rfl ?_; (with_reducible refine (impl_FlashOk.calls _ _ l0 true _ ?side1 ?side2 A5.out).mono ?_); (case side1 => exact pc (Kd.C_below HR0.out HB.out)); (case side2 => exact HC0.out); rintro e w11 ⟨rfl, hb⟩; refine ⟨_, rfl, ?_⟩; replace HB := am (below_step (ph HB.out) hb); (try clear hb); (try clear hb2); (try clear hk); (try clear hi)) | (go_at_call 13; (with_reducible refine (impl_blockOk.calls a1 true _ A7.out).mono ?_); rintro e w' ⟨rfl, ⟨nd, rfl⟩⟩))
  go_meet
  case rel => exact ⟨_, (decide (a2 ≥ 4)), rf, H', ⟨by first | omega | exact Nat.le_refl _⟩, ⟨ph HB.out⟩⟩
 case rest =>
  clear HC4
  obtain ⟨kq, x25_3, rfl, HA, HJ3, HB⟩ := hcut
  cases kq with
  | zero => exact absurd HA.out (by simp [impl_FindLive.j0])
  | succ kj3 =>
   have H := HA.out
   clear HA
   simp only [impl_FindLive.j0] at H
   by_cases c14 : x25_3 = true
   · subst c14
     have H1 : (some false) = some r := by rw [if_pos rfl] at H; exact H
     clear H
     have H := H1
     clear H1
     obtain rfl := Option.some.inj H
     go_wp2
     go_ret
     exact (rq (ph HB.out))
   replace c14 := Bool.eq_false_iff.mpr c14
   subst c14
   have H1 : (if 0 ≤ a1 then (if a1 < (l0.length : Int) then (if 0 ≤ a2 then (if a2 < (((rd_T35 l0 a1).f0).length : Int) then (if ((rd_T32 ((rd_T35 l0 a1).f0) a2).f0) = 1 then ((impl_FindLast.f l0 ((rd_T32 ((rd_T35 l0 a1).f0) a2).f1.f2)).bind fun bt421 => (if bt421.2.2.2.2 = true then (some (bt421.1 == ((rd_T32 ((rd_T35 l0 a1).f0) a2).f1.f0) && (bt421.2.1 == ((rd_T32 ((rd_T35 l0 a1).f0) a2).f1.f1) && (bt421.2.2.1 == ((rd_T32 ((rd_T35 l0 a1).f0) a2).f1.f2) && (bt421.2.2.2.1 == ((rd_T32 ((rd_T35 l0 a1).f0) a2).f1.f3)))))) else (some false))) else (some false)) else (none)) else (none)) else (none)) else (none)) = some r := by rw [if_neg (show ¬ (false = true) by decide)] at H; exact H
   clear H
   have H := H1
   clear H1
   by_cases c15 : 0 ≤ a1
   rotate_left
   · rw [if_neg c15] at H
     exact absurd H (by simp)
   rw [if_pos c15] at H
   have c15b0 := decide_eq_true c15
   clear c15
   by_cases c16 : a1 < (l0.length : Int)
   rotate_left
   · rw [if_neg c16] at H
     exact absurd H (by simp)
   rw [if_pos c16] at H
   have c16b0 := decide_eq_true c16
   clear c16
   by_cases c17 : 0 ≤ a2
   rotate_left
   · rw [if_neg c17] at H
     exact absurd H (by simp)
   rw [if_pos c17] at H
   have c17b0 := decide_eq_true c17
   clear c17
   by_cases c18 : a2 < (((rd_T35 l0 a1).f0).length : Int)
   rotate_left
   · rw [if_neg c18] at H
     exact absurd H (by simp)
   rw [if_pos c18] at H
   have c18b0 := decide_eq_true c18
   clear c18
   by_cases c19 : ((rd_T32 ((rd_T35 l0 a1).f0) a2).f0) = 1
   rotate_left
   · rw [if_neg c19] at H
     have c19b0 : (((rd_T32 ((rd_T35 l0 a1).f0) a2).f0) == 1) = false := beq_eq_false_iff_ne.mpr c19
     have c19b1 : (((rd_T32 ((rd_T35 l0 a1).f0) a2).f0) != 1) = true := bne_iff_ne.mpr c19
     obtain rfl := Option.some.inj H
     have p418 : 0 ≤ (a1 : Int) := ofb
     have q418 : a1 < (l0.length : Int) := ofb
     obtain ⟨ad418, A418_0, c418_0, e418, hx418_0, hx418_1, hl418_0, hi418_0⟩ := at_T35 HR0.out a1 p418 q418
     cases e418
     replace hx418_0 := up HB.out hx418_0
     replace hx418_1 := up HB.out hx418_1
     have HR418_0 := am hi418_0
     have HC418_0 := am hl418_0
     clear hi418_0 hl418_0
     replace p418 := eq_true p418
     replace q418 := eq_true q418
     have p419 : 0 ≤ (a2 : Int) := ofb
     have q419 : a2 < (((rd_T35 l0 a1).f0).length : Int) := ofb
     obtain ⟨ad419, e419, hx419_0, hx419_1, hx419_2, hx419_3, hx419_4⟩ := at_T32 HR418_0.out a2 p419 q419
     cases e419
     replace hx419_0 := up HB.out hx419_0
     replace hx419_1 := up HB.out hx419_1
     replace hx419_2 := up HB.out hx419_2
     replace hx419_3 := up HB.out hx419_3
     replace hx419_4 := up HB.out hx419_4
     replace p419 := eq_true p419
     replace q419 := eq_true q419
     go_wp2_with (first | (refine bx 7 #[.int .i64 0, .int .i64 0, .int .i64 0, .int .i64 0, .int .i64 0] 32 rfl ?_; intro gb420 hg w35 hbox hb; have BK420 := am (hbox); have GW420 := am ((by rw [hg]; exact (below_size (ph HB.out)) : w.heap.size ≤ gb420)); have GE420 := GW420; replace HB := am (below_step (ph HB.out) hb); clear hb hbox hg; obtain ⟨hcz36_0, hcz36_1, hcz36_2, hcz36_3, hcz36_4⟩ := b5 BK420.out; obtain ⟨hfz36_0, hfz36_1, hfz36_2, hfz36_3, hfz36_4⟩ := f5 BK420.out))
     go_ret
     exact (rq (bg1 HB.out GE420.out))
   rw [if_pos c19] at H
   have c19b0 : (((rd_T32 ((rd_T35 l0 a1).f0) a2).f0) == 1) = true := beq_iff_eq.mpr c19
   have c19b1 : (((rd_T32 ((rd_T35 l0 a1).f0) a2).f0) != 1) = false := bne_eq_false_iff_eq.mpr c19
   clear c19
   replace H := Option.bind_eq_some_iff.mp H
   obtain ⟨⟨t421, t422, t423, t424, t425⟩, A200, H⟩ := H
   replace H : (if t425 = true then (some (t421 == ((rd_T32 ((rd_T35 l0 a1).f0) a2).f1.f0) && (t422 == ((rd_T32 ((rd_T35 l0 a1).f0) a2).f1.f1) && (t423 == ((rd_T32 ((rd_T35 l0 a1).f0) a2).f1.f2) && (t424 == ((rd_T32 ((rd_T35 l0 a1).f0) a2).f1.f3)))))) else (some false)) = some r := H
   have A20 := am A200
   clear A200
   by_cases c21 : t425 = true
   rotate_left
   · replace c21 := Bool.eq_false_iff.mpr c21
     subst c21
     have H1 : (some false) = some r := by rw [if_neg (show ¬ (false = true) by decide)] at H; exact H
     clear H
     have H := H1
     clear H1
     obtain rfl := Option.some.inj H
     have p418 : 0 ≤ (a1 : Int) := ofb
     have q418 : a1 < (l0.length : Int) := ofb
     obtain ⟨ad418, A418_0, c418_0, e418, hx418_0, hx418_1, hl418_0, hi418_0⟩ := at_T35 HR0.out a1 p418 q418
     cases e418
     replace hx418_0 := up HB.out hx418_0
     replace hx418_1 := up HB.out hx418_1
     have HR418_0 := am hi418_0
     have HC418_0 := am hl418_0
     clear hi418_0 hl418_0
     replace p418 := eq_true p418
     replace q418 := eq_true q418
     have p419 : 0 ≤ (a2 : Int) := ofb
     have q419 : a2 < (((rd_T35 l0 a1).f0).length : Int) := ofb
     obtain ⟨ad419, e419, hx419_0, hx419_1, hx419_2, hx419_3, hx419_4⟩ := at_T32 HR418_0.out a2 p419 q419
     cases e419
     replace hx419_0 := up HB.out hx419_0
     replace hx419_1 := up HB.out hx419_1
     replace hx419_2 := up HB.out hx419_2
     replace hx419_3 := up HB.out hx419_3
     replace hx419_4 := up HB.out hx419_4
     replace p419 := eq_true p419
     replace q419 := eq_true q419
     go_wp2_with (first | (refine bx 7 #[.int .i64 0, .int .i64 0, .int .i64 0, .int .i64 0, .int .i64 0] 32 rfl ?_; intro gb420 hg w29 hbox hb; have BK420 := am (hbox); have GW420 := am ((by rw [hg]; exact (below_size (ph HB.out)) : w.heap.size ≤ gb420)); have GE420 := GW420; replace HB := am (below_step (ph HB.out) hb); clear hb hbox hg; obtain ⟨hcz30_0, hcz30_1, hcz30_2, hcz30_3, hcz30_4⟩ := b5 BK420.out; obtain ⟨hfz30_0, hfz30_1, hfz30_2, hfz30_3, hfz30_4⟩ := f5 BK420.out) | (refine gl 42 Try.func8 #[.slice (some ad418) l0.length c0, .int .i64 ((rd_T32 ((rd_T35 l0 a1).f0) a2).f1.f2)] rfl ?_; (with_reducible refine (impl_FindLast.calls _ _ l0 ((rd_T32 ((rd_T35 l0 a1).f0) a2).f1.f2) t421 t422 t423 t424 false _ ?side1 ?side2 A20.out).mono ?_); (case side1 => exact Kd.C_below HR0.out (bg1 HB.out GE420.out)); (case side2 => exact HC0.out); rintro e w31 ⟨rfl, hb⟩; refine ⟨_, rfl, ?_⟩; replace BK420 := am (blk_below (g := gb420) (o := .cells #[.int .i64 ((rd_T32 ((rd_T35 l0 a1).f0) a2).f0), .int .i64 ((rd_T32 ((rd_T35 l0 a1).f0) a2).f1.f0), .int .i64 ((rd_T32 ((rd_T35 l0 a1).f0) a2).f1.f1), .int .i64 ((rd_T32 ((rd_T35 l0 a1).f0) a2).f1.f2), .int .i64 ((rd_T32 ((rd_T35 l0 a1).f0) a2).f1.f3)] 32 (0, 0)) (by (with_reducible repeat (first | refine blk_drewN ?_ _ | refine blk_drew ?_ | refine blk_alloc ?_ _)); refine blk_put (cs := #[.int .i64 ((rd_T32 ((rd_T35 l0 a1).f0) a2).f0), .int .i64 ((rd_T32 ((rd_T35 l0 a1).f0) a2).f1.f0), .int .i64 ((rd_T32 ((rd_T35 l0 a1).f0) a2).f1.f1), .int .i64 ((rd_T32 ((rd_T35 l0 a1).f0) a2).f1.f2), .int .i64 0]) ?_ 4 _ rfl; (with_reducible repeat (first | refine blk_drewN ?_ _ | refine blk_drew ?_ | refine blk_alloc ?_ _)); refine blk_put (cs := #[.int .i64 ((rd_T32 ((rd_T35 l0 a1).f0) a2).f0), .int .i64 ((rd_T32 ((rd_T35 l0 a1).f0) a2).f1.f0), .int .i64 ((rd_T32 ((rd_T35 l0 a1).f0) a2).f1.f1), .int .i64 0, .int .i64 0]) ?_ 3 _ rfl; (with_reducible repeat (first | refine blk_drewN ?_ _ | refine blk_drew ?_ | refine blk_alloc ?_ _)); refine blk_put (cs := #[.int .i64 ((rd_T32 ((rd_T35 l0 a1).f0) a2).f0), .int .i64 ((rd_T32 ((rd_T35 l0 a1).f0) a2).f1.f0), .int .i64 0, .int .i64 0, .int .i64 0]) ?_ 2 _ rfl; (with_reducible repeat (first | refine blk_drewN ?_ _ | refine blk_drew ?_ | refine blk_alloc ?_ _)); refine blk_put (cs := #[.int .i64 ((rd_T32 ((rd_T35 l0 a1).f0) a2).f0), .int .i64 0, .int .i64 0, .int .i64 0, .int .i64 0]) ?_ 1 _ rfl; (with_reducible repeat (first | refine blk_drewN ?_ _ | refine blk_drew ?_ | refine blk_alloc ?_ _)); refine blk_put (cs := #[.int .i64 0, .int .i64 0, .int .i64 0, .int .i64 0, .int .i64 0]) ?_ 0 _ rfl; (with_reducible repeat (first | refine blk_drewN ?_ _ | refine blk_drew ?_ | refine blk_alloc ?_ _)); exact BK420.out) hb); replace HB := am (below_step (bg1 HB.out GE420.out) hb); (try clear hb); (try clear hb2); (try clear hk); (try clear hi)) | (refine bx 8 #[.int .i64 0, .int .i64 0, .int .i64 0, .int .i64 0] 30 rfl ?_; intro gb426 hg w32 hbox hb; have BK426 := am (hbox); have GW426 := am ((by rw [hg]; exact (below_size (bg1 HB.out GE420.out)) : w.heap.size ≤ gb426)); have GE426 := GW426; replace HB := am (below_step (bg1 HB.out GE420.out) hb); have NB420_426 := am ((by rw [hg]; exact Nat.ne_of_lt (blk_lt (pb BK420.out)) : gb420 ≠ gb426)); have NB426_420 := am (Ne.symm NB420_426.out); replace BK420 := am (blk_below (pb BK420.out) hb); clear hb hbox hg; have hnb33 := NB426_420.out; have hnc33 := NB420_426.out; obtain ⟨hcz34_0, hcz34_1, hcz34_2, hcz34_3⟩ := b4 BK426.out; obtain ⟨hfz34_0, hfz34_1, hfz34_2, hfz34_3⟩ := f4 BK426.out))
     go_ret
     exact (rq (bg2 HB.out GE420.out GE426.out))
   subst c21
   have H1 : (some (t421 == ((rd_T32 ((rd_T35 l0 a1).f0) a2).f1.f0) && (t422 == ((rd_T32 ((rd_T35 l0 a1).f0) a2).f1.f1) && (t423 == ((rd_T32 ((rd_T35 l0 a1).f0) a2).f1.f2) && (t424 == ((rd_T32 ((rd_T35 l0 a1).f0) a2).f1.f3)))))) = some r := by rw [if_pos rfl] at H; exact H
   clear H
   have H := H1
   clear H1
   obtain rfl := Option.some.inj H
   have p418 : 0 ≤ (a1 : Int) := ofb
   have q418 : a1 < (l0.length : Int) := ofb
   obtain ⟨ad418, A418_0, c418_0, e418, hx418_0, hx418_1, hl418_0, hi418_0⟩ := at_T35 HR0.out a1 p418 q418
   cases e418
   replace hx418_0 := up HB.out hx418_0
   replace hx418_1 := up HB.out hx418_1
   have HR418_0 := am hi418_0
   have HC418_0 := am hl418_0
   clear hi418_0 hl418_0
   replace p418 := eq_true p418
   replace q418 := eq_true q418
   have p419 : 0 ≤ (a2 : Int) := ofb
   have q419 : a2 < (((rd_T35 l0 a1).f0).length : Int) := ofb
   obtain ⟨ad419, e419, hx419_0, hx419_1, hx419_2, hx419_3, hx419_4⟩ := at_T32 HR418_0.out a2 p419 q419
   cases e419
   replace hx419_0 := up HB.out hx419_0
   replace hx419_1 := up HB.out hx419_1
   replace hx419_2 := up HB.out hx419_2
   replace hx419_3 := up HB.out hx419_3
   replace hx419_4 := up HB.out hx419_4
   replace p419 := eq_true p419
   replace q419 := eq_true q419
   go_wp2_with (first | (refine bx 7 #[.int .i64 0, .int .i64 0, .int .i64 0, .int .i64 0, .int .i64 0] 32 rfl ?_; intro gb420 hg w22 hbox hb; have BK420 := am (hbox); have GW420 := am ((by rw [hg]; exact (below_size (ph HB.out)) : w.heap.size ≤ gb420)); have GE420 := GW420; replace HB := am (below_step (ph HB.out) hb); clear hb hbox hg; obtain ⟨hcz23_0, hcz23_1, hcz23_2, hcz23_3, hcz23_4⟩ := b5 BK420.out; obtain ⟨hfz23_0, hfz23_1, hfz23_2, hfz23_3, hfz23_4⟩ := f5 BK420.out) | (refine gl 42 Try.func8 #[.slice (some ad418) l0.length c0, .int .i64 ((rd_T32 ((rd_T35 l0 a1).f0) a2).f1.f2)] rfl ?_; (with_reducible refine (impl_FindLast.calls _ _ l0 ((rd_T32 ((rd_T35 l0 a1).f0) a2).f1.f2) t421 t422 t423 t424 true _ ?side1 ?side2 A20.out).mono ?_); (case side1 => exact Kd.C_below HR0.out (bg1 HB.out GE420.out)); (case side2 => exact HC0.out); rintro e w24 ⟨rfl, hb⟩; refine ⟨_, rfl, ?_⟩; replace BK420 := am (blk_below (g := gb420) (o := .cells #[.int .i64 ((rd_T32 ((rd_T35 l0 a1).f0) a2).f0), .int .i64 ((rd_T32 ((rd_T35 l0 a1).f0) a2).f1.f0), .int .i64 ((rd_T32 ((rd_T35 l0 a1).f0) a2).f1.f1), .int .i64 ((rd_T32 ((rd_T35 l0 a1).f0) a2).f1.f2), .int .i64 ((rd_T32 ((rd_T35 l0 a1).f0) a2).f1.f3)] 32 (0, 0)) (by (with_reducible repeat (first | refine blk_drewN ?_ _ | refine blk_drew ?_ | refine blk_alloc ?_ _)); refine blk_put (cs := #[.int .i64 ((rd_T32 ((rd_T35 l0 a1).f0) a2).f0), .int .i64 ((rd_T32 ((rd_T35 l0 a1).f0) a2).f1.f0), .int .i64 ((rd_T32 ((rd_T35 l0 a1).f0) a2).f1.f1), .int .i64 ((rd_T32 ((rd_T35 l0 a1).f0) a2).f1.f2), .int .i64 0]) ?_ 4 _ rfl; (with_reducible repeat (first | refine blk_drewN ?_ _ | refine blk_drew ?_ | refine blk_alloc ?_ _)); refine blk_put (cs := #[.int .i64 ((rd_T32 ((rd_T35 l0 a1).f0) a2).f0), .int .i64 ((rd_T32 ((rd_T35 l0 a1).f0) a2).f1.f0), .int .i64 ((rd_T32 ((rd_T35 l0 a1).f0) a2).f1.f1), .int .i64 0, .int .i64 0]) ?_ 3 _ rfl; (with_reducible repeat (first | refine blk_drewN ?_ _ | refine blk_drew ?_ | refine blk_alloc ?_ _)); refine blk_put (cs := #[.int .i64 ((rd_T32 ((rd_T35 l0 a1).f0) a2).f0), .int .i64 ((rd_T32 ((rd_T35 l0 a1).f0) a2).f1.f0), .int .i64 0, .int .i64 0, .int .i64 0]) ?_ 2 _ rfl; (with_reducible repeat (first | refine blk_drewN ?_ _ | refine blk_drew ?_ | refine blk_alloc ?_ _)); refine blk_put (cs := #[.int .i64 ((rd_T32 ((rd_T35 l0 a1).f0) a2).f0), .int .i64 0, .int .i64 0, .int .i64 0, .int .i64 0]) ?_ 1 _ rfl; (with_reducible repeat (first | refine blk_drewN ?_ _ | refine blk_drew ?_ | refine blk_alloc ?_ _)); refine blk_put (cs := #[.int .i64 0, .int .i64 0, .int .i64 0, .int .i64 0, .int .i64 0]) ?_ 0 _ rfl; (with_reducible repeat (first | refine blk_drewN ?_ _ | refine blk_drew ?_ | refine blk_alloc ?_ _)); exact BK420.out) hb); replace HB := am (below_step (bg1 HB.out GE420.out) hb); (try clear hb); (try clear hb2); (try clear hk); (try clear hi)) | (refine bx 8 #[.int .i64 0, .int .i64 0, .int .i64 0, .int .i64 0] 30 rfl ?_; intro gb426 hg w25 hbox hb; have BK426 := am (hbox); have GW426 := am ((by rw [hg]; exact (below_size (bg1 HB.out GE420.out)) : w.heap.size ≤ gb426)); have GE426 := GW426; replace HB := am (below_step (bg1 HB.out GE420.out) hb); have NB420_426 := am ((by rw [hg]; exact Nat.ne_of_lt (blk_lt (pb BK420.out)) : gb420 ≠ gb426)); have NB426_420 := am (Ne.symm NB420_426.out); replace BK420 := am (blk_below (pb BK420.out) hb); clear hb hbox hg; have hnb26 := NB426_420.out; have hnc26 := NB420_426.out; obtain ⟨hcz27_0, hcz27_1, hcz27_2, hcz27_3⟩ := b4 BK426.out; obtain ⟨hfz27_0, hfz27_1, hfz27_2, hfz27_3⟩ := f4 BK426.out; have hcz28_0 : w25.cell? ⟨gb420, 0, none⟩ = some (.int .i64 ((rd_T32 ((rd_T35 l0 a1).f0) a2).f0)) := (blk_cell BK420.out 0).trans rfl; have hcz28_1 : w25.cell? ⟨gb420, 1, none⟩ = some (.int .i64 ((rd_T32 ((rd_T35 l0 a1).f0) a2).f1.f0)) := (blk_cell BK420.out 1).trans rfl; have hcz28_2 : w25.cell? ⟨gb420, 2, none⟩ = some (.int .i64 ((rd_T32 ((rd_T35 l0 a1).f0) a2).f1.f1)) := (blk_cell BK420.out 2).trans rfl; have hcz28_3 : w25.cell? ⟨gb420, 3, none⟩ = some (.int .i64 ((rd_T32 ((rd_T35 l0 a1).f0) a2).f1.f2)) := (blk_cell BK420.out 3).trans rfl; have hcz28_4 : w25.cell? ⟨gb420, 4, none⟩ = some (.int .i64 ((rd_T32 ((rd_T35 l0 a1).f0) a2).f1.f3)) := (blk_cell BK420.out 4).trans rfl; obtain ⟨hfz28_0, hfz28_1, hfz28_2, hfz28_3, hfz28_4⟩ := f5 BK420.out))
   go_ret
   exact (rq (bg2 HB.out GE420.out GE426.out))
end Go.Proofs.Ytcanhdofmbekeaa.Rp
