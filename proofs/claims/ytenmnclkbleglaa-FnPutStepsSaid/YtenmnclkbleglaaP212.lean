-- printed by wip/pp/pp.py
import Derived.Test.YtenmnclkbleglaaP20
import Derived.Test.YtenmnclkbleglaaP211
import Derived.Test.YtenmnclkbleglaaWMap
import Derived.Maps.OwnOps
import Derived.Maps.Own
import Derived.IntWalk
import Derived.WalkArith
import Derived.RangeFuncNested
import Derived.RangeFuncBound
import Derived.RangeFuncCalls
import Derived.RangeFuncLeaves
import Derived.Shelf.Abstract
import Derived.WalkKit
import Derived.OwnWalkIn
import Derived.TacticsInMore
import Derived.LoopNIn
import Derived.LoopIn
import Derived.Test.YtenmnclkbleglaaP21
namespace Go.Proofs.Ytenmnclkbleglaa.P2
set_option maxHeartbeats 8000000
set_option maxRecDepth 100000
open Go.RowKit Go.Proofs.YtenmnclkbleglaaW.PrintWords Go.Proofs.YtenmnclkbleglaaW.PrintLast Go.Proofs.YtenmnclkbleglaaW.PrintMore
attribute [local go_sem] max2_int min2_int max_two min_two max_three min_three max_four min_four
set_option linter.unusedVariables false
set_option linter.unusedSimpArgs false
theorem drop_T39 {l : List S39} {i : Nat} (h : i < l.length) : l.drop i = rd_T39 l (i : Int) :: l.drop (i + 1) := by
 rw [List.drop_eq_getElem_cons h]
 simp [rd_T39, List.getD_eq_getElem?_getD, h]
theorem drop_T42 {l : List S42} {i : Nat} (h : i < l.length) : l.drop i = rd_T42 l (i : Int) :: l.drop (i + 1) := by
 rw [List.drop_eq_getElem_cons h]
 simp [rd_T42, List.getD_eq_getElem?_getD, h]
theorem shape_loop (l : List S39) (hl : l.length ≤ maxLen) : ∀ (n i : Nat) (free : Bool), i + n = l.length → impl_blockShape.l0 (n + 1) free l (l.length : Int) (i : Int) = some (shapeB (l.drop i) free)
 | 0, i, free, h => by
  rw [impl_blockShape.l0, if_neg (by omega), List.drop_eq_nil_of_le (by omega)]
  rfl
 | n + 1, i, free, h => by
  have hw : wrap64 ((i : Int) + 1) = ((i + 1 : Nat) : Int) := by
   simp only [maxLen] at hl
   rw [IntWalk.wrap64_in _ (by omega)]
   omega
  rw [impl_blockShape.l0, if_pos (by omega), if_pos (by omega), if_pos (by omega), drop_T39 (by omega), shapeB, hw]
  have ih := fun f => shape_loop l hl n (i + 1) f (by omega)
  by_cases hf : free = true
  rotate_left
  · rw [if_neg hf, if_neg (fun h => hf h.1)]
    exact ih _
  by_cases hs : (rd_T39 l (i : Int)).f0 = 0
  rotate_left
  · rw [if_pos hf, if_neg hs, if_pos ⟨hf, hs⟩]
  rw [if_pos hf, if_pos hs, if_neg (by simp [hs])]
  exact ih _
theorem blockShape_ok (b : S42) (hl : b.f0.length ≤ maxLen) : ∃ k, impl_blockShape.f k b.f0 b.f1 = some (blockB b) := by
 refine ⟨b.f0.length + 2, ?_⟩
 have key := shape_loop b.f0 hl b.f0.length 0 false (by omega)
 unfold impl_blockShape.f blockB
 by_cases h1 : (b.f0.length : Int) = 4
 rotate_left
 · rw [if_neg h1, impl_blockShape.j0, if_pos rfl]
   simp [h1]
 rw [if_pos h1]
 by_cases h2 : b.f1 < 0
 · rw [if_pos h2, impl_blockShape.j0, if_pos rfl]
   simp
   intro _ h
   omega
 rw [if_neg h2]
 by_cases h3 : b.f1 > 200
 · rw [decide_eq_true h3, impl_blockShape.j0, if_pos rfl]
   simp
   intro _ _ h
   omega
 rw [decide_eq_false h3, impl_blockShape.j0, if_neg (by simp)]
 have : decide ((b.f0.length : Int) = 4 ∧ 0 ≤ b.f1 ∧ b.f1 ≤ 200) = true := decide_eq_true ⟨h1, by omega, by omega⟩
 rw [this, Bool.true_and]
 exact key
theorem pageShape_ok (p : S39) : impl_pageShape.f p.f0 p.f1.f0 p.f1.f1 p.f1.f2 p.f1.f3 = some (pageB p) := by
 unfold impl_pageShape.f pageB impl_RecOk.f
 by_cases h1 : p.f0 = 1
 · rw [if_pos h1, if_pos h1]
   rfl
 rw [if_neg h1, if_neg h1]
 by_cases h2 : p.f0 = 0
 · rw [if_pos h2, if_pos (Or.inl h2)]
 by_cases h3 : p.f0 = 2
 rotate_left
 · rw [if_neg h2, if_neg h3, if_neg (by omega)]
 rw [if_neg h2, if_pos h3, if_pos (Or.inr h3)]
def impl_FlashOk.f (l0 : List (S42)) : Option (Bool) := some (flashOkB l0)
theorem impl_FlashOk.calls (A0 : Option Addr) (c0 : Nat) (l0 : List (S42)) (r : Bool) (w : World) (hr0 : Kd.C k42 w A0 l0.length l0) (hc0 : l0.length ≤ c0) (h : impl_FlashOk.f l0 = some r) :
 Calls Try.prog 18 #[.slice A0 l0.length c0] w fun e w' => e = .returned (.bool r) ∧ Below w.heap.size w w' := by
 have hu42 := Try.underlying42
 have hu39 := Try.underlying39
 have hu32 := Try.underlying32
 obtain rfl : r = flashOkB l0 := (Option.some.inj h).symm
 clear h
 by_cases c : (l0.length : Int) = 4
 rotate_left
 · have cb : ((l0.length : Int) != 4) = true := by simp [c]
   go_enter Try.func18, Try.ntmps18
   go_wp2
   go_ret
   exact ⟨by simp [flashOkB, c], Below.refl _ _⟩
 have cb : ((l0.length : Int) != 4) = false := by simp [c]
 have HE : Aside0 (flashOkB l0 = blocksB l0 []) := ⟨by unfold flashOkB; rw [decide_eq_true c, Bool.true_and]⟩
 have C := am c
 clear c
 have hmm := @run_makeMap Try.prog
 go_enter Try.func18, Try.ntmps18
 go_wp2
 have HS := am (Go.Proofs.YtenmnclkbleglaaW.SeenIs.made (P := Try.prog) (K := 3) (E := 3) w)
 have HB : Aside0 (Below w.heap.size w (w.alloc (.map #[] 0))) := ⟨below_alloc (Below.refl _ _) _⟩
 generalize hB : w.heap.size = B at HS
 have HBB := am hB
 clear hB
 generalize w.alloc (.map #[] 0) = w1 at HS HB ⊢
 go_loopg [14, 5, 7] (l0.length + 1) (fun kq v14 v5 v7 w' => ∃ (i : Nat) (S : List Int), v14 = .int .i64 (i : Int) ∧ Aside0 (kq + i = l0.length + 1) ∧ Aside0 (i ≤ l0.length) ∧ Aside0 (blocksB (l0.drop i) S = blocksB l0 []) ∧ Aside0 (S.length ≤ 4 * i) ∧ Aside0 (Go.Proofs.YtenmnclkbleglaaW.SeenIs Try.prog 3 3 w' B S.length S) ∧ Aside0 (Below w.heap.size w w'))
 case atStart => exact ⟨0, [], rfl, ⟨rfl⟩, ⟨Nat.zero_le _⟩, ⟨by simp⟩, ⟨by simp⟩, HS, HB⟩
 case round =>
  clear HS HB
  obtain ⟨i, S, rfl, HK, HI, HP, HN, HS, HB⟩ := hrel
  obtain ⟨k1, rfl⟩ : ∃ k, gk = k + 1 := by
   have hsz : (l0.length : Int) = 4 := C.out
   have := HK.out
   have := HI.out
   exact ⟨gk - 1, by omega⟩
  have hsz : (l0.length : Int) = 4 := C.out
  have hw14 : wrap64 ((i : Int) + 1) = ((i + 1 : Nat) : Int) := by have := HI.out; rw [IntWalk.wrap64_in _ (by omega)]; omega
  by_cases ci : i < l0.length
  rotate_left
  · have cib : decide ((i : Int) < (l0.length : Int)) = false := decide_eq_false (by omega)
    have HP2 := HP.out
    rw [List.drop_eq_nil_of_le (by omega), blocksB] at HP2
    have HF : Aside0 (flashOkB l0 = true) := ⟨by rw [HE.out]; exact HP2.symm⟩
    have ci2 : ¬ ((i : Int) < (l0.length : Int)) := by omega
    clear hsz HP2
    go_wp2
    go_ret
    exact ⟨by rw [HF.out]; rfl, HB.out⟩
  have cib : decide ((i : Int) < (l0.length : Int)) = true := decide_eq_true (by omega)
  have p1 : 0 ≤ (i : Int) := by omega
  have q1 : (i : Int) < (l0.length : Int) := by omega
  obtain ⟨ad1, A1, c1, e1, hx1_0, hx1_1, hl1, hi1⟩ := at_T42 hr0 (i : Int) p1 q1
  cases e1
  have hlm1 : (rd_T42 l0 (i : Int)).f0.length ≤ maxLen := Kd.C_max hi1
  replace hx1_0 := up HB.out hx1_0
  replace hx1_1 := up HB.out hx1_1
  simp only [Int.toNat_natCast] at hx1_0 hx1_1
  obtain ⟨kb, hkb⟩ := blockShape_ok (rd_T42 l0 (i : Int)) hlm1
  replace hkb := am hkb
  have HP2 := HP.out
  rw [drop_T42 ci, blocksB] at HP2
  cases hbb : blockB (rd_T42 l0 (i : Int)) with
  | false =>
   rw [hbb] at hkb
   rw [hbb, Bool.false_and] at HP2
   have HF : Aside0 (flashOkB l0 = false) := ⟨by rw [HE.out]; exact HP2.symm⟩
   replace hi1 := am hi1
   replace p1 := eq_true p1
   replace q1 := eq_true q1
   clear hsz ci HP2 hbb
   go_wp2_with (first | (refine bx 5 #[.slice none 0 0, .int .i64 0] 42 rfl ?_; intro g1 hg w6 hbox hb; have n0_ := am (below_step HB.out hb); have n1_ := am hbox; have GE1 := am ((by rw [hg]; exact below_size HB.out) : w.heap.size ≤ g1); have NE1 := am ((by rw [hg]; exact Nat.ne_of_lt HS.out.lt) : B ≠ g1); have n2_ := am (HS.out.below hb); clear HB HS; have HB := n0_; have BK1 := n1_; have HS := n2_; clear n0_ n1_ n2_; obtain ⟨hczg1_0, hczg1_1⟩ := b2 hbox; obtain ⟨hfzg1_0, hfzg1_1⟩ := f2 hbox; clear hb hbox hg) | ((with_reducible refine gate_callee (f := 40) rfl ?_); refine goesL_ (some 19) rfl rfl Try.func40 (by kernel_rfl) rfl #[.agg #[.slice A1 (rd_T42 l0 (i : Int)).f0.length c1, .int .i64 (rd_T42 l0 (i : Int)).f1]] rfl (by (try simp only [List.map_toArray, List.map_cons, List.map_nil]); first | done | rfl) ?_; (with_reducible refine (impl_blockShape.calls kb _ _ _ _ _ _ ?side1 ?side2 hkb.out).mono ?_); (case side1 => exact Kd.C_below hi1.out (bg1 HB.out GE1.out)); (case side2 => exact hl1); rintro e w2 ⟨rfl, hb⟩; refine ⟨_, rfl, ?_⟩; have n0_ := am (below_step (bg1 HB.out GE1.out) hb); have n1_ := am (blk_below (blk_put (cs := #[.slice A1 (rd_T42 l0 (i : Int)).f0.length c1, .int .i64 0]) (blk_put (cs := #[.slice none 0 0, .int .i64 0]) BK1.out 0 _ rfl) 1 _ rfl) hb); have n2_ := am (((HS.out.far (p := ⟨g1, 0, none⟩) NE1.out _).far (p := ⟨g1, 1, none⟩) NE1.out _).below hb); clear HB BK1 HS; have HB := n0_; have BK1 := n1_; have HS := n2_; clear n0_ n1_ n2_; clear hb hczg1_0 hczg1_1 hfzg1_0 hfzg1_1; have hy1_0 := (blk_cell BK1.out 0).trans rfl; have hy1_1 := (blk_cell BK1.out 1).trans rfl))
   go_ret
   exact ⟨by rw [HF.out]; rfl, HB.out⟩
  | true =>
   rw [hbb] at hkb
   rw [hbb, Bool.true_and] at HP2
   replace HP2 := am HP2
   have hbl : (rd_T42 l0 (i : Int)).f0.length = 4 := by
    unfold blockB at hbb
    simp only [Bool.and_eq_true, decide_eq_true_eq] at hbb
    omega
   replace hbl := am hbl
   replace hi1 := am hi1
   replace p1 := eq_true p1
   replace q1 := eq_true q1
   have CI := am ci
   clear hsz ci hbb
   go_wp2_with (first | (refine bx 5 #[.slice none 0 0, .int .i64 0] 42 rfl ?_; intro g1 hg w6 hbox hb; have n0_ := am (below_step HB.out hb); have n1_ := am hbox; have GE1 := am ((by rw [hg]; exact below_size HB.out) : w.heap.size ≤ g1); have NE1 := am ((by rw [hg]; exact Nat.ne_of_lt HS.out.lt) : B ≠ g1); have n2_ := am (HS.out.below hb); clear HB HS; have HB := n0_; have BK1 := n1_; have HS := n2_; clear n0_ n1_ n2_; obtain ⟨hczg1_0, hczg1_1⟩ := b2 hbox; obtain ⟨hfzg1_0, hfzg1_1⟩ := f2 hbox; clear hb hbox hg) | ((with_reducible refine gate_callee (f := 40) rfl ?_); refine goesL_ (some 19) rfl rfl Try.func40 (by kernel_rfl) rfl #[.agg #[.slice A1 (rd_T42 l0 (i : Int)).f0.length c1, .int .i64 (rd_T42 l0 (i : Int)).f1]] rfl (by (try simp only [List.map_toArray, List.map_cons, List.map_nil]); first | done | rfl) ?_; (with_reducible refine (impl_blockShape.calls kb _ _ _ _ _ _ ?side1 ?side2 hkb.out).mono ?_); (case side1 => exact Kd.C_below hi1.out (bg1 HB.out GE1.out)); (case side2 => exact hl1); rintro e w2 ⟨rfl, hb⟩; refine ⟨_, rfl, ?_⟩; have n0_ := am (below_step (bg1 HB.out GE1.out) hb); have n1_ := am (blk_below (blk_put (cs := #[.slice A1 (rd_T42 l0 (i : Int)).f0.length c1, .int .i64 0]) (blk_put (cs := #[.slice none 0 0, .int .i64 0]) BK1.out 0 _ rfl) 1 _ rfl) hb); have n2_ := am (((HS.out.far (p := ⟨g1, 0, none⟩) NE1.out _).far (p := ⟨g1, 1, none⟩) NE1.out _).below hb); clear HB BK1 HS; have HB := n0_; have BK1 := n1_; have HS := n2_; clear n0_ n1_ n2_; clear hb hczg1_0 hczg1_1 hfzg1_0 hfzg1_1; have hy1_0 := (blk_cell BK1.out 0).trans rfl; have hy1_1 := (blk_cell BK1.out 1).trans rfl))
   have NB1 : Aside0 (some g1 ≠ some B) := ⟨fun e => NE1.out (by injection e with e; exact e.symm)⟩
   go_loopg [24, 7] ((rd_T42 l0 (i : Int)).f0.length + 1) (fun kq v24 v7 w' => ∃ (j : Nat) (S2 : List Int), v24 = .int .i64 (j : Int) ∧ Aside0 (kq + j = (rd_T42 l0 (i : Int)).f0.length + 1) ∧ Aside0 (j ≤ (rd_T42 l0 (i : Int)).f0.length) ∧ Aside0 (pagesB ((rd_T42 l0 (i : Int)).f0.drop j) S2 = pagesB (rd_T42 l0 (i : Int)).f0 S) ∧ Aside0 (S2.length ≤ 4 * i + j) ∧ Aside0 (Go.Proofs.YtenmnclkbleglaaW.SeenIs Try.prog 3 3 w' B S2.length S2) ∧ Aside0 (w'.heap[g1]? = some (.cells #[.slice A1 (rd_T42 l0 (i : Int)).f0.length c1, .int .i64 (rd_T42 l0 (i : Int)).f1] 42 (0, 0))) ∧ Aside0 (Below w.heap.size w w'))
   case atStart => exact ⟨0, S, rfl, ⟨rfl⟩, ⟨Nat.zero_le _⟩, ⟨by simp⟩, ⟨by have := HN.out; omega⟩, HS, BK1, HB⟩
   case round =>
    clear HS HB BK1 hy1_0 hy1_1
    obtain ⟨j, S2, rfl, HK2, HJ, HQ, HM, HS, BK1, HB⟩ := hrel
    have hbl' := hbl.out
    have hii : i < l0.length := CI.out
    have hsz : (l0.length : Int) = 4 := C.out
    obtain ⟨k2, rfl⟩ : ∃ k, gk = k + 1 := by
     have := HK2.out
     have := HJ.out
     exact ⟨gk - 1, by omega⟩
    by_cases cj : j < (rd_T42 l0 (i : Int)).f0.length
    rotate_left
    · have cjb : decide ((j : Int) < ((rd_T42 l0 (i : Int)).f0.length : Int)) = false := decide_eq_false (by omega)
      have HQ2 := HQ.out
      rw [List.drop_eq_nil_of_le (by omega), pagesB] at HQ2
      have HP3 := HP2.out
      rw [← HQ2] at HP3
      have HP4 := am HP3
      have hjl : j = (rd_T42 l0 (i : Int)).f0.length := by have := HJ.out; omega
      have HN2 : Aside0 (S2.length ≤ 4 * (i + 1)) := ⟨by have := HM.out; omega⟩
      have cj2 : ¬ ((j : Int) < ((rd_T42 l0 (i : Int)).f0.length : Int)) := by omega
      clear hsz hii hbl' HQ2 HP3 hjl
      go_wp2
      go_roundg k1
      case measure => omega
      case rel => exact ⟨i + 1, S2, by first | rfl | (simp; done) | (simp [*]; done), ⟨by have := HK.out; omega⟩, ⟨CI.out⟩, HP4, HN2, HS, HB⟩
    have cjb : decide ((j : Int) < ((rd_T42 l0 (i : Int)).f0.length : Int)) = true := decide_eq_true (by omega)
    have p2 : 0 ≤ (j : Int) := by omega
    have q2 : (j : Int) < ((rd_T42 l0 (i : Int)).f0.length : Int) := by omega
    obtain ⟨ad2, e2, hx2_0, hx2_1, hx2_2, hx2_3, hx2_4⟩ := at_T39 hi1.out (j : Int) p2 q2
    cases e2
    replace hx2_0 := up HB.out hx2_0
    replace hx2_1 := up HB.out hx2_1
    replace hx2_2 := up HB.out hx2_2
    replace hx2_3 := up HB.out hx2_3
    replace hx2_4 := up HB.out hx2_4
    simp only [Int.toNat_natCast] at hx2_0 hx2_1 hx2_2 hx2_3 hx2_4
    have hkp := am (pageShape_ok (rd_T39 (rd_T42 l0 (i : Int)).f0 (j : Int)))
    have HQ2 := HQ.out
    rw [drop_T39 cj, pagesB] at HQ2
    have hw24 : wrap64 ((j : Int) + 1) = ((j + 1 : Nat) : Int) := by rw [IntWalk.wrap64_in _ (by omega)]; omega
    have hnm : Aside0 (S2.length < maxLen) := ⟨by have := HM.out; simp only [maxLen]; omega⟩
    replace p2 := eq_true p2
    replace q2 := eq_true q2
    have CJ := am cj
    clear hsz hii hbl' cj
    cases hpb : pageB (rd_T39 (rd_T42 l0 (i : Int)).f0 (j : Int)) with
    | false =>
     rw [hpb] at hkp
     rw [hpb, if_neg (by simp)] at HQ2
     have HF : Aside0 (flashOkB l0 = false) := ⟨by rw [HE.out, ← HP2.out, ← HQ2]⟩
     clear HQ2 hpb
     go_wp2_with (first | (refine bx 7 #[.int .i64 0, .int .i64 0, .int .i64 0, .int .i64 0, .int .i64 0] 39 rfl ?_; intro g2 hg w7 hbox hb; have n0_ := am (below_step HB.out hb); have n1_ := am hbox; have GE2 := am ((by rw [hg]; exact below_size HB.out) : w.heap.size ≤ g2); have NE2 := am ((by rw [hg]; exact Nat.ne_of_lt HS.out.lt) : B ≠ g2); have NG2 := am ((by rw [hg]; exact Nat.ne_of_lt (blk_lt BK1.out)) : g1 ≠ g2); have n2_ := am (HS.out.below hb); have n3_ := am (blk_below BK1.out hb); clear HB HS BK1; have HB := n0_; have BK2 := n1_; have HS := n2_; have BK1 := n3_; clear n0_ n1_ n2_ n3_; have hnz2_0 := NG2.out; obtain ⟨hczg2_0, hczg2_1, hczg2_2, hczg2_3, hczg2_4⟩ := b5 hbox; obtain ⟨hfzg2_0, hfzg2_1, hfzg2_2, hfzg2_3, hfzg2_4⟩ := f5 hbox; clear hb hbox hg) | ((with_reducible refine gate_callee (f := 41) rfl ?_); refine goesL_ (some 29) rfl rfl Try.func41 (by kernel_rfl) rfl #[.agg #[.int .i64 (rd_T39 (rd_T42 l0 (i : Int)).f0 (j : Int)).f0, .int .i64 (rd_T39 (rd_T42 l0 (i : Int)).f0 (j : Int)).f1.f0, .int .i64 (rd_T39 (rd_T42 l0 (i : Int)).f0 (j : Int)).f1.f1, .int .i64 (rd_T39 (rd_T42 l0 (i : Int)).f0 (j : Int)).f1.f2, .int .i64 (rd_T39 (rd_T42 l0 (i : Int)).f0 (j : Int)).f1.f3]] rfl (by (try simp only [List.map_toArray, List.map_cons, List.map_nil]); first | done | rfl) ?_; (with_reducible refine (impl_pageShape.calls _ _ _ _ _ _ _ hkp.out).mono ?_); rintro e w3 ⟨rfl, hb⟩; refine ⟨_, rfl, ?_⟩; have n0_ := am (below_step (bg2 HB.out GE1.out GE2.out) hb); have n1_ := am (blk_below (blk_put (cs := #[.int .i64 (rd_T39 (rd_T42 l0 (i : Int)).f0 (j : Int)).f0, .int .i64 (rd_T39 (rd_T42 l0 (i : Int)).f0 (j : Int)).f1.f0, .int .i64 (rd_T39 (rd_T42 l0 (i : Int)).f0 (j : Int)).f1.f1, .int .i64 (rd_T39 (rd_T42 l0 (i : Int)).f0 (j : Int)).f1.f2, .int .i64 0]) (blk_put (cs := #[.int .i64 (rd_T39 (rd_T42 l0 (i : Int)).f0 (j : Int)).f0, .int .i64 (rd_T39 (rd_T42 l0 (i : Int)).f0 (j : Int)).f1.f0, .int .i64 (rd_T39 (rd_T42 l0 (i : Int)).f0 (j : Int)).f1.f1, .int .i64 0, .int .i64 0]) (blk_put (cs := #[.int .i64 (rd_T39 (rd_T42 l0 (i : Int)).f0 (j : Int)).f0, .int .i64 (rd_T39 (rd_T42 l0 (i : Int)).f0 (j : Int)).f1.f0, .int .i64 0, .int .i64 0, .int .i64 0]) (blk_put (cs := #[.int .i64 (rd_T39 (rd_T42 l0 (i : Int)).f0 (j : Int)).f0, .int .i64 0, .int .i64 0, .int .i64 0, .int .i64 0]) (blk_put (cs := #[.int .i64 0, .int .i64 0, .int .i64 0, .int .i64 0, .int .i64 0]) BK2.out 0 _ rfl) 1 _ rfl) 2 _ rfl) 3 _ rfl) 4 _ rfl) hb); have n2_ := am ((((((HS.out.far (p := ⟨g2, 0, none⟩) NE2.out _).far (p := ⟨g2, 1, none⟩) NE2.out _).far (p := ⟨g2, 2, none⟩) NE2.out _).far (p := ⟨g2, 3, none⟩) NE2.out _).far (p := ⟨g2, 4, none⟩) NE2.out _).below hb); have n3_ := am (blk_below (blk_far (blk_far (blk_far (blk_far (blk_far BK1.out (p := ⟨g2, 0, none⟩) NG2.out _) (p := ⟨g2, 1, none⟩) NG2.out _) (p := ⟨g2, 2, none⟩) NG2.out _) (p := ⟨g2, 3, none⟩) NG2.out _) (p := ⟨g2, 4, none⟩) NG2.out _) hb); clear HB BK1 BK2 HS; have HB := n0_; have BK2 := n1_; have HS := n2_; have BK1 := n3_; clear n0_ n1_ n2_ n3_; clear hb hczg2_0 hfzg2_0 hczg2_1 hfzg2_1 hczg2_2 hfzg2_2 hczg2_3 hfzg2_3 hczg2_4 hfzg2_4; have hy2_0 := (blk_cell BK2.out 0).trans rfl; have hy2_1 := (blk_cell BK2.out 1).trans rfl; have hy2_2 := (blk_cell BK2.out 2).trans rfl; have hy2_3 := (blk_cell BK2.out 3).trans rfl; have hy2_4 := (blk_cell BK2.out 4).trans rfl))
     go_ret
     exact ⟨by rw [HF.out]; rfl, HB.out⟩
    | true =>
     rw [hpb] at hkp
     rw [hpb, if_pos rfl] at HQ2
     by_cases cs : (rd_T39 (rd_T42 l0 (i : Int)).f0 (j : Int)).f0 = 1
     rotate_left
     · have cs0 : ((rd_T39 (rd_T42 l0 (i : Int)).f0 (j : Int)).f0 == 1) = false := beq_eq_false_iff_ne.mpr cs
       have cs1 : ((rd_T39 (rd_T42 l0 (i : Int)).f0 (j : Int)).f0 != 1) = true := bne_iff_ne.mpr cs
       rw [if_neg cs] at HQ2
       have HQ3 := am HQ2
       clear HQ2 hpb cs
       go_wp2_with (first | (refine bx 7 #[.int .i64 0, .int .i64 0, .int .i64 0, .int .i64 0, .int .i64 0] 39 rfl ?_; intro g2 hg w7 hbox hb; have n0_ := am (below_step HB.out hb); have n1_ := am hbox; have GE2 := am ((by rw [hg]; exact below_size HB.out) : w.heap.size ≤ g2); have NE2 := am ((by rw [hg]; exact Nat.ne_of_lt HS.out.lt) : B ≠ g2); have NG2 := am ((by rw [hg]; exact Nat.ne_of_lt (blk_lt BK1.out)) : g1 ≠ g2); have n2_ := am (HS.out.below hb); have n3_ := am (blk_below BK1.out hb); clear HB HS BK1; have HB := n0_; have BK2 := n1_; have HS := n2_; have BK1 := n3_; clear n0_ n1_ n2_ n3_; have hnz2_0 := NG2.out; obtain ⟨hczg2_0, hczg2_1, hczg2_2, hczg2_3, hczg2_4⟩ := b5 hbox; obtain ⟨hfzg2_0, hfzg2_1, hfzg2_2, hfzg2_3, hfzg2_4⟩ := f5 hbox; clear hb hbox hg) | ((with_reducible refine gate_callee (f := 41) rfl ?_); refine goesL_ (some 29) rfl rfl Try.func41 (by kernel_rfl) rfl #[.agg #[.int .i64 (rd_T39 (rd_T42 l0 (i : Int)).f0 (j : Int)).f0, .int .i64 (rd_T39 (rd_T42 l0 (i : Int)).f0 (j : Int)).f1.f0, .int .i64 (rd_T39 (rd_T42 l0 (i : Int)).f0 (j : Int)).f1.f1, .int .i64 (rd_T39 (rd_T42 l0 (i : Int)).f0 (j : Int)).f1.f2, .int .i64 (rd_T39 (rd_T42 l0 (i : Int)).f0 (j : Int)).f1.f3]] rfl (by (try simp only [List.map_toArray, List.map_cons, List.map_nil]); first | done | rfl) ?_; (with_reducible refine (impl_pageShape.calls _ _ _ _ _ _ _ hkp.out).mono ?_); rintro e w3 ⟨rfl, hb⟩; refine ⟨_, rfl, ?_⟩; have n0_ := am (below_step (bg2 HB.out GE1.out GE2.out) hb); have n1_ := am (blk_below (blk_put (cs := #[.int .i64 (rd_T39 (rd_T42 l0 (i : Int)).f0 (j : Int)).f0, .int .i64 (rd_T39 (rd_T42 l0 (i : Int)).f0 (j : Int)).f1.f0, .int .i64 (rd_T39 (rd_T42 l0 (i : Int)).f0 (j : Int)).f1.f1, .int .i64 (rd_T39 (rd_T42 l0 (i : Int)).f0 (j : Int)).f1.f2, .int .i64 0]) (blk_put (cs := #[.int .i64 (rd_T39 (rd_T42 l0 (i : Int)).f0 (j : Int)).f0, .int .i64 (rd_T39 (rd_T42 l0 (i : Int)).f0 (j : Int)).f1.f0, .int .i64 (rd_T39 (rd_T42 l0 (i : Int)).f0 (j : Int)).f1.f1, .int .i64 0, .int .i64 0]) (blk_put (cs := #[.int .i64 (rd_T39 (rd_T42 l0 (i : Int)).f0 (j : Int)).f0, .int .i64 (rd_T39 (rd_T42 l0 (i : Int)).f0 (j : Int)).f1.f0, .int .i64 0, .int .i64 0, .int .i64 0]) (blk_put (cs := #[.int .i64 (rd_T39 (rd_T42 l0 (i : Int)).f0 (j : Int)).f0, .int .i64 0, .int .i64 0, .int .i64 0, .int .i64 0]) (blk_put (cs := #[.int .i64 0, .int .i64 0, .int .i64 0, .int .i64 0, .int .i64 0]) BK2.out 0 _ rfl) 1 _ rfl) 2 _ rfl) 3 _ rfl) 4 _ rfl) hb); have n2_ := am ((((((HS.out.far (p := ⟨g2, 0, none⟩) NE2.out _).far (p := ⟨g2, 1, none⟩) NE2.out _).far (p := ⟨g2, 2, none⟩) NE2.out _).far (p := ⟨g2, 3, none⟩) NE2.out _).far (p := ⟨g2, 4, none⟩) NE2.out _).below hb); have n3_ := am (blk_below (blk_far (blk_far (blk_far (blk_far (blk_far BK1.out (p := ⟨g2, 0, none⟩) NG2.out _) (p := ⟨g2, 1, none⟩) NG2.out _) (p := ⟨g2, 2, none⟩) NG2.out _) (p := ⟨g2, 3, none⟩) NG2.out _) (p := ⟨g2, 4, none⟩) NG2.out _) hb); clear HB BK1 BK2 HS; have HB := n0_; have BK2 := n1_; have HS := n2_; have BK1 := n3_; clear n0_ n1_ n2_ n3_; clear hb hczg2_0 hfzg2_0 hczg2_1 hfzg2_1 hczg2_2 hfzg2_2 hczg2_3 hfzg2_3 hczg2_4 hfzg2_4; have hy2_0 := (blk_cell BK2.out 0).trans rfl; have hy2_1 := (blk_cell BK2.out 1).trans rfl; have hy2_2 := (blk_cell BK2.out 2).trans rfl; have hy2_3 := (blk_cell BK2.out 3).trans rfl; have hy2_4 := (blk_cell BK2.out 4).trans rfl))
       go_roundg k2
       case measure => omega
       case rel => exact ⟨j + 1, S2, by first | rfl | (simp; done) | (simp [*]; done), ⟨by have := HK2.out; omega⟩, ⟨CJ.out⟩, HQ3, ⟨by have := HM.out; omega⟩, HS, BK1, HB⟩
     have cs0 : ((rd_T39 (rd_T42 l0 (i : Int)).f0 (j : Int)).f0 == 1) = true := beq_iff_eq.mpr cs
     have cs1 : ((rd_T39 (rd_T42 l0 (i : Int)).f0 (j : Int)).f0 != 1) = false := bne_eq_false_iff_eq.mpr cs
     have hwf : Aside0 ((Lit.int .i64 (rd_T39 (rd_T42 l0 (i : Int)).f0 (j : Int)).f1.f1).wf = true) := ⟨by
      unfold pageB at hpb
      rw [if_pos cs] at hpb
      simp only [recOkB, decide_eq_true_eq] at hpb
      exact WalkArith.wf_i64 ⟨by omega, by omega⟩⟩
     rw [if_pos cs] at HQ2
     by_cases hm : (rd_T39 (rd_T42 l0 (i : Int)).f0 (j : Int)).f1.f1 ∈ S2
     · rw [if_pos hm] at HQ2
       have HF : Aside0 (flashOkB l0 = false) := ⟨by rw [HE.out, ← HP2.out, ← HQ2]⟩
       have HM2 := am hm
       clear HQ2 hpb cs hm
       go_wp2_with (first | (refine bx 7 #[.int .i64 0, .int .i64 0, .int .i64 0, .int .i64 0, .int .i64 0] 39 rfl ?_; intro g2 hg w7 hbox hb; have n0_ := am (below_step HB.out hb); have n1_ := am hbox; have GE2 := am ((by rw [hg]; exact below_size HB.out) : w.heap.size ≤ g2); have NE2 := am ((by rw [hg]; exact Nat.ne_of_lt HS.out.lt) : B ≠ g2); have NG2 := am ((by rw [hg]; exact Nat.ne_of_lt (blk_lt BK1.out)) : g1 ≠ g2); have n2_ := am (HS.out.below hb); have n3_ := am (blk_below BK1.out hb); clear HB HS BK1; have HB := n0_; have BK2 := n1_; have HS := n2_; have BK1 := n3_; clear n0_ n1_ n2_ n3_; have hnz2_0 := NG2.out; obtain ⟨hczg2_0, hczg2_1, hczg2_2, hczg2_3, hczg2_4⟩ := b5 hbox; obtain ⟨hfzg2_0, hfzg2_1, hfzg2_2, hfzg2_3, hfzg2_4⟩ := f5 hbox; clear hb hbox hg) | ((with_reducible refine gate_callee (f := 41) rfl ?_); refine goesL_ (some 29) rfl rfl Try.func41 (by kernel_rfl) rfl #[.agg #[.int .i64 (rd_T39 (rd_T42 l0 (i : Int)).f0 (j : Int)).f0, .int .i64 (rd_T39 (rd_T42 l0 (i : Int)).f0 (j : Int)).f1.f0, .int .i64 (rd_T39 (rd_T42 l0 (i : Int)).f0 (j : Int)).f1.f1, .int .i64 (rd_T39 (rd_T42 l0 (i : Int)).f0 (j : Int)).f1.f2, .int .i64 (rd_T39 (rd_T42 l0 (i : Int)).f0 (j : Int)).f1.f3]] rfl (by (try simp only [List.map_toArray, List.map_cons, List.map_nil]); first | done | rfl) ?_; (with_reducible refine (impl_pageShape.calls _ _ _ _ _ _ _ hkp.out).mono ?_); rintro e w3 ⟨rfl, hb⟩; refine ⟨_, rfl, ?_⟩; have n0_ := am (below_step (bg2 HB.out GE1.out GE2.out) hb); have n1_ := am (blk_below (blk_put (cs := #[.int .i64 (rd_T39 (rd_T42 l0 (i : Int)).f0 (j : Int)).f0, .int .i64 (rd_T39 (rd_T42 l0 (i : Int)).f0 (j : Int)).f1.f0, .int .i64 (rd_T39 (rd_T42 l0 (i : Int)).f0 (j : Int)).f1.f1, .int .i64 (rd_T39 (rd_T42 l0 (i : Int)).f0 (j : Int)).f1.f2, .int .i64 0]) (blk_put (cs := #[.int .i64 (rd_T39 (rd_T42 l0 (i : Int)).f0 (j : Int)).f0, .int .i64 (rd_T39 (rd_T42 l0 (i : Int)).f0 (j : Int)).f1.f0, .int .i64 (rd_T39 (rd_T42 l0 (i : Int)).f0 (j : Int)).f1.f1, .int .i64 0, .int .i64 0]) (blk_put (cs := #[.int .i64 (rd_T39 (rd_T42 l0 (i : Int)).f0 (j : Int)).f0, .int .i64 (rd_T39 (rd_T42 l0 (i : Int)).f0 (j : Int)).f1.f0, .int .i64 0, .int .i64 0, .int .i64 0]) (blk_put (cs := #[.int .i64 (rd_T39 (rd_T42 l0 (i : Int)).f0 (j : Int)).f0, .int .i64 0, .int .i64 0, .int .i64 0, .int .i64 0]) (blk_put (cs := #[.int .i64 0, .int .i64 0, .int .i64 0, .int .i64 0, .int .i64 0]) BK2.out 0 _ rfl) 1 _ rfl) 2 _ rfl) 3 _ rfl) 4 _ rfl) hb); have n2_ := am ((((((HS.out.far (p := ⟨g2, 0, none⟩) NE2.out _).far (p := ⟨g2, 1, none⟩) NE2.out _).far (p := ⟨g2, 2, none⟩) NE2.out _).far (p := ⟨g2, 3, none⟩) NE2.out _).far (p := ⟨g2, 4, none⟩) NE2.out _).below hb); have n3_ := am (blk_below (blk_far (blk_far (blk_far (blk_far (blk_far BK1.out (p := ⟨g2, 0, none⟩) NG2.out _) (p := ⟨g2, 1, none⟩) NG2.out _) (p := ⟨g2, 2, none⟩) NG2.out _) (p := ⟨g2, 3, none⟩) NG2.out _) (p := ⟨g2, 4, none⟩) NG2.out _) hb); clear HB BK1 BK2 HS; have HB := n0_; have BK2 := n1_; have HS := n2_; have BK1 := n3_; clear n0_ n1_ n2_ n3_; clear hb hczg2_0 hfzg2_0 hczg2_1 hfzg2_1 hczg2_2 hfzg2_2 hczg2_3 hfzg2_3 hczg2_4 hfzg2_4; have hy2_0 := (blk_cell BK2.out 0).trans rfl; have hy2_1 := (blk_cell BK2.out 1).trans rfl; have hy2_2 := (blk_cell BK2.out 2).trans rfl; have hy2_3 := (blk_cell BK2.out 3).trans rfl; have hy2_4 := (blk_cell BK2.out 4).trans rfl) | (at_lookup; refine Go.Proofs.YtenmnclkbleglaaW.wpList_seen_look _ rfl _ _ 80 rfl 3 3 Try.underlying3 Try.underlying3 Try.underlying80 (fun w => by go_simp) B _ S2 rfl HS.out (rd_T39 (rd_T42 l0 (i : Int)).f0 (j : Int)).f1.f1 rfl hwf.out ?_; rw [if_pos HM2.out]))
       go_ret
       exact ⟨by rw [HF.out]; rfl, HB.out⟩
     rw [if_neg hm] at HQ2
     have HM2 := am hm
     have HQ3 := am HQ2
     clear HQ2 hpb cs hm
     go_wp2_with (first | (refine bx 7 #[.int .i64 0, .int .i64 0, .int .i64 0, .int .i64 0, .int .i64 0] 39 rfl ?_; intro g2 hg w7 hbox hb; have n0_ := am (below_step HB.out hb); have n1_ := am hbox; have GE2 := am ((by rw [hg]; exact below_size HB.out) : w.heap.size ≤ g2); have NE2 := am ((by rw [hg]; exact Nat.ne_of_lt HS.out.lt) : B ≠ g2); have NG2 := am ((by rw [hg]; exact Nat.ne_of_lt (blk_lt BK1.out)) : g1 ≠ g2); have n2_ := am (HS.out.below hb); have n3_ := am (blk_below BK1.out hb); clear HB HS BK1; have HB := n0_; have BK2 := n1_; have HS := n2_; have BK1 := n3_; clear n0_ n1_ n2_ n3_; have hnz2_0 := NG2.out; obtain ⟨hczg2_0, hczg2_1, hczg2_2, hczg2_3, hczg2_4⟩ := b5 hbox; obtain ⟨hfzg2_0, hfzg2_1, hfzg2_2, hfzg2_3, hfzg2_4⟩ := f5 hbox; clear hb hbox hg) | ((with_reducible refine gate_callee (f := 41) rfl ?_); refine goesL_ (some 29) rfl rfl Try.func41 (by kernel_rfl) rfl #[.agg #[.int .i64 (rd_T39 (rd_T42 l0 (i : Int)).f0 (j : Int)).f0, .int .i64 (rd_T39 (rd_T42 l0 (i : Int)).f0 (j : Int)).f1.f0, .int .i64 (rd_T39 (rd_T42 l0 (i : Int)).f0 (j : Int)).f1.f1, .int .i64 (rd_T39 (rd_T42 l0 (i : Int)).f0 (j : Int)).f1.f2, .int .i64 (rd_T39 (rd_T42 l0 (i : Int)).f0 (j : Int)).f1.f3]] rfl (by (try simp only [List.map_toArray, List.map_cons, List.map_nil]); first | done | rfl) ?_; (with_reducible refine (impl_pageShape.calls _ _ _ _ _ _ _ hkp.out).mono ?_); rintro e w3 ⟨rfl, hb⟩; refine ⟨_, rfl, ?_⟩; have n0_ := am (below_step (bg2 HB.out GE1.out GE2.out) hb); have n1_ := am (blk_below (blk_put (cs := #[.int .i64 (rd_T39 (rd_T42 l0 (i : Int)).f0 (j : Int)).f0, .int .i64 (rd_T39 (rd_T42 l0 (i : Int)).f0 (j : Int)).f1.f0, .int .i64 (rd_T39 (rd_T42 l0 (i : Int)).f0 (j : Int)).f1.f1, .int .i64 (rd_T39 (rd_T42 l0 (i : Int)).f0 (j : Int)).f1.f2, .int .i64 0]) (blk_put (cs := #[.int .i64 (rd_T39 (rd_T42 l0 (i : Int)).f0 (j : Int)).f0, .int .i64 (rd_T39 (rd_T42 l0 (i : Int)).f0 (j : Int)).f1.f0, .int .i64 (rd_T39 (rd_T42 l0 (i : Int)).f0 (j : Int)).f1.f1, .int .i64 0, .int .i64 0]) (blk_put (cs := #[.int .i64 (rd_T39 (rd_T42 l0 (i : Int)).f0 (j : Int)).f0, .int .i64 (rd_T39 (rd_T42 l0 (i : Int)).f0 (j : Int)).f1.f0, .int .i64 0, .int .i64 0, .int .i64 0]) (blk_put (cs := #[.int .i64 (rd_T39 (rd_T42 l0 (i : Int)).f0 (j : Int)).f0, .int .i64 0, .int .i64 0, .int .i64 0, .int .i64 0]) (blk_put (cs := #[.int .i64 0, .int .i64 0, .int .i64 0, .int .i64 0, .int .i64 0]) BK2.out 0 _ rfl) 1 _ rfl) 2 _ rfl) 3 _ rfl) 4 _ rfl) hb); have n2_ := am ((((((HS.out.far (p := ⟨g2, 0, none⟩) NE2.out _).far (p := ⟨g2, 1, none⟩) NE2.out _).far (p := ⟨g2, 2, none⟩) NE2.out _).far (p := ⟨g2, 3, none⟩) NE2.out _).far (p := ⟨g2, 4, none⟩) NE2.out _).below hb); have n3_ := am (blk_below (blk_far (blk_far (blk_far (blk_far (blk_far BK1.out (p := ⟨g2, 0, none⟩) NG2.out _) (p := ⟨g2, 1, none⟩) NG2.out _) (p := ⟨g2, 2, none⟩) NG2.out _) (p := ⟨g2, 3, none⟩) NG2.out _) (p := ⟨g2, 4, none⟩) NG2.out _) hb); clear HB BK1 BK2 HS; have HB := n0_; have BK2 := n1_; have HS := n2_; have BK1 := n3_; clear n0_ n1_ n2_ n3_; clear hb hczg2_0 hfzg2_0 hczg2_1 hfzg2_1 hczg2_2 hfzg2_2 hczg2_3 hfzg2_3 hczg2_4 hfzg2_4; have hy2_0 := (blk_cell BK2.out 0).trans rfl; have hy2_1 := (blk_cell BK2.out 1).trans rfl; have hy2_2 := (blk_cell BK2.out 2).trans rfl; have hy2_3 := (blk_cell BK2.out 3).trans rfl; have hy2_4 := (blk_cell BK2.out 4).trans rfl) | (at_lookup; refine Go.Proofs.YtenmnclkbleglaaW.wpList_seen_look _ rfl _ _ 80 rfl 3 3 Try.underlying3 Try.underlying3 Try.underlying80 (fun w => by go_simp) B _ S2 rfl HS.out (rd_T39 (rd_T42 l0 (i : Int)).f0 (j : Int)).f1.f1 rfl hwf.out ?_; rw [if_neg HM2.out]) | (at_mapUpdate; refine Go.Proofs.YtenmnclkbleglaaW.wpList_seen_add _ rfl _ _ _ 80 rfl 3 3 Try.underlying3 Try.underlying3 Try.underlying80 B _ S2 rfl HS.out hnm.out (rd_T39 (rd_T42 l0 (i : Int)).f0 (j : Int)).f1.f1 rfl rfl hwf.out ?_; intro w4 hs4 hg4; have n0_ := am (pw_below_grown HB.out (some B) (below_size HB.out) hg4 (fun k e => by cases e; exact Nat.le_of_eq HBB.out)); have n1_ := am (blk_grown BK1.out hg4 NB1.out); clear HB BK1 HS; have HB := n0_; have BK1 := n1_; have HS := am hs4; clear n0_ n1_ hs4 hg4))
     go_roundg k2
     case measure => omega
     case rel => exact ⟨j + 1, _ :: S2, by first | rfl | (simp; done) | (simp [*]; done), ⟨by have := HK2.out; omega⟩, ⟨CJ.out⟩, HQ3, ⟨by have := HM.out; simp only [List.length_cons]; omega⟩, HS, BK1, HB⟩
def impl_freePages.l0 : Nat → Int → List (S39) → Int → Int → Option (Int)
 | 0, _, _, _, _ => none
 | k + 1, x3, x7, x8, x9 => if x9 < x8 then (if 0 ≤ x9 then (if x9 < (x7.length : Int) then (if ((rd_T39 x7 x9).f0) = 0 then (impl_freePages.l0 k (wrap64 (x3 + 1)) x7 x8 (wrap64 (x9 + 1))) else (impl_freePages.l0 k x3 x7 x8 (wrap64 (x9 + 1)))) else (none)) else (none)) else (some x3)
def impl_freePages.f (k : Nat) (l0_0 : List (S39)) (a0_1 : Int) : Option (Int) := impl_freePages.l0 k 0 l0_0 (l0_0.length : Int) 0
theorem impl_freePages.calls (k : Nat) (A0_0 : Option Addr) (c0_0 : Nat) (l0_0 : List (S39)) (a0_1 : Int) (r : Int) (w : World) (hr0_0 : Kd.C k39 w A0_0 l0_0.length l0_0) (hc0_0 : l0_0.length ≤ c0_0) (h : impl_freePages.f k l0_0 a0_1 = some r) :
 Calls Try.prog 20 #[.agg #[.slice A0_0 l0_0.length c0_0, .int .i64 a0_1]] w fun e w' => e = .returned (.int .i64 r) ∧ Below w.heap.size w w' := by
 have hu42 := Try.underlying42
 have hu39 := Try.underlying39
 have HR0_0 := am hr0_0
 have HC0_0 := am hc0_0
 clear hr0_0 hc0_0
 have HB := am (Below.refl w.heap.size w)
 have H : (impl_freePages.l0 k 0 l0_0 (l0_0.length : Int) 0) = some r := h
 clear h
 have H' := am H
 clear H
 go_enter Try.func20, Try.ntmps20
 go_wp2_with (first | (refine bx 1 #[.slice A0_0 l0_0.length c0_0, .int .i64 a0_1] 42 rfl ?_; intro gb383 hg w2 hbox hb; have BK383 := am (hbox); have GW383 := am (ge hg (ph HB.out)); have GE383 := GW383; replace HB := am (below_step (ph HB.out) hb); clear hb hbox hg; obtain ⟨hcz3_0, hcz3_1⟩ := b2 BK383.out; obtain ⟨hfz3_0, hfz3_1⟩ := f2 BK383.out))
 go_loopg [3, 9] k (fun kq v3 v9 w' => ∃ (x3_1 : Int) (x9_1 : Int), v3 = .int .i64 x3_1 ∧ v9 = .int .i64 x9_1 ∧ Aside0 (impl_freePages.l0 kq x3_1 l0_0 (l0_0.length : Int) x9_1 = some r) ∧ Aside0 (kq ≤ k) ∧ Aside0 (w'.heap[gb383]? = some (.cells #[(.slice A0_0 l0_0.length c0_0), .int .i64 a0_1] 42 (0, 0))) ∧ Aside0 (Below w.heap.size w w'))
 case atStart => exact ⟨(0), (0), rf, rf, H', ⟨Nat.le_refl _⟩, ⟨pb BK383.out⟩, ⟨bg1 HB.out GE383.out⟩⟩
 case round =>
  clear H'
  obtain ⟨x3_1, x9_1, rfl, rfl, HA, HK1, BK383, HB⟩ := hrel
  cases gk with
  | zero => exact absurd HA.out (by simp [impl_freePages.l0])
  | succ k1 =>
   have H := HA.out
   clear HA
   simp only [impl_freePages.l0] at H
   by_cases c4 : x9_1 < (l0_0.length : Int)
   rotate_left
   · rw [if_neg c4] at H
     have c4b0 := decide_eq_false c4
     clear c4
     obtain rfl := Option.some.inj H
     go_wp2
     go_ret
     exact (rq (bg1 HB.out GE383.out))
   rw [if_pos c4] at H
   have c4b0 := decide_eq_true c4
   clear c4
   obtain ⟨c5b0, H⟩ := ifd H
   obtain ⟨c6b0, H⟩ := ifd H
   by_cases c7 : ((rd_T39 l0_0 x9_1).f0) = 0
   rotate_left
   · rw [if_neg c7] at H
     have c7b0 : (((rd_T39 l0_0 x9_1).f0) == 0) = false := beq_eq_false_iff_ne.mpr c7
     have c7b1 : (((rd_T39 l0_0 x9_1).f0) != 0) = true := bne_iff_ne.mpr c7
     have H' := am H
     clear H
     have p384 : 0 ≤ (x9_1 : Int) := ofb
     have q384 : x9_1 < (l0_0.length : Int) := ofb
     obtain ⟨ad384, e384, hx384_0, hx384_1, hx384_2, hx384_3, hx384_4⟩ := at_T39 HR0_0.out x9_1 p384 q384
     cases e384
     replace hx384_0 := up HB.out hx384_0
     replace hx384_1 := up HB.out hx384_1
     replace hx384_2 := up HB.out hx384_2
     replace hx384_3 := up HB.out hx384_3
     replace hx384_4 := up HB.out hx384_4
     replace p384 := eq_true p384
     replace q384 := eq_true q384
     go_wp2_with (first | (refine bx 5 #[.int .i64 0, .int .i64 0, .int .i64 0, .int .i64 0, .int .i64 0] 39 rfl ?_; intro gb385 hg w11 hbox hb; have BK385 := am (hbox); have GW385 := am (ge hg (bg1 HB.out GE383.out)); have GE385 := GW385; replace HB := am (below_step (bg1 HB.out GE383.out) hb); have NB383_385 := am (nb hg (pb BK383.out)); have NB385_383 := am (Ne.symm NB383_385.out); replace BK383 := am (blk_below (pb BK383.out) hb); clear hb hbox hg; have hnb12 := NB385_383.out; have hnc12 := NB383_385.out; obtain ⟨hcz13_0, hcz13_1, hcz13_2, hcz13_3, hcz13_4⟩ := b5 BK385.out; obtain ⟨hfz13_0, hfz13_1, hfz13_2, hfz13_3, hfz13_4⟩ := f5 BK385.out))
     go_roundg k1
     case measure => have := HK1.out; omega
     case rel => exact ⟨(x3_1), (wrap64 (x9_1 + 1)), rf, rf, H', ⟨by have := HK1.out; omega⟩, ⟨bf5 (pb BK383.out) NB383_385.out⟩, ⟨bg2 HB.out GE383.out GE385.out⟩⟩
   rw [if_pos c7] at H
   have c7b0 : (((rd_T39 l0_0 x9_1).f0) == 0) = true := beq_iff_eq.mpr c7
   have c7b1 : (((rd_T39 l0_0 x9_1).f0) != 0) = false := bne_eq_false_iff_eq.mpr c7
   clear c7
   have H' := am H
   clear H
   have p384 : 0 ≤ (x9_1 : Int) := ofb
   have q384 : x9_1 < (l0_0.length : Int) := ofb
   obtain ⟨ad384, e384, hx384_0, hx384_1, hx384_2, hx384_3, hx384_4⟩ := at_T39 HR0_0.out x9_1 p384 q384
   cases e384
   replace hx384_0 := up HB.out hx384_0
   replace hx384_1 := up HB.out hx384_1
   replace hx384_2 := up HB.out hx384_2
   replace hx384_3 := up HB.out hx384_3
   replace hx384_4 := up HB.out hx384_4
   replace p384 := eq_true p384
   replace q384 := eq_true q384
   go_wp2_with (first | (refine bx 5 #[.int .i64 0, .int .i64 0, .int .i64 0, .int .i64 0, .int .i64 0] 39 rfl ?_; intro gb385 hg w8 hbox hb; have BK385 := am (hbox); have GW385 := am (ge hg (bg1 HB.out GE383.out)); have GE385 := GW385; replace HB := am (below_step (bg1 HB.out GE383.out) hb); have NB383_385 := am (nb hg (pb BK383.out)); have NB385_383 := am (Ne.symm NB383_385.out); replace BK383 := am (blk_below (pb BK383.out) hb); clear hb hbox hg; have hnb9 := NB385_383.out; have hnc9 := NB383_385.out; obtain ⟨hcz10_0, hcz10_1, hcz10_2, hcz10_3, hcz10_4⟩ := b5 BK385.out; obtain ⟨hfz10_0, hfz10_1, hfz10_2, hfz10_3, hfz10_4⟩ := f5 BK385.out))
   go_roundg k1
   case measure => have := HK1.out; omega
   case rel => exact ⟨(wrap64 (x3_1 + 1)), (wrap64 (x9_1 + 1)), rf, rf, H', ⟨by have := HK1.out; omega⟩, ⟨bf5 (pb BK383.out) NB383_385.out⟩, ⟨bg2 HB.out GE383.out GE385.out⟩⟩
def impl_partlyUsed.f (k : Nat) (l0_0 : List (S39)) (a0_1 : Int) : Option (Bool) := (impl_freePages.f k l0_0 a0_1).bind fun t387 => (if t387 > 0 then (some (decide (t387 < 4))) else (some false))
theorem impl_partlyUsed.calls (k : Nat) (A0_0 : Option Addr) (c0_0 : Nat) (l0_0 : List (S39)) (a0_1 : Int) (r : Bool) (w : World) (hr0_0 : Kd.C k39 w A0_0 l0_0.length l0_0) (hc0_0 : l0_0.length ≤ c0_0) (h : impl_partlyUsed.f k l0_0 a0_1 = some r) :
 Calls Try.prog 19 #[.agg #[.slice A0_0 l0_0.length c0_0, .int .i64 a0_1]] w fun e w' => e = .returned (.bool r) ∧ Below w.heap.size w w' := by
 have hu42 := Try.underlying42
 have HR0_0 := am hr0_0
 have HC0_0 := am hc0_0
 clear hr0_0 hc0_0
 have HB := am (Below.refl w.heap.size w)
 have H : ((impl_freePages.f k l0_0 a0_1).bind fun t387 => (if t387 > 0 then (some (decide (t387 < 4))) else (some false))) = some r := h
 clear h
 replace H := Option.bind_eq_some_iff.mp H
 obtain ⟨t387, A20, H⟩ := H
 have A2 := am A20
 clear A20
 by_cases c3 : t387 > 0
 · rw [if_pos c3] at H
   have c3b0 := decide_eq_true c3
   clear c3
   obtain rfl := Option.some.inj H
   go_enter Try.func19, Try.ntmps19
   go_wp2_with (first | (refine bx 1 #[.slice A0_0 l0_0.length c0_0, .int .i64 a0_1] 42 rfl ?_; intro gb386 hg w4 hbox hb; have BK386 := am (hbox); have GW386 := am (ge hg (ph HB.out)); have GE386 := GW386; replace HB := am (below_step (ph HB.out) hb); clear hb hbox hg; obtain ⟨hcz5_0, hcz5_1⟩ := b2 BK386.out; obtain ⟨hfz5_0, hfz5_1⟩ := f2 BK386.out) | (refine gl 5 Try.func20 #[.agg #[.slice A0_0 l0_0.length c0_0, .int .i64 a0_1]] rfl ?_; (with_reducible refine (impl_freePages.calls k _ _ l0_0 a0_1 t387 _ ?side1 ?side2 A2.out).mono ?_); (case side1 => exact pc (Kd.C_below HR0_0.out HB.out)); (case side2 => exact HC0_0.out); rintro e w6 ⟨rfl, hb⟩; refine ⟨_, rfl, ?_⟩; replace BK386 := am (blk_below (pb BK386.out) hb); replace HB := am (below_step (bg1 HB.out GE386.out) hb); clear hb))
   go_ret
   exact (rq (bg1 HB.out GE386.out))
 rw [if_neg c3] at H
 have c3b0 := decide_eq_false c3
 clear c3
 obtain rfl := Option.some.inj H
 go_enter Try.func19, Try.ntmps19
 go_wp2_with (first | (refine bx 1 #[.slice A0_0 l0_0.length c0_0, .int .i64 a0_1] 42 rfl ?_; intro gb386 hg w7 hbox hb; have BK386 := am (hbox); have GW386 := am (ge hg (ph HB.out)); have GE386 := GW386; replace HB := am (below_step (ph HB.out) hb); clear hb hbox hg; obtain ⟨hcz8_0, hcz8_1⟩ := b2 BK386.out; obtain ⟨hfz8_0, hfz8_1⟩ := f2 BK386.out) | (refine gl 5 Try.func20 #[.agg #[.slice A0_0 l0_0.length c0_0, .int .i64 a0_1]] rfl ?_; (with_reducible refine (impl_freePages.calls k _ _ l0_0 a0_1 t387 _ ?side1 ?side2 A2.out).mono ?_); (case side1 => exact pc (Kd.C_below HR0_0.out HB.out)); (case side2 => exact HC0_0.out); rintro e w9 ⟨rfl, hb⟩; refine ⟨_, rfl, ?_⟩; replace BK386 := am (blk_below (pb BK386.out) hb); replace HB := am (below_step (bg1 HB.out GE386.out) hb); clear hb))
 go_ret
 exact (rq (bg1 HB.out GE386.out))
attribute [local go_sem] Oper.semAt_some
theorem uponIn_wide_round {l n : Nat} {P : Program} {o : Oper} {a : Act} {K : Act → World → Prop} {Q : Exit → Act → World → Prop} {r : Result Next} (h : o.upon P a K Q r) : o.uponIn (Fence.wide.inRound l) n P a K Q r := by
 cases r with
 | ok x w' =>
  cases x with
  | value v => exact h
  | skip => exact h
  | defer d => exact h
  | enter f args => exact ⟨fun h => by simp [Fence.inRound, Fence.wide] at h, CallsIn.inRound l (callsIn_wide.2 h)⟩
  | row r args => exact ⟨fun h => by simp [Fence.inRound, Fence.wide] at h, fun c cs _ => let ⟨v, w2, q, s⟩ := h c cs; ⟨v, w2, q, stepsIn_wide.2 s⟩⟩
  | _ => exact h.elim
 | halt x w' =>
  cases x with
  | panic v => exact h
  | _ => exact h.elim
theorem wpOpIn_wide_round {l n : Nat} {P : Program} {ops : Array Oper} {i : Nat} {a : Act} {w : World} {K : Act → World → Prop} {Q : Exit → Act → World → Prop} (hd : ∀ o, ops[i]? = some o → ∀ c, o.op ≠ .defer c) (hQ : ¬ LetsOut Q)
 (h : wpOp P ops Q i K a w) : wpOpIn (Fence.wide.inRound l) n P ops Q i K a w := by
 unfold wpOp at h
 unfold wpOpIn
 cases ho : ops[i]? with
 | none => rw [ho] at h; exact h
 | some o =>
  simp only [ho] at h ⊢
  by_cases hw : Region.wanted o (yielded ops a.tmps) = true
  rotate_left
  · simp only [hw] at h ⊢
    exact ⟨fun f _ => trivial, h⟩
  simp only [hw, if_true] at h ⊢
  refine ⟨fun f _ => trivial, ?_⟩
  rw [Oper.semAt_plain (Fence.wide.inRound l) _ o (hd o ho)]
  exact uponIn_wide_round (h.resolve_right (fun h => hQ h.2))
theorem wpAnyIn_wide_round {l n : Nat} {P : Program} {ops : Array Oper} {md : Region.Mode} {Q : Exit → Act → World → Prop} (hd : ∀ (i : Nat) (o : Oper), ops[i]? = some o → ∀ c, o.op ≠ .defer c) (hQ : ¬ LetsOut Q) :
 ∀ (fuel : Nat) (listed : Array Bool) (a : Act) (w : World), wpAny P md ops Q fuel listed a w → wpAnyIn (Fence.wide.inRound l) n P md ops Q fuel listed a w
 | 0, _, _, _, h => h
 | fuel + 1, _, _, _, h => ⟨h.1, fun i hi => wpOpIn_mono (fun a' w' h' => wpAnyIn_wide_round hd hQ fuel _ a' w' h') (wpOpIn_wide_round (hd i) hQ (h.2 i hi))⟩
theorem region_in_round {l n id : Nat} {P : Program} {ops : Array Oper} {Q : Exit → Act → World → Prop} {a : Act} {w : World} (hm : P.follows .mixedOrders = true) (hd : ∀ (i : Nat) (o : Oper), ops[i]? = some o → ∀ c, o.op ≠ .defer c) (hQ : ¬ LetsOut Q)
 (h : wpAny P .any ops Q ops.size (Array.replicate ops.size false) a w.drew) : (Code.region id ops true).wpIn (Fence.wide.inRound l) n P Q a w :=
 wpIn_region_any hm (wpAnyIn_wide_round hd hQ _ _ _ _ h)
def noDefer (ops : Array Oper) : Bool := ops.all fun o => match o.op with
 | .defer _ => false
 | _ => true
theorem noDefer_spec {ops : Array Oper} (h : noDefer ops = true) : ∀ (i : Nat) (o : Oper), ops[i]? = some o → ∀ c, o.op ≠ .defer c := fun i o ho c hc => by
 have h1 := Array.all_eq_true_iff_forall_mem.1 h o (Array.mem_of_getElem? ho)
 rw [hc] at h1
 simp at h1
theorem start_round {l nn id n : Nat} {P : Program} {ops : Array Oper} {Q : Exit → Act → World → Prop} {S : World → Prop} {ds : List Nat} {a : Act} {w : World} (lst : Array Bool) (hm : P.follows .mixedOrders = true) (hn : ops.size = n) (hl : Array.replicate n false = lst)
 (hd : noDefer ops = true) (hQ : ¬ LetsOut Q) (h : wpAnyLast P .any ops Q S ds n lst a w.drew) : (Code.region id ops true).wpIn (Fence.wide.inRound l) nn P Q a w := by
 subst hn
 subst hl
 exact region_in_round hm (noDefer_spec hd) hQ (wpAny_of_last _ _ _ _ h)
abbrev Spans := Nat → Int × Int
def stepSpan (s : Int × Int) (p : S39) : Int × Int := if p.f0 = 1 then (if s.1 = 0 ∨ p.f1.f1 < s.1 then p.f1.f1 else s.1, mx s.2 p.f1.f1) else s
def spansStep (s : Spans) (x : Spot) : Spans := fun j => if j = x.1 then stepSpan (s j) x.2.2 else s j
def spansF (l : List S42) : Spans := (spotsF 0 l).foldl spansStep (fun _ => (0, 0))
def SpansBox (W : World) (g : Nat) (s : Spans) : Prop := W.heap[g]? = some (.cells #[.int .i64 (s 0).1, .int .i64 (s 0).2, .int .i64 (s 1).1, .int .i64 (s 1).2, .int .i64 (s 2).1, .int .i64 (s 2).2, .int .i64 (s 3).1, .int .i64 (s 3).2] 63 (0, 0))
theorem spansStep_lo {W : World} {g : Nat} {s : Spans} (h : SpansBox W g s) (i : Nat) (hi : i < 4) (a : Int) : SpansBox (W.setCell ⟨g, i * 2, none⟩ (.int .i64 a)) g (fun j => if j = i then (a, (s j).2) else s j) := by
 have := blk_set h (i * 2) (.int .i64 a)
 unfold SpansBox
 rw [this]
 obtain rfl | rfl | rfl | rfl : i = 0 ∨ i = 1 ∨ i = 2 ∨ i = 3 := by omega
 all_goals simp
theorem spansStep_hi {W : World} {g : Nat} {s : Spans} (h : SpansBox W g s) (i : Nat) (hi : i < 4) (a : Int) : SpansBox (W.setCell ⟨g, i * 2 + 1, none⟩ (.int .i64 a)) g (fun j => if j = i then ((s j).1, a) else s j) := by
 have := blk_set h (i * 2 + 1) (.int .i64 a)
 unfold SpansBox
 rw [this]
 obtain rfl | rfl | rfl | rfl : i = 0 ∨ i = 1 ∨ i = 2 ∨ i = 3 := by omega
 all_goals simp
theorem SpansBox.at_ {W : World} {g : Nat} {s : Spans} (h : SpansBox W g s) (i : Nat) (hi : i < 4) : W.cell? ⟨g, i * 2, none⟩ = some (.int .i64 (s i).1) ∧ W.cell? ⟨g, i * 2 + 1, none⟩ = some (.int .i64 (s i).2) := by
 rw [blk_cell h (i * 2), blk_cell h (i * 2 + 1)]
 obtain rfl | rfl | rfl | rfl : i = 0 ∨ i = 1 ∨ i = 2 ∨ i = 3 := by omega
 all_goals exact ⟨rfl, rfl⟩
theorem SpansBox.frozen {W : World} {g : Nat} {s : Spans} (h : SpansBox W g s) (i : Nat) : W.frozen? ⟨g, i, none⟩ = false := blk_frozen h i
theorem SpansBox.own (g : Nat) {β : Type} (f : β → Spans) : Own (fun s W => SpansBox W g (f s)) := fun s X Y row hs hg hrow => (hg.block g (Array.getElem?_eq_some_iff.1 hs).1 (fun e => by obtain ⟨o, ho, hc⟩ := hrow g e.symm; rw [show X.heap[g]? = _ from hs] at ho; cases ho; cases hc)).trans hs
theorem spotsB_lt (i : Nat) : ∀ (j : Nat) (ps : List S39) (x : Spot), x ∈ spotsB i j ps → x.1 = i
 | _, [], _, h => by cases h
 | j, p :: ps, x, h => by
  rw [spotsB] at h
  rcases List.mem_cons.1 h with rfl | h
  · rfl
  · exact spotsB_lt i (j + 1) ps x h
theorem spotsF_lt : ∀ (i : Nat) (l : List S42) (x : Spot), x ∈ spotsF i l → x.1 < i + l.length
 | _, [], _, h => by cases h
 | i, b :: bs, x, h => by
  rw [spotsF] at h
  rw [List.length_cons]
  rcases List.mem_append.1 h with h | h
  · have := spotsB_lt i 0 _ x h
    omega
  · have := spotsF_lt (i + 1) bs x h
    omega
abbrev SpotIn := {x : Spot // x.1 < 4}
def spansOfL (pre : List SpotIn) : Spans := pre.foldl (fun s x => spansStep s x.1) (fun _ => (0, 0))
theorem spansOfL_snoc (pre : List SpotIn) (x : SpotIn) : spansOfL (pre ++ [x]) = spansStep (spansOfL pre) x.1 := by simp [spansOfL]
theorem spansOfL_all {ys : List SpotIn} {l0 : List S42} (h : ys.map (·.1) = spotsF 0 l0) : spansOfL ys = spansF l0 := by
 unfold spansOfL spansF
 rw [← h, List.foldl_map]
theorem make_spans (W : World) : (Instr.makeSlice 60 (.int .i64 4) (.int .i64 4)).run Try.prog W = .ok (.slice (some ⟨W.heap.size, 0, none⟩) 4 4) (W.alloc (.cells #[.int .i64 0, .int .i64 0, .int .i64 0, .int .i64 0, .int .i64 0, .int .i64 0, .int .i64 0, .int .i64 0] 63)) := by
 have hinfo : (Try.prog.info? 63).map (fun i => (i.zero, i.size, i.bytes)) = some (some (.agg #[.int .i64 0, .int .i64 0]), 2, 16) := by kernel_rfl
 obtain ⟨i0, hi, hzz⟩ := Option.map_eq_some_iff.1 hinfo
 simp only [Prod.mk.injEq] at hzz
 obtain ⟨hz0, hz1, hz2⟩ := hzz
 have hr := run_make (P := Try.prog) W 60 63 i0 _ Try.underlying60 hi hz0 .i64 .i64 4 4 (by decide) (by decide) (by rw [hz2]; decide) (by decide)
 have h8 : Array.range (Int.toNat 4 * 2) = #[0, 1, 2, 3, 4, 5, 6, 7] := by decide
 rw [hz1] at hr
 unfold madeCells at hr
 have hc : (Value.agg #[Value.int IntKind.i64 0, Value.int IntKind.i64 0]).cells = #[Value.int IntKind.i64 0, Value.int IntKind.i64 0] := by simp [Value.cells]
 rw [h8, hc] at hr
 simpa using hr
theorem spansOf_any (A0 : Option Addr) (c0 : Nat) (l0 : List (S42)) (w : World) (hr0 : Kd.C k42 w A0 l0.length l0) (hl : l0.length = 4) :
 Calls Try.prog 22 #[.slice A0 4 c0] w fun e w' => ∃ g, e = .returned (.slice (some ⟨g, 0, none⟩) 4 4) ∧ SpansBox w' g (spansF l0) ∧ w.heap.size ≤ g ∧ Below w.heap.size w w' := by
 refine (callsIn_wide (n := 3)).1 ?_
 have hmk := make_spans
 refine callsIn_of_wp_marks Try.func22 rfl trivial ?_ rfl
 simp only [Try.ntmps22, List.size_toArray, List.length_cons, List.length_nil, Nat.reduceAdd, Nat.reduceSub, Array.replicate_succ, Array.replicate_zero, List.push_toArray, List.append_toArray, List.nil_append, List.cons_append]
 gi_wp2_with (first | (refine ⟨trivial, ?_⟩; gi_at_call 21; refine (eachPage_in Fence.wide 2 trivial rfl _ _ _ _).mono ?_; rintro e w2 ⟨rfl, rfl⟩))
 have bS : SpansBox (((w.alloc (.cells #[.int .i64 0, .int .i64 0, .int .i64 0, .int .i64 0, .int .i64 0, .int .i64 0, .int .i64 0, .int .i64 0] 63)).alloc (.cells #[.slice (some ⟨w.heap.size, 0, none⟩) 4 4] 60)).alloc (.cells #[.slice A0 4 c0] 23)) w.heap.size (fun _ => (0, 0)) := blk_alloc (blk_alloc (blk_new w _) _) _
 have bV : Boxed (((w.alloc (.cells #[.int .i64 0, .int .i64 0, .int .i64 0, .int .i64 0, .int .i64 0, .int .i64 0, .int .i64 0, .int .i64 0] 63)).alloc (.cells #[.slice (some ⟨w.heap.size, 0, none⟩) 4 4] 60)).alloc (.cells #[.slice A0 4 c0] 23)) (w.heap.size + 1) 60 (.slice (some ⟨w.heap.size, 0, none⟩) 4 4) := by
  have := blk_alloc (blk_new (w.alloc (.cells #[.int .i64 0, .int .i64 0, .int .i64 0, .int .i64 0, .int .i64 0, .int .i64 0, .int .i64 0, .int .i64 0] 63)) (.cells #[.slice (some ⟨w.heap.size, 0, none⟩) 4 4] 60)) (.cells #[.slice A0 4 c0] 23)
  rw [World.size_alloc] at this
  exact this
 have bN : Boxed (((w.alloc (.cells #[.int .i64 0, .int .i64 0, .int .i64 0, .int .i64 0, .int .i64 0, .int .i64 0, .int .i64 0, .int .i64 0] 63)).alloc (.cells #[.slice (some ⟨w.heap.size, 0, none⟩) 4 4] 60)).alloc (.cells #[.slice A0 4 c0] 23)) (w.heap.size + 1 + 1) 23 (.slice A0 l0.length c0) := by
  have := blk_new ((w.alloc (.cells #[.int .i64 0, .int .i64 0, .int .i64 0, .int .i64 0, .int .i64 0, .int .i64 0, .int .i64 0, .int .i64 0] 63)).alloc (.cells #[.slice (some ⟨w.heap.size, 0, none⟩) 4 4] 60)) (.cells #[.slice A0 4 c0] 23)
  rw [World.size_alloc, World.size_alloc] at this
  rw [hl]
  exact this
 have hB0 : Below w.heap.size w (((w.alloc (.cells #[.int .i64 0, .int .i64 0, .int .i64 0, .int .i64 0, .int .i64 0, .int .i64 0, .int .i64 0, .int .i64 0] 63)).alloc (.cells #[.slice (some ⟨w.heap.size, 0, none⟩) 4 4] 60)).alloc (.cells #[.slice A0 4 c0] 23)) := below_alloc (below_alloc (below_alloc (Below.refl _ w) _) _) _
 have hN : ∀ x ∈ spotsF 0 l0, x.1 < 4 := fun x hx => by
  have := spotsF_lt 0 l0 x hx
  omega
 generalize hW0 : (((w.alloc (.cells #[.int .i64 0, .int .i64 0, .int .i64 0, .int .i64 0, .int .i64 0, .int .i64 0, .int .i64 0, .int .i64 0] 63)).alloc (.cells #[.slice (some ⟨w.heap.size, 0, none⟩) 4 4] 60)).alloc (.cells #[.slice A0 4 c0] 23)) = W0 at *
 refine wpIn_rangeFunc_ownH (F := Fence.wide) rfl (by decide) (gf := 42) (lb := #[.pointer (some ⟨w.heap.size + 1 + 1, 0, none⟩)]) rfl trivial (enters_of Try.func42 (by kernel_rfl) rfl)
  (eachPage_stops Fence.wide 2 trivial rfl (by decide) (fun x => x.1 < 4) (w.heap.size + 1 + 1) A0 c0 l0 w _ hr0 hN hB0 bN.cell) belowK_t (belowK_b hB0.size) (Below.refl _ _) (fun _ => rfl)
  (fun pre W => SpansBox W w.heap.size (spansOfL pre) ∧ Boxed W (w.heap.size + 1) 60 (.slice (some ⟨w.heap.size, 0, none⟩) 4 4) ∧ Below w.heap.size w W) (fun _ _ _ => False)
  (OwnFrom.and (Own.from (SpansBox.own _ _) _) (OwnFrom.and (Own.from (boxed_own _ _ (fun _ => _)) _) (ownFrom_below (Nat.le_refl _) hB0.size))) (fun _ _ _ _ _ hs _ _ => hs)
  ⟨bS, bV, hB0⟩
  (fun x a' W => ∃ Bs Bx, w.heap.size + 1 < Bs ∧ w.heap.size + 1 < Bx ∧ W.heap[Bs]? = some (.cells #[.int .i64 (x.1.1 : Int), .int .i64 (x.1.2.1 : Int)] 59 (0, 0)) ∧ PageBox W Bx x.1.2.2 ∧ a' = { tmps := #[.slice A0 4 c0, undef, .slice none 0 0, .pointer (some ⟨w.heap.size + 1, 0, none⟩), .pointer (some ⟨Bs, 0, none⟩), .pointer (some ⟨Bx, 0, none⟩), undef, .slice A0 4 c0, .int .i64 4, .slice (some ⟨w.heap.size, 0, none⟩) 4 4, .slice A0 4 c0, .func (.func 42) #[] #[.pointer (some ⟨w.heap.size + 1 + 1, 0, none⟩)], .agg #[.int .i64 (x.1.1 : Int), .int .i64 (x.1.2.1 : Int)], .agg #[.int .i64 x.1.2.2.f0, .int .i64 x.1.2.2.f1.f0, .int .i64 x.1.2.2.f1.f1, .int .i64 x.1.2.2.f1.f2, .int .i64 x.1.2.2.f1.f3], undef, undef, undef, undef, undef, undef, undef, undef, undef, undef, undef, undef, undef, undef, undef, undef, undef, undef, undef, undef, undef, undef, undef, undef, undef, undef, undef, undef, undef, undef, undef, undef, undef, undef, undef, undef, undef, undef, undef, undef], defers := [] })
  (fun x a' s X Y row hs hg hr => by
   obtain ⟨Bs, Bx, h1, h2, h3, h4, h5⟩ := hs
   exact ⟨Bs, Bx, h1, h2, (hg.block Bs (blk_lt h3) (fun e => by obtain ⟨B0, o, ho, hc⟩ := hr Bs e.symm; rw [h3] at ho; cases ho; cases hc)).trans h3, PageBox.own Bx _ _ () X Y row h4 hg hr, h5⟩) ?assign ?body ?done ?stop
 case assign =>
  rintro l pre x W K ⟨hbx, hbv, hB⟩ hK
  gi_wp2
  exact hK _ _ (((KeepsOthers.alloc _ _).trans (KeepsOthers.alloc _ _)).from _) (((Below.refl _ W).alloc hB.size _).alloc (by have := hB.size; simp; omega) _) ⟨blk_alloc (blk_alloc hbx _) _, (hbv.alloc _).alloc _, (hB.alloc hB.size _).alloc (hB.alloc hB.size _).size _⟩
   ⟨W.heap.size, W.heap.size + 1, hbv.lt, by have := hbv.lt; omega, blk_alloc (blk_new W _) _, by have := blk_new (W.alloc (.cells #[.int .i64 (x.1.1 : Int), .int .i64 (x.1.2.1 : Int)] 59)) (.cells #[.int .i64 x.1.2.2.f0, .int .i64 x.1.2.2.f1.f0, .int .i64 x.1.2.2.f1.f1, .int .i64 x.1.2.2.f1.f2, .int .i64 x.1.2.2.f1.f3] 39); rw [World.size_alloc] at this; exact this, rfl⟩
 case body =>
  rintro l pre x a' W hl_ ⟨r, hr⟩ ⟨hbx, hbv, hB⟩ ⟨Bs, Bx, hBs, hBx, bs, bX, rfl⟩ hlt
  obtain ⟨hc0_, hc1_, hc2_, hc3_, hc4_⟩ := bX.cells
  have hcs0 : W.cell? ⟨Bs, 0, none⟩ = some (.int .i64 (x.1.1 : Int)) := (blk_cell bs 0).trans rfl
  have hcv := hbv.cell
  have hi4 := x.2
  obtain ⟨hlo, hhi⟩ := hbx.at_ x.1.1 hi4
  have hf0 := hbx.frozen (x.1.1 * 2)
  have hf1 := hbx.frozen (x.1.1 * 2 + 1)
  have hsn := spansOfL_snoc pre x
  by_cases hs1 : x.1.2.2.f0 = 1
  rotate_left
  · have hs2 : (x.1.2.2.f0 != 1) = true := by simp [hs1]
    have e : spansOfL (pre ++ [x]) = spansOfL pre := by
     rw [hsn]
     funext j
     unfold spansStep stepSpan
     rw [if_neg hs1]
     split <;> rfl
    gi_wp2
    exact ⟨KeepsFrom.refl _ _, Below.refl _ _, by rw [e]; exact hbx, hbv, hB⟩
  have hs2 : (x.1.2.2.f0 != 1) = false := by simp [hs1]
  have p1 : 0 ≤ (x.1.1 : Int) := by omega
  have q1 : (x.1.1 : Int) < 4 := by omega
  by_cases hz : (spansOfL pre x.1.1).1 = 0
  · have hz2 : ((spansOfL pre x.1.1).1 == 0) = true := by simp [hz]
    gi_wp2
    have hSt : (fun W' => W'.cell? ⟨w.heap.size, x.1.1 * 2, none⟩ = some (.int .i64 (spansOfL pre x.1.1).1) ∧ W'.cell? ⟨Bx, 2, none⟩ = some (.int .i64 x.1.2.2.f1.f1)) W.drew := ⟨hlo, hc2_⟩
    refine start_round (S := fun W' => W'.cell? ⟨w.heap.size, x.1.1 * 2, none⟩ = some (.int .i64 (spansOfL pre x.1.1).1) ∧ W'.cell? ⟨Bx, 2, none⟩ = some (.int .i64 x.1.2.2.f1.f1)) (ds := []) (bt 15 0) (by kernel_rfl) rfl rfl (by kernel_rfl) (by rintro ⟨a, w, h⟩; exact h) ?_
    refine pi_ 0 21 (bt 15 1) rfl rfl (fun _ _ _ h => h) ?_
    refine pi_ 1 22 (bt 15 3) rfl rfl (fun _ _ _ h => h) ?_
    refine pi_ 2 23 (bt 15 7) rfl rfl (fun _ _ _ h => h) ?_
    refine take_ (i := 3) (N := some 24) (v := ?_) (a' := ?_) (bt 15 15) rfl rfl (by kernel_rfl) (fun _ _ _ h => h) (Or.inl ⟨by rfl, ?_⟩) hSt ?_ ?_
    rotate_left
    · intro w' hS'
      have hL' := hS'.1
      go_simp
      with_reducible rfl
    rotate_left
    · simp only [Act.put, List.setIfInBounds_toArray, List.set_cons_zero, List.set_cons_succ]
      rfl
    refine pi_ 4 25 (bt 15 31) rfl rfl (fun _ _ _ h => h) ?_
    refine pi_ 5 26 (bt 15 63) rfl rfl (fun _ _ _ h => h) ?_
    refine pure_ (i := 6) (N := some 27) (v := undef) (a' := ?_) (bt 15 127) rfl rfl (by kernel_rfl) (fun _ _ _ h => h) (Or.inr ⟨by rfl, rfl⟩) ?_ ?_
    rotate_left
    · simp only [Act.put, List.setIfInBounds_toArray, List.set_cons_zero, List.set_cons_succ]
      rfl
    refine pure_ (i := 7) (N := some 28) (v := undef) (a' := ?_) (bt 15 255) rfl rfl (by kernel_rfl) (fun _ _ _ h => h) (Or.inr ⟨by rfl, rfl⟩) ?_ ?_
    rotate_left
    · simp only [Act.put, List.setIfInBounds_toArray, List.set_cons_zero, List.set_cons_succ]
      rfl
    refine pure_ (i := 8) (N := some 29) (v := undef) (a' := ?_) (bt 15 511) rfl rfl (by kernel_rfl) (fun _ _ _ h => h) (Or.inr ⟨by rfl, rfl⟩) ?_ ?_
    rotate_left
    · simp only [Act.put, List.setIfInBounds_toArray, List.set_cons_zero, List.set_cons_succ]
      rfl
    refine pure_ (i := 9) (N := some 30) (v := undef) (a' := ?_) (bt 15 1023) rfl rfl (by kernel_rfl) (fun _ _ _ h => h) (Or.inr ⟨by rfl, rfl⟩) ?_ ?_
    rotate_left
    · simp only [Act.put, List.setIfInBounds_toArray, List.set_cons_zero, List.set_cons_succ]
      rfl
    refine pure_ (i := 10) (N := some 31) (v := undef) (a' := ?_) (bt 15 2047) rfl rfl (by kernel_rfl) (fun _ _ _ h => h) (Or.inr ⟨by rfl, rfl⟩) ?_ ?_
    rotate_left
    · simp only [Act.put, List.setIfInBounds_toArray, List.set_cons_zero, List.set_cons_succ]
      rfl
    refine pure_ (i := 11) (N := some 32) (v := undef) (a' := ?_) (bt 15 4095) rfl rfl (by kernel_rfl) (fun _ _ _ h => h) (Or.inr ⟨by rfl, rfl⟩) ?_ ?_
    rotate_left
    · simp only [Act.put, List.setIfInBounds_toArray, List.set_cons_zero, List.set_cons_succ]
      rfl
    refine pure_ (i := 12) (N := some 33) (v := undef) (a' := ?_) (bt 15 8191) rfl rfl (by kernel_rfl) (fun _ _ _ h => h) (Or.inr ⟨by rfl, rfl⟩) ?_ ?_
    rotate_left
    · simp only [Act.put, List.setIfInBounds_toArray, List.set_cons_zero, List.set_cons_succ]
      rfl
    refine pure_ (i := 13) (N := some 34) (v := undef) (a' := ?_) (bt 15 16383) rfl rfl (by kernel_rfl) (fun _ _ _ h => h) (Or.inr ⟨by rfl, rfl⟩) ?_ ?_
    rotate_left
    · simp only [Act.put, List.setIfInBounds_toArray, List.set_cons_zero, List.set_cons_succ]
      rfl
    refine pi_ 14 35 (bt 15 32767) rfl rfl (fun _ _ _ h => h) ?_
    refine done_ (by kernel_rfl) ?_
    gi_wp2
    have v1 : SpansBox (W.setCell ⟨w.heap.size, x.1.1 * 2, none⟩ (.int .i64 x.1.2.2.f1.f1)).drew w.heap.size (fun j => if j = x.1.1 then (x.1.2.2.f1.f1, (spansOfL pre j).2) else spansOfL pre j) := spansStep_lo hbx x.1.1 hi4 x.1.2.2.f1.f1
    have v2 : Boxed (W.setCell ⟨w.heap.size, x.1.1 * 2, none⟩ (.int .i64 x.1.2.2.f1.f1)).drew (w.heap.size + 1) 60 (.slice (some ⟨w.heap.size, 0, none⟩) 4 4) := blk_far hbv (p := ⟨w.heap.size, x.1.1 * 2, none⟩) (by show w.heap.size + 1 ≠ w.heap.size; omega) _
    have v3 : Below w.heap.size w (W.setCell ⟨w.heap.size, x.1.1 * 2, none⟩ (.int .i64 x.1.2.2.f1.f1)).drew := below_drew (hB.setCell (p := ⟨w.heap.size, x.1.1 * 2, none⟩) (Nat.le_refl _) _)
    have v4 : Below w.heap.size W (W.setCell ⟨w.heap.size, x.1.1 * 2, none⟩ (.int .i64 x.1.2.2.f1.f1)).drew := below_drew ((Below.refl _ W).setCell (p := ⟨w.heap.size, x.1.1 * 2, none⟩) (Nat.le_refl _) _)
    have v5 : KeepsFrom W0.heap.size W (W.setCell ⟨w.heap.size, x.1.1 * 2, none⟩ (.int .i64 x.1.2.2.f1.f1)).drew := ((KeepsOthers.setCell W ⟨w.heap.size, x.1.1 * 2, none⟩ (.int .i64 x.1.2.2.f1.f1)).trans (KeepsOthers.drew _)).from _
    have v6 : PageBox (W.setCell ⟨w.heap.size, x.1.1 * 2, none⟩ (.int .i64 x.1.2.2.f1.f1)).drew Bx x.1.2.2 := blk_far bX (p := ⟨w.heap.size, x.1.1 * 2, none⟩) (by show Bx ≠ w.heap.size; omega) _
    generalize hV : (W.setCell ⟨w.heap.size, x.1.1 * 2, none⟩ (.int .i64 x.1.2.2.f1.f1)).drew = V at v1 v2 v3 v4 v5 v6 ⊢
    have hhiV : V.cell? ⟨w.heap.size, x.1.1 * 2 + 1, none⟩ = some (.int .i64 (spansOfL pre x.1.1).2) := by have := (v1.at_ x.1.1 hi4).2; simpa using this
    have hsqV := v6.cells.2.2.1
    have hfV := v1.frozen (x.1.1 * 2 + 1)
    clear hV hbx hlo hhi hf0 hf1 hc0_ hc1_ hc2_ hc3_ hc4_ hcs0 hcv hbv bs bX
    have hSt : (fun W' => W'.cell? ⟨w.heap.size, x.1.1 * 2 + 1, none⟩ = some (.int .i64 (spansOfL pre x.1.1).2) ∧ W'.cell? ⟨Bx, 2, none⟩ = some (.int .i64 x.1.2.2.f1.f1)) V.drew := ⟨hhiV, hsqV⟩
    refine start_round (S := fun W' => W'.cell? ⟨w.heap.size, x.1.1 * 2 + 1, none⟩ = some (.int .i64 (spansOfL pre x.1.1).2) ∧ W'.cell? ⟨Bx, 2, none⟩ = some (.int .i64 x.1.2.2.f1.f1)) (ds := [11]) (bt 12 0) (by kernel_rfl) rfl rfl (by kernel_rfl) (by rintro ⟨a, w, h⟩; exact h) ?_
    refine pi_ 0 42 (bt 12 1) rfl rfl (fun _ _ _ h => h) ?_
    refine pi_ 1 43 (bt 12 3) rfl rfl (fun _ _ _ h => h) ?_
    refine pi_ 2 44 (bt 12 7) rfl rfl (fun _ _ _ h => h) ?_
    refine pi_ 3 45 (bt 12 15) rfl rfl (fun _ _ _ h => h) ?_
    refine take_ (i := 4) (N := some 46) (v := ?_) (a' := ?_) (bt 12 31) rfl rfl (by kernel_rfl) (fun _ _ _ h => h) (Or.inl ⟨by rfl, ?_⟩) hSt ?_ ?_
    rotate_left
    · intro w' hS'
      have hL' := hS'.1
      go_simp
      with_reducible rfl
    rotate_left
    · simp only [Act.put, List.setIfInBounds_toArray, List.set_cons_zero, List.set_cons_succ]
      rfl
    refine pi_ 5 47 (bt 12 63) rfl rfl (fun _ _ _ h => h) ?_
    refine pi_ 6 48 (bt 12 127) rfl rfl (fun _ _ _ h => h) ?_
    refine take_ (i := 7) (N := some 49) (v := ?_) (a' := ?_) (bt 12 255) rfl rfl (by kernel_rfl) (fun _ _ _ h => h) (Or.inl ⟨by rfl, ?_⟩) hSt ?_ ?_
    rotate_left
    · intro w' hS'
      have hL' := hS'.2
      go_simp
      with_reducible rfl
    rotate_left
    · simp only [Act.put, List.setIfInBounds_toArray, List.set_cons_zero, List.set_cons_succ]
      rfl
    refine pi_ 8 50 (bt 12 511) rfl rfl (fun _ _ _ h => h) ?_
    refine pi_ 9 51 (bt 12 1023) rfl rfl (fun _ _ _ h => h) ?_
    refine pi_ 10 52 (bt 12 2047) rfl rfl (fun _ _ _ h => h) ?_
    refine last_ (i := 11) (N := none) (bt 12 4095) rfl rfl (by kernel_rfl) (by decide) ?_
    intro K hK
    refine qs rfl ?_
    refine hK.out _ _ ?_
    clear hK K
    refine done_ (by kernel_rfl) ?_
    have k1 := spansStep_hi (show SpansBox V.drew w.heap.size (fun j => if j = x.1.1 then (x.1.2.2.f1.f1, (spansOfL pre j).2) else spansOfL pre j) from v1) x.1.1 hi4 (if (spansOfL pre x.1.1).2 < x.1.2.2.f1.f1 then x.1.2.2.f1.f1 else (spansOfL pre x.1.1).2)
    refine ⟨v5.trans (((KeepsOthers.drew V).trans (KeepsOthers.setCell _ _ _)).from _), v4.trans ((below_drew (Below.refl _ V)).setCell (p := ⟨w.heap.size, x.1.1 * 2 + 1, none⟩) (Nat.le_refl _) _), ?_, blk_far v2 (p := ⟨w.heap.size, x.1.1 * 2 + 1, none⟩) (by show w.heap.size + 1 ≠ w.heap.size; omega) _, (below_drew v3).setCell (p := ⟨w.heap.size, x.1.1 * 2 + 1, none⟩) (Nat.le_refl _) _⟩
    rw [hsn]
    have e : spansStep (spansOfL pre) x.1 = (fun j => if j = x.1.1 then (((fun j => if j = x.1.1 then (x.1.2.2.f1.f1, (spansOfL pre j).2) else spansOfL pre j) j).1, (if (spansOfL pre x.1.1).2 < x.1.2.2.f1.f1 then x.1.2.2.f1.f1 else (spansOfL pre x.1.1).2)) else (fun j => if j = x.1.1 then (x.1.2.2.f1.f1, (spansOfL pre j).2) else spansOfL pre j) j) := by
     funext j
     unfold spansStep stepSpan mx
     by_cases hj : j = x.1.1
     rotate_left
     · simp [hj]
     subst hj
     rw [if_pos rfl, if_pos hs1, if_pos (Or.inl hz), if_pos rfl]
     simp
    rw [e]
    exact k1
  have hz2 : ((spansOfL pre x.1.1).1 == 0) = false := by simp [hz]
  by_cases hw : x.1.2.2.f1.f1 < (spansOfL pre x.1.1).1
  rotate_left
  · have hw2 : decide (x.1.2.2.f1.f1 < (spansOfL pre x.1.1).1) = false := decide_eq_false hw
    gi_wp2
    have hSt : (fun W' => W'.cell? ⟨w.heap.size, x.1.1 * 2, none⟩ = some (.int .i64 (spansOfL pre x.1.1).1) ∧ W'.cell? ⟨Bx, 2, none⟩ = some (.int .i64 x.1.2.2.f1.f1)) W.drew := ⟨hlo, hc2_⟩
    refine start_round (S := fun W' => W'.cell? ⟨w.heap.size, x.1.1 * 2, none⟩ = some (.int .i64 (spansOfL pre x.1.1).1) ∧ W'.cell? ⟨Bx, 2, none⟩ = some (.int .i64 x.1.2.2.f1.f1)) (ds := []) (bt 15 0) (by kernel_rfl) rfl rfl (by kernel_rfl) (by rintro ⟨a, w, h⟩; exact h) ?_
    refine pi_ 0 21 (bt 15 1) rfl rfl (fun _ _ _ h => h) ?_
    refine pi_ 1 22 (bt 15 3) rfl rfl (fun _ _ _ h => h) ?_
    refine pi_ 2 23 (bt 15 7) rfl rfl (fun _ _ _ h => h) ?_
    refine take_ (i := 3) (N := some 24) (v := ?_) (a' := ?_) (bt 15 15) rfl rfl (by kernel_rfl) (fun _ _ _ h => h) (Or.inl ⟨by rfl, ?_⟩) hSt ?_ ?_
    rotate_left
    · intro w' hS'
      have hL' := hS'.1
      go_simp
      with_reducible rfl
    rotate_left
    · simp only [Act.put, List.setIfInBounds_toArray, List.set_cons_zero, List.set_cons_succ]
      rfl
    refine pi_ 4 25 (bt 15 31) rfl rfl (fun _ _ _ h => h) ?_
    refine pi_ 5 26 (bt 15 63) rfl rfl (fun _ _ _ h => h) ?_
    refine pi_ 6 27 (bt 15 127) rfl rfl (fun _ _ _ h => h) ?_
    refine pi_ 7 28 (bt 15 255) rfl rfl (fun _ _ _ h => h) ?_
    refine take_ (i := 8) (N := some 29) (v := ?_) (a' := ?_) (bt 15 511) rfl rfl (by kernel_rfl) (fun _ _ _ h => h) (Or.inl ⟨by rfl, ?_⟩) hSt ?_ ?_
    rotate_left
    · intro w' hS'
      have hL' := hS'.2
      go_simp
      with_reducible rfl
    rotate_left
    · simp only [Act.put, List.setIfInBounds_toArray, List.set_cons_zero, List.set_cons_succ]
      rfl
    refine pi_ 9 30 (bt 15 1023) rfl rfl (fun _ _ _ h => h) ?_
    refine pi_ 10 31 (bt 15 2047) rfl rfl (fun _ _ _ h => h) ?_
    refine pi_ 11 32 (bt 15 4095) rfl rfl (fun _ _ _ h => h) ?_
    refine take_ (i := 12) (N := some 33) (v := ?_) (a' := ?_) (bt 15 8191) rfl rfl (by kernel_rfl) (fun _ _ _ h => h) (Or.inl ⟨by rfl, ?_⟩) hSt ?_ ?_
    rotate_left
    · intro w' hS'
      have hL' := hS'.1
      go_simp
      with_reducible rfl
    rotate_left
    · simp only [Act.put, List.setIfInBounds_toArray, List.set_cons_zero, List.set_cons_succ]
      rfl
    refine pi_ 13 34 (bt 15 16383) rfl rfl (fun _ _ _ h => h) ?_
    refine pi_ 14 35 (bt 15 32767) rfl rfl (fun _ _ _ h => h) ?_
    refine done_ (by kernel_rfl) ?_
    gi_wp2
    have v1 : SpansBox W.drew w.heap.size (spansOfL pre) := hbx
    have v2 : Boxed W.drew (w.heap.size + 1) 60 (.slice (some ⟨w.heap.size, 0, none⟩) 4 4) := hbv
    have v3 : Below w.heap.size w W.drew := below_drew hB
    have v4 : Below w.heap.size W W.drew := below_drew (Below.refl _ W)
    have v5 : KeepsFrom W0.heap.size W W.drew := (KeepsOthers.drew W).from _
    have v6 : PageBox W.drew Bx x.1.2.2 := bX
    generalize hV : W.drew = V at v1 v2 v3 v4 v5 v6 ⊢
    have hhiV := (v1.at_ x.1.1 hi4).2
    have hsqV := v6.cells.2.2.1
    have hfV := v1.frozen (x.1.1 * 2 + 1)
    clear hV hbx hlo hhi hf0 hf1 hc0_ hc1_ hc2_ hc3_ hc4_ hcs0 hcv hbv bs bX
    have hSt : (fun W' => W'.cell? ⟨w.heap.size, x.1.1 * 2 + 1, none⟩ = some (.int .i64 (spansOfL pre x.1.1).2) ∧ W'.cell? ⟨Bx, 2, none⟩ = some (.int .i64 x.1.2.2.f1.f1)) V.drew := ⟨hhiV, hsqV⟩
    refine start_round (S := fun W' => W'.cell? ⟨w.heap.size, x.1.1 * 2 + 1, none⟩ = some (.int .i64 (spansOfL pre x.1.1).2) ∧ W'.cell? ⟨Bx, 2, none⟩ = some (.int .i64 x.1.2.2.f1.f1)) (ds := [11]) (bt 12 0) (by kernel_rfl) rfl rfl (by kernel_rfl) (by rintro ⟨a, w, h⟩; exact h) ?_
    refine pi_ 0 42 (bt 12 1) rfl rfl (fun _ _ _ h => h) ?_
    refine pi_ 1 43 (bt 12 3) rfl rfl (fun _ _ _ h => h) ?_
    refine pi_ 2 44 (bt 12 7) rfl rfl (fun _ _ _ h => h) ?_
    refine pi_ 3 45 (bt 12 15) rfl rfl (fun _ _ _ h => h) ?_
    refine take_ (i := 4) (N := some 46) (v := ?_) (a' := ?_) (bt 12 31) rfl rfl (by kernel_rfl) (fun _ _ _ h => h) (Or.inl ⟨by rfl, ?_⟩) hSt ?_ ?_
    rotate_left
    · intro w' hS'
      have hL' := hS'.1
      go_simp
      with_reducible rfl
    rotate_left
    · simp only [Act.put, List.setIfInBounds_toArray, List.set_cons_zero, List.set_cons_succ]
      rfl
    refine pi_ 5 47 (bt 12 63) rfl rfl (fun _ _ _ h => h) ?_
    refine pi_ 6 48 (bt 12 127) rfl rfl (fun _ _ _ h => h) ?_
    refine take_ (i := 7) (N := some 49) (v := ?_) (a' := ?_) (bt 12 255) rfl rfl (by kernel_rfl) (fun _ _ _ h => h) (Or.inl ⟨by rfl, ?_⟩) hSt ?_ ?_
    rotate_left
    · intro w' hS'
      have hL' := hS'.2
      go_simp
      with_reducible rfl
    rotate_left
    · simp only [Act.put, List.setIfInBounds_toArray, List.set_cons_zero, List.set_cons_succ]
      rfl
    refine pi_ 8 50 (bt 12 511) rfl rfl (fun _ _ _ h => h) ?_
    refine pi_ 9 51 (bt 12 1023) rfl rfl (fun _ _ _ h => h) ?_
    refine pi_ 10 52 (bt 12 2047) rfl rfl (fun _ _ _ h => h) ?_
    refine last_ (i := 11) (N := none) (bt 12 4095) rfl rfl (by kernel_rfl) (by decide) ?_
    intro K hK
    refine qs rfl ?_
    refine hK.out _ _ ?_
    clear hK K
    refine done_ (by kernel_rfl) ?_
    have k1 := spansStep_hi (show SpansBox V.drew w.heap.size (spansOfL pre) from v1) x.1.1 hi4 (if (spansOfL pre x.1.1).2 < x.1.2.2.f1.f1 then x.1.2.2.f1.f1 else (spansOfL pre x.1.1).2)
    refine ⟨v5.trans (((KeepsOthers.drew V).trans (KeepsOthers.setCell _ _ _)).from _), v4.trans ((below_drew (Below.refl _ V)).setCell (p := ⟨w.heap.size, x.1.1 * 2 + 1, none⟩) (Nat.le_refl _) _), ?_, blk_far v2 (p := ⟨w.heap.size, x.1.1 * 2 + 1, none⟩) (by show w.heap.size + 1 ≠ w.heap.size; omega) _, (below_drew v3).setCell (p := ⟨w.heap.size, x.1.1 * 2 + 1, none⟩) (Nat.le_refl _) _⟩
    rw [hsn]
    have e : spansStep (spansOfL pre) x.1 = (fun j => if j = x.1.1 then (((spansOfL pre) j).1, (if (spansOfL pre x.1.1).2 < x.1.2.2.f1.f1 then x.1.2.2.f1.f1 else (spansOfL pre x.1.1).2)) else (spansOfL pre) j) := by
     funext j
     unfold spansStep stepSpan mx
     by_cases hj : j = x.1.1
     rotate_left
     · simp [hj]
     subst hj
     rw [if_pos rfl, if_pos hs1, if_neg (fun h => h.elim hz (fun h => by omega)), if_pos rfl]
    rw [e]
    exact k1
  have hw2 : decide (x.1.2.2.f1.f1 < (spansOfL pre x.1.1).1) = true := decide_eq_true hw
  gi_wp2
  have hSt : (fun W' => W'.cell? ⟨w.heap.size, x.1.1 * 2, none⟩ = some (.int .i64 (spansOfL pre x.1.1).1) ∧ W'.cell? ⟨Bx, 2, none⟩ = some (.int .i64 x.1.2.2.f1.f1)) W.drew := ⟨hlo, hc2_⟩
  refine start_round (S := fun W' => W'.cell? ⟨w.heap.size, x.1.1 * 2, none⟩ = some (.int .i64 (spansOfL pre x.1.1).1) ∧ W'.cell? ⟨Bx, 2, none⟩ = some (.int .i64 x.1.2.2.f1.f1)) (ds := []) (bt 15 0) (by kernel_rfl) rfl rfl (by kernel_rfl) (by rintro ⟨a, w, h⟩; exact h) ?_
  refine pi_ 0 21 (bt 15 1) rfl rfl (fun _ _ _ h => h) ?_
  refine pi_ 1 22 (bt 15 3) rfl rfl (fun _ _ _ h => h) ?_
  refine pi_ 2 23 (bt 15 7) rfl rfl (fun _ _ _ h => h) ?_
  refine take_ (i := 3) (N := some 24) (v := ?_) (a' := ?_) (bt 15 15) rfl rfl (by kernel_rfl) (fun _ _ _ h => h) (Or.inl ⟨by rfl, ?_⟩) hSt ?_ ?_
  rotate_left
  · intro w' hS'
    have hL' := hS'.1
    go_simp
    with_reducible rfl
  rotate_left
  · simp only [Act.put, List.setIfInBounds_toArray, List.set_cons_zero, List.set_cons_succ]
    rfl
  refine pi_ 4 25 (bt 15 31) rfl rfl (fun _ _ _ h => h) ?_
  refine pi_ 5 26 (bt 15 63) rfl rfl (fun _ _ _ h => h) ?_
  refine pi_ 6 27 (bt 15 127) rfl rfl (fun _ _ _ h => h) ?_
  refine pi_ 7 28 (bt 15 255) rfl rfl (fun _ _ _ h => h) ?_
  refine take_ (i := 8) (N := some 29) (v := ?_) (a' := ?_) (bt 15 511) rfl rfl (by kernel_rfl) (fun _ _ _ h => h) (Or.inl ⟨by rfl, ?_⟩) hSt ?_ ?_
  rotate_left
  · intro w' hS'
    have hL' := hS'.2
    go_simp
    with_reducible rfl
  rotate_left
  · simp only [Act.put, List.setIfInBounds_toArray, List.set_cons_zero, List.set_cons_succ]
    rfl
  refine pi_ 9 30 (bt 15 1023) rfl rfl (fun _ _ _ h => h) ?_
  refine pi_ 10 31 (bt 15 2047) rfl rfl (fun _ _ _ h => h) ?_
  refine pi_ 11 32 (bt 15 4095) rfl rfl (fun _ _ _ h => h) ?_
  refine take_ (i := 12) (N := some 33) (v := ?_) (a' := ?_) (bt 15 8191) rfl rfl (by kernel_rfl) (fun _ _ _ h => h) (Or.inl ⟨by rfl, ?_⟩) hSt ?_ ?_
  rotate_left
  · intro w' hS'
    have hL' := hS'.1
    go_simp
    with_reducible rfl
  rotate_left
  · simp only [Act.put, List.setIfInBounds_toArray, List.set_cons_zero, List.set_cons_succ]
    rfl
  refine pi_ 13 34 (bt 15 16383) rfl rfl (fun _ _ _ h => h) ?_
  refine pi_ 14 35 (bt 15 32767) rfl rfl (fun _ _ _ h => h) ?_
  refine done_ (by kernel_rfl) ?_
  gi_wp2
  have v1 : SpansBox (W.setCell ⟨w.heap.size, x.1.1 * 2, none⟩ (.int .i64 x.1.2.2.f1.f1)).drew w.heap.size (fun j => if j = x.1.1 then (x.1.2.2.f1.f1, (spansOfL pre j).2) else spansOfL pre j) := spansStep_lo hbx x.1.1 hi4 x.1.2.2.f1.f1
  have v2 : Boxed (W.setCell ⟨w.heap.size, x.1.1 * 2, none⟩ (.int .i64 x.1.2.2.f1.f1)).drew (w.heap.size + 1) 60 (.slice (some ⟨w.heap.size, 0, none⟩) 4 4) := blk_far hbv (p := ⟨w.heap.size, x.1.1 * 2, none⟩) (by show w.heap.size + 1 ≠ w.heap.size; omega) _
  have v3 : Below w.heap.size w (W.setCell ⟨w.heap.size, x.1.1 * 2, none⟩ (.int .i64 x.1.2.2.f1.f1)).drew := below_drew (hB.setCell (p := ⟨w.heap.size, x.1.1 * 2, none⟩) (Nat.le_refl _) _)
  have v4 : Below w.heap.size W (W.setCell ⟨w.heap.size, x.1.1 * 2, none⟩ (.int .i64 x.1.2.2.f1.f1)).drew := below_drew ((Below.refl _ W).setCell (p := ⟨w.heap.size, x.1.1 * 2, none⟩) (Nat.le_refl _) _)
  have v5 : KeepsFrom W0.heap.size W (W.setCell ⟨w.heap.size, x.1.1 * 2, none⟩ (.int .i64 x.1.2.2.f1.f1)).drew := ((KeepsOthers.setCell W ⟨w.heap.size, x.1.1 * 2, none⟩ (.int .i64 x.1.2.2.f1.f1)).trans (KeepsOthers.drew _)).from _
  have v6 : PageBox (W.setCell ⟨w.heap.size, x.1.1 * 2, none⟩ (.int .i64 x.1.2.2.f1.f1)).drew Bx x.1.2.2 := blk_far bX (p := ⟨w.heap.size, x.1.1 * 2, none⟩) (by show Bx ≠ w.heap.size; omega) _
  generalize hV : (W.setCell ⟨w.heap.size, x.1.1 * 2, none⟩ (.int .i64 x.1.2.2.f1.f1)).drew = V at v1 v2 v3 v4 v5 v6 ⊢
  have hhiV : V.cell? ⟨w.heap.size, x.1.1 * 2 + 1, none⟩ = some (.int .i64 (spansOfL pre x.1.1).2) := by have := (v1.at_ x.1.1 hi4).2; simpa using this
  have hsqV := v6.cells.2.2.1
  have hfV := v1.frozen (x.1.1 * 2 + 1)
  clear hV hbx hlo hhi hf0 hf1 hc0_ hc1_ hc2_ hc3_ hc4_ hcs0 hcv hbv bs bX
  have hSt : (fun W' => W'.cell? ⟨w.heap.size, x.1.1 * 2 + 1, none⟩ = some (.int .i64 (spansOfL pre x.1.1).2) ∧ W'.cell? ⟨Bx, 2, none⟩ = some (.int .i64 x.1.2.2.f1.f1)) V.drew := ⟨hhiV, hsqV⟩
  refine start_round (S := fun W' => W'.cell? ⟨w.heap.size, x.1.1 * 2 + 1, none⟩ = some (.int .i64 (spansOfL pre x.1.1).2) ∧ W'.cell? ⟨Bx, 2, none⟩ = some (.int .i64 x.1.2.2.f1.f1)) (ds := [11]) (bt 12 0) (by kernel_rfl) rfl rfl (by kernel_rfl) (by rintro ⟨a, w, h⟩; exact h) ?_
  refine pi_ 0 42 (bt 12 1) rfl rfl (fun _ _ _ h => h) ?_
  refine pi_ 1 43 (bt 12 3) rfl rfl (fun _ _ _ h => h) ?_
  refine pi_ 2 44 (bt 12 7) rfl rfl (fun _ _ _ h => h) ?_
  refine pi_ 3 45 (bt 12 15) rfl rfl (fun _ _ _ h => h) ?_
  refine take_ (i := 4) (N := some 46) (v := ?_) (a' := ?_) (bt 12 31) rfl rfl (by kernel_rfl) (fun _ _ _ h => h) (Or.inl ⟨by rfl, ?_⟩) hSt ?_ ?_
  rotate_left
  · intro w' hS'
    have hL' := hS'.1
    go_simp
    with_reducible rfl
  rotate_left
  · simp only [Act.put, List.setIfInBounds_toArray, List.set_cons_zero, List.set_cons_succ]
    rfl
  refine pi_ 5 47 (bt 12 63) rfl rfl (fun _ _ _ h => h) ?_
  refine pi_ 6 48 (bt 12 127) rfl rfl (fun _ _ _ h => h) ?_
  refine take_ (i := 7) (N := some 49) (v := ?_) (a' := ?_) (bt 12 255) rfl rfl (by kernel_rfl) (fun _ _ _ h => h) (Or.inl ⟨by rfl, ?_⟩) hSt ?_ ?_
  rotate_left
  · intro w' hS'
    have hL' := hS'.2
    go_simp
    with_reducible rfl
  rotate_left
  · simp only [Act.put, List.setIfInBounds_toArray, List.set_cons_zero, List.set_cons_succ]
    rfl
  refine pi_ 8 50 (bt 12 511) rfl rfl (fun _ _ _ h => h) ?_
  refine pi_ 9 51 (bt 12 1023) rfl rfl (fun _ _ _ h => h) ?_
  refine pi_ 10 52 (bt 12 2047) rfl rfl (fun _ _ _ h => h) ?_
  refine last_ (i := 11) (N := none) (bt 12 4095) rfl rfl (by kernel_rfl) (by decide) ?_
  intro K hK
  refine qs rfl ?_
  refine hK.out _ _ ?_
  clear hK K
  refine done_ (by kernel_rfl) ?_
  have k1 := spansStep_hi (show SpansBox V.drew w.heap.size (fun j => if j = x.1.1 then (x.1.2.2.f1.f1, (spansOfL pre j).2) else spansOfL pre j) from v1) x.1.1 hi4 (if (spansOfL pre x.1.1).2 < x.1.2.2.f1.f1 then x.1.2.2.f1.f1 else (spansOfL pre x.1.1).2)
  refine ⟨v5.trans (((KeepsOthers.drew V).trans (KeepsOthers.setCell _ _ _)).from _), v4.trans ((below_drew (Below.refl _ V)).setCell (p := ⟨w.heap.size, x.1.1 * 2 + 1, none⟩) (Nat.le_refl _) _), ?_, blk_far v2 (p := ⟨w.heap.size, x.1.1 * 2 + 1, none⟩) (by show w.heap.size + 1 ≠ w.heap.size; omega) _, (below_drew v3).setCell (p := ⟨w.heap.size, x.1.1 * 2 + 1, none⟩) (Nat.le_refl _) _⟩
  rw [hsn]
  have e : spansStep (spansOfL pre) x.1 = (fun j => if j = x.1.1 then (((fun j => if j = x.1.1 then (x.1.2.2.f1.f1, (spansOfL pre j).2) else spansOfL pre j) j).1, (if (spansOfL pre x.1.1).2 < x.1.2.2.f1.f1 then x.1.2.2.f1.f1 else (spansOfL pre x.1.1).2)) else (fun j => if j = x.1.1 then (x.1.2.2.f1.f1, (spansOfL pre j).2) else spansOfL pre j) j) := by
   funext j
   unfold spansStep stepSpan mx
   by_cases hj : j = x.1.1
   rotate_left
   · simp [hj]
   subst hj
   rw [if_pos rfl, if_pos hs1, if_pos (Or.inr hw), if_pos rfl]
   simp
  rw [e]
  exact k1
 case done =>
  rintro D ys W hD hys ⟨hbx, hbv, hB⟩ hK
  rw [spansOfL_all hys] at hbx
  have hcv := hbv.cell
  gi_wp2
  refine ⟨by simp, .inl ⟨_, _, rfl, run_takeDeferred hK, ?_⟩⟩
  have hbq := SpansBox.own (β := Unit) _ (fun _ => spansF l0) () _ _ _ hbx (grownBy_putObj' _ D (.deferred none)) (fun r e => by cases e; exact ⟨_, hK, rfl⟩)
  exact ⟨_, results_tmp rfl _ _ _, w.heap.size, rfl, hbq, Nat.le_refl _, hB.trans (belowK_b (w := w) (Nat.le_refl _) W D _ _ (by have := hB0.size; omega) hK rfl rfl)⟩
 case stop =>
  rintro D c pre W _ _ h _
  exact h.elim
end Go.Proofs.Ytenmnclkbleglaa.P2
