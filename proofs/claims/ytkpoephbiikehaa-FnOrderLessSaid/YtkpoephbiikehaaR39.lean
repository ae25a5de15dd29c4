-- printed by wip/pp/pp.py
import Derived.Test.YtkpoephbiikehaaR30
import Derived.Test.YtkpoephbiikehaaR38
import Derived.Test.YtkpoephbiikehaaWMap
import Derived.Maps.OwnOps
import Derived.Maps.Own
import Derived.IntWalk
import Derived.WalkArith
import Derived.RangeFuncNested
import Derived.RangeFuncBound
import Derived.RangeFuncCalls
import Derived.RangeFuncLeaves
import Derived.Shelf.Abstract
import Derived.WalkKit
import Derived.OwnWalkIn
import Derived.TacticsInMore
import Derived.LoopNIn
import Derived.LoopIn
namespace Go.Proofs.Ytkpoephbiikehaa.R3
open Go.RowKit Go.Proofs.YtkpoephbiikehaaW.PrintWords Go.Proofs.YtkpoephbiikehaaW.PrintLast Go.Proofs.YtkpoephbiikehaaW.PrintMore
attribute [local go_sem] max2_int min2_int max_two min_two max_three min_three max_four min_four
set_option linter.unusedVariables false
set_option linter.unusedSimpArgs false
def pageB (p : S29) : Bool :=
 if p.f0 = 1 then recOkB p.f1.f0 p.f1.f1 p.f1.f2 p.f1.f3
 else if p.f0 = 0 ∨ p.f0 = 2 then p.f1.f0 == 0 && (p.f1.f1 == 0 && (p.f1.f2 == 0 && (p.f1.f3 == 0))) else false
def shapeB : List S29 → Bool → Bool
 | [], _ => true
 | p :: ps, free => if free = true ∧ p.f0 ≠ 0 then false else shapeB ps (p.f0 == 0)
def blockB (b : S32) : Bool := decide ((b.f0.length : Int) = 4 ∧ 0 ≤ b.f1 ∧ b.f1 ≤ 200) && shapeB b.f0 false
def pagesB : List S29 → List Int → Option (List Int)
 | [], S => some S
 | p :: ps, S => if pageB p = true then (if p.f0 = 1 then (if p.f1.f1 ∈ S then none else pagesB ps (p.f1.f1 :: S)) else pagesB ps S) else none
def blocksB : List S32 → List Int → Bool
 | [], _ => true
 | b :: bs, S => blockB b && (match pagesB b.f0 S with | none => false | some S' => blocksB bs S')
def flashOkB (l : List S32) : Bool := decide ((l.length : Int) = 4) && blocksB l []
theorem drop_T29 {l : List S29} {i : Nat} (h : i < l.length) : l.drop i = rd_T29 l (i : Int) :: l.drop (i + 1) := by
 rw [List.drop_eq_getElem_cons h]
 simp [rd_T29, List.getD_eq_getElem?_getD, h]
theorem drop_T32 {l : List S32} {i : Nat} (h : i < l.length) : l.drop i = rd_T32 l (i : Int) :: l.drop (i + 1) := by
 rw [List.drop_eq_getElem_cons h]
 simp [rd_T32, List.getD_eq_getElem?_getD, h]
theorem shape_loop (l : List S29) (hl : l.length ≤ maxLen) : ∀ (n i : Nat) (free : Bool), i + n = l.length → impl_blockShape.l0 (n + 1) free l (l.length : Int) (i : Int) = some (shapeB (l.drop i) free)
 | 0, i, free, h => by
  rw [impl_blockShape.l0, if_neg (by omega), List.drop_eq_nil_of_le (by omega)]
  rfl
 | n + 1, i, free, h => by
  have hw : wrap64 ((i : Int) + 1) = ((i + 1 : Nat) : Int) := by
   simp only [maxLen] at hl
   rw [IntWalk.wrap64_in _ (by omega)]
   omega
  rw [impl_blockShape.l0, if_pos (by omega), if_pos (by omega), if_pos (by omega), drop_T29 (by omega), shapeB, hw]
  have ih := fun f => shape_loop l hl n (i + 1) f (by omega)
  by_cases hf : free = true
  rotate_left
  · rw [if_neg hf, if_neg (fun h => hf h.1)]
    exact ih _
  by_cases hs : (rd_T29 l (i : Int)).f0 = 0
  rotate_left
  · rw [if_pos hf, if_neg hs, if_pos ⟨hf, hs⟩]
  rw [if_pos hf, if_pos hs, if_neg (by simp [hs])]
  exact ih _
theorem blockShape_ok (b : S32) (hl : b.f0.length ≤ maxLen) : ∃ k, impl_blockShape.f k b.f0 b.f1 = some (blockB b) := by
 refine ⟨b.f0.length + 2, ?_⟩
 have key := shape_loop b.f0 hl b.f0.length 0 false (by omega)
 unfold impl_blockShape.f blockB
 by_cases h1 : (b.f0.length : Int) = 4
 rotate_left
 · rw [if_neg h1, impl_blockShape.j0, if_pos rfl]
   simp [h1]
 rw [if_pos h1]
 by_cases h2 : b.f1 < 0
 · rw [if_pos h2, impl_blockShape.j0, if_pos rfl]
   simp
   intro _ h
   omega
 rw [if_neg h2]
 by_cases h3 : b.f1 > 200
 · rw [decide_eq_true h3, impl_blockShape.j0, if_pos rfl]
   simp
   intro _ _ h
   omega
 rw [decide_eq_false h3, impl_blockShape.j0, if_neg (by simp)]
 have : decide ((b.f0.length : Int) = 4 ∧ 0 ≤ b.f1 ∧ b.f1 ≤ 200) = true := decide_eq_true ⟨h1, by omega, by omega⟩
 rw [this, Bool.true_and]
 exact key
theorem pageShape_ok (p : S29) : impl_pageShape.f p.f0 p.f1.f0 p.f1.f1 p.f1.f2 p.f1.f3 = some (pageB p) := by
 unfold impl_pageShape.f pageB impl_RecOk.f
 by_cases h1 : p.f0 = 1
 · rw [if_pos h1, if_pos h1]
   rfl
 rw [if_neg h1, if_neg h1]
 by_cases h2 : p.f0 = 0
 · rw [if_pos h2, if_pos (Or.inl h2)]
 by_cases h3 : p.f0 = 2
 rotate_left
 · rw [if_neg h2, if_neg h3, if_neg (by omega)]
 rw [if_neg h2, if_pos h3, if_pos (Or.inr h3)]
def impl_FlashOk.f (l0 : List (S32)) : Option (Bool) := some (flashOkB l0)
set_option maxHeartbeats 8000000 in
set_option maxRecDepth 100000 in
theorem impl_FlashOk.calls (A0 : Option Addr) (c0 : Nat) (l0 : List (S32)) (r : Bool) (w : World) (hr0 : Kd.C k32 w A0 l0.length l0) (hc0 : l0.length ≤ c0) (h : impl_FlashOk.f l0 = some r) :
 Calls Try.prog 11 #[.slice A0 l0.length c0] w fun e w' => e = .returned (.bool r) ∧ Below w.heap.size w w' := by
 have hu32 := Try.underlying32
 have hu29 := Try.underlying29
 have hu27 := Try.underlying27
 obtain rfl : r = flashOkB l0 := (Option.some.inj h).symm
 clear h
 by_cases c : (l0.length : Int) = 4
 rotate_left
 · have cb : ((l0.length : Int) != 4) = true := by simp [c]
   go_enter Try.func11, Try.ntmps11
   go_wp2
   go_ret
   exact ⟨by simp [flashOkB, c], Below.refl _ _⟩
 have cb : ((l0.length : Int) != 4) = false := by simp [c]
 have HE : Aside0 (flashOkB l0 = blocksB l0 []) := ⟨by unfold flashOkB; rw [decide_eq_true c, Bool.true_and]⟩
 have C := am c
 clear c
 have hmm := @run_makeMap Try.prog
 go_enter Try.func11, Try.ntmps11
 go_wp2
 have HS := am (Go.Proofs.YtkpoephbiikehaaW.SeenIs.made (P := Try.prog) (K := 3) (E := 3) w)
 have HB : Aside0 (Below w.heap.size w (w.alloc (.map #[] 0))) := ⟨below_alloc (Below.refl _ _) _⟩
 generalize hB : w.heap.size = B at HS
 have HBB := am hB
 clear hB
 generalize w.alloc (.map #[] 0) = w1 at HS HB ⊢
 go_loopg [14, 5, 7] (l0.length + 1) (fun kq v14 v5 v7 w' => ∃ (i : Nat) (S : List Int), v14 = .int .i64 (i : Int) ∧ Aside0 (kq + i = l0.length + 1) ∧ Aside0 (i ≤ l0.length) ∧ Aside0 (blocksB (l0.drop i) S = blocksB l0 []) ∧ Aside0 (S.length ≤ 4 * i) ∧ Aside0 (Go.Proofs.YtkpoephbiikehaaW.SeenIs Try.prog 3 3 w' B S.length S) ∧ Aside0 (Below w.heap.size w w'))
 case atStart => exact ⟨0, [], rfl, ⟨rfl⟩, ⟨Nat.zero_le _⟩, ⟨by simp⟩, ⟨by simp⟩, HS, HB⟩
 case round =>
  clear HS HB
  obtain ⟨i, S, rfl, HK, HI, HP, HN, HS, HB⟩ := hrel
  obtain ⟨k1, rfl⟩ : ∃ k, gk = k + 1 := by
   have hsz : (l0.length : Int) = 4 := C.out
   have := HK.out
   have := HI.out
   exact ⟨gk - 1, by omega⟩
  have hsz : (l0.length : Int) = 4 := C.out
  have hw14 : wrap64 ((i : Int) + 1) = ((i + 1 : Nat) : Int) := by have := HI.out; rw [IntWalk.wrap64_in _ (by omega)]; omega
  by_cases ci : i < l0.length
  rotate_left
  · have cib : decide ((i : Int) < (l0.length : Int)) = false := decide_eq_false (by omega)
    have HP2 := HP.out
    rw [List.drop_eq_nil_of_le (by omega), blocksB] at HP2
    have HF : Aside0 (flashOkB l0 = true) := ⟨by rw [HE.out]; exact HP2.symm⟩
    have ci2 : ¬ ((i : Int) < (l0.length : Int)) := by omega
    clear hsz HP2
    go_wp2
    go_ret
    exact ⟨by rw [HF.out]; rfl, HB.out⟩
  have cib : decide ((i : Int) < (l0.length : Int)) = true := decide_eq_true (by omega)
  have p1 : 0 ≤ (i : Int) := by omega
  have q1 : (i : Int) < (l0.length : Int) := by omega
  obtain ⟨ad1, A1, c1, e1, hx1_0, hx1_1, hl1, hi1⟩ := at_T32 hr0 (i : Int) p1 q1
  cases e1
  have hlm1 : (rd_T32 l0 (i : Int)).f0.length ≤ maxLen := Kd.C_max hi1
  replace hx1_0 := up HB.out hx1_0
  replace hx1_1 := up HB.out hx1_1
  simp only [Int.toNat_natCast] at hx1_0 hx1_1
  obtain ⟨kb, hkb⟩ := blockShape_ok (rd_T32 l0 (i : Int)) hlm1
  replace hkb := am hkb
  have HP2 := HP.out
  rw [drop_T32 ci, blocksB] at HP2
  cases hbb : blockB (rd_T32 l0 (i : Int)) with
  | false =>
   rw [hbb] at hkb
   rw [hbb, Bool.false_and] at HP2
   have HF : Aside0 (flashOkB l0 = false) := ⟨by rw [HE.out]; exact HP2.symm⟩
   replace hi1 := am hi1
   replace p1 := eq_true p1
   replace q1 := eq_true q1
   clear hsz ci HP2 hbb
   go_wp2_with (first | (refine bx 5 #[.slice none 0 0, .int .i64 0] 32 rfl ?_; intro g1 hg w6 hbox hb; have n0_ := am (below_step HB.out hb); have n1_ := am hbox; have GE1 := am ((by rw [hg]; exact below_size HB.out) : w.heap.size ≤ g1); have NE1 := am ((by rw [hg]; exact Nat.ne_of_lt HS.out.lt) : B ≠ g1); have n2_ := am (HS.out.below hb); clear HB HS; have HB := n0_; have BK1 := n1_; have HS := n2_; clear n0_ n1_ n2_; obtain ⟨hczg1_0, hczg1_1⟩ := b2 hbox; obtain ⟨hfzg1_0, hfzg1_1⟩ := f2 hbox; clear hb hbox hg) | ((with_reducible refine gate_callee (f := 22) rfl ?_); refine goesL_ (some 19) rfl rfl Try.func22 (by kernel_rfl) rfl #[.agg #[.slice A1 (rd_T32 l0 (i : Int)).f0.length c1, .int .i64 (rd_T32 l0 (i : Int)).f1]] rfl (by (try simp only [List.map_toArray, List.map_cons, List.map_nil]); first | done | rfl) ?_; (with_reducible refine (impl_blockShape.calls kb _ _ _ _ _ _ ?side1 ?side2 hkb.out).mono ?_); (case side1 => exact Kd.C_below hi1.out (bg1 HB.out GE1.out)); (case side2 => exact hl1); rintro e w2 ⟨rfl, hb⟩; refine ⟨_, rfl, ?_⟩; have n0_ := am (below_step (bg1 HB.out GE1.out) hb); have n1_ := am (blk_below (blk_put (cs := #[.slice A1 (rd_T32 l0 (i : Int)).f0.length c1, .int .i64 0]) (blk_put (cs := #[.slice none 0 0, .int .i64 0]) BK1.out 0 _ rfl) 1 _ rfl) hb); have n2_ := am (((HS.out.far (p := ⟨g1, 0, none⟩) NE1.out _).far (p := ⟨g1, 1, none⟩) NE1.out _).below hb); clear HB BK1 HS; have HB := n0_; have BK1 := n1_; have HS := n2_; clear n0_ n1_ n2_; clear hb hczg1_0 hczg1_1 hfzg1_0 hfzg1_1; have hy1_0 := (blk_cell BK1.out 0).trans rfl; have hy1_1 := (blk_cell BK1.out 1).trans rfl))
   go_ret
   exact ⟨by rw [HF.out]; rfl, HB.out⟩
  | true =>
   rw [hbb] at hkb
   rw [hbb, Bool.true_and] at HP2
   replace HP2 := am HP2
   have hbl : (rd_T32 l0 (i : Int)).f0.length = 4 := by
    unfold blockB at hbb
    simp only [Bool.and_eq_true, decide_eq_true_eq] at hbb
    omega
   replace hbl := am hbl
   replace hi1 := am hi1
   replace p1 := eq_true p1
   replace q1 := eq_true q1
   have CI := am ci
   clear hsz ci hbb
   go_wp2_with (first | (refine bx 5 #[.slice none 0 0, .int .i64 0] 32 rfl ?_; intro g1 hg w6 hbox hb; have n0_ := am (below_step HB.out hb); have n1_ := am hbox; have GE1 := am ((by rw [hg]; exact below_size HB.out) : w.heap.size ≤ g1); have NE1 := am ((by rw [hg]; exact Nat.ne_of_lt HS.out.lt) : B ≠ g1); have n2_ := am (HS.out.below hb); clear HB HS; have HB := n0_; have BK1 := n1_; have HS := n2_; clear n0_ n1_ n2_; obtain ⟨hczg1_0, hczg1_1⟩ := b2 hbox; obtain ⟨hfzg1_0, hfzg1_1⟩ := f2 hbox; clear hb hbox hg) | ((with_reducible refine gate_callee (f := 22) rfl ?_); refine goesL_ (some 19) rfl rfl Try.func22 (by kernel_rfl) rfl #[.agg #[.slice A1 (rd_T32 l0 (i : Int)).f0.length c1, .int .i64 (rd_T32 l0 (i : Int)).f1]] rfl (by (try simp only [List.map_toArray, List.map_cons, List.map_nil]); first | done | rfl) ?_; (with_reducible refine (impl_blockShape.calls kb _ _ _ _ _ _ ?side1 ?side2 hkb.out).mono ?_); (case side1 => exact Kd.C_below hi1.out (bg1 HB.out GE1.out)); (case side2 => exact hl1); rintro e w2 ⟨rfl, hb⟩; refine ⟨_, rfl, ?_⟩; have n0_ := am (below_step (bg1 HB.out GE1.out) hb); have n1_ := am (blk_below (blk_put (cs := #[.slice A1 (rd_T32 l0 (i : Int)).f0.length c1, .int .i64 0]) (blk_put (cs := #[.slice none 0 0, .int .i64 0]) BK1.out 0 _ rfl) 1 _ rfl) hb); have n2_ := am (((HS.out.far (p := ⟨g1, 0, none⟩) NE1.out _).far (p := ⟨g1, 1, none⟩) NE1.out _).below hb); clear HB BK1 HS; have HB := n0_; have BK1 := n1_; have HS := n2_; clear n0_ n1_ n2_; clear hb hczg1_0 hczg1_1 hfzg1_0 hfzg1_1; have hy1_0 := (blk_cell BK1.out 0).trans rfl; have hy1_1 := (blk_cell BK1.out 1).trans rfl))
   have NB1 : Aside0 (some g1 ≠ some B) := ⟨fun e => NE1.out (by injection e with e; exact e.symm)⟩
   go_loopg [24, 7] ((rd_T32 l0 (i : Int)).f0.length + 1) (fun kq v24 v7 w' => ∃ (j : Nat) (S2 : List Int), v24 = .int .i64 (j : Int) ∧ Aside0 (kq + j = (rd_T32 l0 (i : Int)).f0.length + 1) ∧ Aside0 (j ≤ (rd_T32 l0 (i : Int)).f0.length) ∧ Aside0 (pagesB ((rd_T32 l0 (i : Int)).f0.drop j) S2 = pagesB (rd_T32 l0 (i : Int)).f0 S) ∧ Aside0 (S2.length ≤ 4 * i + j) ∧ Aside0 (Go.Proofs.YtkpoephbiikehaaW.SeenIs Try.prog 3 3 w' B S2.length S2) ∧ Aside0 (w'.heap[g1]? = some (.cells #[.slice A1 (rd_T32 l0 (i : Int)).f0.length c1, .int .i64 (rd_T32 l0 (i : Int)).f1] 32 (0, 0))) ∧ Aside0 (Below w.heap.size w w'))
   case atStart => exact ⟨0, S, rfl, ⟨rfl⟩, ⟨Nat.zero_le _⟩, ⟨by simp⟩, ⟨by have := HN.out; omega⟩, HS, BK1, HB⟩
   case round =>
    clear HS HB BK1 hy1_0 hy1_1
    obtain ⟨j, S2, rfl, HK2, HJ, HQ, HM, HS, BK1, HB⟩ := hrel
    have hbl' := hbl.out
    have hii : i < l0.length := CI.out
    have hsz : (l0.length : Int) = 4 := C.out
    obtain ⟨k2, rfl⟩ : ∃ k, gk = k + 1 := by
     have := HK2.out
     have := HJ.out
     exact ⟨gk - 1, by omega⟩
    by_cases cj : j < (rd_T32 l0 (i : Int)).f0.length
    rotate_left
    · have cjb : decide ((j : Int) < ((rd_T32 l0 (i : Int)).f0.length : Int)) = false := decide_eq_false (by omega)
      have HQ2 := HQ.out
      rw [List.drop_eq_nil_of_le (by omega), pagesB] at HQ2
      have HP3 := HP2.out
      rw [← HQ2] at HP3
      have HP4 := am HP3
      have hjl : j = (rd_T32 l0 (i : Int)).f0.length := by have := HJ.out; omega
      have HN2 : Aside0 (S2.length ≤ 4 * (i + 1)) := ⟨by have := HM.out; omega⟩
      have cj2 : ¬ ((j : Int) < ((rd_T32 l0 (i : Int)).f0.length : Int)) := by omega
      clear hsz hii hbl' HQ2 HP3 hjl
      go_wp2
      go_roundg k1
      case measure => omega
      case rel => exact ⟨i + 1, S2, by first | rfl | (simp; done) | (simp [*]; done), ⟨by have := HK.out; omega⟩, ⟨CI.out⟩, HP4, HN2, HS, HB⟩
    have cjb : decide ((j : Int) < ((rd_T32 l0 (i : Int)).f0.length : Int)) = true := decide_eq_true (by omega)
    have p2 : 0 ≤ (j : Int) := by omega
    have q2 : (j : Int) < ((rd_T32 l0 (i : Int)).f0.length : Int) := by omega
    obtain ⟨ad2, e2, hx2_0, hx2_1, hx2_2, hx2_3, hx2_4⟩ := at_T29 hi1.out (j : Int) p2 q2
    cases e2
    replace hx2_0 := up HB.out hx2_0
    replace hx2_1 := up HB.out hx2_1
    replace hx2_2 := up HB.out hx2_2
    replace hx2_3 := up HB.out hx2_3
    replace hx2_4 := up HB.out hx2_4
    simp only [Int.toNat_natCast] at hx2_0 hx2_1 hx2_2 hx2_3 hx2_4
    have hkp := am (pageShape_ok (rd_T29 (rd_T32 l0 (i : Int)).f0 (j : Int)))
    have HQ2 := HQ.out
    rw [drop_T29 cj, pagesB] at HQ2
    have hw24 : wrap64 ((j : Int) + 1) = ((j + 1 : Nat) : Int) := by rw [IntWalk.wrap64_in _ (by omega)]; omega
    have hnm : Aside0 (S2.length < maxLen) := ⟨by have := HM.out; simp only [maxLen]; omega⟩
    replace p2 := eq_true p2
    replace q2 := eq_true q2
    have CJ := am cj
    clear hsz hii hbl' cj
    cases hpb : pageB (rd_T29 (rd_T32 l0 (i : Int)).f0 (j : Int)) with
    | false =>
     rw [hpb] at hkp
     rw [hpb, if_neg (by simp)] at HQ2
     have HF : Aside0 (flashOkB l0 = false) := ⟨by rw [HE.out, ← HP2.out, ← HQ2]⟩
     clear HQ2 hpb
     go_wp2_with (first | (refine bx 7 #[.int .i64 0, .int .i64 0, .int .i64 0, .int .i64 0, .int .i64 0] 29 rfl ?_; intro g2 hg w7 hbox hb; have n0_ := am (below_step HB.out hb); have n1_ := am hbox; have GE2 := am ((by rw [hg]; exact below_size HB.out) : w.heap.size ≤ g2); have NE2 := am ((by rw [hg]; exact Nat.ne_of_lt HS.out.lt) : B ≠ g2); have NG2 := am ((by rw [hg]; exact Nat.ne_of_lt (blk_lt BK1.out)) : g1 ≠ g2); have n2_ := am (HS.out.below hb); have n3_ := am (blk_below BK1.out hb); clear HB HS BK1; have HB := n0_; have BK2 := n1_; have HS := n2_; have BK1 := n3_; clear n0_ n1_ n2_ n3_; have hnz2_0 := NG2.out; obtain ⟨hczg2_0, hczg2_1, hczg2_2, hczg2_3, hczg2_4⟩ := b5 hbox; obtain ⟨hfzg2_0, hfzg2_1, hfzg2_2, hfzg2_3, hfzg2_4⟩ := f5 hbox; clear hb hbox hg) | ((with_reducible refine gate_callee (f := 23) rfl ?_); refine goesL_ (some 29) rfl rfl Try.func23 (by kernel_rfl) rfl #[.agg #[.int .i64 (rd_T29 (rd_T32 l0 (i : Int)).f0 (j : Int)).f0, .int .i64 (rd_T29 (rd_T32 l0 (i : Int)).f0 (j : Int)).f1.f0, .int .i64 (rd_T29 (rd_T32 l0 (i : Int)).f0 (j : Int)).f1.f1, .int .i64 (rd_T29 (rd_T32 l0 (i : Int)).f0 (j : Int)).f1.f2, .int .i64 (rd_T29 (rd_T32 l0 (i : Int)).f0 (j : Int)).f1.f3]] rfl (by (try simp only [List.map_toArray, List.map_cons, List.map_nil]); first | done | rfl) ?_; (with_reducible refine (impl_pageShape.calls _ _ _ _ _ _ _ hkp.out).mono ?_); rintro e w3 ⟨rfl, hb⟩; refine ⟨_, rfl, ?_⟩; have n0_ := am (below_step (bg2 HB.out GE1.out GE2.out) hb); have n1_ := am (blk_below (blk_put (cs := #[.int .i64 (rd_T29 (rd_T32 l0 (i : Int)).f0 (j : Int)).f0, .int .i64 (rd_T29 (rd_T32 l0 (i : Int)).f0 (j : Int)).f1.f0, .int .i64 (rd_T29 (rd_T32 l0 (i : Int)).f0 (j : Int)).f1.f1, .int .i64 (rd_T29 (rd_T32 l0 (i : Int)).f0 (j : Int)).f1.f2, .int .i64 0]) (blk_put (cs := #[.int .i64 (rd_T29 (rd_T32 l0 (i : Int)).f0 (j : Int)).f0, .int .i64 (rd_T29 (rd_T32 l0 (i : Int)).f0 (j : Int)).f1.f0, .int .i64 (rd_T29 (rd_T32 l0 (i : Int)).f0 (j : Int)).f1.f1, .int .i64 0, .int .i64 0]) (blk_put (cs := #[.int .i64 (rd_T29 (rd_T32 l0 (i : Int)).f0 (j : Int)).f0, .int .i64 (rd_T29 (rd_T32 l0 (i : Int)).f0 (j : Int)).f1.f0, .int .i64 0, .int .i64 0, .int .i64 0]) (blk_put (cs := #[.int .i64 (rd_T29 (rd_T32 l0 (i : Int)).f0 (j : Int)).f0, .int .i64 0, .int .i64 0, .int .i64 0, .int .i64 0]) (blk_put (cs := #[.int .i64 0, .int .i64 0, .int .i64 0, .int .i64 0, .int .i64 0]) BK2.out 0 _ rfl) 1 _ rfl) 2 _ rfl) 3 _ rfl) 4 _ rfl) hb); have n2_ := am ((((((HS.out.far (p := ⟨g2, 0, none⟩) NE2.out _).far (p := ⟨g2, 1, none⟩) NE2.out _).far (p := ⟨g2, 2, none⟩) NE2.out _).far (p := ⟨g2, 3, none⟩) NE2.out _).far (p := ⟨g2, 4, none⟩) NE2.out _).below hb); have n3_ := am (blk_below (blk_far (blk_far (blk_far (blk_far (blk_far BK1.out (p := ⟨g2, 0, none⟩) NG2.out _) (p := ⟨g2, 1, none⟩) NG2.out _) (p := ⟨g2, 2, none⟩) NG2.out _) (p := ⟨g2, 3, none⟩) NG2.out _) (p := ⟨g2, 4, none⟩) NG2.out _) hb); clear HB BK1 BK2 HS; have HB := n0_; have BK2 := n1_; have HS := n2_; have BK1 := n3_; clear n0_ n1_ n2_ n3_; clear hb hczg2_0 hfzg2_0 hczg2_1 hfzg2_1 hczg2_2 hfzg2_2 hczg2_3 hfzg2_3 hczg2_4 hfzg2_4; have hy2_0 := (blk_cell BK2.out 0).trans rfl; have hy2_1 := (blk_cell BK2.out 1).trans rfl; have hy2_2 := (blk_cell BK2.out 2).trans rfl; have hy2_3 := (blk_cell BK2.out 3).trans rfl; have hy2_4 := (blk_cell BK2.out 4).trans rfl))
     go_ret
     exact ⟨by rw [HF.out]; rfl, HB.out⟩
    | true =>
     rw [hpb] at hkp
     rw [hpb, if_pos rfl] at HQ2
     by_cases cs : (rd_T29 (rd_T32 l0 (i : Int)).f0 (j : Int)).f0 = 1
     rotate_left
     · have cs0 : ((rd_T29 (rd_T32 l0 (i : Int)).f0 (j : Int)).f0 == 1) = false := beq_eq_false_iff_ne.mpr cs
       have cs1 : ((rd_T29 (rd_T32 l0 (i : Int)).f0 (j : Int)).f0 != 1) = true := bne_iff_ne.mpr cs
       rw [if_neg cs] at HQ2
       have HQ3 := am HQ2
       clear HQ2 hpb cs
       go_wp2_with (first | (refine bx 7 #[.int .i64 0, .int .i64 0, .int .i64 0, .int .i64 0, .int .i64 0] 29 rfl ?_; intro g2 hg w7 hbox hb; have n0_ := am (below_step HB.out hb); have n1_ := am hbox; have GE2 := am ((by rw [hg]; exact below_size HB.out) : w.heap.size ≤ g2); have NE2 := am ((by rw [hg]; exact Nat.ne_of_lt HS.out.lt) : B ≠ g2); have NG2 := am ((by rw [hg]; exact Nat.ne_of_lt (blk_lt BK1.out)) : g1 ≠ g2); have n2_ := am (HS.out.below hb); have n3_ := am (blk_below BK1.out hb); clear HB HS BK1; have HB := n0_; have BK2 := n1_; have HS := n2_; have BK1 := n3_; clear n0_ n1_ n2_ n3_; have hnz2_0 := NG2.out; obtain ⟨hczg2_0, hczg2_1, hczg2_2, hczg2_3, hczg2_4⟩ := b5 hbox; obtain ⟨hfzg2_0, hfzg2_1, hfzg2_2, hfzg2_3, hfzg2_4⟩ := f5 hbox; clear hb hbox hg) | ((with_reducible refine gate_callee (f := 23) rfl ?_); refine goesL_ (some 29) rfl rfl Try.func23 (by kernel_rfl) rfl #[.agg #[.int .i64 (rd_T29 (rd_T32 l0 (i : Int)).f0 (j : Int)).f0, .int .i64 (rd_T29 (rd_T32 l0 (i : Int)).f0 (j : Int)).f1.f0, .int .i64 (rd_T29 (rd_T32 l0 (i : Int)).f0 (j : Int)).f1.f1, .int .i64 (rd_T29 (rd_T32 l0 (i : Int)).f0 (j : Int)).f1.f2, .int .i64 (rd_T29 (rd_T32 l0 (i : Int)).f0 (j : Int)).f1.f3]] rfl (by (try simp only [List.map_toArray, List.map_cons, List.map_nil]); first | done | rfl) ?_; (with_reducible refine (impl_pageShape.calls _ _ _ _ _ _ _ hkp.out).mono ?_); rintro e w3 ⟨rfl, hb⟩; refine ⟨_, rfl, ?_⟩; have n0_ := am (below_step (bg2 HB.out GE1.out GE2.out) hb); have n1_ := am (blk_below (blk_put (cs := #[.int .i64 (rd_T29 (rd_T32 l0 (i : Int)).f0 (j : Int)).f0, .int .i64 (rd_T29 (rd_T32 l0 (i : Int)).f0 (j : Int)).f1.f0, .int .i64 (rd_T29 (rd_T32 l0 (i : Int)).f0 (j : Int)).f1.f1, .int .i64 (rd_T29 (rd_T32 l0 (i : Int)).f0 (j : Int)).f1.f2, .int .i64 0]) (blk_put (cs := #[.int .i64 (rd_T29 (rd_T32 l0 (i : Int)).f0 (j : Int)).f0, .int .i64 (rd_T29 (rd_T32 l0 (i : Int)).f0 (j : Int)).f1.f0, .int .i64 (rd_T29 (rd_T32 l0 (i : Int)).f0 (j : Int)).f1.f1, .int .i64 0, .int .i64 0]) (blk_put (cs := #[.int .i64 (rd_T29 (rd_T32 l0 (i : Int)).f0 (j : Int)).f0, .int .i64 (rd_T29 (rd_T32 l0 (i : Int)).f0 (j : Int)).f1.f0, .int .i64 0, .int .i64 0, .int .i64 0]) (blk_put (cs := #[.int .i64 (rd_T29 (rd_T32 l0 (i : Int)).f0 (j : Int)).f0, .int .i64 0, .int .i64 0, .int .i64 0, .int .i64 0]) (blk_put (cs := #[.int .i64 0, .int .i64 0, .int .i64 0, .int .i64 0, .int .i64 0]) BK2.out 0 _ rfl) 1 _ rfl) 2 _ rfl) 3 _ rfl) 4 _ rfl) hb); have n2_ := am ((((((HS.out.far (p := ⟨g2, 0, none⟩) NE2.out _).far (p := ⟨g2, 1, none⟩) NE2.out _).far (p := ⟨g2, 2, none⟩) NE2.out _).far (p := ⟨g2, 3, none⟩) NE2.out _).far (p := ⟨g2, 4, none⟩) NE2.out _).below hb); have n3_ := am (blk_below (blk_far (blk_far (blk_far (blk_far (blk_far BK1.out (p := ⟨g2, 0, none⟩) NG2.out _) (p := ⟨g2, 1, none⟩) NG2.out _) (p := ⟨g2, 2, none⟩) NG2.out _) (p := ⟨g2, 3, none⟩) NG2.out _) (p := ⟨g2, 4, none⟩) NG2.out _) hb); clear HB BK1 BK2 HS; have HB := n0_; have BK2 := n1_; have HS := n2_; have BK1 := n3_; clear n0_ n1_ n2_ n3_; clear hb hczg2_0 hfzg2_0 hczg2_1 hfzg2_1 hczg2_2 hfzg2_2 hczg2_3 hfzg2_3 hczg2_4 hfzg2_4; have hy2_0 := (blk_cell BK2.out 0).trans rfl; have hy2_1 := (blk_cell BK2.out 1).trans rfl; have hy2_2 := (blk_cell BK2.out 2).trans rfl; have hy2_3 := (blk_cell BK2.out 3).trans rfl; have hy2_4 := (blk_cell BK2.out 4).trans rfl))
       go_roundg k2
       case measure => omega
       case rel => exact ⟨j + 1, S2, by first | rfl | (simp; done) | (simp [*]; done), ⟨by have := HK2.out; omega⟩, ⟨CJ.out⟩, HQ3, ⟨by have := HM.out; omega⟩, HS, BK1, HB⟩
     have cs0 : ((rd_T29 (rd_T32 l0 (i : Int)).f0 (j : Int)).f0 == 1) = true := beq_iff_eq.mpr cs
     have cs1 : ((rd_T29 (rd_T32 l0 (i : Int)).f0 (j : Int)).f0 != 1) = false := bne_eq_false_iff_eq.mpr cs
     have hwf : Aside0 ((Lit.int .i64 (rd_T29 (rd_T32 l0 (i : Int)).f0 (j : Int)).f1.f1).wf = true) := ⟨by
      unfold pageB at hpb
      rw [if_pos cs] at hpb
      simp only [recOkB, decide_eq_true_eq] at hpb
      exact WalkArith.wf_i64 ⟨by omega, by omega⟩⟩
     rw [if_pos cs] at HQ2
     by_cases hm : (rd_T29 (rd_T32 l0 (i : Int)).f0 (j : Int)).f1.f1 ∈ S2
     · rw [if_pos hm] at HQ2
       have HF : Aside0 (flashOkB l0 = false) := ⟨by rw [HE.out, ← HP2.out, ← HQ2]⟩
       have HM2 := am hm
       clear HQ2 hpb cs hm
       go_wp2_with (first | (refine bx 7 #[.int .i64 0, .int .i64 0, .int .i64 0, .int .i64 0, .int .i64 0] 29 rfl ?_; intro g2 hg w7 hbox hb; have n0_ := am (below_step HB.out hb); have n1_ := am hbox; have GE2 := am ((by rw [hg]; exact below_size HB.out) : w.heap.size ≤ g2); have NE2 := am ((by rw [hg]; exact Nat.ne_of_lt HS.out.lt) : B ≠ g2); have NG2 := am ((by rw [hg]; exact Nat.ne_of_lt (blk_lt BK1.out)) : g1 ≠ g2); have n2_ := am (HS.out.below hb); have n3_ := am (blk_below BK1.out hb); clear HB HS BK1; have HB := n0_; have BK2 := n1_; have HS := n2_; have BK1 := n3_; clear n0_ n1_ n2_ n3_; have hnz2_0 := NG2.out; obtain ⟨hczg2_0, hczg2_1, hczg2_2, hczg2_3, hczg2_4⟩ := b5 hbox; obtain ⟨hfzg2_0, hfzg2_1, hfzg2_2, hfzg2_3, hfzg2_4⟩ := f5 hbox; clear hb hbox hg) | ((with_reducible refine gate_callee (f := 23) rfl ?_); refine goesL_ (some 29) rfl rfl Try.func23 (by kernel_rfl) rfl #[.agg #[.int .i64 (rd_T29 (rd_T32 l0 (i : Int)).f0 (j : Int)).f0, .int .i64 (rd_T29 (rd_T32 l0 (i : Int)).f0 (j : Int)).f1.f0, .int .i64 (rd_T29 (rd_T32 l0 (i : Int)).f0 (j : Int)).f1.f1, .int .i64 (rd_T29 (rd_T32 l0 (i : Int)).f0 (j : Int)).f1.f2, .int .i64 (rd_T29 (rd_T32 l0 (i : Int)).f0 (j : Int)).f1.f3]] rfl (by (try simp only [List.map_toArray, List.map_cons, List.map_nil]); first | done | rfl) ?_; (with_reducible refine (impl_pageShape.calls _ _ _ _ _ _ _ hkp.out).mono ?_); rintro e w3 ⟨rfl, hb⟩; refine ⟨_, rfl, ?_⟩; have n0_ := am (below_step (bg2 HB.out GE1.out GE2.out) hb); have n1_ := am (blk_below (blk_put (cs := #[.int .i64 (rd_T29 (rd_T32 l0 (i : Int)).f0 (j : Int)).f0, .int .i64 (rd_T29 (rd_T32 l0 (i : Int)).f0 (j : Int)).f1.f0, .int .i64 (rd_T29 (rd_T32 l0 (i : Int)).f0 (j : Int)).f1.f1, .int .i64 (rd_T29 (rd_T32 l0 (i : Int)).f0 (j : Int)).f1.f2, .int .i64 0]) (blk_put (cs := #[.int .i64 (rd_T29 (rd_T32 l0 (i : Int)).f0 (j : Int)).f0, .int .i64 (rd_T29 (rd_T32 l0 (i : Int)).f0 (j : Int)).f1.f0, .int .i64 (rd_T29 (rd_T32 l0 (i : Int)).f0 (j : Int)).f1.f1, .int .i64 0, .int .i64 0]) (blk_put (cs := #[.int .i64 (rd_T29 (rd_T32 l0 (i : Int)).f0 (j : Int)).f0, .int .i64 (rd_T29 (rd_T32 l0 (i : Int)).f0 (j : Int)).f1.f0, .int .i64 0, .int .i64 0, .int .i64 0]) (blk_put (cs := #[.int .i64 (rd_T29 (rd_T32 l0 (i : Int)).f0 (j : Int)).f0, .int .i64 0, .int .i64 0, .int .i64 0, .int .i64 0]) (blk_put (cs := #[.int .i64 0, .int .i64 0, .int .i64 0, .int .i64 0, .int .i64 0]) BK2.out 0 _ rfl) 1 _ rfl) 2 _ rfl) 3 _ rfl) 4 _ rfl) hb); have n2_ := am ((((((HS.out.far (p := ⟨g2, 0, none⟩) NE2.out _).far (p := ⟨g2, 1, none⟩) NE2.out _).far (p := ⟨g2, 2, none⟩) NE2.out _).far (p := ⟨g2, 3, none⟩) NE2.out _).far (p := ⟨g2, 4, none⟩) NE2.out _).below hb); have n3_ := am (blk_below (blk_far (blk_far (blk_far (blk_far (blk_far BK1.out (p := ⟨g2, 0, none⟩) NG2.out _) (p := ⟨g2, 1, none⟩) NG2.out _) (p := ⟨g2, 2, none⟩) NG2.out _) (p := ⟨g2, 3, none⟩) NG2.out _) (p := ⟨g2, 4, none⟩) NG2.out _) hb); clear HB BK1 BK2 HS; have HB := n0_; have BK2 := n1_; have HS := n2_; have BK1 := n3_; clear n0_ n1_ n2_ n3_; clear hb hczg2_0 hfzg2_0 hczg2_1 hfzg2_1 hczg2_2 hfzg2_2 hczg2_3 hfzg2_3 hczg2_4 hfzg2_4; have hy2_0 := (blk_cell BK2.out 0).trans rfl; have hy2_1 := (blk_cell BK2.out 1).trans rfl; have hy2_2 := (blk_cell BK2.out 2).trans rfl; have hy2_3 := (blk_cell BK2.out 3).trans rfl; have hy2_4 := (blk_cell BK2.out 4).trans rfl) | (at_lookup; refine Go.Proofs.YtkpoephbiikehaaW.wpList_seen_look _ rfl _ _ 55 rfl 3 3 Try.underlying3 Try.underlying3 Try.underlying55 (fun w => by go_simp) B _ S2 rfl HS.out (rd_T29 (rd_T32 l0 (i : Int)).f0 (j : Int)).f1.f1 rfl hwf.out ?_; rw [if_pos HM2.out]))
       go_ret
       exact ⟨by rw [HF.out]; rfl, HB.out⟩
     rw [if_neg hm] at HQ2
     have HM2 := am hm
     have HQ3 := am HQ2
     clear HQ2 hpb cs hm
     go_wp2_with (first | (refine bx 7 #[.int .i64 0, .int .i64 0, .int .i64 0, .int .i64 0, .int .i64 0] 29 rfl ?_; intro g2 hg w7 hbox hb; have n0_ := am (below_step HB.out hb); have n1_ := am hbox; have GE2 := am ((by rw [hg]; exact below_size HB.out) : w.heap.size ≤ g2); have NE2 := am ((by rw [hg]; exact Nat.ne_of_lt HS.out.lt) : B ≠ g2); have NG2 := am ((by rw [hg]; exact Nat.ne_of_lt (blk_lt BK1.out)) : g1 ≠ g2); have n2_ := am (HS.out.below hb); have n3_ := am (blk_below BK1.out hb); clear HB HS BK1; have HB := n0_; have BK2 := n1_; have HS := n2_; have BK1 := n3_; clear n0_ n1_ n2_ n3_; have hnz2_0 := NG2.out; obtain ⟨hczg2_0, hczg2_1, hczg2_2, hczg2_3, hczg2_4⟩ := b5 hbox; obtain ⟨hfzg2_0, hfzg2_1, hfzg2_2, hfzg2_3, hfzg2_4⟩ := f5 hbox; clear hb hbox hg) | ((with_reducible refine gate_callee (f := 23) rfl ?_); refine goesL_ (some 29) rfl rfl Try.func23 (by kernel_rfl) rfl #[.agg #[.int .i64 (rd_T29 (rd_T32 l0 (i : Int)).f0 (j : Int)).f0, .int .i64 (rd_T29 (rd_T32 l0 (i : Int)).f0 (j : Int)).f1.f0, .int .i64 (rd_T29 (rd_T32 l0 (i : Int)).f0 (j : Int)).f1.f1, .int .i64 (rd_T29 (rd_T32 l0 (i : Int)).f0 (j : Int)).f1.f2, .int .i64 (rd_T29 (rd_T32 l0 (i : Int)).f0 (j : Int)).f1.f3]] rfl (by (try simp only [List.map_toArray, List.map_cons, List.map_nil]); first | done | rfl) ?_; (with_reducible refine (impl_pageShape.calls _ _ _ _ _ _ _ hkp.out).mono ?_); rintro e w3 ⟨rfl, hb⟩; refine ⟨_, rfl, ?_⟩; have n0_ := am (below_step (bg2 HB.out GE1.out GE2.out) hb); have n1_ := am (blk_below (blk_put (cs := #[.int .i64 (rd_T29 (rd_T32 l0 (i : Int)).f0 (j : Int)).f0, .int .i64 (rd_T29 (rd_T32 l0 (i : Int)).f0 (j : Int)).f1.f0, .int .i64 (rd_T29 (rd_T32 l0 (i : Int)).f0 (j : Int)).f1.f1, .int .i64 (rd_T29 (rd_T32 l0 (i : Int)).f0 (j : Int)).f1.f2, .int .i64 0]) (blk_put (cs := #[.int .i64 (rd_T29 (rd_T32 l0 (i : Int)).f0 (j : Int)).f0, .int .i64 (rd_T29 (rd_T32 l0 (i : Int)).f0 (j : Int)).f1.f0, .int .i64 (rd_T29 (rd_T32 l0 (i : Int)).f0 (j : Int)).f1.f1, .int .i64 0, .int .i64 0]) (blk_put (cs := #[.int .i64 (rd_T29 (rd_T32 l0 (i : Int)).f0 (j : Int)).f0, .int .i64 (rd_T29 (rd_T32 l0 (i : Int)).f0 (j : Int)).f1.f0, .int .i64 0, .int .i64 0, .int .i64 0]) (blk_put (cs := #[.int .i64 (rd_T29 (rd_T32 l0 (i : Int)).f0 (j : Int)).f0, .int .i64 0, .int .i64 0, .int .i64 0, .int .i64 0]) (blk_put (cs := #[.int .i64 0, .int .i64 0, .int .i64 0, .int .i64 0, .int .i64 0]) BK2.out 0 _ rfl) 1 _ rfl) 2 _ rfl) 3 _ rfl) 4 _ rfl) hb); have n2_ := am ((((((HS.out.far (p := ⟨g2, 0, none⟩) NE2.out _).far (p := ⟨g2, 1, none⟩) NE2.out _).far (p := ⟨g2, 2, none⟩) NE2.out _).far (p := ⟨g2, 3, none⟩) NE2.out _).far (p := ⟨g2, 4, none⟩) NE2.out _).below hb); have n3_ := am (blk_below (blk_far (blk_far (blk_far (blk_far (blk_far BK1.out (p := ⟨g2, 0, none⟩) NG2.out _) (p := ⟨g2, 1, none⟩) NG2.out _) (p := ⟨g2, 2, none⟩) NG2.out _) (p := ⟨g2, 3, none⟩) NG2.out _) (p := ⟨g2, 4, none⟩) NG2.out _) hb); clear HB BK1 BK2 HS; have HB := n0_; have BK2 := n1_; have HS := n2_; have BK1 := n3_; clear n0_ n1_ n2_ n3_; clear hb hczg2_0 hfzg2_0 hczg2_1 hfzg2_1 hczg2_2 hfzg2_2 hczg2_3 hfzg2_3 hczg2_4 hfzg2_4; have hy2_0 := (blk_cell BK2.out 0).trans rfl; have hy2_1 := (blk_cell BK2.out 1).trans rfl; have hy2_2 := (blk_cell BK2.out 2).trans rfl; have hy2_3 := (blk_cell BK2.out 3).trans rfl; have hy2_4 := (blk_cell BK2.out 4).trans rfl) | (at_lookup; refine Go.Proofs.YtkpoephbiikehaaW.wpList_seen_look _ rfl _ _ 55 rfl 3 3 Try.underlying3 Try.underlying3 Try.underlying55 (fun w => by go_simp) B _ S2 rfl HS.out (rd_T29 (rd_T32 l0 (i : Int)).f0 (j : Int)).f1.f1 rfl hwf.out ?_; rw [if_neg HM2.out]) | (at_mapUpdate; refine Go.Proofs.YtkpoephbiikehaaW.wpList_seen_add _ rfl _ _ _ 55 rfl 3 3 Try.underlying3 Try.underlying3 Try.underlying55 B _ S2 rfl HS.out hnm.out (rd_T29 (rd_T32 l0 (i : Int)).f0 (j : Int)).f1.f1 rfl rfl hwf.out ?_; intro w4 hs4 hg4; have n0_ := am (pw_below_grown HB.out (some B) (below_size HB.out) hg4 (fun k e => by cases e; exact Nat.le_of_eq HBB.out)); have n1_ := am (blk_grown BK1.out hg4 NB1.out); clear HB BK1 HS; have HB := n0_; have BK1 := n1_; have HS := am hs4; clear n0_ n1_ hs4 hg4))
     go_roundg k2
     case measure => omega
     case rel => exact ⟨j + 1, _ :: S2, by first | rfl | (simp; done) | (simp [*]; done), ⟨by have := HK2.out; omega⟩, ⟨CJ.out⟩, HQ3, ⟨by have := HM.out; simp only [List.length_cons]; omega⟩, HS, BK1, HB⟩
attribute [local go_sem] Oper.semAt_some
abbrev Spot := Nat × Nat × S29
def spotsB (i : Nat) : Nat → List S29 → List Spot
 | _, [] => []
 | j, p :: ps => (i, j, p) :: spotsB i (j + 1) ps
def spotsF : Nat → List S32 → List Spot
 | _, [] => []
 | i, b :: bs => spotsB i 0 b.f0 ++ spotsF (i + 1) bs
def pagesL (l : List S32) : List S29 := (spotsF 0 l).map (·.2.2)
abbrev spotArgs (x : Spot) : Array Value := #[.agg #[.int .i64 (x.1 : Int), .int .i64 (x.2.1 : Int)], .agg #[.int .i64 x.2.2.f0, .int .i64 x.2.2.f1.f0, .int .i64 x.2.2.f1.f1, .int .i64 x.2.2.f1.f2, .int .i64 x.2.2.f1.f3]]
theorem drop_pg {l : List S29} {i : Nat} (h : i < l.length) : l.drop i = rd_T29 l (i : Int) :: l.drop (i + 1) := by
 rw [List.drop_eq_getElem_cons h]
 simp [rd_T29, List.getD_eq_getElem?_getD, h]
theorem drop_bl {l : List S32} {i : Nat} (h : i < l.length) : l.drop i = rd_T32 l (i : Int) :: l.drop (i + 1) := by
 rw [List.drop_eq_getElem_cons h]
 simp [rd_T32, List.getD_eq_getElem?_getD, h]
set_option maxHeartbeats 1000000 in
theorem eachPage_in (F : Fence) (n : Nat) (hF : F.fn 24) (hro : F.round = none) (A : Option Addr) (len c : Nat) (w : World) :
 CallsIn F n Try.prog 24 #[.slice A len c] w fun e w' => e = .returned (.func (.func 31) #[] #[.pointer (some ⟨w.heap.size, 0, none⟩)]) ∧ w' = w.alloc (.cells #[.slice A len c] 23) := by
 refine callsIn_of_wp Try.func24 rfl hF ?_ hro
 simp only [Try.ntmps24, List.size_toArray, List.length_cons, List.length_nil, Nat.reduceAdd, Nat.reduceSub, Array.replicate_succ, Array.replicate_zero, List.push_toArray, List.append_toArray, List.nil_append, List.cons_append]
 gi_wp2
 go_ret
 exact ⟨rfl, rfl⟩
set_option maxRecDepth 100000 in
set_option maxHeartbeats 4000000 in
theorem eachPage1_in (F : Fence) (n : Nat) (hF : F.fn 31) (hro : F.round = none) (hn : 1 ≤ n) (T : Spot → Prop) (l Bf : Nat) (A0 : Option Addr) (c0 : Nat) (l0 : List S32) (w : World)
 (hr0 : Kd.C k32 w A0 l0.length l0) (hT : ∀ x ∈ spotsF 0 l0, T x) (J Jx : List {x : Spot // T x} → World → Prop) (W : World) (hJ : AbidesFrom W.heap.size J)
 (hY : ∀ pre x W1, J pre W1 → pre.length < (spotsF 0 l0).length → YieldAt F (n - 1) Try.prog l (spotArgs x.1) W1 fun e W' =>
  (e = .returned (.bool true) ∧ J (pre ++ [x]) W' ∧ Below w.heap.size W1 W') ∨ (e = .returned (.bool false) ∧ Jx (pre ++ [x]) W'))
 (hB : Below w.heap.size w W) (hBf : W.cell? ⟨Bf, 0, none⟩ = some (.slice A0 l0.length c0)) (h0 : J [] W) :
 CallsIn F n Try.prog 31 #[.func (.yield l) #[] #[], .pointer (some ⟨Bf, 0, none⟩)] W fun e W' => (∃ v, e = .returned v) ∧
  ((∃ ys, ys.map (·.1) = spotsF 0 l0 ∧ J ys W') ∨ (∃ pre, True ∧ Jx pre W')) := by
 have hJa : ∀ s A o, J s A → J s (A.alloc o) := fun s A o h => hJ s A _ none h (World.grownBy_alloc A o none) (by simp)
 have hBa : ∀ A o, Below w.heap.size w A → Below w.heap.size w (A.alloc o) := fun A o h => h.alloc h.size o
 have hlm := Kd.C_max hr0
 refine callsIn_of_wp Try.func31 rfl hF ?_ hro
 simp only [Try.ntmps31, List.size_toArray, List.length_cons, List.length_nil, Nat.reduceAdd, Nat.reduceSub, Array.replicate_succ, Array.replicate_zero, List.push_toArray, List.append_toArray, List.nil_append, List.cons_append]
 gi_wp2
 gi_loopw [9] (fun v9 wr => ∃ (i : Nat) (pre : List {x : Spot // T x}), v9 = .int .i64 (i : Int) ∧ i ≤ l0.length ∧ pre.map (·.1) ++ spotsF i (l0.drop i) = spotsF 0 l0 ∧ J pre wr ∧ Below w.heap.size w wr)
  (fun v9 _ => l0.length - (intOf v9).toNat)
 case atStart => exact ⟨0, [], rfl, Nat.zero_le _, rfl, h0, hB⟩
 case round =>
  obtain ⟨i, pre, rfl, hi, hp, hJs, hBs⟩ := hrel
  by_cases ci : i < l0.length
  rotate_left
  · obtain rfl : i = l0.length := by omega
    rw [List.drop_eq_nil_of_le (Nat.le_refl _), spotsF, List.append_nil] at hp
    gi_wp2
    go_end0
    exact ⟨⟨_, rfl⟩, .inl ⟨_, hp, hJs⟩⟩
  have cib : decide ((i : Int) < (l0.length : Int)) = true := decide_eq_true (by omega)
  have p1 : 0 ≤ (i : Int) := by omega
  have q1 : (i : Int) < (l0.length : Int) := by omega
  obtain ⟨ad1, A1, c1, e1, hx1_0, hx1_1, hl1, hi1⟩ := at_T32 hr0 (i : Int) p1 q1
  cases e1
  replace hx1_0 := (hBs.cell (World.block_lt_of_cell? w _ hx1_0)).trans hx1_0
  replace hx1_1 := (hBs.cell (World.block_lt_of_cell? w _ hx1_1)).trans hx1_1
  have hlm1 := Kd.C_max hi1
  simp only [Int.toNat_natCast] at hx1_0 hx1_1
  rw [drop_bl ci, spotsF] at hp
  generalize hbl : rd_T32 l0 (i : Int) = bl at hx1_0 hx1_1 hl1 hi1 hlm1 hp
  have hw9 : wrap64 ((i : Int) + 1) = ((i + 1 : Nat) : Int) := by rw [IntWalk.wrap64_in _ (by omega)]; omega
  gi_wp2
  gi_loopw [17] (fun v17 w2 => ∃ (j : Nat) (pre2 : List {x : Spot // T x}), v17 = .int .i64 (j : Int) ∧ j ≤ bl.f0.length ∧ pre2.map (·.1) ++ (spotsB i j (bl.f0.drop j) ++ spotsF (i + 1) (l0.drop (i + 1))) = spotsF 0 l0 ∧ J pre2 w2 ∧ Below w.heap.size w w2)
   (fun v17 _ => bl.f0.length - (intOf v17).toNat)
  case atStart => exact ⟨0, pre, rfl, Nat.zero_le _, hp, hJa _ _ _ hJs, hBa _ _ hBs⟩
  case round =>
   clear hx1_0 hx1_1 hJs hBs hp pre
   obtain ⟨j, pre2, rfl, hj, hp, hJs, hBs⟩ := hrel
   by_cases cj : j < bl.f0.length
   rotate_left
   · obtain rfl : j = bl.f0.length := by omega
     rw [List.drop_eq_nil_of_le (Nat.le_refl _), spotsB, List.nil_append] at hp
     gi_wp2
     go_roundw
     case rel => exact ⟨i + 1, pre2, by simp, by omega, hp, hJs, hBs⟩
     case measure => simp [intOf]; omega
   have cjb : decide ((j : Int) < (bl.f0.length : Int)) = true := decide_eq_true (by omega)
   have p2 : 0 ≤ (j : Int) := by omega
   have q2 : (j : Int) < (bl.f0.length : Int) := by omega
   obtain ⟨ad2, e2, hx2_0, hx2_1, hx2_2, hx2_3, hx2_4⟩ := at_T29 hi1 (j : Int) p2 q2
   cases e2
   replace hx2_0 := (hBs.cell (World.block_lt_of_cell? w _ hx2_0)).trans hx2_0
   replace hx2_1 := (hBs.cell (World.block_lt_of_cell? w _ hx2_1)).trans hx2_1
   replace hx2_2 := (hBs.cell (World.block_lt_of_cell? w _ hx2_2)).trans hx2_2
   replace hx2_3 := (hBs.cell (World.block_lt_of_cell? w _ hx2_3)).trans hx2_3
   replace hx2_4 := (hBs.cell (World.block_lt_of_cell? w _ hx2_4)).trans hx2_4
   simp only [Int.toNat_natCast] at hx2_0 hx2_1 hx2_2 hx2_3 hx2_4
   rw [drop_pg cj, spotsB] at hp
   generalize hpg : rd_T29 bl.f0 (j : Int) = pg at hx2_0 hx2_1 hx2_2 hx2_3 hx2_4 hp
   have hw17 : wrap64 ((j : Int) + 1) = ((j + 1 : Nat) : Int) := by rw [IntWalk.wrap64_in _ (by omega)]; omega
   have hTx : T (i, j, pg) := hT _ (by rw [← hp]; simp)
   have hlen : pre2.length < (spotsF 0 l0).length := by rw [← hp]; simp
   obtain ⟨fn, tmps, assign, body, hy, hR⟩ := hY pre2 ⟨(i, j, pg), hTx⟩ (wr.alloc (.cells #[.int .i64 pg.f0, .int .i64 pg.f1.f0, .int .i64 pg.f1.f1, .int .i64 pg.f1.f2, .int .i64 pg.f1.f3] 29)) (hJa _ _ _ hJs) hlen
   dsimp only [spotArgs] at hy
   gi_wp2
   refine hR.mono ?_
   rintro e W3 (⟨rfl, hJ3, hk3⟩ | ⟨rfl, hJx3⟩)
   · gi_wp2
     go_roundw
     case rel => exact ⟨j + 1, pre2 ++ [⟨(i, j, pg), hTx⟩], by simp, by omega, by rw [← hp]; simp, hJ3, (hBa _ _ hBs).trans hk3⟩
     case measure => simp [intOf]; omega
   · gi_wp2
     refine bodyPost_ret (results_none rfl _ _ _) rfl ?_
     exact ⟨⟨_, rfl⟩, .inr ⟨_, trivial, hJx3⟩⟩
theorem eachPage_stops (F : Fence) (n : Nat) (hF : F.fn 31) (hro : F.round = none) (hn : 1 ≤ n) (T : Spot → Prop) (Bf : Nat) (A0 : Option Addr) (c0 : Nat) (l0 : List S32) (w W0 : World)
 (hr0 : Kd.C k32 w A0 l0.length l0) (hT : ∀ x ∈ spotsF 0 l0, T x) (hB : Below w.heap.size w W0) (hBf : W0.cell? ⟨Bf, 0, none⟩ = some (.slice A0 l0.length c0)) :
 SeqStopsK F n Try.prog 31 #[.pointer (some ⟨Bf, 0, none⟩)] (fun x : {x : Spot // T x} => spotArgs x.1) (Below w.heap.size) (fun ys => ys.map (·.1) = spotsF 0 l0) (fun _ => True) (spotsF 0 l0).length W0 := fun l J Jx W hW hJ _ hY h0 =>
 eachPage1_in F n hF hro hn T l Bf A0 c0 l0 w hr0 hT J Jx W hJ hY (hB.trans (hW.mono hB.size)) ((hW.cell (p := ⟨Bf, 0, none⟩) (World.block_lt_of_cell? W0 _ hBf)).trans hBf) h0
def PageBox (W : World) (B : Nat) (p : S29) : Prop := W.heap[B]? = some (.cells #[.int .i64 p.f0, .int .i64 p.f1.f0, .int .i64 p.f1.f1, .int .i64 p.f1.f2, .int .i64 p.f1.f3] 29 (0, 0))
theorem PageBox.own (B : Nat) (b : Nat) (p : S29) : OwnFrom b (fun (_ : Unit) W => PageBox W B p) := Own.from (fun s X Y row hs hg hrow => (hg.block B (Array.getElem?_eq_some_iff.1 hs).1 (fun e => by obtain ⟨o, ho, hc⟩ := hrow B e.symm; rw [show X.heap[B]? = _ from hs] at ho; cases ho; cases hc)).trans hs) _
theorem PageBox.cells {W : World} {B : Nat} {p : S29} (h : PageBox W B p) : W.cell? ⟨B, 0, none⟩ = some (.int .i64 p.f0) ∧ W.cell? ⟨B, 1, none⟩ = some (.int .i64 p.f1.f0) ∧ W.cell? ⟨B, 2, none⟩ = some (.int .i64 p.f1.f1) ∧ W.cell? ⟨B, 3, none⟩ = some (.int .i64 p.f1.f2) ∧ W.cell? ⟨B, 4, none⟩ = some (.int .i64 p.f1.f3) :=
 ⟨(blk_cell h 0).trans rfl, (blk_cell h 1).trans rfl, (blk_cell h 2).trans rfl, (blk_cell h 3).trans rfl, (blk_cell h 4).trans rfl⟩
abbrev AnyPage := {x : Spot // True}
def RecBox (W : World) (B : Nat) (r : S27) : Prop := W.heap[B]? = some (.cells #[.int .i64 r.f0, .int .i64 r.f1, .int .i64 r.f2, .int .i64 r.f3] 27 (0, 0))
abbrev set4 (W : World) (B : Nat) (r : S27) : World := (((W.setCell ⟨B, 0, none⟩ (.int .i64 r.f0)).setCell ⟨B, 1, none⟩ (.int .i64 r.f1)).setCell ⟨B, 2, none⟩ (.int .i64 r.f2)).setCell ⟨B, 3, none⟩ (.int .i64 r.f3)
theorem RecBox.own (B : Nat) {β : Type} (f : β → S27) : Own (fun s W => RecBox W B (f s)) := fun s X Y row hs hg hrow => (hg.block B (Array.getElem?_eq_some_iff.1 hs).1 (fun e => by obtain ⟨o, ho, hc⟩ := hrow B e.symm; rw [show X.heap[B]? = _ from hs] at ho; cases ho; cases hc)).trans hs
theorem RecBox.cells {W : World} {B : Nat} {r : S27} (h : RecBox W B r) : W.cell? ⟨B, 0, none⟩ = some (.int .i64 r.f0) ∧ W.cell? ⟨B, 1, none⟩ = some (.int .i64 r.f1) ∧ W.cell? ⟨B, 2, none⟩ = some (.int .i64 r.f2) ∧ W.cell? ⟨B, 3, none⟩ = some (.int .i64 r.f3) :=
 ⟨(blk_cell h 0).trans rfl, (blk_cell h 1).trans rfl, (blk_cell h 2).trans rfl, (blk_cell h 3).trans rfl⟩
theorem RecBox.frozen {W : World} {B : Nat} {r : S27} (h : RecBox W B r) (i : Nat) : W.frozen? ⟨B, i, none⟩ = false := blk_frozen h i
theorem RecBox.put {W : World} {B : Nat} {r : S27} (h : RecBox W B r) (s : S27) : RecBox (set4 W B s) B s := blk_put (blk_put (blk_put (blk_put h 0 _ rfl) 1 _ rfl) 2 _ rfl) 3 _ rfl
theorem RecBox.far {W : World} {B B' : Nat} {r : S27} (h : RecBox W B r) (hne : B ≠ B') (s : S27) : RecBox (set4 W B' s) B r := blk_far (blk_far (blk_far (blk_far h (p := ⟨B', 0, none⟩) hne _) (p := ⟨B', 1, none⟩) hne _) (p := ⟨B', 2, none⟩) hne _) (p := ⟨B', 3, none⟩) hne _
theorem Boxed.far4 {W : World} {B B' t : Nat} {v : Value} (h : Boxed W B t v) (hne : B ≠ B') (s : S27) : Boxed (set4 W B' s) B t v := blk_far (blk_far (blk_far (blk_far h (p := ⟨B', 0, none⟩) hne _) (p := ⟨B', 1, none⟩) hne _) (p := ⟨B', 2, none⟩) hne _) (p := ⟨B', 3, none⟩) hne _
theorem below_set4 {b : Nat} {w W : World} (h : Below b w W) {B : Nat} (hb : b ≤ B) (s : S27) : Below b w (set4 W B s) := (((h.setCell (p := ⟨B, 0, none⟩) hb _).setCell (p := ⟨B, 1, none⟩) hb _).setCell (p := ⟨B, 2, none⟩) hb _).setCell (p := ⟨B, 3, none⟩) hb _
theorem keeps_set4 (W : World) (B : Nat) (s : S27) : KeepsOthers W (set4 W B s) := (((KeepsOthers.setCell W _ _).trans (KeepsOthers.setCell _ _ _)).trans (KeepsOthers.setCell _ _ _)).trans (KeepsOthers.setCell _ _ _)
attribute [local go_sem] Oper.semAt_some
theorem uponIn_wide_round {l n : Nat} {P : Program} {o : Oper} {a : Act} {K : Act → World → Prop} {Q : Exit → Act → World → Prop} {r : Result Next} (h : o.upon P a K Q r) : o.uponIn (Fence.wide.inRound l) n P a K Q r := by
 cases r with
 | ok x w' =>
  cases x with
  | value v => exact h
  | skip => exact h
  | defer d => exact h
  | enter f args => exact ⟨fun h => by simp [Fence.inRound, Fence.wide] at h, CallsIn.inRound l (callsIn_wide.2 h)⟩
  | row r args => exact ⟨fun h => by simp [Fence.inRound, Fence.wide] at h, fun c cs _ => let ⟨v, w2, q, s⟩ := h c cs; ⟨v, w2, q, stepsIn_wide.2 s⟩⟩
  | _ => exact h.elim
 | halt x w' =>
  cases x with
  | panic v => exact h
  | _ => exact h.elim
theorem wpOpIn_wide_round {l n : Nat} {P : Program} {ops : Array Oper} {i : Nat} {a : Act} {w : World} {K : Act → World → Prop} {Q : Exit → Act → World → Prop} (hd : ∀ o, ops[i]? = some o → ∀ c, o.op ≠ .defer c) (hQ : ¬ LetsOut Q)
 (h : wpOp P ops Q i K a w) : wpOpIn (Fence.wide.inRound l) n P ops Q i K a w := by
 unfold wpOp at h
 unfold wpOpIn
 cases ho : ops[i]? with
 | none => rw [ho] at h; exact h
 | some o =>
  simp only [ho] at h ⊢
  by_cases hw : Region.wanted o (yielded ops a.tmps) = true
  rotate_left
  · simp only [hw] at h ⊢
    exact ⟨fun f _ => trivial, h⟩
  simp only [hw, if_true] at h ⊢
  refine ⟨fun f _ => trivial, ?_⟩
  rw [Oper.semAt_plain (Fence.wide.inRound l) _ o (hd o ho)]
  exact uponIn_wide_round (h.resolve_right (fun h => hQ h.2))
theorem wpAnyIn_wide_round {l n : Nat} {P : Program} {ops : Array Oper} {md : Region.Mode} {Q : Exit → Act → World → Prop} (hd : ∀ (i : Nat) (o : Oper), ops[i]? = some o → ∀ c, o.op ≠ .defer c) (hQ : ¬ LetsOut Q) :
 ∀ (fuel : Nat) (listed : Array Bool) (a : Act) (w : World), wpAny P md ops Q fuel listed a w → wpAnyIn (Fence.wide.inRound l) n P md ops Q fuel listed a w
 | 0, _, _, _, h => h
 | fuel + 1, _, _, _, h => ⟨h.1, fun i hi => wpOpIn_mono (fun a' w' h' => wpAnyIn_wide_round hd hQ fuel _ a' w' h') (wpOpIn_wide_round (hd i) hQ (h.2 i hi))⟩
theorem region_in_round {l n id : Nat} {P : Program} {ops : Array Oper} {Q : Exit → Act → World → Prop} {a : Act} {w : World} (hm : P.follows .mixedOrders = true) (hd : ∀ (i : Nat) (o : Oper), ops[i]? = some o → ∀ c, o.op ≠ .defer c) (hQ : ¬ LetsOut Q)
 (h : wpAny P .any ops Q ops.size (Array.replicate ops.size false) a w.drew) : (Code.region id ops true).wpIn (Fence.wide.inRound l) n P Q a w :=
 wpIn_region_any hm (wpAnyIn_wide_round hd hQ _ _ _ _ h)
def noDefer (ops : Array Oper) : Bool := ops.all fun o => match o.op with
 | .defer _ => false
 | _ => true
theorem noDefer_spec {ops : Array Oper} (h : noDefer ops = true) : ∀ (i : Nat) (o : Oper), ops[i]? = some o → ∀ c, o.op ≠ .defer c := fun i o ho c hc => by
 have h1 := Array.all_eq_true_iff_forall_mem.1 h o (Array.mem_of_getElem? ho)
 rw [hc] at h1
 simp at h1
theorem start_round {l nn id n : Nat} {P : Program} {ops : Array Oper} {Q : Exit → Act → World → Prop} {S : World → Prop} {ds : List Nat} {a : Act} {w : World} (lst : Array Bool) (hm : P.follows .mixedOrders = true) (hn : ops.size = n) (hl : Array.replicate n false = lst)
 (hd : noDefer ops = true) (hQ : ¬ LetsOut Q) (h : wpAnyLast P .any ops Q S ds n lst a w.drew) : (Code.region id ops true).wpIn (Fence.wide.inRound l) nn P Q a w := by
 subst hn
 subst hl
 exact region_in_round hm (noDefer_spec hd) hQ (wpAny_of_last _ _ _ _ h)
abbrev Spans := Nat → Int × Int
def stepSpan (s : Int × Int) (p : S29) : Int × Int := if p.f0 = 1 then (if s.1 = 0 ∨ p.f1.f1 < s.1 then p.f1.f1 else s.1, mx s.2 p.f1.f1) else s
def spansStep (s : Spans) (x : Spot) : Spans := fun j => if j = x.1 then stepSpan (s j) x.2.2 else s j
def spansF (l : List S32) : Spans := (spotsF 0 l).foldl spansStep (fun _ => (0, 0))
def SpansBox (W : World) (g : Nat) (s : Spans) : Prop := W.heap[g]? = some (.cells #[.int .i64 (s 0).1, .int .i64 (s 0).2, .int .i64 (s 1).1, .int .i64 (s 1).2, .int .i64 (s 2).1, .int .i64 (s 2).2, .int .i64 (s 3).1, .int .i64 (s 3).2] 42 (0, 0))
theorem spansStep_lo {W : World} {g : Nat} {s : Spans} (h : SpansBox W g s) (i : Nat) (hi : i < 4) (a : Int) : SpansBox (W.setCell ⟨g, i * 2, none⟩ (.int .i64 a)) g (fun j => if j = i then (a, (s j).2) else s j) := by
 have := blk_set h (i * 2) (.int .i64 a)
 unfold SpansBox
 rw [this]
 obtain rfl | rfl | rfl | rfl : i = 0 ∨ i = 1 ∨ i = 2 ∨ i = 3 := by omega
 all_goals simp
theorem spansStep_hi {W : World} {g : Nat} {s : Spans} (h : SpansBox W g s) (i : Nat) (hi : i < 4) (a : Int) : SpansBox (W.setCell ⟨g, i * 2 + 1, none⟩ (.int .i64 a)) g (fun j => if j = i then ((s j).1, a) else s j) := by
 have := blk_set h (i * 2 + 1) (.int .i64 a)
 unfold SpansBox
 rw [this]
 obtain rfl | rfl | rfl | rfl : i = 0 ∨ i = 1 ∨ i = 2 ∨ i = 3 := by omega
 all_goals simp
theorem SpansBox.at_ {W : World} {g : Nat} {s : Spans} (h : SpansBox W g s) (i : Nat) (hi : i < 4) : W.cell? ⟨g, i * 2, none⟩ = some (.int .i64 (s i).1) ∧ W.cell? ⟨g, i * 2 + 1, none⟩ = some (.int .i64 (s i).2) := by
 rw [blk_cell h (i * 2), blk_cell h (i * 2 + 1)]
 obtain rfl | rfl | rfl | rfl : i = 0 ∨ i = 1 ∨ i = 2 ∨ i = 3 := by omega
 all_goals exact ⟨rfl, rfl⟩
theorem SpansBox.frozen {W : World} {g : Nat} {s : Spans} (h : SpansBox W g s) (i : Nat) : W.frozen? ⟨g, i, none⟩ = false := blk_frozen h i
theorem SpansBox.own (g : Nat) {β : Type} (f : β → Spans) : Own (fun s W => SpansBox W g (f s)) := fun s X Y row hs hg hrow => (hg.block g (Array.getElem?_eq_some_iff.1 hs).1 (fun e => by obtain ⟨o, ho, hc⟩ := hrow g e.symm; rw [show X.heap[g]? = _ from hs] at ho; cases ho; cases hc)).trans hs
theorem spotsB_lt (i : Nat) : ∀ (j : Nat) (ps : List S29) (x : Spot), x ∈ spotsB i j ps → x.1 = i
 | _, [], _, h => by cases h
 | j, p :: ps, x, h => by
  rw [spotsB] at h
  rcases List.mem_cons.1 h with rfl | h
  · rfl
  · exact spotsB_lt i (j + 1) ps x h
theorem spotsF_lt : ∀ (i : Nat) (l : List S32) (x : Spot), x ∈ spotsF i l → x.1 < i + l.length
 | _, [], _, h => by cases h
 | i, b :: bs, x, h => by
  rw [spotsF] at h
  rw [List.length_cons]
  rcases List.mem_append.1 h with h | h
  · have := spotsB_lt i 0 _ x h
    omega
  · have := spotsF_lt (i + 1) bs x h
    omega
abbrev SpotIn := {x : Spot // x.1 < 4}
def spansOfL (pre : List SpotIn) : Spans := pre.foldl (fun s x => spansStep s x.1) (fun _ => (0, 0))
theorem spansOfL_snoc (pre : List SpotIn) (x : SpotIn) : spansOfL (pre ++ [x]) = spansStep (spansOfL pre) x.1 := by simp [spansOfL]
theorem spansOfL_all {ys : List SpotIn} {l0 : List S32} (h : ys.map (·.1) = spotsF 0 l0) : spansOfL ys = spansF l0 := by
 unfold spansOfL spansF
 rw [← h, List.foldl_map]
theorem make_spans (W : World) : (Instr.makeSlice 39 (.int .i64 4) (.int .i64 4)).run Try.prog W = .ok (.slice (some ⟨W.heap.size, 0, none⟩) 4 4) (W.alloc (.cells #[.int .i64 0, .int .i64 0, .int .i64 0, .int .i64 0, .int .i64 0, .int .i64 0, .int .i64 0, .int .i64 0] 42)) := by
 have hinfo : (Try.prog.info? 42).map (fun i => (i.zero, i.size, i.bytes)) = some (some (.agg #[.int .i64 0, .int .i64 0]), 2, 16) := by kernel_rfl
 obtain ⟨i0, hi, hzz⟩ := Option.map_eq_some_iff.1 hinfo
 simp only [Prod.mk.injEq] at hzz
 obtain ⟨hz0, hz1, hz2⟩ := hzz
 have hr := run_make (P := Try.prog) W 39 42 i0 _ Try.underlying39 hi hz0 .i64 .i64 4 4 (by decide) (by decide) (by rw [hz2]; decide) (by decide)
 have h8 : Array.range (Int.toNat 4 * 2) = #[0, 1, 2, 3, 4, 5, 6, 7] := by decide
 rw [hz1] at hr
 unfold madeCells at hr
 have hc : (Value.agg #[Value.int IntKind.i64 0, Value.int IntKind.i64 0]).cells = #[Value.int IntKind.i64 0, Value.int IntKind.i64 0] := by simp [Value.cells]
 rw [h8, hc] at hr
 simpa using hr
set_option maxRecDepth 100000 in
set_option maxHeartbeats 4000000 in
theorem spansOf_any (A0 : Option Addr) (c0 : Nat) (l0 : List (S32)) (w : World) (hr0 : Kd.C k32 w A0 l0.length l0) (hl : l0.length = 4) :
 Calls Try.prog 12 #[.slice A0 4 c0] w fun e w' => ∃ g, e = .returned (.slice (some ⟨g, 0, none⟩) 4 4) ∧ SpansBox w' g (spansF l0) ∧ w.heap.size ≤ g ∧ Below w.heap.size w w' := by
 refine (callsIn_wide (n := 3)).1 ?_
 have hmk := make_spans
 refine callsIn_of_wp_marks Try.func12 rfl trivial ?_ rfl
 simp only [Try.ntmps12, List.size_toArray, List.length_cons, List.length_nil, Nat.reduceAdd, Nat.reduceSub, Array.replicate_succ, Array.replicate_zero, List.push_toArray, List.append_toArray, List.nil_append, List.cons_append]
 gi_wp2_with (first | (refine ⟨trivial, ?_⟩; gi_at_call 24; refine (eachPage_in Fence.wide 2 trivial rfl _ _ _ _).mono ?_; rintro e w2 ⟨rfl, rfl⟩))
 have bS : SpansBox (((w.alloc (.cells #[.int .i64 0, .int .i64 0, .int .i64 0, .int .i64 0, .int .i64 0, .int .i64 0, .int .i64 0, .int .i64 0] 42)).alloc (.cells #[.slice (some ⟨w.heap.size, 0, none⟩) 4 4] 39)).alloc (.cells #[.slice A0 4 c0] 23)) w.heap.size (fun _ => (0, 0)) := blk_alloc (blk_alloc (blk_new w _) _) _
 have bV : Boxed (((w.alloc (.cells #[.int .i64 0, .int .i64 0, .int .i64 0, .int .i64 0, .int .i64 0, .int .i64 0, .int .i64 0, .int .i64 0] 42)).alloc (.cells #[.slice (some ⟨w.heap.size, 0, none⟩) 4 4] 39)).alloc (.cells #[.slice A0 4 c0] 23)) (w.heap.size + 1) 39 (.slice (some ⟨w.heap.size, 0, none⟩) 4 4) := by
  have := blk_alloc (blk_new (w.alloc (.cells #[.int .i64 0, .int .i64 0, .int .i64 0, .int .i64 0, .int .i64 0, .int .i64 0, .int .i64 0, .int .i64 0] 42)) (.cells #[.slice (some ⟨w.heap.size, 0, none⟩) 4 4] 39)) (.cells #[.slice A0 4 c0] 23)
  rw [World.size_alloc] at this
  exact this
 have bN : Boxed (((w.alloc (.cells #[.int .i64 0, .int .i64 0, .int .i64 0, .int .i64 0, .int .i64 0, .int .i64 0, .int .i64 0, .int .i64 0] 42)).alloc (.cells #[.slice (some ⟨w.heap.size, 0, none⟩) 4 4] 39)).alloc (.cells #[.slice A0 4 c0] 23)) (w.heap.size + 1 + 1) 23 (.slice A0 l0.length c0) := by
  have := blk_new ((w.alloc (.cells #[.int .i64 0, .int .i64 0, .int .i64 0, .int .i64 0, .int .i64 0, .int .i64 0, .int .i64 0, .int .i64 0] 42)).alloc (.cells #[.slice (some ⟨w.heap.size, 0, none⟩) 4 4] 39)) (.cells #[.slice A0 4 c0] 23)
  rw [World.size_alloc, World.size_alloc] at this
  rw [hl]
  exact this
 have hB0 : Below w.heap.size w (((w.alloc (.cells #[.int .i64 0, .int .i64 0, .int .i64 0, .int .i64 0, .int .i64 0, .int .i64 0, .int .i64 0, .int .i64 0] 42)).alloc (.cells #[.slice (some ⟨w.heap.size, 0, none⟩) 4 4] 39)).alloc (.cells #[.slice A0 4 c0] 23)) := below_alloc (below_alloc (below_alloc (Below.refl _ w) _) _) _
 have hN : ∀ x ∈ spotsF 0 l0, x.1 < 4 := fun x hx => by
  have := spotsF_lt 0 l0 x hx
  omega
 generalize hW0 : (((w.alloc (.cells #[.int .i64 0, .int .i64 0, .int .i64 0, .int .i64 0, .int .i64 0, .int .i64 0, .int .i64 0, .int .i64 0] 42)).alloc (.cells #[.slice (some ⟨w.heap.size, 0, none⟩) 4 4] 39)).alloc (.cells #[.slice A0 4 c0] 23)) = W0 at *
 refine wpIn_rangeFunc_ownH (F := Fence.wide) rfl (by decide) (gf := 31) (lb := #[.pointer (some ⟨w.heap.size + 1 + 1, 0, none⟩)]) rfl trivial (enters_of Try.func31 (by kernel_rfl) rfl)
  (eachPage_stops Fence.wide 2 trivial rfl (by decide) (fun x => x.1 < 4) (w.heap.size + 1 + 1) A0 c0 l0 w _ hr0 hN hB0 bN.cell) belowK_t (belowK_b hB0.size) (Below.refl _ _) (fun _ => rfl)
  (fun pre W => SpansBox W w.heap.size (spansOfL pre) ∧ Boxed W (w.heap.size + 1) 39 (.slice (some ⟨w.heap.size, 0, none⟩) 4 4) ∧ Below w.heap.size w W) (fun _ _ _ => False)
  (OwnFrom.and (Own.from (SpansBox.own _ _) _) (OwnFrom.and (Own.from (boxed_own _ _ (fun _ => _)) _) (ownFrom_below (Nat.le_refl _) hB0.size))) (fun _ _ _ _ _ hs _ _ => hs)
  ⟨bS, bV, hB0⟩
  (fun x a' W => ∃ Bs Bx, w.heap.size + 1 < Bs ∧ w.heap.size + 1 < Bx ∧ W.heap[Bs]? = some (.cells #[.int .i64 (x.1.1 : Int), .int .i64 (x.1.2.1 : Int)] 61 (0, 0)) ∧ PageBox W Bx x.1.2.2 ∧ a' = { tmps := #[.slice A0 4 c0, undef, .slice none 0 0, .pointer (some ⟨w.heap.size + 1, 0, none⟩), .pointer (some ⟨Bs, 0, none⟩), .pointer (some ⟨Bx, 0, none⟩), undef, .slice A0 4 c0, .int .i64 4, .slice (some ⟨w.heap.size, 0, none⟩) 4 4, .slice A0 4 c0, .func (.func 31) #[] #[.pointer (some ⟨w.heap.size + 1 + 1, 0, none⟩)], .agg #[.int .i64 (x.1.1 : Int), .int .i64 (x.1.2.1 : Int)], .agg #[.int .i64 x.1.2.2.f0, .int .i64 x.1.2.2.f1.f0, .int .i64 x.1.2.2.f1.f1, .int .i64 x.1.2.2.f1.f2, .int .i64 x.1.2.2.f1.f3], undef, undef, undef, undef, undef, undef, undef, undef, undef, undef, undef, undef, undef, undef, undef, undef, undef, undef, undef, undef, undef, undef, undef, undef, undef, undef, undef, undef, undef, undef, undef, undef, undef, undef, undef, undef, undef, undef, undef, undef], defers := [] })
  (fun x a' s X Y row hs hg hr => by
   obtain ⟨Bs, Bx, h1, h2, h3, h4, h5⟩ := hs
   exact ⟨Bs, Bx, h1, h2, (hg.block Bs (blk_lt h3) (fun e => by obtain ⟨B0, o, ho, hc⟩ := hr Bs e.symm; rw [h3] at ho; cases ho; cases hc)).trans h3, PageBox.own Bx _ _ () X Y row h4 hg hr, h5⟩) ?assign ?body ?done ?stop
 case assign =>
  rintro l pre x W K ⟨hbx, hbv, hB⟩ hK
  gi_wp2
  exact hK _ _ (((KeepsOthers.alloc _ _).trans (KeepsOthers.alloc _ _)).from _) (((Below.refl _ W).alloc hB.size _).alloc (by have := hB.size; simp; omega) _) ⟨blk_alloc (blk_alloc hbx _) _, (hbv.alloc _).alloc _, (hB.alloc hB.size _).alloc (hB.alloc hB.size _).size _⟩
   ⟨W.heap.size, W.heap.size + 1, hbv.lt, by have := hbv.lt; omega, blk_alloc (blk_new W _) _, by have := blk_new (W.alloc (.cells #[.int .i64 (x.1.1 : Int), .int .i64 (x.1.2.1 : Int)] 61)) (.cells #[.int .i64 x.1.2.2.f0, .int .i64 x.1.2.2.f1.f0, .int .i64 x.1.2.2.f1.f1, .int .i64 x.1.2.2.f1.f2, .int .i64 x.1.2.2.f1.f3] 29); rw [World.size_alloc] at this; exact this, rfl⟩
 case body =>
  rintro l pre x a' W hl_ ⟨r, hr⟩ ⟨hbx, hbv, hB⟩ ⟨Bs, Bx, hBs, hBx, bs, bX, rfl⟩ hlt
  obtain ⟨hc0_, hc1_, hc2_, hc3_, hc4_⟩ := bX.cells
  have hcs0 : W.cell? ⟨Bs, 0, none⟩ = some (.int .i64 (x.1.1 : Int)) := (blk_cell bs 0).trans rfl
  have hcv := hbv.cell
  have hi4 := x.2
  obtain ⟨hlo, hhi⟩ := hbx.at_ x.1.1 hi4
  have hf0 := hbx.frozen (x.1.1 * 2)
  have hf1 := hbx.frozen (x.1.1 * 2 + 1)
  have hsn := spansOfL_snoc pre x
  by_cases hs1 : x.1.2.2.f0 = 1
  rotate_left
  · have hs2 : (x.1.2.2.f0 != 1) = true := by simp [hs1]
    have e : spansOfL (pre ++ [x]) = spansOfL pre := by
     rw [hsn]
     funext j
     unfold spansStep stepSpan
     rw [if_neg hs1]
     split <;> rfl
    gi_wp2
    exact ⟨KeepsFrom.refl _ _, Below.refl _ _, by rw [e]; exact hbx, hbv, hB⟩
  have hs2 : (x.1.2.2.f0 != 1) = false := by simp [hs1]
  have p1 : 0 ≤ (x.1.1 : Int) := by omega
  have q1 : (x.1.1 : Int) < 4 := by omega
  by_cases hz : (spansOfL pre x.1.1).1 = 0
  · have hz2 : ((spansOfL pre x.1.1).1 == 0) = true := by simp [hz]
    gi_wp2
    have hSt : (fun W' => W'.cell? ⟨w.heap.size, x.1.1 * 2, none⟩ = some (.int .i64 (spansOfL pre x.1.1).1) ∧ W'.cell? ⟨Bx, 2, none⟩ = some (.int .i64 x.1.2.2.f1.f1)) W.drew := ⟨hlo, hc2_⟩
    refine start_round (S := fun W' => W'.cell? ⟨w.heap.size, x.1.1 * 2, none⟩ = some (.int .i64 (spansOfL pre x.1.1).1) ∧ W'.cell? ⟨Bx, 2, none⟩ = some (.int .i64 x.1.2.2.f1.f1)) (ds := []) (bt 15 0) (by kernel_rfl) rfl rfl (by kernel_rfl) (by rintro ⟨a, w, h⟩; exact h) ?_
    refine pi_ 0 21 (bt 15 1) rfl rfl (fun _ _ _ h => h) ?_
    refine pi_ 1 22 (bt 15 3) rfl rfl (fun _ _ _ h => h) ?_
    refine pi_ 2 23 (bt 15 7) rfl rfl (fun _ _ _ h => h) ?_
    refine take_ (i := 3) (N := some 24) (v := ?_) (a' := ?_) (bt 15 15) rfl rfl (by kernel_rfl) (fun _ _ _ h => h) (Or.inl ⟨by rfl, ?_⟩) hSt ?_ ?_
    rotate_left
    · intro w' hS'
      have hL' := hS'.1
      go_simp
      with_reducible rfl
    rotate_left
    · simp only [Act.put, List.setIfInBounds_toArray, List.set_cons_zero, List.set_cons_succ]
      rfl
    refine pi_ 4 25 (bt 15 31) rfl rfl (fun _ _ _ h => h) ?_
    refine pi_ 5 26 (bt 15 63) rfl rfl (fun _ _ _ h => h) ?_
    refine pure_ (i := 6) (N := some 27) (v := undef) (a' := ?_) (bt 15 127) rfl rfl (by kernel_rfl) (fun _ _ _ h => h) (Or.inr ⟨by rfl, rfl⟩) ?_ ?_
    rotate_left
    · simp only [Act.put, List.setIfInBounds_toArray, List.set_cons_zero, List.set_cons_succ]
      rfl
    refine pure_ (i := 7) (N := some 28) (v := undef) (a' := ?_) (bt 15 255) rfl rfl (by kernel_rfl) (fun _ _ _ h => h) (Or.inr ⟨by rfl, rfl⟩) ?_ ?_
    rotate_left
    · simp only [Act.put, List.setIfInBounds_toArray, List.set_cons_zero, List.set_cons_succ]
      rfl
    refine pure_ (i := 8) (N := some 29) (v := undef) (a' := ?_) (bt 15 511) rfl rfl (by kernel_rfl) (fun _ _ _ h => h) (Or.inr ⟨by rfl, rfl⟩) ?_ ?_
    rotate_left
    · simp only [Act.put, List.setIfInBounds_toArray, List.set_cons_zero, List.set_cons_succ]
      rfl
    refine pure_ (i := 9) (N := some 30) (v := undef) (a' := ?_) (bt 15 1023) rfl rfl (by kernel_rfl) (fun _ _ _ h => h) (Or.inr ⟨by rfl, rfl⟩) ?_ ?_
    rotate_left
    · simp only [Act.put, List.setIfInBounds_toArray, List.set_cons_zero, List.set_cons_succ]
      rfl
    refine pure_ (i := 10) (N := some 31) (v := undef) (a' := ?_) (bt 15 2047) rfl rfl (by kernel_rfl) (fun _ _ _ h => h) (Or.inr ⟨by rfl, rfl⟩) ?_ ?_
    rotate_left
    · simp only [Act.put, List.setIfInBounds_toArray, List.set_cons_zero, List.set_cons_succ]
      rfl
    refine pure_ (i := 11) (N := some 32) (v := undef) (a' := ?_) (bt 15 4095) rfl rfl (by kernel_rfl) (fun _ _ _ h => h) (Or.inr ⟨by rfl, rfl⟩) ?_ ?_
    rotate_left
    · simp only [Act.put, List.setIfInBounds_toArray, List.set_cons_zero, List.set_cons_succ]
      rfl
    refine pure_ (i := 12) (N := some 33) (v := undef) (a' := ?_) (bt 15 8191) rfl rfl (by kernel_rfl) (fun _ _ _ h => h) (Or.inr ⟨by rfl, rfl⟩) ?_ ?_
    rotate_left
    · simp only [Act.put, List.setIfInBounds_toArray, List.set_cons_zero, List.set_cons_succ]
      rfl
    refine pure_ (i := 13) (N := some 34) (v := undef) (a' := ?_) (bt 15 16383) rfl rfl (by kernel_rfl) (fun _ _ _ h => h) (Or.inr ⟨by rfl, rfl⟩) ?_ ?_
    rotate_left
    · simp only [Act.put, List.setIfInBounds_toArray, List.set_cons_zero, List.set_cons_succ]
      rfl
    refine pi_ 14 35 (bt 15 32767) rfl rfl (fun _ _ _ h => h) ?_
    refine done_ (by kernel_rfl) ?_
    gi_wp2
    have v1 : SpansBox (W.setCell ⟨w.heap.size, x.1.1 * 2, none⟩ (.int .i64 x.1.2.2.f1.f1)).drew w.heap.size (fun j => if j = x.1.1 then (x.1.2.2.f1.f1, (spansOfL pre j).2) else spansOfL pre j) := spansStep_lo hbx x.1.1 hi4 x.1.2.2.f1.f1
    have v2 : Boxed (W.setCell ⟨w.heap.size, x.1.1 * 2, none⟩ (.int .i64 x.1.2.2.f1.f1)).drew (w.heap.size + 1) 39 (.slice (some ⟨w.heap.size, 0, none⟩) 4 4) := blk_far hbv (p := ⟨w.heap.size, x.1.1 * 2, none⟩) (by show w.heap.size + 1 ≠ w.heap.size; omega) _
    have v3 : Below w.heap.size w (W.setCell ⟨w.heap.size, x.1.1 * 2, none⟩ (.int .i64 x.1.2.2.f1.f1)).drew := below_drew (hB.setCell (p := ⟨w.heap.size, x.1.1 * 2, none⟩) (Nat.le_refl _) _)
    have v4 : Below w.heap.size W (W.setCell ⟨w.heap.size, x.1.1 * 2, none⟩ (.int .i64 x.1.2.2.f1.f1)).drew := below_drew ((Below.refl _ W).setCell (p := ⟨w.heap.size, x.1.1 * 2, none⟩) (Nat.le_refl _) _)
    have v5 : KeepsFrom W0.heap.size W (W.setCell ⟨w.heap.size, x.1.1 * 2, none⟩ (.int .i64 x.1.2.2.f1.f1)).drew := ((KeepsOthers.setCell W ⟨w.heap.size, x.1.1 * 2, none⟩ (.int .i64 x.1.2.2.f1.f1)).trans (KeepsOthers.drew _)).from _
    have v6 : PageBox (W.setCell ⟨w.heap.size, x.1.1 * 2, none⟩ (.int .i64 x.1.2.2.f1.f1)).drew Bx x.1.2.2 := blk_far bX (p := ⟨w.heap.size, x.1.1 * 2, none⟩) (by show Bx ≠ w.heap.size; omega) _
    generalize hV : (W.setCell ⟨w.heap.size, x.1.1 * 2, none⟩ (.int .i64 x.1.2.2.f1.f1)).drew = V at v1 v2 v3 v4 v5 v6 ⊢
    have hhiV : V.cell? ⟨w.heap.size, x.1.1 * 2 + 1, none⟩ = some (.int .i64 (spansOfL pre x.1.1).2) := by have := (v1.at_ x.1.1 hi4).2; simpa using this
    have hsqV := v6.cells.2.2.1
    have hfV := v1.frozen (x.1.1 * 2 + 1)
    clear hV hbx hlo hhi hf0 hf1 hc0_ hc1_ hc2_ hc3_ hc4_ hcs0 hcv hbv bs bX
    have hSt : (fun W' => W'.cell? ⟨w.heap.size, x.1.1 * 2 + 1, none⟩ = some (.int .i64 (spansOfL pre x.1.1).2) ∧ W'.cell? ⟨Bx, 2, none⟩ = some (.int .i64 x.1.2.2.f1.f1)) V.drew := ⟨hhiV, hsqV⟩
    refine start_round (S := fun W' => W'.cell? ⟨w.heap.size, x.1.1 * 2 + 1, none⟩ = some (.int .i64 (spansOfL pre x.1.1).2) ∧ W'.cell? ⟨Bx, 2, none⟩ = some (.int .i64 x.1.2.2.f1.f1)) (ds := [11]) (bt 12 0) (by kernel_rfl) rfl rfl (by kernel_rfl) (by rintro ⟨a, w, h⟩; exact h) ?_
    refine pi_ 0 42 (bt 12 1) rfl rfl (fun _ _ _ h => h) ?_
    refine pi_ 1 43 (bt 12 3) rfl rfl (fun _ _ _ h => h) ?_
    refine pi_ 2 44 (bt 12 7) rfl rfl (fun _ _ _ h => h) ?_
    refine pi_ 3 45 (bt 12 15) rfl rfl (fun _ _ _ h => h) ?_
    refine take_ (i := 4) (N := some 46) (v := ?_) (a' := ?_) (bt 12 31) rfl rfl (by kernel_rfl) (fun _ _ _ h => h) (Or.inl ⟨by rfl, ?_⟩) hSt ?_ ?_
    rotate_left
    · intro w' hS'
      have hL' := hS'.1
      go_simp
      with_reducible rfl
    rotate_left
    · simp only [Act.put, List.setIfInBounds_toArray, List.set_cons_zero, List.set_cons_succ]
      rfl
    refine pi_ 5 47 (bt 12 63) rfl rfl (fun _ _ _ h => h) ?_
    refine pi_ 6 48 (bt 12 127) rfl rfl (fun _ _ _ h => h) ?_
    refine take_ (i := 7) (N := some 49) (v := ?_) (a' := ?_) (bt 12 255) rfl rfl (by kernel_rfl) (fun _ _ _ h => h) (Or.inl ⟨by rfl, ?_⟩) hSt ?_ ?_
    rotate_left
    · intro w' hS'
      have hL' := hS'.2
      go_simp
      with_reducible rfl
    rotate_left
    · simp only [Act.put, List.setIfInBounds_toArray, List.set_cons_zero, List.set_cons_succ]
      rfl
    refine pi_ 8 50 (bt 12 511) rfl rfl (fun _ _ _ h => h) ?_
    refine pi_ 9 51 (bt 12 1023) rfl rfl (fun _ _ _ h => h) ?_
    refine pi_ 10 52 (bt 12 2047) rfl rfl (fun _ _ _ h => h) ?_
    refine last_ (i := 11) (N := none) (bt 12 4095) rfl rfl (by kernel_rfl) (by decide) ?_
    intro K hK
    refine qs rfl ?_
    refine hK.out _ _ ?_
    clear hK K
    refine done_ (by kernel_rfl) ?_
    have k1 := spansStep_hi (show SpansBox V.drew w.heap.size (fun j => if j = x.1.1 then (x.1.2.2.f1.f1, (spansOfL pre j).2) else spansOfL pre j) from v1) x.1.1 hi4 (if (spansOfL pre x.1.1).2 < x.1.2.2.f1.f1 then x.1.2.2.f1.f1 else (spansOfL pre x.1.1).2)
    refine ⟨v5.trans (((KeepsOthers.drew V).trans (KeepsOthers.setCell _ _ _)).from _), v4.trans ((below_drew (Below.refl _ V)).setCell (p := ⟨w.heap.size, x.1.1 * 2 + 1, none⟩) (Nat.le_refl _) _), ?_, blk_far v2 (p := ⟨w.heap.size, x.1.1 * 2 + 1, none⟩) (by show w.heap.size + 1 ≠ w.heap.size; omega) _, (below_drew v3).setCell (p := ⟨w.heap.size, x.1.1 * 2 + 1, none⟩) (Nat.le_refl _) _⟩
    rw [hsn]
    have e : spansStep (spansOfL pre) x.1 = (fun j => if j = x.1.1 then (((fun j => if j = x.1.1 then (x.1.2.2.f1.f1, (spansOfL pre j).2) else spansOfL pre j) j).1, (if (spansOfL pre x.1.1).2 < x.1.2.2.f1.f1 then x.1.2.2.f1.f1 else (spansOfL pre x.1.1).2)) else (fun j => if j = x.1.1 then (x.1.2.2.f1.f1, (spansOfL pre j).2) else spansOfL pre j) j) := by
     funext j
     unfold spansStep stepSpan mx
     by_cases hj : j = x.1.1
     rotate_left
     · simp [hj]
     subst hj
     rw [if_pos rfl, if_pos hs1, if_pos (Or.inl hz), if_pos rfl]
     simp
    rw [e]
    exact k1
  have hz2 : ((spansOfL pre x.1.1).1 == 0) = false := by simp [hz]
  by_cases hw : x.1.2.2.f1.f1 < (spansOfL pre x.1.1).1
  rotate_left
  · have hw2 : decide (x.1.2.2.f1.f1 < (spansOfL pre x.1.1).1) = false := decide_eq_false hw
    gi_wp2
    have hSt : (fun W' => W'.cell? ⟨w.heap.size, x.1.1 * 2, none⟩ = some (.int .i64 (spansOfL pre x.1.1).1) ∧ W'.cell? ⟨Bx, 2, none⟩ = some (.int .i64 x.1.2.2.f1.f1)) W.drew := ⟨hlo, hc2_⟩
    refine start_round (S := fun W' => W'.cell? ⟨w.heap.size, x.1.1 * 2, none⟩ = some (.int .i64 (spansOfL pre x.1.1).1) ∧ W'.cell? ⟨Bx, 2, none⟩ = some (.int .i64 x.1.2.2.f1.f1)) (ds := []) (bt 15 0) (by kernel_rfl) rfl rfl (by kernel_rfl) (by rintro ⟨a, w, h⟩; exact h) ?_
    refine pi_ 0 21 (bt 15 1) rfl rfl (fun _ _ _ h => h) ?_
    refine pi_ 1 22 (bt 15 3) rfl rfl (fun _ _ _ h => h) ?_
    refine pi_ 2 23 (bt 15 7) rfl rfl (fun _ _ _ h => h) ?_
    refine take_ (i := 3) (N := some 24) (v := ?_) (a' := ?_) (bt 15 15) rfl rfl (by kernel_rfl) (fun _ _ _ h => h) (Or.inl ⟨by rfl, ?_⟩) hSt ?_ ?_
    rotate_left
    · intro w' hS'
      have hL' := hS'.1
      go_simp
      with_reducible rfl
    rotate_left
    · simp only [Act.put, List.setIfInBounds_toArray, List.set_cons_zero, List.set_cons_succ]
      rfl
    refine pi_ 4 25 (bt 15 31) rfl rfl (fun _ _ _ h => h) ?_
    refine pi_ 5 26 (bt 15 63) rfl rfl (fun _ _ _ h => h) ?_
    refine pi_ 6 27 (bt 15 127) rfl rfl (fun _ _ _ h => h) ?_
    refine pi_ 7 28 (bt 15 255) rfl rfl (fun _ _ _ h => h) ?_
    refine take_ (i := 8) (N := some 29) (v := ?_) (a' := ?_) (bt 15 511) rfl rfl (by kernel_rfl) (fun _ _ _ h => h) (Or.inl ⟨by rfl, ?_⟩) hSt ?_ ?_
    rotate_left
    · intro w' hS'
      have hL' := hS'.2
      go_simp
      with_reducible rfl
    rotate_left
    · simp only [Act.put, List.setIfInBounds_toArray, List.set_cons_zero, List.set_cons_succ]
      rfl
    refine pi_ 9 30 (bt 15 1023) rfl rfl (fun _ _ _ h => h) ?_
    refine pi_ 10 31 (bt 15 2047) rfl rfl (fun _ _ _ h => h) ?_
    refine pi_ 11 32 (bt 15 4095) rfl rfl (fun _ _ _ h => h) ?_
    refine take_ (i := 12) (N := some 33) (v := ?_) (a' := ?_) (bt 15 8191) rfl rfl (by kernel_rfl) (fun _ _ _ h => h) (Or.inl ⟨by rfl, ?_⟩) hSt ?_ ?_
    rotate_left
    · intro w' hS'
      have hL' := hS'.1
      go_simp
      with_reducible rfl
    rotate_left
    · simp only [Act.put, List.setIfInBounds_toArray, List.set_cons_zero, List.set_cons_succ]
      rfl
    refine pi_ 13 34 (bt 15 16383) rfl rfl (fun _ _ _ h => h) ?_
    refine pi_ 14 35 (bt 15 32767) rfl rfl (fun _ _ _ h => h) ?_
    refine done_ (by kernel_rfl) ?_
    gi_wp2
    have v1 : SpansBox W.drew w.heap.size (spansOfL pre) := hbx
    have v2 : Boxed W.drew (w.heap.size + 1) 39 (.slice (some ⟨w.heap.size, 0, none⟩) 4 4) := hbv
    have v3 : Below w.heap.size w W.drew := below_drew hB
    have v4 : Below w.heap.size W W.drew := below_drew (Below.refl _ W)
    have v5 : KeepsFrom W0.heap.size W W.drew := (KeepsOthers.drew W).from _
    have v6 : PageBox W.drew Bx x.1.2.2 := bX
    generalize hV : W.drew = V at v1 v2 v3 v4 v5 v6 ⊢
    have hhiV := (v1.at_ x.1.1 hi4).2
    have hsqV := v6.cells.2.2.1
    have hfV := v1.frozen (x.1.1 * 2 + 1)
    clear hV hbx hlo hhi hf0 hf1 hc0_ hc1_ hc2_ hc3_ hc4_ hcs0 hcv hbv bs bX
    have hSt : (fun W' => W'.cell? ⟨w.heap.size, x.1.1 * 2 + 1, none⟩ = some (.int .i64 (spansOfL pre x.1.1).2) ∧ W'.cell? ⟨Bx, 2, none⟩ = some (.int .i64 x.1.2.2.f1.f1)) V.drew := ⟨hhiV, hsqV⟩
    refine start_round (S := fun W' => W'.cell? ⟨w.heap.size, x.1.1 * 2 + 1, none⟩ = some (.int .i64 (spansOfL pre x.1.1).2) ∧ W'.cell? ⟨Bx, 2, none⟩ = some (.int .i64 x.1.2.2.f1.f1)) (ds := [11]) (bt 12 0) (by kernel_rfl) rfl rfl (by kernel_rfl) (by rintro ⟨a, w, h⟩; exact h) ?_
    refine pi_ 0 42 (bt 12 1) rfl rfl (fun _ _ _ h => h) ?_
    refine pi_ 1 43 (bt 12 3) rfl rfl (fun _ _ _ h => h) ?_
    refine pi_ 2 44 (bt 12 7) rfl rfl (fun _ _ _ h => h) ?_
    refine pi_ 3 45 (bt 12 15) rfl rfl (fun _ _ _ h => h) ?_
    refine take_ (i := 4) (N := some 46) (v := ?_) (a' := ?_) (bt 12 31) rfl rfl (by kernel_rfl) (fun _ _ _ h => h) (Or.inl ⟨by rfl, ?_⟩) hSt ?_ ?_
    rotate_left
    · intro w' hS'
      have hL' := hS'.1
      go_simp
      with_reducible rfl
    rotate_left
    · simp only [Act.put, List.setIfInBounds_toArray, List.set_cons_zero, List.set_cons_succ]
      rfl
    refine pi_ 5 47 (bt 12 63) rfl rfl (fun _ _ _ h => h) ?_
    refine pi_ 6 48 (bt 12 127) rfl rfl (fun _ _ _ h => h) ?_
    refine take_ (i := 7) (N := some 49) (v := ?_) (a' := ?_) (bt 12 255) rfl rfl (by kernel_rfl) (fun _ _ _ h => h) (Or.inl ⟨by rfl, ?_⟩) hSt ?_ ?_
    rotate_left
    · intro w' hS'
      have hL' := hS'.2
      go_simp
      with_reducible rfl
    rotate_left
    · simp only [Act.put, List.setIfInBounds_toArray, List.set_cons_zero, List.set_cons_succ]
      rfl
    refine pi_ 8 50 (bt 12 511) rfl rfl (fun _ _ _ h => h) ?_
    refine pi_ 9 51 (bt 12 1023) rfl rfl (fun _ _ _ h => h) ?_
    refine pi_ 10 52 (bt 12 2047) rfl rfl (fun _ _ _ h => h) ?_
    refine last_ (i := 11) (N := none) (bt 12 4095) rfl rfl (by kernel_rfl) (by decide) ?_
    intro K hK
    refine qs rfl ?_
    refine hK.out _ _ ?_
    clear hK K
    refine done_ (by kernel_rfl) ?_
    have k1 := spansStep_hi (show SpansBox V.drew w.heap.size (spansOfL pre) from v1) x.1.1 hi4 (if (spansOfL pre x.1.1).2 < x.1.2.2.f1.f1 then x.1.2.2.f1.f1 else (spansOfL pre x.1.1).2)
    refine ⟨v5.trans (((KeepsOthers.drew V).trans (KeepsOthers.setCell _ _ _)).from _), v4.trans ((below_drew (Below.refl _ V)).setCell (p := ⟨w.heap.size, x.1.1 * 2 + 1, none⟩) (Nat.le_refl _) _), ?_, blk_far v2 (p := ⟨w.heap.size, x.1.1 * 2 + 1, none⟩) (by show w.heap.size + 1 ≠ w.heap.size; omega) _, (below_drew v3).setCell (p := ⟨w.heap.size, x.1.1 * 2 + 1, none⟩) (Nat.le_refl _) _⟩
    rw [hsn]
    have e : spansStep (spansOfL pre) x.1 = (fun j => if j = x.1.1 then (((spansOfL pre) j).1, (if (spansOfL pre x.1.1).2 < x.1.2.2.f1.f1 then x.1.2.2.f1.f1 else (spansOfL pre x.1.1).2)) else (spansOfL pre) j) := by
     funext j
     unfold spansStep stepSpan mx
     by_cases hj : j = x.1.1
     rotate_left
     · simp [hj]
     subst hj
     rw [if_pos rfl, if_pos hs1, if_neg (fun h => h.elim hz (fun h => by omega)), if_pos rfl]
    rw [e]
    exact k1
  have hw2 : decide (x.1.2.2.f1.f1 < (spansOfL pre x.1.1).1) = true := decide_eq_true hw
  gi_wp2
  have hSt : (fun W' => W'.cell? ⟨w.heap.size, x.1.1 * 2, none⟩ = some (.int .i64 (spansOfL pre x.1.1).1) ∧ W'.cell? ⟨Bx, 2, none⟩ = some (.int .i64 x.1.2.2.f1.f1)) W.drew := ⟨hlo, hc2_⟩
  refine start_round (S := fun W' => W'.cell? ⟨w.heap.size, x.1.1 * 2, none⟩ = some (.int .i64 (spansOfL pre x.1.1).1) ∧ W'.cell? ⟨Bx, 2, none⟩ = some (.int .i64 x.1.2.2.f1.f1)) (ds := []) (bt 15 0) (by kernel_rfl) rfl rfl (by kernel_rfl) (by rintro ⟨a, w, h⟩; exact h) ?_
  refine pi_ 0 21 (bt 15 1) rfl rfl (fun _ _ _ h => h) ?_
  refine pi_ 1 22 (bt 15 3) rfl rfl (fun _ _ _ h => h) ?_
  refine pi_ 2 23 (bt 15 7) rfl rfl (fun _ _ _ h => h) ?_
  refine take_ (i := 3) (N := some 24) (v := ?_) (a' := ?_) (bt 15 15) rfl rfl (by kernel_rfl) (fun _ _ _ h => h) (Or.inl ⟨by rfl, ?_⟩) hSt ?_ ?_
  rotate_left
  · intro w' hS'
    have hL' := hS'.1
    go_simp
    with_reducible rfl
  rotate_left
  · simp only [Act.put, List.setIfInBounds_toArray, List.set_cons_zero, List.set_cons_succ]
    rfl
  refine pi_ 4 25 (bt 15 31) rfl rfl (fun _ _ _ h => h) ?_
  refine pi_ 5 26 (bt 15 63) rfl rfl (fun _ _ _ h => h) ?_
  refine pi_ 6 27 (bt 15 127) rfl rfl (fun _ _ _ h => h) ?_
  refine pi_ 7 28 (bt 15 255) rfl rfl (fun _ _ _ h => h) ?_
  refine take_ (i := 8) (N := some 29) (v := ?_) (a' := ?_) (bt 15 511) rfl rfl (by kernel_rfl) (fun _ _ _ h => h) (Or.inl ⟨by rfl, ?_⟩) hSt ?_ ?_
  rotate_left
  · intro w' hS'
    have hL' := hS'.2
    go_simp
    with_reducible rfl
  rotate_left
  · simp only [Act.put, List.setIfInBounds_toArray, List.set_cons_zero, List.set_cons_succ]
    rfl
  refine pi_ 9 30 (bt 15 1023) rfl rfl (fun _ _ _ h => h) ?_
  refine pi_ 10 31 (bt 15 2047) rfl rfl (fun _ _ _ h => h) ?_
  refine pi_ 11 32 (bt 15 4095) rfl rfl (fun _ _ _ h => h) ?_
  refine take_ (i := 12) (N := some 33) (v := ?_) (a' := ?_) (bt 15 8191) rfl rfl (by kernel_rfl) (fun _ _ _ h => h) (Or.inl ⟨by rfl, ?_⟩) hSt ?_ ?_
  rotate_left
  · intro w' hS'
    have hL' := hS'.1
    go_simp
    with_reducible rfl
  rotate_left
  · simp only [Act.put, List.setIfInBounds_toArray, List.set_cons_zero, List.set_cons_succ]
    rfl
  refine pi_ 13 34 (bt 15 16383) rfl rfl (fun _ _ _ h => h) ?_
  refine pi_ 14 35 (bt 15 32767) rfl rfl (fun _ _ _ h => h) ?_
  refine done_ (by kernel_rfl) ?_
  gi_wp2
  have v1 : SpansBox (W.setCell ⟨w.heap.size, x.1.1 * 2, none⟩ (.int .i64 x.1.2.2.f1.f1)).drew w.heap.size (fun j => if j = x.1.1 then (x.1.2.2.f1.f1, (spansOfL pre j).2) else spansOfL pre j) := spansStep_lo hbx x.1.1 hi4 x.1.2.2.f1.f1
  have v2 : Boxed (W.setCell ⟨w.heap.size, x.1.1 * 2, none⟩ (.int .i64 x.1.2.2.f1.f1)).drew (w.heap.size + 1) 39 (.slice (some ⟨w.heap.size, 0, none⟩) 4 4) := blk_far hbv (p := ⟨w.heap.size, x.1.1 * 2, none⟩) (by show w.heap.size + 1 ≠ w.heap.size; omega) _
  have v3 : Below w.heap.size w (W.setCell ⟨w.heap.size, x.1.1 * 2, none⟩ (.int .i64 x.1.2.2.f1.f1)).drew := below_drew (hB.setCell (p := ⟨w.heap.size, x.1.1 * 2, none⟩) (Nat.le_refl _) _)
  have v4 : Below w.heap.size W (W.setCell ⟨w.heap.size, x.1.1 * 2, none⟩ (.int .i64 x.1.2.2.f1.f1)).drew := below_drew ((Below.refl _ W).setCell (p := ⟨w.heap.size, x.1.1 * 2, none⟩) (Nat.le_refl _) _)
  have v5 : KeepsFrom W0.heap.size W (W.setCell ⟨w.heap.size, x.1.1 * 2, none⟩ (.int .i64 x.1.2.2.f1.f1)).drew := ((KeepsOthers.setCell W ⟨w.heap.size, x.1.1 * 2, none⟩ (.int .i64 x.1.2.2.f1.f1)).trans (KeepsOthers.drew _)).from _
  have v6 : PageBox (W.setCell ⟨w.heap.size, x.1.1 * 2, none⟩ (.int .i64 x.1.2.2.f1.f1)).drew Bx x.1.2.2 := blk_far bX (p := ⟨w.heap.size, x.1.1 * 2, none⟩) (by show Bx ≠ w.heap.size; omega) _
  generalize hV : (W.setCell ⟨w.heap.size, x.1.1 * 2, none⟩ (.int .i64 x.1.2.2.f1.f1)).drew = V at v1 v2 v3 v4 v5 v6 ⊢
  have hhiV : V.cell? ⟨w.heap.size, x.1.1 * 2 + 1, none⟩ = some (.int .i64 (spansOfL pre x.1.1).2) := by have := (v1.at_ x.1.1 hi4).2; simpa using this
  have hsqV := v6.cells.2.2.1
  have hfV := v1.frozen (x.1.1 * 2 + 1)
  clear hV hbx hlo hhi hf0 hf1 hc0_ hc1_ hc2_ hc3_ hc4_ hcs0 hcv hbv bs bX
  have hSt : (fun W' => W'.cell? ⟨w.heap.size, x.1.1 * 2 + 1, none⟩ = some (.int .i64 (spansOfL pre x.1.1).2) ∧ W'.cell? ⟨Bx, 2, none⟩ = some (.int .i64 x.1.2.2.f1.f1)) V.drew := ⟨hhiV, hsqV⟩
  refine start_round (S := fun W' => W'.cell? ⟨w.heap.size, x.1.1 * 2 + 1, none⟩ = some (.int .i64 (spansOfL pre x.1.1).2) ∧ W'.cell? ⟨Bx, 2, none⟩ = some (.int .i64 x.1.2.2.f1.f1)) (ds := [11]) (bt 12 0) (by kernel_rfl) rfl rfl (by kernel_rfl) (by rintro ⟨a, w, h⟩; exact h) ?_
  refine pi_ 0 42 (bt 12 1) rfl rfl (fun _ _ _ h => h) ?_
  refine pi_ 1 43 (bt 12 3) rfl rfl (fun _ _ _ h => h) ?_
  refine pi_ 2 44 (bt 12 7) rfl rfl (fun _ _ _ h => h) ?_
  refine pi_ 3 45 (bt 12 15) rfl rfl (fun _ _ _ h => h) ?_
  refine take_ (i := 4) (N := some 46) (v := ?_) (a' := ?_) (bt 12 31) rfl rfl (by kernel_rfl) (fun _ _ _ h => h) (Or.inl ⟨by rfl, ?_⟩) hSt ?_ ?_
  rotate_left
  · intro w' hS'
    have hL' := hS'.1
    go_simp
    with_reducible rfl
  rotate_left
  · simp only [Act.put, List.setIfInBounds_toArray, List.set_cons_zero, List.set_cons_succ]
    rfl
  refine pi_ 5 47 (bt 12 63) rfl rfl (fun _ _ _ h => h) ?_
  refine pi_ 6 48 (bt 12 127) rfl rfl (fun _ _ _ h => h) ?_
  refine take_ (i := 7) (N := some 49) (v := ?_) (a' := ?_) (bt 12 255) rfl rfl (by kernel_rfl) (fun _ _ _ h => h) (Or.inl ⟨by rfl, ?_⟩) hSt ?_ ?_
  rotate_left
  · intro w' hS'
    have hL' := hS'.2
    go_simp
    with_reducible rfl
  rotate_left
  · simp only [Act.put, List.setIfInBounds_toArray, List.set_cons_zero, List.set_cons_succ]
    rfl
  refine pi_ 8 50 (bt 12 511) rfl rfl (fun _ _ _ h => h) ?_
  refine pi_ 9 51 (bt 12 1023) rfl rfl (fun _ _ _ h => h) ?_
  refine pi_ 10 52 (bt 12 2047) rfl rfl (fun _ _ _ h => h) ?_
  refine last_ (i := 11) (N := none) (bt 12 4095) rfl rfl (by kernel_rfl) (by decide) ?_
  intro K hK
  refine qs rfl ?_
  refine hK.out _ _ ?_
  clear hK K
  refine done_ (by kernel_rfl) ?_
  have k1 := spansStep_hi (show SpansBox V.drew w.heap.size (fun j => if j = x.1.1 then (x.1.2.2.f1.f1, (spansOfL pre j).2) else spansOfL pre j) from v1) x.1.1 hi4 (if (spansOfL pre x.1.1).2 < x.1.2.2.f1.f1 then x.1.2.2.f1.f1 else (spansOfL pre x.1.1).2)
  refine ⟨v5.trans (((KeepsOthers.drew V).trans (KeepsOthers.setCell _ _ _)).from _), v4.trans ((below_drew (Below.refl _ V)).setCell (p := ⟨w.heap.size, x.1.1 * 2 + 1, none⟩) (Nat.le_refl _) _), ?_, blk_far v2 (p := ⟨w.heap.size, x.1.1 * 2 + 1, none⟩) (by show w.heap.size + 1 ≠ w.heap.size; omega) _, (below_drew v3).setCell (p := ⟨w.heap.size, x.1.1 * 2 + 1, none⟩) (Nat.le_refl _) _⟩
  rw [hsn]
  have e : spansStep (spansOfL pre) x.1 = (fun j => if j = x.1.1 then (((fun j => if j = x.1.1 then (x.1.2.2.f1.f1, (spansOfL pre j).2) else spansOfL pre j) j).1, (if (spansOfL pre x.1.1).2 < x.1.2.2.f1.f1 then x.1.2.2.f1.f1 else (spansOfL pre x.1.1).2)) else (fun j => if j = x.1.1 then (x.1.2.2.f1.f1, (spansOfL pre j).2) else spansOfL pre j) j) := by
   funext j
   unfold spansStep stepSpan mx
   by_cases hj : j = x.1.1
   rotate_left
   · simp [hj]
   subst hj
   rw [if_pos rfl, if_pos hs1, if_pos (Or.inr hw), if_pos rfl]
   simp
  rw [e]
  exact k1
 case done =>
  rintro D ys W hD hys ⟨hbx, hbv, hB⟩ hK
  rw [spansOfL_all hys] at hbx
  have hcv := hbv.cell
  gi_wp2
  refine ⟨by simp, .inl ⟨_, _, rfl, run_takeDeferred hK, ?_⟩⟩
  have hbq := SpansBox.own (β := Unit) _ (fun _ => spansF l0) () _ _ _ hbx (grownBy_putObj' _ D (.deferred none)) (fun r e => by cases e; exact ⟨_, hK, rfl⟩)
  exact ⟨_, results_tmp rfl _ _ _, w.heap.size, rfl, hbq, Nat.le_refl _, hB.trans (belowK_b (w := w) (Nat.le_refl _) W D _ _ (by have := hB0.size; omega) hK rfl rfl)⟩
 case stop =>
  rintro D c pre W _ _ h _
  exact h.elim
end Go.Proofs.Ytkpoephbiikehaa.R3
