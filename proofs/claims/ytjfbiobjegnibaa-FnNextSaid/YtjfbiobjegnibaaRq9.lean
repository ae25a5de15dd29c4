-- printed by wip/pp/pp.py
import Derived.Test.YtjfbiobjegnibaaRq0
import Derived.Test.YtjfbiobjegnibaaRq8
import Derived.Test.YtjfbiobjegnibaaWMap
import Derived.Maps.OwnOps
import Derived.Maps.Own
import Derived.IntWalk
import Derived.WalkArith
import Derived.RangeFuncNested
import Derived.RangeFuncBound
import Derived.RangeFuncCalls
import Derived.RangeFuncLeaves
import Derived.Shelf.Abstract
import Derived.WalkKit
import Derived.OwnWalkIn
import Derived.TacticsInMore
import Derived.LoopNIn
import Derived.LoopIn
import Derived.Test.YtjfbiobjegnibaaRq3
namespace Go.Proofs.Ytjfbiobjegnibaa.Rq
open Go.RowKit Go.Proofs.YtjfbiobjegnibaaW.PrintWords Go.Proofs.YtjfbiobjegnibaaW.PrintLast Go.Proofs.YtjfbiobjegnibaaW.PrintMore
attribute [local go_sem] max2_int min2_int max_two min_two max_three min_three max_four min_four
set_option linter.unusedVariables false
set_option linter.unusedSimpArgs false
def pageB (p : S30) : Bool :=
 if p.f0 = 1 then recOkB p.f1.f0 p.f1.f1 p.f1.f2 p.f1.f3
 else if p.f0 = 0 ∨ p.f0 = 2 then p.f1.f0 == 0 && (p.f1.f1 == 0 && (p.f1.f2 == 0 && (p.f1.f3 == 0))) else false
def shapeB : List S30 → Bool → Bool
 | [], _ => true
 | p :: ps, free => if free = true ∧ p.f0 ≠ 0 then false else shapeB ps (p.f0 == 0)
def blockB (b : S33) : Bool := decide ((b.f0.length : Int) = 4 ∧ 0 ≤ b.f1 ∧ b.f1 ≤ 200) && shapeB b.f0 false
def pagesB : List S30 → List Int → Option (List Int)
 | [], S => some S
 | p :: ps, S => if pageB p = true then (if p.f0 = 1 then (if p.f1.f1 ∈ S then none else pagesB ps (p.f1.f1 :: S)) else pagesB ps S) else none
def blocksB : List S33 → List Int → Bool
 | [], _ => true
 | b :: bs, S => blockB b && (match pagesB b.f0 S with | none => false | some S' => blocksB bs S')
def flashOkB (l : List S33) : Bool := decide ((l.length : Int) = 4) && blocksB l []
theorem drop_T30 {l : List S30} {i : Nat} (h : i < l.length) : l.drop i = rd_T30 l (i : Int) :: l.drop (i + 1) := by
 rw [List.drop_eq_getElem_cons h]
 simp [rd_T30, List.getD_eq_getElem?_getD, h]
theorem drop_T33 {l : List S33} {i : Nat} (h : i < l.length) : l.drop i = rd_T33 l (i : Int) :: l.drop (i + 1) := by
 rw [List.drop_eq_getElem_cons h]
 simp [rd_T33, List.getD_eq_getElem?_getD, h]
theorem shape_loop (l : List S30) (hl : l.length ≤ maxLen) : ∀ (n i : Nat) (free : Bool), i + n = l.length → impl_blockShape.l0 (n + 1) free l (l.length : Int) (i : Int) = some (shapeB (l.drop i) free)
 | 0, i, free, h => by
  rw [impl_blockShape.l0, if_neg (by omega), List.drop_eq_nil_of_le (by omega)]
  rfl
 | n + 1, i, free, h => by
  have hw : wrap64 ((i : Int) + 1) = ((i + 1 : Nat) : Int) := by
   simp only [maxLen] at hl
   rw [IntWalk.wrap64_in _ (by omega)]
   omega
  rw [impl_blockShape.l0, if_pos (by omega), if_pos (by omega), if_pos (by omega), drop_T30 (by omega), shapeB, hw]
  have ih := fun f => shape_loop l hl n (i + 1) f (by omega)
  by_cases hf : free = true
  rotate_left
  · rw [if_neg hf, if_neg (fun h => hf h.1)]
    exact ih _
  by_cases hs : (rd_T30 l (i : Int)).f0 = 0
  rotate_left
  · rw [if_pos hf, if_neg hs, if_pos ⟨hf, hs⟩]
  rw [if_pos hf, if_pos hs, if_neg (by simp [hs])]
  exact ih _
theorem blockShape_ok (b : S33) (hl : b.f0.length ≤ maxLen) : ∃ k, impl_blockShape.f k b.f0 b.f1 = some (blockB b) := by
 refine ⟨b.f0.length + 2, ?_⟩
 have key := shape_loop b.f0 hl b.f0.length 0 false (by omega)
 unfold impl_blockShape.f blockB
 by_cases h1 : (b.f0.length : Int) = 4
 rotate_left
 · rw [if_neg h1, impl_blockShape.j0, if_pos rfl]
   simp [h1]
 rw [if_pos h1]
 by_cases h2 : b.f1 < 0
 · rw [if_pos h2, impl_blockShape.j0, if_pos rfl]
   simp
   intro _ h
   omega
 rw [if_neg h2]
 by_cases h3 : b.f1 > 200
 · rw [decide_eq_true h3, impl_blockShape.j0, if_pos rfl]
   simp
   intro _ _ h
   omega
 rw [decide_eq_false h3, impl_blockShape.j0, if_neg (by simp)]
 have : decide ((b.f0.length : Int) = 4 ∧ 0 ≤ b.f1 ∧ b.f1 ≤ 200) = true := decide_eq_true ⟨h1, by omega, by omega⟩
 rw [this, Bool.true_and]
 exact key
theorem pageShape_ok (p : S30) : impl_pageShape.f p.f0 p.f1.f0 p.f1.f1 p.f1.f2 p.f1.f3 = some (pageB p) := by
 unfold impl_pageShape.f pageB impl_RecOk.f
 by_cases h1 : p.f0 = 1
 · rw [if_pos h1, if_pos h1]
   rfl
 rw [if_neg h1, if_neg h1]
 by_cases h2 : p.f0 = 0
 · rw [if_pos h2, if_pos (Or.inl h2)]
 by_cases h3 : p.f0 = 2
 rotate_left
 · rw [if_neg h2, if_neg h3, if_neg (by omega)]
 rw [if_neg h2, if_pos h3, if_pos (Or.inr h3)]
def impl_FlashOk.f (l0 : List (S33)) : Option (Bool) := some (flashOkB l0)
set_option maxHeartbeats 8000000 in
set_option maxRecDepth 100000 in
theorem impl_FlashOk.calls (A0 : Option Addr) (c0 : Nat) (l0 : List (S33)) (r : Bool) (w : World) (hr0 : Kd.C k33 w A0 l0.length l0) (hc0 : l0.length ≤ c0) (h : impl_FlashOk.f l0 = some r) :
 Calls Try.prog 12 #[.slice A0 l0.length c0] w fun e w' => e = .returned (.bool r) ∧ Below w.heap.size w w' := by
 have hu33 := Try.underlying33
 have hu30 := Try.underlying30
 have hu28 := Try.underlying28
 obtain rfl : r = flashOkB l0 := (Option.some.inj h).symm
 clear h
 by_cases c : (l0.length : Int) = 4
 rotate_left
 · have cb : ((l0.length : Int) != 4) = true := by simp [c]
   go_enter Try.func12, Try.ntmps12
   go_wp2
   go_ret
   exact ⟨by simp [flashOkB, c], Below.refl _ _⟩
 have cb : ((l0.length : Int) != 4) = false := by simp [c]
 have HE : Aside0 (flashOkB l0 = blocksB l0 []) := ⟨by unfold flashOkB; rw [decide_eq_true c, Bool.true_and]⟩
 have C := am c
 clear c
 have hmm := @run_makeMap Try.prog
 go_enter Try.func12, Try.ntmps12
 go_wp2
 have HS := am (Go.Proofs.YtjfbiobjegnibaaW.SeenIs.made (P := Try.prog) (K := 3) (E := 3) w)
 have HB : Aside0 (Below w.heap.size w (w.alloc (.map #[] 0))) := ⟨below_alloc (Below.refl _ _) _⟩
 generalize hB : w.heap.size = B at HS
 have HBB := am hB
 clear hB
 generalize w.alloc (.map #[] 0) = w1 at HS HB ⊢
 go_loopg [14, 5, 7] (l0.length + 1) (fun kq v14 v5 v7 w' => ∃ (i : Nat) (S : List Int), v14 = .int .i64 (i : Int) ∧ Aside0 (kq + i = l0.length + 1) ∧ Aside0 (i ≤ l0.length) ∧ Aside0 (blocksB (l0.drop i) S = blocksB l0 []) ∧ Aside0 (S.length ≤ 4 * i) ∧ Aside0 (Go.Proofs.YtjfbiobjegnibaaW.SeenIs Try.prog 3 3 w' B S.length S) ∧ Aside0 (Below w.heap.size w w'))
 case atStart => exact ⟨0, [], rfl, ⟨rfl⟩, ⟨Nat.zero_le _⟩, ⟨by simp⟩, ⟨by simp⟩, HS, HB⟩
 case round =>
  clear HS HB
  obtain ⟨i, S, rfl, HK, HI, HP, HN, HS, HB⟩ := hrel
  obtain ⟨k1, rfl⟩ : ∃ k, gk = k + 1 := by
   have hsz : (l0.length : Int) = 4 := C.out
   have := HK.out
   have := HI.out
   exact ⟨gk - 1, by omega⟩
  have hsz : (l0.length : Int) = 4 := C.out
  have hw14 : wrap64 ((i : Int) + 1) = ((i + 1 : Nat) : Int) := by have := HI.out; rw [IntWalk.wrap64_in _ (by omega)]; omega
  by_cases ci : i < l0.length
  rotate_left
  · have cib : decide ((i : Int) < (l0.length : Int)) = false := decide_eq_false (by omega)
    have HP2 := HP.out
    rw [List.drop_eq_nil_of_le (by omega), blocksB] at HP2
    have HF : Aside0 (flashOkB l0 = true) := ⟨by rw [HE.out]; exact HP2.symm⟩
    have ci2 : ¬ ((i : Int) < (l0.length : Int)) := by omega
    clear hsz HP2
    go_wp2
    go_ret
    exact ⟨by rw [HF.out]; rfl, HB.out⟩
  have cib : decide ((i : Int) < (l0.length : Int)) = true := decide_eq_true (by omega)
  have p1 : 0 ≤ (i : Int) := by omega
  have q1 : (i : Int) < (l0.length : Int) := by omega
  obtain ⟨ad1, A1, c1, e1, hx1_0, hx1_1, hl1, hi1⟩ := at_T33 hr0 (i : Int) p1 q1
  cases e1
  have hlm1 : (rd_T33 l0 (i : Int)).f0.length ≤ maxLen := Kd.C_max hi1
  replace hx1_0 := up HB.out hx1_0
  replace hx1_1 := up HB.out hx1_1
  simp only [Int.toNat_natCast] at hx1_0 hx1_1
  obtain ⟨kb, hkb⟩ := blockShape_ok (rd_T33 l0 (i : Int)) hlm1
  replace hkb := am hkb
  have HP2 := HP.out
  rw [drop_T33 ci, blocksB] at HP2
  cases hbb : blockB (rd_T33 l0 (i : Int)) with
  | false =>
   rw [hbb] at hkb
   rw [hbb, Bool.false_and] at HP2
   have HF : Aside0 (flashOkB l0 = false) := ⟨by rw [HE.out]; exact HP2.symm⟩
   replace hi1 := am hi1
   replace p1 := eq_true p1
   replace q1 := eq_true q1
   clear hsz ci HP2 hbb
   go_wp2_with (first | (refine bx 5 #[.slice none 0 0, .int .i64 0] 33 rfl ?_; intro g1 hg w6 hbox hb; have n0_ := am (below_step HB.out hb); have n1_ := am hbox; have GE1 := am ((by rw [hg]; exact below_size HB.out) : w.heap.size ≤ g1); have NE1 := am ((by rw [hg]; exact Nat.ne_of_lt HS.out.lt) : B ≠ g1); have n2_ := am (HS.out.below hb); clear HB HS; have HB := n0_; have BK1 := n1_; have HS := n2_; clear n0_ n1_ n2_; obtain ⟨hczg1_0, hczg1_1⟩ := b2 hbox; obtain ⟨hfzg1_0, hfzg1_1⟩ := f2 hbox; clear hb hbox hg) | ((with_reducible refine gate_callee (f := 26) rfl ?_); refine goesL_ (some 19) rfl rfl Try.func26 (by kernel_rfl) rfl #[.agg #[.slice A1 (rd_T33 l0 (i : Int)).f0.length c1, .int .i64 (rd_T33 l0 (i : Int)).f1]] rfl (by (try simp only [List.map_toArray, List.map_cons, List.map_nil]); first | done | rfl) ?_; (with_reducible refine (impl_blockShape.calls kb _ _ _ _ _ _ ?side1 ?side2 hkb.out).mono ?_); (case side1 => exact Kd.C_below hi1.out (bg1 HB.out GE1.out)); (case side2 => exact hl1); rintro e w2 ⟨rfl, hb⟩; refine ⟨_, rfl, ?_⟩; have n0_ := am (below_step (bg1 HB.out GE1.out) hb); have n1_ := am (blk_below (blk_put (cs := #[.slice A1 (rd_T33 l0 (i : Int)).f0.length c1, .int .i64 0]) (blk_put (cs := #[.slice none 0 0, .int .i64 0]) BK1.out 0 _ rfl) 1 _ rfl) hb); have n2_ := am (((HS.out.far (p := ⟨g1, 0, none⟩) NE1.out _).far (p := ⟨g1, 1, none⟩) NE1.out _).below hb); clear HB BK1 HS; have HB := n0_; have BK1 := n1_; have HS := n2_; clear n0_ n1_ n2_; clear hb hczg1_0 hczg1_1 hfzg1_0 hfzg1_1; have hy1_0 := (blk_cell BK1.out 0).trans rfl; have hy1_1 := (blk_cell BK1.out 1).trans rfl))
   go_ret
   exact ⟨by rw [HF.out]; rfl, HB.out⟩
  | true =>
   rw [hbb] at hkb
   rw [hbb, Bool.true_and] at HP2
   replace HP2 := am HP2
   have hbl : (rd_T33 l0 (i : Int)).f0.length = 4 := by
    unfold blockB at hbb
    simp only [Bool.and_eq_true, decide_eq_true_eq] at hbb
    omega
   replace hbl := am hbl
   replace hi1 := am hi1
   replace p1 := eq_true p1
   replace q1 := eq_true q1
   have CI := am ci
   clear hsz ci hbb
   go_wp2_with (first | (refine bx 5 #[.slice none 0 0, .int .i64 0] 33 rfl ?_; intro g1 hg w6 hbox hb; have n0_ := am (below_step HB.out hb); have n1_ := am hbox; have GE1 := am ((by rw [hg]; exact below_size HB.out) : w.heap.size ≤ g1); have NE1 := am ((by rw [hg]; exact Nat.ne_of_lt HS.out.lt) : B ≠ g1); have n2_ := am (HS.out.below hb); clear HB HS; have HB := n0_; have BK1 := n1_; have HS := n2_; clear n0_ n1_ n2_; obtain ⟨hczg1_0, hczg1_1⟩ := b2 hbox; obtain ⟨hfzg1_0, hfzg1_1⟩ := f2 hbox; clear hb hbox hg) | ((with_reducible refine gate_callee (f := 26) rfl ?_); refine goesL_ (some 19) rfl rfl Try.func26 (by kernel_rfl) rfl #[.agg #[.slice A1 (rd_T33 l0 (i : Int)).f0.length c1, .int .i64 (rd_T33 l0 (i : Int)).f1]] rfl (by (try simp only [List.map_toArray, List.map_cons, List.map_nil]); first | done | rfl) ?_; (with_reducible refine (impl_blockShape.calls kb _ _ _ _ _ _ ?side1 ?side2 hkb.out).mono ?_); (case side1 => exact Kd.C_below hi1.out (bg1 HB.out GE1.out)); (case side2 => exact hl1); rintro e w2 ⟨rfl, hb⟩; refine ⟨_, rfl, ?_⟩; have n0_ := am (below_step (bg1 HB.out GE1.out) hb); have n1_ := am (blk_below (blk_put (cs := #[.slice A1 (rd_T33 l0 (i : Int)).f0.length c1, .int .i64 0]) (blk_put (cs := #[.slice none 0 0, .int .i64 0]) BK1.out 0 _ rfl) 1 _ rfl) hb); have n2_ := am (((HS.out.far (p := ⟨g1, 0, none⟩) NE1.out _).far (p := ⟨g1, 1, none⟩) NE1.out _).below hb); clear HB BK1 HS; have HB := n0_; have BK1 := n1_; have HS := n2_; clear n0_ n1_ n2_; clear hb hczg1_0 hczg1_1 hfzg1_0 hfzg1_1; have hy1_0 := (blk_cell BK1.out 0).trans rfl; have hy1_1 := (blk_cell BK1.out 1).trans rfl))
   have NB1 : Aside0 (some g1 ≠ some B) := ⟨fun e => NE1.out (by injection e with e; exact e.symm)⟩
   go_loopg [24, 7] ((rd_T33 l0 (i : Int)).f0.length + 1) (fun kq v24 v7 w' => ∃ (j : Nat) (S2 : List Int), v24 = .int .i64 (j : Int) ∧ Aside0 (kq + j = (rd_T33 l0 (i : Int)).f0.length + 1) ∧ Aside0 (j ≤ (rd_T33 l0 (i : Int)).f0.length) ∧ Aside0 (pagesB ((rd_T33 l0 (i : Int)).f0.drop j) S2 = pagesB (rd_T33 l0 (i : Int)).f0 S) ∧ Aside0 (S2.length ≤ 4 * i + j) ∧ Aside0 (Go.Proofs.YtjfbiobjegnibaaW.SeenIs Try.prog 3 3 w' B S2.length S2) ∧ Aside0 (w'.heap[g1]? = some (.cells #[.slice A1 (rd_T33 l0 (i : Int)).f0.length c1, .int .i64 (rd_T33 l0 (i : Int)).f1] 33 (0, 0))) ∧ Aside0 (Below w.heap.size w w'))
   case atStart => exact ⟨0, S, rfl, ⟨rfl⟩, ⟨Nat.zero_le _⟩, ⟨by simp⟩, ⟨by have := HN.out; omega⟩, HS, BK1, HB⟩
   case round =>
    clear HS HB BK1 hy1_0 hy1_1
    obtain ⟨j, S2, rfl, HK2, HJ, HQ, HM, HS, BK1, HB⟩ := hrel
    have hbl' := hbl.out
    have hii : i < l0.length := CI.out
    have hsz : (l0.length : Int) = 4 := C.out
    obtain ⟨k2, rfl⟩ : ∃ k, gk = k + 1 := by
     have := HK2.out
     have := HJ.out
     exact ⟨gk - 1, by omega⟩
    by_cases cj : j < (rd_T33 l0 (i : Int)).f0.length
    rotate_left
    · have cjb : decide ((j : Int) < ((rd_T33 l0 (i : Int)).f0.length : Int)) = false := decide_eq_false (by omega)
      have HQ2 := HQ.out
      rw [List.drop_eq_nil_of_le (by omega), pagesB] at HQ2
      have HP3 := HP2.out
      rw [← HQ2] at HP3
      have HP4 := am HP3
      have hjl : j = (rd_T33 l0 (i : Int)).f0.length := by have := HJ.out; omega
      have HN2 : Aside0 (S2.length ≤ 4 * (i + 1)) := ⟨by have := HM.out; omega⟩
      have cj2 : ¬ ((j : Int) < ((rd_T33 l0 (i : Int)).f0.length : Int)) := by omega
      clear hsz hii hbl' HQ2 HP3 hjl
      go_wp2
      go_roundg k1
      case measure => omega
      case rel => exact ⟨i + 1, S2, by first | rfl | (simp; done) | (simp [*]; done), ⟨by have := HK.out; omega⟩, ⟨CI.out⟩, HP4, HN2, HS, HB⟩
    have cjb : decide ((j : Int) < ((rd_T33 l0 (i : Int)).f0.length : Int)) = true := decide_eq_true (by omega)
    have p2 : 0 ≤ (j : Int) := by omega
    have q2 : (j : Int) < ((rd_T33 l0 (i : Int)).f0.length : Int) := by omega
    obtain ⟨ad2, e2, hx2_0, hx2_1, hx2_2, hx2_3, hx2_4⟩ := at_T30 hi1.out (j : Int) p2 q2
    cases e2
    replace hx2_0 := up HB.out hx2_0
    replace hx2_1 := up HB.out hx2_1
    replace hx2_2 := up HB.out hx2_2
    replace hx2_3 := up HB.out hx2_3
    replace hx2_4 := up HB.out hx2_4
    simp only [Int.toNat_natCast] at hx2_0 hx2_1 hx2_2 hx2_3 hx2_4
    have hkp := am (pageShape_ok (rd_T30 (rd_T33 l0 (i : Int)).f0 (j : Int)))
    have HQ2 := HQ.out
    rw [drop_T30 cj, pagesB] at HQ2
    have hw24 : wrap64 ((j : Int) + 1) = ((j + 1 : Nat) : Int) := by rw [IntWalk.wrap64_in _ (by omega)]; omega
    have hnm : Aside0 (S2.length < maxLen) := ⟨by have := HM.out; simp only [maxLen]; omega⟩
    replace p2 := eq_true p2
    replace q2 := eq_true q2
    have CJ := am cj
    clear hsz hii hbl' cj
    cases hpb : pageB (rd_T30 (rd_T33 l0 (i : Int)).f0 (j : Int)) with
    | false =>
     rw [hpb] at hkp
     rw [hpb, if_neg (by simp)] at HQ2
     have HF : Aside0 (flashOkB l0 = false) := ⟨by rw [HE.out, ← HP2.out, ← HQ2]⟩
     clear HQ2 hpb
     go_wp2_with (first | (refine bx 7 #[.int .i64 0, .int .i64 0, .int .i64 0, .int .i64 0, .int .i64 0] 30 rfl ?_; intro g2 hg w7 hbox hb; have n0_ := am (below_step HB.out hb); have n1_ := am hbox; have GE2 := am ((by rw [hg]; exact below_size HB.out) : w.heap.size ≤ g2); have NE2 := am ((by rw [hg]; exact Nat.ne_of_lt HS.out.lt) : B ≠ g2); have NG2 := am ((by rw [hg]; exact Nat.ne_of_lt (blk_lt BK1.out)) : g1 ≠ g2); have n2_ := am (HS.out.below hb); have n3_ := am (blk_below BK1.out hb); clear HB HS BK1; have HB := n0_; have BK2 := n1_; have HS := n2_; have BK1 := n3_; clear n0_ n1_ n2_ n3_; have hnz2_0 := NG2.out; obtain ⟨hczg2_0, hczg2_1, hczg2_2, hczg2_3, hczg2_4⟩ := b5 hbox; obtain ⟨hfzg2_0, hfzg2_1, hfzg2_2, hfzg2_3, hfzg2_4⟩ := f5 hbox; clear hb hbox hg) | ((with_reducible refine gate_callee (f := 27) rfl ?_); refine goesL_ (some 29) rfl rfl Try.func27 (by kernel_rfl) rfl #[.agg #[.int .i64 (rd_T30 (rd_T33 l0 (i : Int)).f0 (j : Int)).f0, .int .i64 (rd_T30 (rd_T33 l0 (i : Int)).f0 (j : Int)).f1.f0, .int .i64 (rd_T30 (rd_T33 l0 (i : Int)).f0 (j : Int)).f1.f1, .int .i64 (rd_T30 (rd_T33 l0 (i : Int)).f0 (j : Int)).f1.f2, .int .i64 (rd_T30 (rd_T33 l0 (i : Int)).f0 (j : Int)).f1.f3]] rfl (by (try simp only [List.map_toArray, List.map_cons, List.map_nil]); first | done | rfl) ?_; (with_reducible refine (impl_pageShape.calls _ _ _ _ _ _ _ hkp.out).mono ?_); rintro e w3 ⟨rfl, hb⟩; refine ⟨_, rfl, ?_⟩; have n0_ := am (below_step (bg2 HB.out GE1.out GE2.out) hb); have n1_ := am (blk_below (blk_put (cs := #[.int .i64 (rd_T30 (rd_T33 l0 (i : Int)).f0 (j : Int)).f0, .int .i64 (rd_T30 (rd_T33 l0 (i : Int)).f0 (j : Int)).f1.f0, .int .i64 (rd_T30 (rd_T33 l0 (i : Int)).f0 (j : Int)).f1.f1, .int .i64 (rd_T30 (rd_T33 l0 (i : Int)).f0 (j : Int)).f1.f2, .int .i64 0]) (blk_put (cs := #[.int .i64 (rd_T30 (rd_T33 l0 (i : Int)).f0 (j : Int)).f0, .int .i64 (rd_T30 (rd_T33 l0 (i : Int)).f0 (j : Int)).f1.f0, .int .i64 (rd_T30 (rd_T33 l0 (i : Int)).f0 (j : Int)).f1.f1, .int .i64 0, .int .i64 0]) (blk_put (cs := #[.int .i64 (rd_T30 (rd_T33 l0 (i : Int)).f0 (j : Int)).f0, .int .i64 (rd_T30 (rd_T33 l0 (i : Int)).f0 (j : Int)).f1.f0, .int .i64 0, .int .i64 0, .int .i64 0]) (blk_put (cs := #[.int .i64 (rd_T30 (rd_T33 l0 (i : Int)).f0 (j : Int)).f0, .int .i64 0, .int .i64 0, .int .i64 0, .int .i64 0]) (blk_put (cs := #[.int .i64 0, .int .i64 0, .int .i64 0, .int .i64 0, .int .i64 0]) BK2.out 0 _ rfl) 1 _ rfl) 2 _ rfl) 3 _ rfl) 4 _ rfl) hb); have n2_ := am ((((((HS.out.far (p := ⟨g2, 0, none⟩) NE2.out _).far (p := ⟨g2, 1, none⟩) NE2.out _).far (p := ⟨g2, 2, none⟩) NE2.out _).far (p := ⟨g2, 3, none⟩) NE2.out _).far (p := ⟨g2, 4, none⟩) NE2.out _).below hb); have n3_ := am (blk_below (blk_far (blk_far (blk_far (blk_far (blk_far BK1.out (p := ⟨g2, 0, none⟩) NG2.out _) (p := ⟨g2, 1, none⟩) NG2.out _) (p := ⟨g2, 2, none⟩) NG2.out _) (p := ⟨g2, 3, none⟩) NG2.out _) (p := ⟨g2, 4, none⟩) NG2.out _) hb); clear HB BK1 BK2 HS; have HB := n0_; have BK2 := n1_; have HS := n2_; have BK1 := n3_; clear n0_ n1_ n2_ n3_; clear hb hczg2_0 hfzg2_0 hczg2_1 hfzg2_1 hczg2_2 hfzg2_2 hczg2_3 hfzg2_3 hczg2_4 hfzg2_4; have hy2_0 := (blk_cell BK2.out 0).trans rfl; have hy2_1 := (blk_cell BK2.out 1).trans rfl; have hy2_2 := (blk_cell BK2.out 2).trans rfl; have hy2_3 := (blk_cell BK2.out 3).trans rfl; have hy2_4 := (blk_cell BK2.out 4).trans rfl))
     go_ret
     exact ⟨by rw [HF.out]; rfl, HB.out⟩
    | true =>
     rw [hpb] at hkp
     rw [hpb, if_pos rfl] at HQ2
     by_cases cs : (rd_T30 (rd_T33 l0 (i : Int)).f0 (j : Int)).f0 = 1
     rotate_left
     · have cs0 : ((rd_T30 (rd_T33 l0 (i : Int)).f0 (j : Int)).f0 == 1) = false := beq_eq_false_iff_ne.mpr cs
       have cs1 : ((rd_T30 (rd_T33 l0 (i : Int)).f0 (j : Int)).f0 != 1) = true := bne_iff_ne.mpr cs
       rw [if_neg cs] at HQ2
       have HQ3 := am HQ2
       clear HQ2 hpb cs
       go_wp2_with (first | (refine bx 7 #[.int .i64 0, .int .i64 0, .int .i64 0, .int .i64 0, .int .i64 0] 30 rfl ?_; intro g2 hg w7 hbox hb; have n0_ := am (below_step HB.out hb); have n1_ := am hbox; have GE2 := am ((by rw [hg]; exact below_size HB.out) : w.heap.size ≤ g2); have NE2 := am ((by rw [hg]; exact Nat.ne_of_lt HS.out.lt) : B ≠ g2); have NG2 := am ((by rw [hg]; exact Nat.ne_of_lt (blk_lt BK1.out)) : g1 ≠ g2); have n2_ := am (HS.out.below hb); have n3_ := am (blk_below BK1.out hb); clear HB HS BK1; have HB := n0_; have BK2 := n1_; have HS := n2_; have BK1 := n3_; clear n0_ n1_ n2_ n3_; have hnz2_0 := NG2.out; obtain ⟨hczg2_0, hczg2_1, hczg2_2, hczg2_3, hczg2_4⟩ := b5 hbox; obtain ⟨hfzg2_0, hfzg2_1, hfzg2_2, hfzg2_3, hfzg2_4⟩ := f5 hbox; clear hb hbox hg) | ((with_reducible refine gate_callee (f := 27) rfl ?_); refine goesL_ (some 29) rfl rfl Try.func27 (by kernel_rfl) rfl #[.agg #[.int .i64 (rd_T30 (rd_T33 l0 (i : Int)).f0 (j : Int)).f0, .int .i64 (rd_T30 (rd_T33 l0 (i : Int)).f0 (j : Int)).f1.f0, .int .i64 (rd_T30 (rd_T33 l0 (i : Int)).f0 (j : Int)).f1.f1, .int .i64 (rd_T30 (rd_T33 l0 (i : Int)).f0 (j : Int)).f1.f2, .int .i64 (rd_T30 (rd_T33 l0 (i : Int)).f0 (j : Int)).f1.f3]] rfl (by (try simp only [List.map_toArray, List.map_cons, List.map_nil]); first | done | rfl) ?_; (with_reducible refine (impl_pageShape.calls _ _ _ _ _ _ _ hkp.out).mono ?_); rintro e w3 ⟨rfl, hb⟩; refine ⟨_, rfl, ?_⟩; have n0_ := am (below_step (bg2 HB.out GE1.out GE2.out) hb); have n1_ := am (blk_below (blk_put (cs := #[.int .i64 (rd_T30 (rd_T33 l0 (i : Int)).f0 (j : Int)).f0, .int .i64 (rd_T30 (rd_T33 l0 (i : Int)).f0 (j : Int)).f1.f0, .int .i64 (rd_T30 (rd_T33 l0 (i : Int)).f0 (j : Int)).f1.f1, .int .i64 (rd_T30 (rd_T33 l0 (i : Int)).f0 (j : Int)).f1.f2, .int .i64 0]) (blk_put (cs := #[.int .i64 (rd_T30 (rd_T33 l0 (i : Int)).f0 (j : Int)).f0, .int .i64 (rd_T30 (rd_T33 l0 (i : Int)).f0 (j : Int)).f1.f0, .int .i64 (rd_T30 (rd_T33 l0 (i : Int)).f0 (j : Int)).f1.f1, .int .i64 0, .int .i64 0]) (blk_put (cs := #[.int .i64 (rd_T30 (rd_T33 l0 (i : Int)).f0 (j : Int)).f0, .int .i64 (rd_T30 (rd_T33 l0 (i : Int)).f0 (j : Int)).f1.f0, .int .i64 0, .int .i64 0, .int .i64 0]) (blk_put (cs := #[.int .i64 (rd_T30 (rd_T33 l0 (i : Int)).f0 (j : Int)).f0, .int .i64 0, .int .i64 0, .int .i64 0, .int .i64 0]) (blk_put (cs := #[.int .i64 0, .int .i64 0, .int .i64 0, .int .i64 0, .int .i64 0]) BK2.out 0 _ rfl) 1 _ rfl) 2 _ rfl) 3 _ rfl) 4 _ rfl) hb); have n2_ := am ((((((HS.out.far (p := ⟨g2, 0, none⟩) NE2.out _).far (p := ⟨g2, 1, none⟩) NE2.out _).far (p := ⟨g2, 2, none⟩) NE2.out _).far (p := ⟨g2, 3, none⟩) NE2.out _).far (p := ⟨g2, 4, none⟩) NE2.out _).below hb); have n3_ := am (blk_below (blk_far (blk_far (blk_far (blk_far (blk_far BK1.out (p := ⟨g2, 0, none⟩) NG2.out _) (p := ⟨g2, 1, none⟩) NG2.out _) (p := ⟨g2, 2, none⟩) NG2.out _) (p := ⟨g2, 3, none⟩) NG2.out _) (p := ⟨g2, 4, none⟩) NG2.out _) hb); clear HB BK1 BK2 HS; have HB := n0_; have BK2 := n1_; have HS := n2_; have BK1 := n3_; clear n0_ n1_ n2_ n3_; clear hb hczg2_0 hfzg2_0 hczg2_1 hfzg2_1 hczg2_2 hfzg2_2 hczg2_3 hfzg2_3 hczg2_4 hfzg2_4; have hy2_0 := (blk_cell BK2.out 0).trans rfl; have hy2_1 := (blk_cell BK2.out 1).trans rfl; have hy2_2 := (blk_cell BK2.out 2).trans rfl; have hy2_3 := (blk_cell BK2.out 3).trans rfl; have hy2_4 := (blk_cell BK2.out 4).trans rfl))
       go_roundg k2
       case measure => omega
       case rel => exact ⟨j + 1, S2, by first | rfl | (simp; done) | (simp [*]; done), ⟨by have := HK2.out; omega⟩, ⟨CJ.out⟩, HQ3, ⟨by have := HM.out; omega⟩, HS, BK1, HB⟩
     have cs0 : ((rd_T30 (rd_T33 l0 (i : Int)).f0 (j : Int)).f0 == 1) = true := beq_iff_eq.mpr cs
     have cs1 : ((rd_T30 (rd_T33 l0 (i : Int)).f0 (j : Int)).f0 != 1) = false := bne_eq_false_iff_eq.mpr cs
     have hwf : Aside0 ((Lit.int .i64 (rd_T30 (rd_T33 l0 (i : Int)).f0 (j : Int)).f1.f1).wf = true) := ⟨by
      unfold pageB at hpb
      rw [if_pos cs] at hpb
      simp only [recOkB, decide_eq_true_eq] at hpb
      exact WalkArith.wf_i64 ⟨by omega, by omega⟩⟩
     rw [if_pos cs] at HQ2
     by_cases hm : (rd_T30 (rd_T33 l0 (i : Int)).f0 (j : Int)).f1.f1 ∈ S2
     · rw [if_pos hm] at HQ2
       have HF : Aside0 (flashOkB l0 = false) := ⟨by rw [HE.out, ← HP2.out, ← HQ2]⟩
       have HM2 := am hm
       clear HQ2 hpb cs hm
       go_wp2_with (first | (refine bx 7 #[.int .i64 0, .int .i64 0, .int .i64 0, .int .i64 0, .int .i64 0] 30 rfl ?_; intro g2 hg w7 hbox hb; have n0_ := am (below_step HB.out hb); have n1_ := am hbox; have GE2 := am ((by rw [hg]; exact below_size HB.out) : w.heap.size ≤ g2); have NE2 := am ((by rw [hg]; exact Nat.ne_of_lt HS.out.lt) : B ≠ g2); have NG2 := am ((by rw [hg]; exact Nat.ne_of_lt (blk_lt BK1.out)) : g1 ≠ g2); have n2_ := am (HS.out.below hb); have n3_ := am (blk_below BK1.out hb); clear HB HS BK1; have HB := n0_; have BK2 := n1_; have HS := n2_; have BK1 := n3_; clear n0_ n1_ n2_ n3_; have hnz2_0 := NG2.out; obtain ⟨hczg2_0, hczg2_1, hczg2_2, hczg2_3, hczg2_4⟩ := b5 hbox; obtain ⟨hfzg2_0, hfzg2_1, hfzg2_2, hfzg2_3, hfzg2_4⟩ := f5 hbox; clear hb hbox hg) | ((with_reducible refine gate_callee (f := 27) rfl ?_); refine goesL_ (some 29) rfl rfl Try.func27 (by kernel_rfl) rfl #[.agg #[.int .i64 (rd_T30 (rd_T33 l0 (i : Int)).f0 (j : Int)).f0, .int .i64 (rd_T30 (rd_T33 l0 (i : Int)).f0 (j : Int)).f1.f0, .int .i64 (rd_T30 (rd_T33 l0 (i : Int)).f0 (j : Int)).f1.f1, .int .i64 (rd_T30 (rd_T33 l0 (i : Int)).f0 (j : Int)).f1.f2, .int .i64 (rd_T30 (rd_T33 l0 (i : Int)).f0 (j : Int)).f1.f3]] rfl (by (try simp only [List.map_toArray, List.map_cons, List.map_nil]); first | done | rfl) ?_; (with_reducible refine (impl_pageShape.calls _ _ _ _ _ _ _ hkp.out).mono ?_); rintro e w3 ⟨rfl, hb⟩; refine ⟨_, rfl, ?_⟩; have n0_ := am (below_step (bg2 HB.out GE1.out GE2.out) hb); have n1_ := am (blk_below (blk_put (cs := #[.int .i64 (rd_T30 (rd_T33 l0 (i : Int)).f0 (j : Int)).f0, .int .i64 (rd_T30 (rd_T33 l0 (i : Int)).f0 (j : Int)).f1.f0, .int .i64 (rd_T30 (rd_T33 l0 (i : Int)).f0 (j : Int)).f1.f1, .int .i64 (rd_T30 (rd_T33 l0 (i : Int)).f0 (j : Int)).f1.f2, .int .i64 0]) (blk_put (cs := #[.int .i64 (rd_T30 (rd_T33 l0 (i : Int)).f0 (j : Int)).f0, .int .i64 (rd_T30 (rd_T33 l0 (i : Int)).f0 (j : Int)).f1.f0, .int .i64 (rd_T30 (rd_T33 l0 (i : Int)).f0 (j : Int)).f1.f1, .int .i64 0, .int .i64 0]) (blk_put (cs := #[.int .i64 (rd_T30 (rd_T33 l0 (i : Int)).f0 (j : Int)).f0, .int .i64 (rd_T30 (rd_T33 l0 (i : Int)).f0 (j : Int)).f1.f0, .int .i64 0, .int .i64 0, .int .i64 0]) (blk_put (cs := #[.int .i64 (rd_T30 (rd_T33 l0 (i : Int)).f0 (j : Int)).f0, .int .i64 0, .int .i64 0, .int .i64 0, .int .i64 0]) (blk_put (cs := #[.int .i64 0, .int .i64 0, .int .i64 0, .int .i64 0, .int .i64 0]) BK2.out 0 _ rfl) 1 _ rfl) 2 _ rfl) 3 _ rfl) 4 _ rfl) hb); have n2_ := am ((((((HS.out.far (p := ⟨g2, 0, none⟩) NE2.out _).far (p := ⟨g2, 1, none⟩) NE2.out _).far (p := ⟨g2, 2, none⟩) NE2.out _).far (p := ⟨g2, 3, none⟩) NE2.out _).far (p := ⟨g2, 4, none⟩) NE2.out _).below hb); have n3_ := am (blk_below (blk_far (blk_far (blk_far (blk_far (blk_far BK1.out (p := ⟨g2, 0, none⟩) NG2.out _) (p := ⟨g2, 1, none⟩) NG2.out _) (p := ⟨g2, 2, none⟩) NG2.out _) (p := ⟨g2, 3, none⟩) NG2.out _) (p := ⟨g2, 4, none⟩) NG2.out _) hb); clear HB BK1 BK2 HS; have HB := n0_; have BK2 := n1_; have HS := n2_; have BK1 := n3_; clear n0_ n1_ n2_ n3_; clear hb hczg2_0 hfzg2_0 hczg2_1 hfzg2_1 hczg2_2 hfzg2_2 hczg2_3 hfzg2_3 hczg2_4 hfzg2_4; have hy2_0 := (blk_cell BK2.out 0).trans rfl; have hy2_1 := (blk_cell BK2.out 1).trans rfl; have hy2_2 := (blk_cell BK2.out 2).trans rfl; have hy2_3 := (blk_cell BK2.out 3).trans rfl; have hy2_4 := (blk_cell BK2.out 4).trans rfl) | (at_lookup; refine Go.Proofs.YtjfbiobjegnibaaW.wpList_seen_look _ rfl _ _ 66 rfl 3 3 Try.underlying3 Try.underlying3 Try.underlying66 (fun w => by go_simp) B _ S2 rfl HS.out (rd_T30 (rd_T33 l0 (i : Int)).f0 (j : Int)).f1.f1 rfl hwf.out ?_; rw [if_pos HM2.out]))
       go_ret
       exact ⟨by rw [HF.out]; rfl, HB.out⟩
     rw [if_neg hm] at HQ2
     have HM2 := am hm
     have HQ3 := am HQ2
     clear HQ2 hpb cs hm
     go_wp2_with (first | (refine bx 7 #[.int .i64 0, .int .i64 0, .int .i64 0, .int .i64 0, .int .i64 0] 30 rfl ?_; intro g2 hg w7 hbox hb; have n0_ := am (below_step HB.out hb); have n1_ := am hbox; have GE2 := am ((by rw [hg]; exact below_size HB.out) : w.heap.size ≤ g2); have NE2 := am ((by rw [hg]; exact Nat.ne_of_lt HS.out.lt) : B ≠ g2); have NG2 := am ((by rw [hg]; exact Nat.ne_of_lt (blk_lt BK1.out)) : g1 ≠ g2); have n2_ := am (HS.out.below hb); have n3_ := am (blk_below BK1.out hb); clear HB HS BK1; have HB := n0_; have BK2 := n1_; have HS := n2_; have BK1 := n3_; clear n0_ n1_ n2_ n3_; have hnz2_0 := NG2.out; obtain ⟨hczg2_0, hczg2_1, hczg2_2, hczg2_3, hczg2_4⟩ := b5 hbox; obtain ⟨hfzg2_0, hfzg2_1, hfzg2_2, hfzg2_3, hfzg2_4⟩ := f5 hbox; clear hb hbox hg) | ((with_reducible refine gate_callee (f := 27) rfl ?_); refine goesL_ (some 29) rfl rfl Try.func27 (by kernel_rfl) rfl #[.agg #[.int .i64 (rd_T30 (rd_T33 l0 (i : Int)).f0 (j : Int)).f0, .int .i64 (rd_T30 (rd_T33 l0 (i : Int)).f0 (j : Int)).f1.f0, .int .i64 (rd_T30 (rd_T33 l0 (i : Int)).f0 (j : Int)).f1.f1, .int .i64 (rd_T30 (rd_T33 l0 (i : Int)).f0 (j : Int)).f1.f2, .int .i64 (rd_T30 (rd_T33 l0 (i : Int)).f0 (j : Int)).f1.f3]] rfl (by (try simp only [List.map_toArray, List.map_cons, List.map_nil]); first | done | rfl) ?_; (with_reducible refine (impl_pageShape.calls _ _ _ _ _ _ _ hkp.out).mono ?_); rintro e w3 ⟨rfl, hb⟩; refine ⟨_, rfl, ?_⟩; have n0_ := am (below_step (bg2 HB.out GE1.out GE2.out) hb); have n1_ := am (blk_below (blk_put (cs := #[.int .i64 (rd_T30 (rd_T33 l0 (i : Int)).f0 (j : Int)).f0, .int .i64 (rd_T30 (rd_T33 l0 (i : Int)).f0 (j : Int)).f1.f0, .int .i64 (rd_T30 (rd_T33 l0 (i : Int)).f0 (j : Int)).f1.f1, .int .i64 (rd_T30 (rd_T33 l0 (i : Int)).f0 (j : Int)).f1.f2, .int .i64 0]) (blk_put (cs := #[.int .i64 (rd_T30 (rd_T33 l0 (i : Int)).f0 (j : Int)).f0, .int .i64 (rd_T30 (rd_T33 l0 (i : Int)).f0 (j : Int)).f1.f0, .int .i64 (rd_T30 (rd_T33 l0 (i : Int)).f0 (j : Int)).f1.f1, .int .i64 0, .int .i64 0]) (blk_put (cs := #[.int .i64 (rd_T30 (rd_T33 l0 (i : Int)).f0 (j : Int)).f0, .int .i64 (rd_T30 (rd_T33 l0 (i : Int)).f0 (j : Int)).f1.f0, .int .i64 0, .int .i64 0, .int .i64 0]) (blk_put (cs := #[.int .i64 (rd_T30 (rd_T33 l0 (i : Int)).f0 (j : Int)).f0, .int .i64 0, .int .i64 0, .int .i64 0, .int .i64 0]) (blk_put (cs := #[.int .i64 0, .int .i64 0, .int .i64 0, .int .i64 0, .int .i64 0]) BK2.out 0 _ rfl) 1 _ rfl) 2 _ rfl) 3 _ rfl) 4 _ rfl) hb); have n2_ := am ((((((HS.out.far (p := ⟨g2, 0, none⟩) NE2.out _).far (p := ⟨g2, 1, none⟩) NE2.out _).far (p := ⟨g2, 2, none⟩) NE2.out _).far (p := ⟨g2, 3, none⟩) NE2.out _).far (p := ⟨g2, 4, none⟩) NE2.out _).below hb); have n3_ := am (blk_below (blk_far (blk_far (blk_far (blk_far (blk_far BK1.out (p := ⟨g2, 0, none⟩) NG2.out _) (p := ⟨g2, 1, none⟩) NG2.out _) (p := ⟨g2, 2, none⟩) NG2.out _) (p := ⟨g2, 3, none⟩) NG2.out _) (p := ⟨g2, 4, none⟩) NG2.out _) hb); clear HB BK1 BK2 HS; have HB := n0_; have BK2 := n1_; have HS := n2_; have BK1 := n3_; clear n0_ n1_ n2_ n3_; clear hb hczg2_0 hfzg2_0 hczg2_1 hfzg2_1 hczg2_2 hfzg2_2 hczg2_3 hfzg2_3 hczg2_4 hfzg2_4; have hy2_0 := (blk_cell BK2.out 0).trans rfl; have hy2_1 := (blk_cell BK2.out 1).trans rfl; have hy2_2 := (blk_cell BK2.out 2).trans rfl; have hy2_3 := (blk_cell BK2.out 3).trans rfl; have hy2_4 := (blk_cell BK2.out 4).trans rfl) | (at_lookup; refine Go.Proofs.YtjfbiobjegnibaaW.wpList_seen_look _ rfl _ _ 66 rfl 3 3 Try.underlying3 Try.underlying3 Try.underlying66 (fun w => by go_simp) B _ S2 rfl HS.out (rd_T30 (rd_T33 l0 (i : Int)).f0 (j : Int)).f1.f1 rfl hwf.out ?_; rw [if_neg HM2.out]) | (at_mapUpdate; refine Go.Proofs.YtjfbiobjegnibaaW.wpList_seen_add _ rfl _ _ _ 66 rfl 3 3 Try.underlying3 Try.underlying3 Try.underlying66 B _ S2 rfl HS.out hnm.out (rd_T30 (rd_T33 l0 (i : Int)).f0 (j : Int)).f1.f1 rfl rfl hwf.out ?_; intro w4 hs4 hg4; have n0_ := am (pw_below_grown HB.out (some B) (below_size HB.out) hg4 (fun k e => by cases e; exact Nat.le_of_eq HBB.out)); have n1_ := am (blk_grown BK1.out hg4 NB1.out); clear HB BK1 HS; have HB := n0_; have BK1 := n1_; have HS := am hs4; clear n0_ n1_ hs4 hg4))
     go_roundg k2
     case measure => omega
     case rel => exact ⟨j + 1, _ :: S2, by first | rfl | (simp; done) | (simp [*]; done), ⟨by have := HK2.out; omega⟩, ⟨CJ.out⟩, HQ3, ⟨by have := HM.out; simp only [List.length_cons]; omega⟩, HS, BK1, HB⟩
attribute [local go_sem] Oper.semAt_some
abbrev Spot := Nat × Nat × S30
def spotsB (i : Nat) : Nat → List S30 → List Spot
 | _, [] => []
 | j, p :: ps => (i, j, p) :: spotsB i (j + 1) ps
def spotsF : Nat → List S33 → List Spot
 | _, [] => []
 | i, b :: bs => spotsB i 0 b.f0 ++ spotsF (i + 1) bs
def pagesL (l : List S33) : List S30 := (spotsF 0 l).map (·.2.2)
abbrev spotArgs (x : Spot) : Array Value := #[.agg #[.int .i64 (x.1 : Int), .int .i64 (x.2.1 : Int)], .agg #[.int .i64 x.2.2.f0, .int .i64 x.2.2.f1.f0, .int .i64 x.2.2.f1.f1, .int .i64 x.2.2.f1.f2, .int .i64 x.2.2.f1.f3]]
theorem drop_pg {l : List S30} {i : Nat} (h : i < l.length) : l.drop i = rd_T30 l (i : Int) :: l.drop (i + 1) := by
 rw [List.drop_eq_getElem_cons h]
 simp [rd_T30, List.getD_eq_getElem?_getD, h]
theorem drop_bl {l : List S33} {i : Nat} (h : i < l.length) : l.drop i = rd_T33 l (i : Int) :: l.drop (i + 1) := by
 rw [List.drop_eq_getElem_cons h]
 simp [rd_T33, List.getD_eq_getElem?_getD, h]
set_option maxHeartbeats 1000000 in
theorem eachPage_in (F : Fence) (n : Nat) (hF : F.fn 13) (hro : F.round = none) (A : Option Addr) (len c : Nat) (w : World) :
 CallsIn F n Try.prog 13 #[.slice A len c] w fun e w' => e = .returned (.func (.func 28) #[] #[.pointer (some ⟨w.heap.size, 0, none⟩)]) ∧ w' = w.alloc (.cells #[.slice A len c] 23) := by
 refine callsIn_of_wp Try.func13 rfl hF ?_ hro
 simp only [Try.ntmps13, List.size_toArray, List.length_cons, List.length_nil, Nat.reduceAdd, Nat.reduceSub, Array.replicate_succ, Array.replicate_zero, List.push_toArray, List.append_toArray, List.nil_append, List.cons_append]
 gi_wp2
 go_ret
 exact ⟨rfl, rfl⟩
set_option maxRecDepth 100000 in
set_option maxHeartbeats 4000000 in
theorem eachPage1_in (F : Fence) (n : Nat) (hF : F.fn 28) (hro : F.round = none) (hn : 1 ≤ n) (T : Spot → Prop) (l Bf : Nat) (A0 : Option Addr) (c0 : Nat) (l0 : List S33) (w : World)
 (hr0 : Kd.C k33 w A0 l0.length l0) (hT : ∀ x ∈ spotsF 0 l0, T x) (J Jx : List {x : Spot // T x} → World → Prop) (W : World) (hJ : AbidesFrom W.heap.size J)
 (hY : ∀ pre x W1, J pre W1 → pre.length < (spotsF 0 l0).length → YieldAt F (n - 1) Try.prog l (spotArgs x.1) W1 fun e W' =>
  (e = .returned (.bool true) ∧ J (pre ++ [x]) W' ∧ Below w.heap.size W1 W') ∨ (e = .returned (.bool false) ∧ Jx (pre ++ [x]) W'))
 (hB : Below w.heap.size w W) (hBf : W.cell? ⟨Bf, 0, none⟩ = some (.slice A0 l0.length c0)) (h0 : J [] W) :
 CallsIn F n Try.prog 28 #[.func (.yield l) #[] #[], .pointer (some ⟨Bf, 0, none⟩)] W fun e W' => (∃ v, e = .returned v) ∧
  ((∃ ys, ys.map (·.1) = spotsF 0 l0 ∧ J ys W') ∨ (∃ pre, True ∧ Jx pre W')) := by
 have hJa : ∀ s A o, J s A → J s (A.alloc o) := fun s A o h => hJ s A _ none h (World.grownBy_alloc A o none) (by simp)
 have hBa : ∀ A o, Below w.heap.size w A → Below w.heap.size w (A.alloc o) := fun A o h => h.alloc h.size o
 have hlm := Kd.C_max hr0
 refine callsIn_of_wp Try.func28 rfl hF ?_ hro
 simp only [Try.ntmps28, List.size_toArray, List.length_cons, List.length_nil, Nat.reduceAdd, Nat.reduceSub, Array.replicate_succ, Array.replicate_zero, List.push_toArray, List.append_toArray, List.nil_append, List.cons_append]
 gi_wp2
 gi_loopw [9] (fun v9 wr => ∃ (i : Nat) (pre : List {x : Spot // T x}), v9 = .int .i64 (i : Int) ∧ i ≤ l0.length ∧ pre.map (·.1) ++ spotsF i (l0.drop i) = spotsF 0 l0 ∧ J pre wr ∧ Below w.heap.size w wr)
  (fun v9 _ => l0.length - (intOf v9).toNat)
 case atStart => exact ⟨0, [], rfl, Nat.zero_le _, rfl, h0, hB⟩
 case round =>
  obtain ⟨i, pre, rfl, hi, hp, hJs, hBs⟩ := hrel
  by_cases ci : i < l0.length
  rotate_left
  · obtain rfl : i = l0.length := by omega
    rw [List.drop_eq_nil_of_le (Nat.le_refl _), spotsF, List.append_nil] at hp
    gi_wp2
    go_end0
    exact ⟨⟨_, rfl⟩, .inl ⟨_, hp, hJs⟩⟩
  have cib : decide ((i : Int) < (l0.length : Int)) = true := decide_eq_true (by omega)
  have p1 : 0 ≤ (i : Int) := by omega
  have q1 : (i : Int) < (l0.length : Int) := by omega
  obtain ⟨ad1, A1, c1, e1, hx1_0, hx1_1, hl1, hi1⟩ := at_T33 hr0 (i : Int) p1 q1
  cases e1
  replace hx1_0 := (hBs.cell (World.block_lt_of_cell? w _ hx1_0)).trans hx1_0
  replace hx1_1 := (hBs.cell (World.block_lt_of_cell? w _ hx1_1)).trans hx1_1
  have hlm1 := Kd.C_max hi1
  simp only [Int.toNat_natCast] at hx1_0 hx1_1
  rw [drop_bl ci, spotsF] at hp
  generalize hbl : rd_T33 l0 (i : Int) = bl at hx1_0 hx1_1 hl1 hi1 hlm1 hp
  have hw9 : wrap64 ((i : Int) + 1) = ((i + 1 : Nat) : Int) := by rw [IntWalk.wrap64_in _ (by omega)]; omega
  gi_wp2
  gi_loopw [17] (fun v17 w2 => ∃ (j : Nat) (pre2 : List {x : Spot // T x}), v17 = .int .i64 (j : Int) ∧ j ≤ bl.f0.length ∧ pre2.map (·.1) ++ (spotsB i j (bl.f0.drop j) ++ spotsF (i + 1) (l0.drop (i + 1))) = spotsF 0 l0 ∧ J pre2 w2 ∧ Below w.heap.size w w2)
   (fun v17 _ => bl.f0.length - (intOf v17).toNat)
  case atStart => exact ⟨0, pre, rfl, Nat.zero_le _, hp, hJa _ _ _ hJs, hBa _ _ hBs⟩
  case round =>
   clear hx1_0 hx1_1 hJs hBs hp pre
   obtain ⟨j, pre2, rfl, hj, hp, hJs, hBs⟩ := hrel
   by_cases cj : j < bl.f0.length
   rotate_left
   · obtain rfl : j = bl.f0.length := by omega
     rw [List.drop_eq_nil_of_le (Nat.le_refl _), spotsB, List.nil_append] at hp
     gi_wp2
     go_roundw
     case rel => exact ⟨i + 1, pre2, by simp, by omega, hp, hJs, hBs⟩
     case measure => simp [intOf]; omega
   have cjb : decide ((j : Int) < (bl.f0.length : Int)) = true := decide_eq_true (by omega)
   have p2 : 0 ≤ (j : Int) := by omega
   have q2 : (j : Int) < (bl.f0.length : Int) := by omega
   obtain ⟨ad2, e2, hx2_0, hx2_1, hx2_2, hx2_3, hx2_4⟩ := at_T30 hi1 (j : Int) p2 q2
   cases e2
   replace hx2_0 := (hBs.cell (World.block_lt_of_cell? w _ hx2_0)).trans hx2_0
   replace hx2_1 := (hBs.cell (World.block_lt_of_cell? w _ hx2_1)).trans hx2_1
   replace hx2_2 := (hBs.cell (World.block_lt_of_cell? w _ hx2_2)).trans hx2_2
   replace hx2_3 := (hBs.cell (World.block_lt_of_cell? w _ hx2_3)).trans hx2_3
   replace hx2_4 := (hBs.cell (World.block_lt_of_cell? w _ hx2_4)).trans hx2_4
   simp only [Int.toNat_natCast] at hx2_0 hx2_1 hx2_2 hx2_3 hx2_4
   rw [drop_pg cj, spotsB] at hp
   generalize hpg : rd_T30 bl.f0 (j : Int) = pg at hx2_0 hx2_1 hx2_2 hx2_3 hx2_4 hp
   have hw17 : wrap64 ((j : Int) + 1) = ((j + 1 : Nat) : Int) := by rw [IntWalk.wrap64_in _ (by omega)]; omega
   have hTx : T (i, j, pg) := hT _ (by rw [← hp]; simp)
   have hlen : pre2.length < (spotsF 0 l0).length := by rw [← hp]; simp
   obtain ⟨fn, tmps, assign, body, hy, hR⟩ := hY pre2 ⟨(i, j, pg), hTx⟩ (wr.alloc (.cells #[.int .i64 pg.f0, .int .i64 pg.f1.f0, .int .i64 pg.f1.f1, .int .i64 pg.f1.f2, .int .i64 pg.f1.f3] 30)) (hJa _ _ _ hJs) hlen
   dsimp only [spotArgs] at hy
   gi_wp2
   refine hR.mono ?_
   rintro e W3 (⟨rfl, hJ3, hk3⟩ | ⟨rfl, hJx3⟩)
   · gi_wp2
     go_roundw
     case rel => exact ⟨j + 1, pre2 ++ [⟨(i, j, pg), hTx⟩], by simp, by omega, by rw [← hp]; simp, hJ3, (hBa _ _ hBs).trans hk3⟩
     case measure => simp [intOf]; omega
   · gi_wp2
     refine bodyPost_ret (results_none rfl _ _ _) rfl ?_
     exact ⟨⟨_, rfl⟩, .inr ⟨_, trivial, hJx3⟩⟩
theorem eachPage_stops (F : Fence) (n : Nat) (hF : F.fn 28) (hro : F.round = none) (hn : 1 ≤ n) (T : Spot → Prop) (Bf : Nat) (A0 : Option Addr) (c0 : Nat) (l0 : List S33) (w W0 : World)
 (hr0 : Kd.C k33 w A0 l0.length l0) (hT : ∀ x ∈ spotsF 0 l0, T x) (hB : Below w.heap.size w W0) (hBf : W0.cell? ⟨Bf, 0, none⟩ = some (.slice A0 l0.length c0)) :
 SeqStopsK F n Try.prog 28 #[.pointer (some ⟨Bf, 0, none⟩)] (fun x : {x : Spot // T x} => spotArgs x.1) (Below w.heap.size) (fun ys => ys.map (·.1) = spotsF 0 l0) (fun _ => True) (spotsF 0 l0).length W0 := fun l J Jx W hW hJ _ hY h0 =>
 eachPage1_in F n hF hro hn T l Bf A0 c0 l0 w hr0 hT J Jx W hJ hY (hB.trans (hW.mono hB.size)) ((hW.cell (p := ⟨Bf, 0, none⟩) (World.block_lt_of_cell? W0 _ hBf)).trans hBf) h0
def PageBox (W : World) (B : Nat) (p : S30) : Prop := W.heap[B]? = some (.cells #[.int .i64 p.f0, .int .i64 p.f1.f0, .int .i64 p.f1.f1, .int .i64 p.f1.f2, .int .i64 p.f1.f3] 30 (0, 0))
theorem PageBox.own (B : Nat) (b : Nat) (p : S30) : OwnFrom b (fun (_ : Unit) W => PageBox W B p) := Own.from (fun s X Y row hs hg hrow => (hg.block B (Array.getElem?_eq_some_iff.1 hs).1 (fun e => by obtain ⟨o, ho, hc⟩ := hrow B e.symm; rw [show X.heap[B]? = _ from hs] at ho; cases ho; cases hc)).trans hs) _
theorem PageBox.cells {W : World} {B : Nat} {p : S30} (h : PageBox W B p) : W.cell? ⟨B, 0, none⟩ = some (.int .i64 p.f0) ∧ W.cell? ⟨B, 1, none⟩ = some (.int .i64 p.f1.f0) ∧ W.cell? ⟨B, 2, none⟩ = some (.int .i64 p.f1.f1) ∧ W.cell? ⟨B, 3, none⟩ = some (.int .i64 p.f1.f2) ∧ W.cell? ⟨B, 4, none⟩ = some (.int .i64 p.f1.f3) :=
 ⟨(blk_cell h 0).trans rfl, (blk_cell h 1).trans rfl, (blk_cell h 2).trans rfl, (blk_cell h 3).trans rfl, (blk_cell h 4).trans rfl⟩
abbrev AnyPage := {x : Spot // True}
def RecBox (W : World) (B : Nat) (r : S28) : Prop := W.heap[B]? = some (.cells #[.int .i64 r.f0, .int .i64 r.f1, .int .i64 r.f2, .int .i64 r.f3] 28 (0, 0))
abbrev set4 (W : World) (B : Nat) (r : S28) : World := (((W.setCell ⟨B, 0, none⟩ (.int .i64 r.f0)).setCell ⟨B, 1, none⟩ (.int .i64 r.f1)).setCell ⟨B, 2, none⟩ (.int .i64 r.f2)).setCell ⟨B, 3, none⟩ (.int .i64 r.f3)
theorem RecBox.own (B : Nat) {β : Type} (f : β → S28) : Own (fun s W => RecBox W B (f s)) := fun s X Y row hs hg hrow => (hg.block B (Array.getElem?_eq_some_iff.1 hs).1 (fun e => by obtain ⟨o, ho, hc⟩ := hrow B e.symm; rw [show X.heap[B]? = _ from hs] at ho; cases ho; cases hc)).trans hs
theorem RecBox.cells {W : World} {B : Nat} {r : S28} (h : RecBox W B r) : W.cell? ⟨B, 0, none⟩ = some (.int .i64 r.f0) ∧ W.cell? ⟨B, 1, none⟩ = some (.int .i64 r.f1) ∧ W.cell? ⟨B, 2, none⟩ = some (.int .i64 r.f2) ∧ W.cell? ⟨B, 3, none⟩ = some (.int .i64 r.f3) :=
 ⟨(blk_cell h 0).trans rfl, (blk_cell h 1).trans rfl, (blk_cell h 2).trans rfl, (blk_cell h 3).trans rfl⟩
theorem RecBox.frozen {W : World} {B : Nat} {r : S28} (h : RecBox W B r) (i : Nat) : W.frozen? ⟨B, i, none⟩ = false := blk_frozen h i
theorem RecBox.put {W : World} {B : Nat} {r : S28} (h : RecBox W B r) (s : S28) : RecBox (set4 W B s) B s := blk_put (blk_put (blk_put (blk_put h 0 _ rfl) 1 _ rfl) 2 _ rfl) 3 _ rfl
theorem RecBox.far {W : World} {B B' : Nat} {r : S28} (h : RecBox W B r) (hne : B ≠ B') (s : S28) : RecBox (set4 W B' s) B r := blk_far (blk_far (blk_far (blk_far h (p := ⟨B', 0, none⟩) hne _) (p := ⟨B', 1, none⟩) hne _) (p := ⟨B', 2, none⟩) hne _) (p := ⟨B', 3, none⟩) hne _
theorem Boxed.far4 {W : World} {B B' t : Nat} {v : Value} (h : Boxed W B t v) (hne : B ≠ B') (s : S28) : Boxed (set4 W B' s) B t v := blk_far (blk_far (blk_far (blk_far h (p := ⟨B', 0, none⟩) hne _) (p := ⟨B', 1, none⟩) hne _) (p := ⟨B', 2, none⟩) hne _) (p := ⟨B', 3, none⟩) hne _
theorem below_set4 {b : Nat} {w W : World} (h : Below b w W) {B : Nat} (hb : b ≤ B) (s : S28) : Below b w (set4 W B s) := (((h.setCell (p := ⟨B, 0, none⟩) hb _).setCell (p := ⟨B, 1, none⟩) hb _).setCell (p := ⟨B, 2, none⟩) hb _).setCell (p := ⟨B, 3, none⟩) hb _
theorem keeps_set4 (W : World) (B : Nat) (s : S28) : KeepsOthers W (set4 W B s) := (((KeepsOthers.setCell W _ _).trans (KeepsOthers.setCell _ _ _)).trans (KeepsOthers.setCell _ _ _)).trans (KeepsOthers.setCell _ _ _)
attribute [local go_sem] Oper.semAt_some
def stepNext (m : Int) (p : S30) : Int := if p.f0 = 1 then mx m p.f1.f1 else m
def impl_FindNext.f (l0 : List (S33)) : Option (Int) := some (if flashOkB l0 = true then wrap64 ((pagesL l0).foldl stepNext 0 + 1) else 0)
def nextOf (pre : List AnyPage) : Int := pre.foldl (fun m x => stepNext m x.1.2.2) 0
theorem nextOf_snoc (pre : List AnyPage) (x : AnyPage) : nextOf (pre ++ [x]) = stepNext (nextOf pre) x.1.2.2 := by simp [nextOf]
theorem nextOf_all {ys : List AnyPage} {l0 : List S33} (h : ys.map (·.1) = spotsF 0 l0) : nextOf ys = (pagesL l0).foldl stepNext 0 := by
 unfold nextOf pagesL
 rw [← h, List.foldl_map, List.foldl_map]
set_option maxRecDepth 100000 in
set_option maxHeartbeats 4000000 in
theorem impl_FindNext.calls (A0 : Option Addr) (c0 : Nat) (l0 : List (S33)) (r : Int) (w : World) (hr0 : Kd.C k33 w A0 l0.length l0) (hc0 : l0.length ≤ c0) (h : impl_FindNext.f l0 = some r) :
 Calls Try.prog 5 #[.slice A0 l0.length c0] w fun e w' => e = .returned (.int .i64 r) ∧ Below w.heap.size w w' := by
 obtain rfl := Option.some.inj h
 clear h
 refine (callsIn_wide (n := 3)).1 ?_
 have hok := callsIn_wide (n := 2).2 (impl_FlashOk.calls A0 c0 l0 _ w hr0 hc0 rfl)
 cases hf : flashOkB l0 with
 | false =>
  refine callsIn_of_wp_marks Try.func5 rfl trivial ?_ rfl
  simp only [Try.ntmps5, List.size_toArray, List.length_cons, List.length_nil, Nat.reduceAdd, Nat.reduceSub, Array.replicate_succ, Array.replicate_zero, List.push_toArray, List.append_toArray, List.nil_append, List.cons_append]
  rw [hf] at hok
  gi_wp2_with (first | (refine ⟨trivial, ?_⟩; gi_at_call 12; refine hok.mono ?_; rintro e w1 ⟨rfl, hb⟩))
  exact ⟨_, results_tmp rfl _ _ _, rfl, hb⟩
 | true =>
  refine callsIn_of_wp_marks Try.func5 rfl trivial ?_ rfl
  simp only [Try.ntmps5, List.size_toArray, List.length_cons, List.length_nil, Nat.reduceAdd, Nat.reduceSub, Array.replicate_succ, Array.replicate_zero, List.push_toArray, List.append_toArray, List.nil_append, List.cons_append]
  rw [hf] at hok
  gi_wp2_with (first | (refine ⟨trivial, ?_⟩; gi_at_call 12; refine hok.mono ?_; rintro e w1 ⟨rfl, hb⟩) | (refine ⟨trivial, ?_⟩; gi_at_call 13; refine (eachPage_in Fence.wide 2 trivial rfl _ _ _ _).mono ?_; rintro e w2 ⟨rfl, rfl⟩))
  have bL := Boxed.new w1 3 (.int .i64 0)
  have bN := Boxed.new (w1.alloc (.cells #[.int .i64 0] 3)) 23 (.slice A0 l0.length c0)
  rw [World.size_alloc] at bN
  have bL2 := bL.alloc (.cells #[.slice A0 l0.length c0] 23)
  have hB0 : Below w.heap.size w ((w1.alloc (.cells #[.int .i64 0] 3)).alloc (.cells #[.slice A0 l0.length c0] 23)) := (hb.alloc hb.size _).alloc (hb.alloc hb.size _).size _
  refine wpIn_rangeFunc_ownH (F := Fence.wide) rfl (by decide) (gf := 28) (lb := #[.pointer (some ⟨w1.heap.size + 1, 0, none⟩)]) rfl trivial (enters_of Try.func28 (by kernel_rfl) rfl)
   (eachPage_stops Fence.wide 2 trivial rfl (by decide) (fun _ => True) (w1.heap.size + 1) A0 c0 l0 w _ hr0 (fun _ _ => trivial) hB0 bN.cell) belowK_t (belowK_b hB0.size) (Below.refl _ _) (fun _ => rfl)
   (fun pre W => Boxed W w1.heap.size 3 (.int .i64 (nextOf pre)) ∧ Below w.heap.size w W) (fun _ _ _ => False)
   (OwnFrom.and (Own.from (boxed_own _ _ _) _) (ownFrom_below (Nat.le_refl _) hB0.size)) (fun _ _ _ _ _ hs _ _ => hs) ⟨bL2, hB0⟩
   (fun x a' W => ∃ Bx, w1.heap.size < Bx ∧ PageBox W Bx x.1.2.2 ∧ a' = { tmps := #[.slice A0 l0.length c0, undef, .int .i64 0, .pointer (some ⟨w1.heap.size, 0, none⟩), undef, .pointer (some ⟨Bx, 0, none⟩), .slice A0 l0.length c0, .bool true, .bool false, .slice A0 l0.length c0, .func (.func 28) #[] #[.pointer (some ⟨w1.heap.size + 1, 0, none⟩)], .agg #[.int .i64 (x.1.1 : Int), .int .i64 (x.1.2.1 : Int)], .agg #[.int .i64 x.1.2.2.f0, .int .i64 x.1.2.2.f1.f0, .int .i64 x.1.2.2.f1.f1, .int .i64 x.1.2.2.f1.f2, .int .i64 x.1.2.2.f1.f3], undef, undef, undef, undef, undef, undef, undef, undef, undef, undef], defers := [] })
   (fun x a' s X Y row hs hg hr => by obtain ⟨Bx, h1, h2, h3⟩ := hs; exact ⟨Bx, h1, PageBox.own Bx _ _ () X Y row h2 hg hr, h3⟩) ?assign ?body ?done ?stop
  case assign =>
   rintro l pre x W K ⟨hbx, hB⟩ hK
   gi_wp2
   exact hK _ _ ((KeepsOthers.alloc _ _).from _) ((Below.refl _ W).alloc hB.size _) ⟨hbx.alloc _, hB.alloc hB.size _⟩ ⟨W.heap.size, hbx.lt, blk_new W _, rfl⟩
  case body =>
   rintro l pre x a' W hl ⟨r, hr⟩ ⟨hbx, hB⟩ ⟨Bx, hBx, bX, rfl⟩ hlt
   obtain ⟨hc0_, hc1_, hc2_, hc3_, hc4_⟩ := bX.cells
   have hcl := hbx.cell
   have hfl := hbx.frozen
   have hsn := nextOf_snoc pre x
   by_cases hs1 : x.1.2.2.f0 = 1
   rotate_left
   · have hs2 : (x.1.2.2.f0 == 1) = false := by simp [hs1]
     rw [stepNext, if_neg hs1] at hsn
     gi_wp2
     exact ⟨KeepsFrom.refl _ _, Below.refl _ _, by rw [hsn]; exact hbx, hB⟩
   have hs2 : (x.1.2.2.f0 == 1) = true := by simp [hs1]
   rw [stepNext, if_pos hs1] at hsn
   gi_wp2
   all_goals
    refine ⟨(KeepsOthers.setCell _ _ _).from _, (Below.refl _ W).setCell (p := ⟨w1.heap.size, 0, none⟩) hb.size _, ?_, hB.setCell (p := ⟨w1.heap.size, 0, none⟩) hb.size _⟩
    rw [hsn]
    unfold mx
    first
     | (rw [if_pos (by omega)]; exact hbx.set _)
     | (rw [if_neg (by omega)]; exact hbx.set _)
  case done =>
   rintro D ys W hD hys ⟨hbx, hB⟩ hK
   have hcl := hbx.cell
   gi_wp2
   refine ⟨by simp, .inl ⟨_, _, rfl, run_takeDeferred hK, ?_⟩⟩
   exact ⟨_, results_tmp rfl _ _ _, by rw [← nextOf_all hys]; rfl, hB.trans (belowK_b (w := w) (Nat.le_refl _) W D _ _ (by have := hB0.size; omega) hK rfl rfl)⟩
  case stop =>
   rintro D c pre W _ _ h _
   exact h.elim
end Go.Proofs.Ytjfbiobjegnibaa.Rq
namespace Go.Proofs.Ytjfbiobjegnibaa.Rq
open Go.RowKit Go.Proofs.YtjfbiobjegnibaaW.PrintWords Go.Proofs.YtjfbiobjegnibaaW.PrintLast Go.Proofs.YtjfbiobjegnibaaW.PrintMore
attribute [local go_sem] max2_int min2_int max_two min_two max_three min_three max_four min_four
set_option linter.unusedVariables false
set_option linter.unusedSimpArgs false
attribute [local go_sem high] eqA28
def spec_l2Page.f (a0_0 : Int) (a0_1 : Int) (a0_2 : Int) (a0_3 : Int) (a0_4 : Int) : Option (Bool) := if a0_0 = 1 then ((spec_RecOk.f a0_1 a0_2 a0_3 a0_4).bind fun t368 => (some t368)) else (if a0_0 = 0 then (some (a0_1 == 0 && (a0_2 == 0 && (a0_3 == 0 && (a0_4 == 0))))) else (if a0_0 = 2 then (some (a0_1 == 0 && (a0_2 == 0 && (a0_3 == 0 && (a0_4 == 0))))) else (some false)))
set_option maxHeartbeats 8000000 in
set_option maxRecDepth 100000 in
theorem spec_l2Page.calls (a0_0 : Int) (a0_1 : Int) (a0_2 : Int) (a0_3 : Int) (a0_4 : Int) (r : Bool) (w : World) (h : spec_l2Page.f a0_0 a0_1 a0_2 a0_3 a0_4 = some r) :
 Calls Try.prog 16 #[.agg #[.int .i64 a0_0, .int .i64 a0_1, .int .i64 a0_2, .int .i64 a0_3, .int .i64 a0_4]] w fun e w' => e = .returned (.bool r) ∧ Below w.heap.size w w' := by
 have hu30 := Try.underlying30
 have hu28 := Try.underlying28
 have HB := am (Below.refl w.heap.size w)
 have H : (if a0_0 = 1 then ((spec_RecOk.f a0_1 a0_2 a0_3 a0_4).bind fun t368 => (some t368)) else (if a0_0 = 0 then (some (a0_1 == 0 && (a0_2 == 0 && (a0_3 == 0 && (a0_4 == 0))))) else (if a0_0 = 2 then (some (a0_1 == 0 && (a0_2 == 0 && (a0_3 == 0 && (a0_4 == 0))))) else (some false)))) = some r := h
 clear h
 by_cases c2 : a0_0 = 1
 · rw [if_pos c2] at H
   have c2b0 : (a0_0 == 1) = true := beq_iff_eq.mpr c2
   have c2b1 : (a0_0 != 1) = false := bne_eq_false_iff_eq.mpr c2
   clear c2
   replace H := Option.bind_eq_some_iff.mp H
   obtain ⟨t368, A30, H⟩ := H
   replace H : (some t368) = some r := H
   have A3 := am A30
   clear A30
   obtain rfl := Option.some.inj H
   go_enter Try.func16, Try.ntmps16
   go_wp2_with (first | (refine bx 1 #[.int .i64 a0_0, .int .i64 a0_1, .int .i64 a0_2, .int .i64 a0_3, .int .i64 a0_4] 30 rfl ?_; intro gb367 hg w4 hbox hb; have BK367 := am (hbox); have GW367 := am ((by rw [hg]; exact (below_size (ph HB.out)) : w.heap.size ≤ gb367)); have GE367 := GW367; replace HB := am (below_step (ph HB.out) hb); clear hb hbox hg; obtain ⟨hcz5_0, hcz5_1, hcz5_2, hcz5_3, hcz5_4⟩ := b5 BK367.out; obtain ⟨hfz5_0, hfz5_1, hfz5_2, hfz5_3, hfz5_4⟩ := f5 BK367.out) | (refine gl 9 Try.func30 #[.agg #[.int .i64 a0_1, .int .i64 a0_2, .int .i64 a0_3, .int .i64 a0_4]] rfl ?_; (with_reducible refine (spec_RecOk.calls a0_1 a0_2 a0_3 a0_4 t368 _ A3.out).mono ?_); rintro e w6 ⟨rfl, hb⟩; refine ⟨_, rfl, ?_⟩; replace BK367 := am (blk_below (pb BK367.out) hb); replace HB := am (below_step (bg1 HB.out GE367.out) hb); (try clear hb); (try clear hb2); (try clear hk); (try clear hi)))
   go_ret
   exact (rq (bg1 HB.out GE367.out))
 rw [if_neg c2] at H
 have c2b0 : (a0_0 == 1) = false := beq_eq_false_iff_ne.mpr c2
 have c2b1 : (a0_0 != 1) = true := bne_iff_ne.mpr c2
 by_cases c7 : a0_0 = 0
 · rw [if_pos c7] at H
   have c7b0 : (a0_0 == 0) = true := beq_iff_eq.mpr c7
   have c7b1 : (a0_0 != 0) = false := bne_eq_false_iff_eq.mpr c7
   clear c7
   obtain rfl := Option.some.inj H
   go_enter Try.func16, Try.ntmps16
   go_wp2_with (first | (refine bx 1 #[.int .i64 a0_0, .int .i64 a0_1, .int .i64 a0_2, .int .i64 a0_3, .int .i64 a0_4] 30 rfl ?_; intro gb367 hg w8 hbox hb; have BK367 := am (hbox); have GW367 := am ((by rw [hg]; exact (below_size (ph HB.out)) : w.heap.size ≤ gb367)); have GE367 := GW367; replace HB := am (below_step (ph HB.out) hb); clear hb hbox hg; obtain ⟨hcz9_0, hcz9_1, hcz9_2, hcz9_3, hcz9_4⟩ := b5 BK367.out; obtain ⟨hfz9_0, hfz9_1, hfz9_2, hfz9_3, hfz9_4⟩ := f5 BK367.out))
   go_ret
   exact (rq (bg1 HB.out GE367.out))
 rw [if_neg c7] at H
 have c7b0 : (a0_0 == 0) = false := beq_eq_false_iff_ne.mpr c7
 have c7b1 : (a0_0 != 0) = true := bne_iff_ne.mpr c7
 by_cases c10 : a0_0 = 2
 rotate_left
 · rw [if_neg c10] at H
   have c10b0 : (a0_0 == 2) = false := beq_eq_false_iff_ne.mpr c10
   have c10b1 : (a0_0 != 2) = true := bne_iff_ne.mpr c10
   obtain rfl := Option.some.inj H
   go_enter Try.func16, Try.ntmps16
   go_wp2_with (first | (refine bx 1 #[.int .i64 a0_0, .int .i64 a0_1, .int .i64 a0_2, .int .i64 a0_3, .int .i64 a0_4] 30 rfl ?_; intro gb367 hg w13 hbox hb; have BK367 := am (hbox); have GW367 := am ((by rw [hg]; exact (below_size (ph HB.out)) : w.heap.size ≤ gb367)); have GE367 := GW367; replace HB := am (below_step (ph HB.out) hb); clear hb hbox hg; obtain ⟨hcz14_0, hcz14_1, hcz14_2, hcz14_3, hcz14_4⟩ := b5 BK367.out; obtain ⟨hfz14_0, hfz14_1, hfz14_2, hfz14_3, hfz14_4⟩ := f5 BK367.out))
   go_ret
   exact (rq (bg1 HB.out GE367.out))
 rw [if_pos c10] at H
 have c10b0 : (a0_0 == 2) = true := beq_iff_eq.mpr c10
 have c10b1 : (a0_0 != 2) = false := bne_eq_false_iff_eq.mpr c10
 clear c10
 obtain rfl := Option.some.inj H
 go_enter Try.func16, Try.ntmps16
 go_wp2_with (first | (refine bx 1 #[.int .i64 a0_0, .int .i64 a0_1, .int .i64 a0_2, .int .i64 a0_3, .int .i64 a0_4] 30 rfl ?_; intro gb367 hg w11 hbox hb; have BK367 := am (hbox); have GW367 := am ((by rw [hg]; exact (below_size (ph HB.out)) : w.heap.size ≤ gb367)); have GE367 := GW367; replace HB := am (below_step (ph HB.out) hb); clear hb hbox hg; obtain ⟨hcz12_0, hcz12_1, hcz12_2, hcz12_3, hcz12_4⟩ := b5 BK367.out; obtain ⟨hfz12_0, hfz12_1, hfz12_2, hfz12_3, hfz12_4⟩ := f5 BK367.out))
 go_ret
 exact (rq (bg1 HB.out GE367.out))
end Go.Proofs.Ytjfbiobjegnibaa.Rq
