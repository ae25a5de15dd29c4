-- printed by wip/pp/pp.py
import Derived.Test.YtbhchamohldehaaP40
import Derived.Test.YtbhchamohldehaaWShort
import Derived.IntWalk
import Derived.RangeFuncNested
import Derived.RangeFuncBound
import Derived.RangeFuncCalls
import Derived.RangeFuncLeaves
import Derived.Shelf.Abstract
import Derived.WalkKit
import Derived.OwnWalkIn
import Derived.TacticsInMore
import Derived.LoopNIn
import Derived.LoopIn
namespace Go.Proofs.Ytbhchamohldehaa.P4
set_option maxHeartbeats 8000000
set_option maxRecDepth 100000
open Go.RowKit Go.Proofs.YtbhchamohldehaaW.PrintWords Go.Proofs.YtbhchamohldehaaW.PrintLast Go.Proofs.YtbhchamohldehaaW.PrintMore
attribute [local go_sem] max2_int min2_int max_two min_two max_three min_three max_four min_four
set_option linter.unusedVariables false
set_option linter.unusedSimpArgs false
theorem drop_T69s {l : List S69} {i : Nat} (h : i < l.length) : l.drop i = rd_T69 l (i : Int) :: l.drop (i + 1) := by
 rw [List.drop_eq_getElem_cons h]
 simp [rd_T69, List.getD_eq_getElem?_getD, h]
theorem drop_T73s {l : List S73} {i : Nat} (h : i < l.length) : l.drop i = rd_T73 l (i : Int) :: l.drop (i + 1) := by
 rw [List.drop_eq_getElem_cons h]
 simp [rd_T73, List.getD_eq_getElem?_getD, h]
theorem l6In_eqF (a b c : Int) : spec_l6In.f a b c = some (decide (b ≤ a ∧ a ≤ c)) := by
 unfold spec_l6In.f
 by_cases h : a ≥ b
 rotate_left
 · rw [if_neg h]
   exact congrArg some (decide_eq_false (fun h2 => h h2.1)).symm
 rw [if_pos h]
 exact congrArg some (decide_eq_decide.2 ⟨fun h2 => ⟨h, h2⟩, fun h2 => h2.2⟩)
theorem specRecOk_eqF (a b c d : Int) : spec_RecOk.f a b c d = some (recOkB a b c d) := by
 unfold spec_RecOk.f recOkB
 simp only [l6In_eqF, Option.bind_some]
 repeat' split
 all_goals simp_all
 all_goals omega
theorem l2Page_ok (p : S69) : spec_l2Page.f p.f0 p.f1.f0 p.f1.f1 p.f1.f2 p.f1.f3 = some (pageB p) := by
 unfold spec_l2Page.f pageB
 by_cases h1 : p.f0 = 1
 · rw [if_pos h1, if_pos h1, specRecOk_eqF]
   rfl
 rw [if_neg h1, if_neg h1]
 by_cases h2 : p.f0 = 0
 · rw [if_pos h2, if_pos (Or.inl h2)]
 by_cases h3 : p.f0 = 2
 rotate_left
 · rw [if_neg h2, if_neg h3, if_neg (by omega)]
 rw [if_neg h2, if_pos h3, if_pos (Or.inr h3)]
theorem pageB_seq {p : S69} (h : pageB p = true) : 0 ≤ p.f1.f1 ∧ p.f1.f1 ≤ 600 ∧ (p.f0 ≠ 1 → p.f1.f1 = 0) ∧ (p.f0 = 1 → 1 ≤ p.f1.f1) := by
 unfold pageB at h
 by_cases h1 : p.f0 = 1
 · rw [if_pos h1] at h
   simp only [recOkB, decide_eq_true_eq] at h
   exact ⟨by omega, by omega, fun hn => absurd h1 hn, fun _ => by omega⟩
 rw [if_neg h1] at h
 by_cases h2 : p.f0 = 0 ∨ p.f0 = 2
 rotate_left
 · rw [if_neg h2] at h
   cases h
 rw [if_pos h2] at h
 simp only [Bool.and_eq_true, beq_iff_eq] at h
 exact ⟨by omega, by omega, fun _ => by omega, fun hn => absurd hn h1⟩
def Tab (V : List Bool) (S : List Int) : Prop := V.length = 601 ∧ (∀ x ∈ S, 1 ≤ x) ∧ ∀ x : Int, 0 ≤ x → x ≤ 600 → rdOf false V x = decide (x ∈ S)
theorem rdOf_set (V : List Bool) (x y : Int) (b : Bool) (hx : 0 ≤ x) (hy : 0 ≤ y) (hl : x < V.length) : rdOf false (V.set x.toNat b) y = if y = x then b else rdOf false V y := by
 unfold rdOf
 rw [List.getD_eq_getElem?_getD, List.getD_eq_getElem?_getD, List.getElem?_set]
 by_cases h : y = x
 rotate_left
 · rw [if_neg h, if_neg (by omega)]
 subst h
 rw [if_pos rfl, if_pos rfl, if_pos (by omega)]
 rfl
theorem Tab.add {V : List Bool} {S : List Int} (h : Tab V S) {x : Int} (h0 : 1 ≤ x) (h1 : x ≤ 600) : Tab (V.set x.toNat true) (x :: S) := by
 refine ⟨by rw [List.length_set]; exact h.1, fun y hy => ?_, fun y hy hy2 => ?_⟩
 · rcases List.mem_cons.1 hy with rfl | hy
   · exact h0
   · exact h.2.1 y hy
 · rw [rdOf_set V x y true (by omega) hy (by have := h.1; omega), h.2.2 y hy hy2]
   by_cases e : y = x
   rotate_left
   · simp [e]
   simp [e]
theorem Tab.same {V : List Bool} {S : List Int} (h : Tab V S) {x : Int} (h0 : 0 ≤ x) (h1 : x ≤ 600) (b : Bool) (hb : b = decide (x ∈ S)) : Tab (V.set x.toNat b) S := by
 refine ⟨by rw [List.length_set]; exact h.1, h.2.1, fun y hy hy2 => ?_⟩
 rw [rdOf_set V x y b h0 hy (by have := h.1; omega), h.2.2 y hy hy2]
 by_cases e : y = x
 rotate_left
 · simp [e]
 simp [e, hb]
def pagesS : List S69 → Bool → List Int → Option (List Int)
 | [], _, S => some S
 | p :: ps, pc, S => if pageB p = true then (if pc = true ∧ p.f0 ≠ 0 then none else (if p.f0 = 1 then (if p.f1.f1 ∈ S then none else pagesS ps (p.f0 == 0) (p.f1.f1 :: S)) else pagesS ps (p.f0 == 0) S)) else none
theorem pagesS_eq : ∀ (ps : List S69) (pc : Bool) (S : List Int), pagesS ps pc S = if shapeB ps pc = true then pagesB ps S else none
 | [], _, _ => rfl
 | p :: ps, pc, S => by
  rw [pagesS, shapeB, pagesB]
  by_cases h1 : pageB p = true
  rotate_left
  · rw [if_neg h1, if_neg h1]
    simp
  by_cases h2 : pc = true ∧ p.f0 ≠ 0
  · simp [h1, h2]
  rw [if_pos h1, if_neg h2, if_neg h2, if_pos h1]
  by_cases h3 : p.f0 = 1
  rotate_left
  · rw [if_neg h3, if_neg h3, pagesS_eq]
  rw [if_pos h3, if_pos h3]
  by_cases h4 : p.f1.f1 ∈ S
  rotate_left
  · rw [if_neg h4, if_neg h4, pagesS_eq]
  rw [if_pos h4, if_pos h4]
  simp
def pcAt (ps : List S69) (j : Nat) : Bool := decide (0 < j ∧ (rd_T69 ps ((j - 1 : Nat) : Int)).f0 = 0)
theorem tab0 : Tab (List.replicate 601 false) [] := ⟨List.length_replicate, fun x h => by simp at h, fun x h0 h1 => by
 unfold rdOf
 rw [List.getD_eq_getElem?_getD, List.getElem?_replicate]
 split
 · simp
 · simp⟩
theorem flash_bad {l : List S73} {i : Nat} {S : List Int} (hi : i < l.length) (hP : blocksB (l.drop i) S = blocksB l []) (hb : ¬ (((rd_T73 l (i : Int)).f0.length : Int) = 4 ∧ 0 ≤ (rd_T73 l (i : Int)).f1 ∧ (rd_T73 l (i : Int)).f1 ≤ 200)) : flashOkB l = false := by
 rw [drop_T73s hi, blocksB] at hP
 unfold flashOkB
 rw [← hP]
 unfold blockB
 rw [decide_eq_false hb, Bool.false_and, Bool.false_and, Bool.and_false]
theorem flash_false {l : List S73} {i : Nat} {S : List Int} (hi : i < l.length) (hP : blocksB (l.drop i) S = blocksB l []) (hN : pagesS (rd_T73 l (i : Int)).f0 false S = none) : flashOkB l = false := by
 rw [drop_T73s hi, blocksB] at hP
 unfold flashOkB
 rw [← hP]
 rw [pagesS_eq] at hN
 unfold blockB
 cases hs : shapeB (rd_T73 l (i : Int)).f0 false with
 | false => rw [Bool.and_false, Bool.false_and, Bool.and_false]
 | true =>
  rw [hs, if_pos rfl] at hN
  rw [hN, Bool.and_false, Bool.and_false]
theorem flash_next {l : List S73} {i : Nat} {S S' : List Int} (hi : i < l.length) (hP : blocksB (l.drop i) S = blocksB l []) (hb : ((rd_T73 l (i : Int)).f0.length : Int) = 4 ∧ 0 ≤ (rd_T73 l (i : Int)).f1 ∧ (rd_T73 l (i : Int)).f1 ≤ 200) (hS : pagesS (rd_T73 l (i : Int)).f0 false S = some S') : blocksB (l.drop (i + 1)) S' = blocksB l [] := by
 rw [drop_T73s hi, blocksB] at hP
 rw [pagesS_eq] at hS
 unfold blockB at hP
 rw [decide_eq_true hb, Bool.true_and] at hP
 cases hs : shapeB (rd_T73 l (i : Int)).f0 false with
 | false => rw [hs, if_neg (by simp)] at hS; cases hS
 | true =>
  rw [hs, if_pos rfl] at hS
  rw [hs, hS, Bool.true_and] at hP
  exact hP
theorem flash_end {l : List S73} {i : Nat} {S : List Int} (hi : ¬ i < l.length) (hP : blocksB (l.drop i) S = blocksB l []) : flashOkB l = ((l.length : Int) == 4) := by
 rw [List.drop_eq_nil_of_le (by omega), blocksB] at hP
 unfold flashOkB
 rw [← hP, Bool.and_true]
 by_cases h : (l.length : Int) = 4
 rotate_left
 · simp [h]
 simp [h]
def spec_FlashOkM.T13 : Bool × List (List Nat × List Nat) := (true, [([], []), ([], []), ([1], [1]), ([2], [2]), ([], []), ([], []), ([5], [5]), ([6], [6]), ([4, 7], [4, 7]), ([8], [8]), ([9], [9]), ([10], [10]), ([11, 10], [10, 11]), ([12, 10], [10, 12]), ([10, 13], [10, 13]), ([0, 3, 0, 1, 2, 3, 4, 5, 6, 7, 8, 9, 10, 11, 12, 13, 14], [0, 3]), ([15, 14, 10, 0, 1, 2, 3, 4, 5, 6, 7, 8, 9, 10, 11, 12, 13, 14], [14, 15])])
def spec_FlashOkM.B13 : List Nat := [0, 0, 2, 6, 0, 0, 32, 96, 240, 496, 1008, 2032, 4080, 8176, 16368, 32767, 65535]
theorem spec_FlashOkM.tab13 : rtab .any (opsOf Try.f41 13) = spec_FlashOkM.T13 := by kernel_rfl
theorem spec_FlashOkM.bits13 : waitsOk spec_FlashOkM.T13.2 spec_FlashOkM.B13 = true := by kernel_rfl
theorem spec_FlashOk_mark (w W : World) (go cv : Nat) (V : List Bool) (g2 : Nat) (st kd sq ar vl : Int) (b : Bool) (hb : (st == 1) = b)
 (HO : Aside0 (Kd.R Kd.bool 4 W w.heap.size (fun _ => True) (.slice (some ⟨go, 0, none⟩) 601 cv) V)) (HV : V.length = 601) (BK : Aside0 (W.heap[g2]? = some (.cells #[.int .i64 st, .int .i64 kd, .int .i64 sq, .int .i64 ar, .int .i64 vl] 69 (0, 0)))) (HB : Aside0 (Below w.heap.size w W))
 (h0 : 0 ≤ sq) (h1 : sq < (V.length : Int)) (hs : rdOf false V sq = false) (Q : Exit → Act → World → Prop) {u0 u1 u2 u4 u5 u7 u8 u9 u10 u11 u12 u13 u14 u15 u16 u17 u18 u19 u20 u21 u22 u23 u24 u25 u26 u27 u28 u29 u30 u31 u32 u33 u34 u35 u36 u37 u38 u39 u40 u41 u42 u43 u44 u45 u46 u47 u48 u49 u50 u51 u52 u53 u54 u55 u56 u57 u58 u59 u60 u61 u62 u63 u64 u65 u66 u67 u68 u69 u70 u71 u72 u73 u74 u75 u76 u77 u78 u79 u80 u81 u82 u83 u84 u85 u86 u87 u88 u89 u90 u91 u92 u93 u94 u95 u96 u97 u98 : Value}
 (hP : ∀ c (a a' : Act) w, a.defers = a'.defers → Q (.panic c) a w → Q (.panic c) a' w)
 (hQ : ∀ (x80 x81 x82 x83 x84 x85 x86 x87 x88 x89 x90 x91 x92 x93 x94 x95 : Value) (W' : World), Kd.R Kd.bool 4 W' w.heap.size (fun _ => True) (.slice (some ⟨go, 0, none⟩) 601 cv) (V.set sq.toNat b) → Below w.heap.size w W' → Q .normal { tmps := #[u0, u1, u2, .slice (some ⟨go, 0, none⟩) 601 cv, u4, u5, .pointer (some ⟨g2, 0, none⟩), u7, u8, u9, u10, u11, u12, u13, u14, u15, u16, u17, u18, u19, u20, u21, u22, u23, u24, u25, u26, u27, u28, u29, u30, u31, u32, u33, u34, u35, u36, u37, u38, u39, u40, u41, u42, u43, u44, u45, u46, u47, u48, u49, u50, u51, u52, u53, u54, u55, u56, u57, u58, u59, u60, u61, u62, u63, u64, u65, u66, u67, u68, u69, u70, u71, u72, u73, u74, u75, u76, u77, u78, u79, x80, x81, x82, x83, x84, x85, x86, x87, x88, x89, x90, x91, x92, x93, x94, x95, u96, u97, u98], defers := [] } W') :
 Code.wp Try.prog (Code.region 13 (opsOf Try.f41 13) true) Q { tmps := #[u0, u1, u2, .slice (some ⟨go, 0, none⟩) 601 cv, u4, u5, .pointer (some ⟨g2, 0, none⟩), u7, u8, u9, u10, u11, u12, u13, u14, u15, u16, u17, u18, u19, u20, u21, u22, u23, u24, u25, u26, u27, u28, u29, u30, u31, u32, u33, u34, u35, u36, u37, u38, u39, u40, u41, u42, u43, u44, u45, u46, u47, u48, u49, u50, u51, u52, u53, u54, u55, u56, u57, u58, u59, u60, u61, u62, u63, u64, u65, u66, u67, u68, u69, u70, u71, u72, u73, u74, u75, u76, u77, u78, u79, u80, u81, u82, u83, u84, u85, u86, u87, u88, u89, u90, u91, u92, u93, u94, u95, u96, u97, u98], defers := [] } W := by
 simp only [opsOf, opsIn, Try.f41, Option.bind_some, Option.getD_some, Option.getD, Option.bind, Nat.reduceEqDiff, if_true, if_false, Option.orElse, reduceCtorEq, Nat.reduceBEq, Bool.false_eq_true]
 have hu69 := Try.underlying69
 have hu36 := Try.underlying36
 have n0_ := am (Kd.R_drew HO.out)
 have n1_ := am (blk_drew BK.out)
 have n2_ := am (below_drew1 HB.out)
 clear HO BK HB
 have HO := n0_
 have BK := n1_
 have HB := n2_
 clear n0_ n1_ n2_
 obtain ⟨ad, e137, hx0⟩ := Kd.at_bool (Kd.R_reads' HO.out).2.2 sq h0 (by omega)
 rw [hs] at hx0
 obtain rfl : ad = ⟨go, 0, none⟩ := (by injection e137 with e; exact e.symm)
 obtain ⟨hx1, hf0⟩ := Kd.R_celln false HO.out sq h0 (by omega)
 have HQ := Kd.R_putn HO.out sq b
 obtain ⟨go2, _, e3, gb, _, _, _⟩ := Kd.R_form HO.out (by omega)
 obtain rfl : go = go2 := by
  injection e3 with e _ _
  injection e with e
  injection e
 have GB := am gb
 clear gb
 have p114 := eq_true h0
 have q114 : (sq < 601) = True := eq_true (by omega)
 (first | simp only [add_plain] at hx0 | skip)
 refine start_ (n := 17) (S := fun w' => w'.cell? ⟨g2, 0, none⟩ = some (.int .i64 st) ∧ w'.cell? ⟨g2, 1, none⟩ = some (.int .i64 kd) ∧ w'.cell? ⟨g2, 2, none⟩ = some (.int .i64 sq) ∧ w'.cell? ⟨g2, 3, none⟩ = some (.int .i64 ar) ∧ w'.cell? ⟨g2, 4, none⟩ = some (.int .i64 vl) ∧ w'.cell? ⟨go, (sq).toNat, none⟩ = some (.bool (false))) (ds := [16]) (bt 17 0) (by kernel_rfl) rfl rfl ⟨(blk_cell BK.out 0).trans rfl, (blk_cell BK.out 1).trans rfl, (blk_cell BK.out 2).trans rfl, (blk_cell BK.out 3).trans rfl, (blk_cell BK.out 4).trans rfl, hx0⟩ (fun hHeld => ?_); refine with_tabW spec_FlashOkM.tab13 spec_FlashOkM.bits13 (fun HT_ HW_ => ?_)
 generalize W.drew = W2 at HO BK HB HQ hf0 hx1 hx0 hHeld ⊢
 refine pj_ 0 80 (bt 17 1) rfl rfl (any_of HT_.out (by kernel_rfl)) (fun c_ a_ w_ h => hP c_ _ a_ w_ (by first | rfl | simp [Act.put]) h) ?_
 refine pj_ 1 81 (bt 17 3) rfl rfl (any_of HT_.out (by kernel_rfl)) (fun c_ a_ w_ h => hP c_ _ a_ w_ (by first | rfl | simp [Act.put]) h) ?_
 refine pj_ 2 82 (bt 17 7) rfl rfl (any_of HT_.out (by kernel_rfl)) (fun c_ a_ w_ h => hP c_ _ a_ w_ (by first | rfl | simp [Act.put]) h) ?_
 refine pj_ 4 84 (bt 17 23) rfl rfl (any_of HT_.out (by kernel_rfl)) (fun c_ a_ w_ h => hP c_ _ a_ w_ (by first | rfl | simp [Act.put]) h) ?_
 refine pj_ 5 85 (bt 17 55) rfl rfl (any_of HT_.out (by kernel_rfl)) (fun c_ a_ w_ h => hP c_ _ a_ w_ (by first | rfl | simp [Act.put]) h) ?_
 refine pj_ 6 86 (bt 17 119) rfl rfl (any_of HT_.out (by kernel_rfl)) (fun c_ a_ w_ h => hP c_ _ a_ w_ (by first | rfl | simp [Act.put]) h) ?_
 refine pm_ 3 83 (bt 17 127) rfl rfl (take_ofW HT_.out HW_.out (by kernel_rfl)) (fun c_ a_ w_ h => hP c_ _ a_ w_ (by first | rfl | simp [Act.put]) h) hHeld ?_
 refine pm_ 7 87 (bt 17 255) rfl rfl (take_ofW HT_.out HW_.out (by kernel_rfl)) (fun c_ a_ w_ h => hP c_ _ a_ w_ (by first | rfl | simp [Act.put]) h) hHeld ?_
 refine pj_ 8 88 (bt 17 511) rfl rfl (any_of HT_.out (by kernel_rfl)) (fun c_ a_ w_ h => hP c_ _ a_ w_ (by first | rfl | simp [Act.put]) h) ?_
 refine pm_ 9 89 (bt 17 1023) rfl rfl (take_ofW HT_.out HW_.out (by kernel_rfl)) (fun c_ a_ w_ h => hP c_ _ a_ w_ (by first | rfl | simp [Act.put]) h) hHeld ?_
 refine pj_ 10 90 (bt 17 2047) rfl rfl (any_of HT_.out (by kernel_rfl)) (fun c_ a_ w_ h => hP c_ _ a_ w_ (by first | rfl | simp [Act.put]) h) ?_
 refine pj_ 11 91 (bt 17 4095) rfl rfl (any_of HT_.out (by kernel_rfl)) (fun c_ a_ w_ h => hP c_ _ a_ w_ (by first | rfl | simp [Act.put]) h) ?_
 refine pm_ 12 92 (bt 17 8191) rfl rfl (take_ofW HT_.out HW_.out (by kernel_rfl)) (fun c_ a_ w_ h => hP c_ _ a_ w_ (by first | rfl | simp [Act.put]) h) hHeld ?_
 refine pj_ 13 93 (bt 17 16383) rfl rfl (any_of HT_.out (by kernel_rfl)) (fun c_ a_ w_ h => hP c_ _ a_ w_ (by first | rfl | simp [Act.put]) h) ?_
 refine pj_ 14 94 (bt 17 32767) rfl rfl (any_of HT_.out (by kernel_rfl)) (fun c_ a_ w_ h => hP c_ _ a_ w_ (by first | rfl | simp [Act.put]) h) ?_
 refine pj_ 15 95 (bt 17 65535) rfl rfl (any_of HT_.out (by kernel_rfl)) (fun c_ a_ w_ h => hP c_ _ a_ w_ (by first | rfl | simp [Act.put]) h) ?_
 refine last_ (i := 16) (N := none) (bt 17 131071) rfl rfl (one_of HT_.out (by kernel_rfl)) (by decide) (fun K hK => ?_)
 refine qs rfl ?_
 refine hK.out _ _ ?_
 clear hK K
 refine done_ (done_of HT_.out (by kernel_rfl)) ?_
 exact hQ _ _ _ _ _ _ _ _ _ _ _ _ _ _ _ _ _ HQ (below_set HB.out GB.out)
def spec_FlashOk.f (l0 : List (S73)) : Option (Bool) := some (flashOkB l0)
theorem put5_ {W W1 : World} {g : Nat} {t : TypeId} {a b c d e : Value} (h : W.heap[g]? = some (.cells #[.int .i64 0, .int .i64 0, .int .i64 0, .int .i64 0, .int .i64 0] t (0, 0))) (hb : Below (((((W.setCell ⟨g, 0, none⟩ a).setCell ⟨g, 1, none⟩ b).setCell ⟨g, 2, none⟩ c).setCell ⟨g, 3, none⟩ d).setCell ⟨g, 4, none⟩ e).heap.size (((((W.setCell ⟨g, 0, none⟩ a).setCell ⟨g, 1, none⟩ b).setCell ⟨g, 2, none⟩ c).setCell ⟨g, 3, none⟩ d).setCell ⟨g, 4, none⟩ e) W1) : W1.heap[g]? = some (.cells #[a, b, c, d, e] t (0, 0)) :=
 blk_below (blk_put (cs := #[a, b, c, d, .int .i64 0]) (blk_put (cs := #[a, b, c, .int .i64 0, .int .i64 0]) (blk_put (cs := #[a, b, .int .i64 0, .int .i64 0, .int .i64 0]) (blk_put (cs := #[a, .int .i64 0, .int .i64 0, .int .i64 0, .int .i64 0]) (blk_put (cs := #[.int .i64 0, .int .i64 0, .int .i64 0, .int .i64 0, .int .i64 0]) h 0 _ rfl) 1 _ rfl) 2 _ rfl) 3 _ rfl) 4 _ rfl) hb
theorem far5_ {α : Type} {k : Kd α} {q base g : Nat} {ok : Nat → Prop} {v : Value} {xs : List α} {W W1 : World} {a b c d e : Value} (h : k.R q W base ok v xs) (hok : ∀ j, ok j → j ≠ g) (hb : Below (((((W.setCell ⟨g, 0, none⟩ a).setCell ⟨g, 1, none⟩ b).setCell ⟨g, 2, none⟩ c).setCell ⟨g, 3, none⟩ d).setCell ⟨g, 4, none⟩ e).heap.size (((((W.setCell ⟨g, 0, none⟩ a).setCell ⟨g, 1, none⟩ b).setCell ⟨g, 2, none⟩ c).setCell ⟨g, 3, none⟩ d).setCell ⟨g, 4, none⟩ e) W1) : k.R q W1 base ok v xs :=
 Kd.R_below (Kd.R_far (p := ⟨g, 4, none⟩) (Kd.R_far (p := ⟨g, 3, none⟩) (Kd.R_far (p := ⟨g, 2, none⟩) (Kd.R_far (p := ⟨g, 1, none⟩) (Kd.R_far (p := ⟨g, 0, none⟩) h hok a) hok b) hok c) hok d) hok e) hb
theorem spec_FlashOk.calls (A0 : Option Addr) (c0 : Nat) (l0 : List (S73)) (r : Bool) (w : World) (hr0 : Kd.C k73 w A0 l0.length l0) (hc0 : l0.length ≤ c0) (h : spec_FlashOk.f l0 = some r) :
 Calls Try.prog 41 #[.slice A0 l0.length c0] w fun e w' => e = .returned (.bool r) ∧ Below w.heap.size w w' := by
 have hu73 := Try.underlying73
 have hu69 := Try.underlying69
 have hu36 := Try.underlying36
 obtain rfl : r = flashOkB l0 := (Option.some.inj h).symm
 clear h
 have HL := am (Kd.C_max hr0)
 have HB := am (Below.refl w.heap.size w)
 go_enter Try.func41, Try.ntmps41
 go_wp2_with (first | ((with_reducible refine gate_dst (N := 7) rfl ?_); refine Kd.R_make Kd.bool _ 4 rfl (N := 7) rfl 97 _ _ rfl 601 rfl rfl Try.underlying97 (.bool false) 1 info4 rfl (by decide) (by omega) false (ok := fun _ => True) (okp := fun _ => True) rfl (fun _ hk => hk) trivial (by omega) (by omega) (Below.refl _ _) (Nat.le_refl _) ?_; intro v3 w3 ho4 hb hg_ hnew_; clear hg_ hnew_; simp only [Int.reduceToNat] at ho4; have n0_ := am (Kd.R_lower ho4 (below_size HB.out)); have n1_ := am (below_step HB.out hb); clear HB; have HO := n0_; have HB := n1_; clear n0_ n1_; clear hb ho4))
 obtain ⟨go, cv, ev, hgo, _⟩ := Kd.R_form HO.out (by rw [List.length_replicate]; omega)
 subst ev
 clear hgo
 go_loopg [4] (l0.length + 1) (fun kq v4 w' => ∃ (i : Nat) (V : List Bool) (S : List Int), v4 = .int .i64 (i : Int) ∧ Aside0 (kq + i = l0.length + 1) ∧ Aside0 (i ≤ l0.length) ∧ Aside0 (blocksB (l0.drop i) S = blocksB l0 []) ∧ Aside0 (Tab V S) ∧ Aside0 (Kd.R Kd.bool 4 w' w.heap.size (fun _ => True) (.slice (some ⟨go, 0, none⟩) 601 cv) V) ∧ Aside0 (Below w.heap.size w w'))
 case atStart => exact ⟨0, _, [], rfl, ⟨rfl⟩, ⟨Nat.zero_le _⟩, ⟨by simp⟩, ⟨tab0⟩, HO, HB⟩
 case round =>
  clear HO HB
  obtain ⟨i, V, S, rfl, HK, HI, HP, HV, HO, HB⟩ := hrel
  obtain ⟨k1, rfl⟩ : ∃ k, gk = k + 1 := by
   have := HK.out
   have := HI.out
   exact ⟨gk - 1, by omega⟩
  by_cases ci : i < l0.length
  rotate_left
  · have cib : decide ((i : Int) < (l0.length : Int)) = false := decide_eq_false (by omega)
    have ci2 : ¬ ((i : Int) < (l0.length : Int)) := by omega
    have HF := am (flash_end ci HP.out)
    go_wp2
    go_ret
    exact ⟨by rw [HF.out]; rfl, ph HB.out⟩
  have hw14 : wrap64 ((i : Int) + 1) = ((i + 1 : Nat) : Int) := by have := HL.out; rw [IntWalk.wrap64_in _ (by omega)]; omega
  have cib : decide ((i : Int) < (l0.length : Int)) = true := decide_eq_true (by omega)
  have p1 : 0 ≤ (i : Int) := by omega
  have q1 : (i : Int) < (l0.length : Int) := by omega
  obtain ⟨ad1, A1, c1, e1, hx1_0, hx1_1, hl1, hi1⟩ := at_T73 hr0 (i : Int) p1 q1
  cases e1
  simp only [Int.toNat_natCast] at hx1_0 hx1_1
  have HX0 := am hx1_0
  have HX1 := am hx1_1
  replace hx1_0 := up HB.out hx1_0
  replace hx1_1 := up HB.out hx1_1
  have hki := am (l6In_eqF (rd_T73 l0 (i : Int)).f1 0 200)
  replace hi1 := am hi1
  replace p1 := eq_true p1
  replace q1 := eq_true q1
  have CI := am ci
  clear ci
  by_cases h4 : ((rd_T73 l0 (i : Int)).f0.length : Int) = 4
  rotate_left
  · have h4a : (((rd_T73 l0 (i : Int)).f0.length : Int) == 4) = false := by simp [h4]
    have h4b : (((rd_T73 l0 (i : Int)).f0.length : Int) != 4) = true := by simp [h4]
    have HF := am (flash_bad CI.out HP.out (fun h => h4 h.1))
    clear h4
    go_wp2
    go_ret
    exact ⟨by rw [HF.out]; rfl, ph HB.out⟩
  have h4a : (((rd_T73 l0 (i : Int)).f0.length : Int) == 4) = true := by simp [h4]
  have h4b : (((rd_T73 l0 (i : Int)).f0.length : Int) != 4) = false := by simp [h4]
  have H4 := am h4
  clear h4
  cases hw : decide (0 ≤ (rd_T73 l0 (i : Int)).f1 ∧ (rd_T73 l0 (i : Int)).f1 ≤ 200) with
  | false =>
   rw [hw] at hki
   have HW := am hw
   clear hw
   go_wp2_with (first | (go_at_call 23; (with_reducible refine (spec_l6In.calls _ 0 200 _ _ hki.out).mono ?_); rintro e w' ⟨rfl, ⟨nd, rfl⟩⟩))
   go_ret
   exact ⟨by rw [flash_bad CI.out HP.out (fun h => of_decide_eq_false HW.out h.2)]; rfl, ph HB.out⟩
  | true =>
   rw [hw] at hki
   have HW := am hw
   clear hw
   go_wp2_with (first | (go_at_call 23; (with_reducible refine (spec_l6In.calls _ 0 200 _ _ hki.out).mono ?_); rintro e w' ⟨rfl, ⟨nd, rfl⟩⟩))
   have HB2 : Aside0 (Below w.heap.size w (wr.drewN nd)) := ⟨ph HB.out⟩
   have HO2 : Aside0 (Kd.R Kd.bool 4 (wr.drewN nd) w.heap.size (fun _ => True) (.slice (some ⟨go, 0, none⟩) 601 cv) V) := ⟨pr HO.out⟩
   clear HB HO
   have HB := HB2
   have HO := HO2
   clear HB2 HO2
   go_loopg [5] (4 + 1) (fun kq v5 w' => ∃ (j : Nat) (V2 : List Bool) (S2 : List Int), v5 = .int .i64 (j : Int) ∧ Aside0 (kq + j = 5) ∧ Aside0 (j ≤ 4) ∧ Aside0 (pagesS ((rd_T73 l0 (i : Int)).f0.drop j) (pcAt (rd_T73 l0 (i : Int)).f0 j) S2 = pagesS (rd_T73 l0 (i : Int)).f0 false S) ∧ Aside0 (Tab V2 S2) ∧ Aside0 (Kd.R Kd.bool 4 w' w.heap.size (fun _ => True) (.slice (some ⟨go, 0, none⟩) 601 cv) V2) ∧ Aside0 (Below w.heap.size w w'))
   case atStart => exact ⟨0, V, S, rfl, ⟨rfl⟩, ⟨Nat.zero_le _⟩, ⟨rfl⟩, HV, HO, HB⟩
   case round =>
    clear HB HO
    obtain ⟨j, V2, S2, rfl, HK2, HJ, HQ, HV2, HO, HB⟩ := hrel
    have hbl' : (rd_T73 l0 (i : Int)).f0.length = 4 := by have := H4.out; omega
    obtain ⟨k2, rfl⟩ : ∃ k, gk = k + 1 := by
     have := HK2.out
     have := HJ.out
     exact ⟨gk - 1, by omega⟩
    by_cases cj : j < 4
    rotate_left
    · have cjb : decide ((j : Int) < 4) = false := decide_eq_false (by omega)
      have cj2 : ¬ ((j : Int) < 4) := by omega
      have HQ2 := HQ.out
      rw [List.drop_eq_nil_of_le (by omega), pagesS] at HQ2
      have HP4 := am (flash_next CI.out HP.out ⟨H4.out, of_decide_eq_true HW.out⟩ HQ2.symm)
      clear HQ2 hbl'
      go_wp2
      go_roundg k1
      case measure => omega
      case rel => exact ⟨i + 1, V2, S2, by first | rfl | (simp; done) | (simp [*]; done), ⟨by have := HK.out; omega⟩, ⟨CI.out⟩, HP4, HV2, HO, HB⟩
    have cjb : decide ((j : Int) < 4) = true := decide_eq_true (by omega)
    have p2 : 0 ≤ (j : Int) := by omega
    have q2 : (j : Int) < ((rd_T73 l0 (i : Int)).f0.length : Int) := by omega
    obtain ⟨ad2, e2, hx2_0, hx2_1, hx2_2, hx2_3, hx2_4⟩ := at_T69 hi1.out (j : Int) p2 q2
    cases e2
    replace hx2_0 := up HB.out hx2_0
    replace hx2_1 := up HB.out hx2_1
    replace hx2_2 := up HB.out hx2_2
    replace hx2_3 := up HB.out hx2_3
    replace hx2_4 := up HB.out hx2_4
    simp only [Int.toNat_natCast] at hx2_0 hx2_1 hx2_2 hx2_3 hx2_4
    have hx1_0 := up HB.out HX0.out
    have hx1_1 := up HB.out HX1.out
    have hkp := am (l2Page_ok (rd_T69 (rd_T73 l0 (i : Int)).f0 (j : Int)))
    have HQ2 := HQ.out
    rw [drop_T69s (by omega), pagesS] at HQ2
    have hw24 : wrap64 ((j : Int) + 1) = ((j + 1 : Nat) : Int) := by rw [IntWalk.wrap64_in _ (by omega)]; omega
    replace p2 := eq_true p2
    replace q2 := eq_true q2
    have CJ := am cj
    clear hbl' cj
    have hpcs : pcAt (rd_T73 l0 (i : Int)).f0 (j + 1) = ((rd_T69 (rd_T73 l0 (i : Int)).f0 (j : Int)).f0 == 0) := by
     unfold pcAt
     rw [Nat.add_sub_cancel]
     by_cases h : (rd_T69 (rd_T73 l0 (i : Int)).f0 (j : Int)).f0 = 0
     rotate_left
     · simp [h]
     simp [h]
    rw [← hpcs] at HQ2
    clear hpcs
    cases hpb : pageB (rd_T69 (rd_T73 l0 (i : Int)).f0 (j : Int)) with
    | false =>
     rw [hpb] at hkp
     rw [hpb, if_neg (by simp)] at HQ2
     have HN := am HQ2.symm
     clear HQ2 hpb
     go_wp2_with (first | ((with_reducible refine gate_dst (N := 6) rfl ?_); refine box_event ?hg (N := 6) ?hd (cs := #[.int .i64 0, .int .i64 0, .int .i64 0, .int .i64 0, .int .i64 0]) (t := 69) ?hr ?_; (case hd => rfl); (case hg => rfl); (case hr => first | (go_simp; done) | (go_simp; rfl)); intro g2 hg w7 hbox hb; have n0_ := am (below_step HB.out hb); have n1_ := am hbox; have GE2 := am ((by rw [hg]; exact below_size HB.out) : w.heap.size ≤ g2); have GL2 := am ((Nat.le_of_eq hg.symm)); have n2_ := am (Kd.R_below (Kd.R_elderB HO.out g2 (Nat.le_of_eq hg.symm)) hb); clear HB HO; have HB := n0_; have BK2 := n1_; have HO := n2_; clear n0_ n1_ n2_; obtain ⟨hczg2_0, hczg2_1, hczg2_2, hczg2_3, hczg2_4⟩ := b5 hbox; obtain ⟨hfzg2_0, hfzg2_1, hfzg2_2, hfzg2_3, hfzg2_4⟩ := f5 hbox; clear hb hbox hg) | ((with_reducible refine gate_callee (f := 61) rfl ?_); refine goesL_ (some 43) rfl rfl Try.func61 (by kernel_rfl) rfl #[.agg #[.int .i64 (rd_T69 (rd_T73 l0 (i : Int)).f0 (j : Int)).f0, .int .i64 (rd_T69 (rd_T73 l0 (i : Int)).f0 (j : Int)).f1.f0, .int .i64 (rd_T69 (rd_T73 l0 (i : Int)).f0 (j : Int)).f1.f1, .int .i64 (rd_T69 (rd_T73 l0 (i : Int)).f0 (j : Int)).f1.f2, .int .i64 (rd_T69 (rd_T73 l0 (i : Int)).f0 (j : Int)).f1.f3]] rfl (by (try simp only [List.map_toArray, List.map_cons, List.map_nil]); first | done | rfl) ?_; (with_reducible refine (spec_l2Page.calls _ _ _ _ _ _ _ hkp.out).mono ?_); rintro e w8 ⟨rfl, hb⟩; refine ⟨_, rfl, ?_⟩; have n0_ := am (below_step (bg1 HB.out GE2.out) hb); have n1_ := am (put5_ BK2.out hb); have n2_ := am (far5_ HO.out (fun _ hk => hk.2) hb); clear HB BK2 HO; have HB := n0_; have BK2 := n1_; have HO := n2_; clear n0_ n1_ n2_; clear hb hczg2_0 hfzg2_0 hczg2_1 hfzg2_1 hczg2_2 hfzg2_2 hczg2_3 hfzg2_3 hczg2_4 hfzg2_4; have hy2_0 := (blk_cell BK2.out 0).trans rfl; have hy2_1 := (blk_cell BK2.out 1).trans rfl; have hy2_2 := (blk_cell BK2.out 2).trans rfl; have hy2_3 := (blk_cell BK2.out 3).trans rfl; have hy2_4 := (blk_cell BK2.out 4).trans rfl))
     go_ret
     exact ⟨by rw [flash_false CI.out HP.out (HN.out)]; rfl, bg1 HB.out GE2.out⟩
    | true =>
     rw [hpb] at hkp
     rw [hpb, if_pos rfl] at HQ2
     have hsq := pageB_seq hpb
     have HS0 := am hsq.1
     have HS1 : Aside0 ((rd_T69 (rd_T73 l0 (i : Int)).f0 (j : Int)).f1.f1 < (V2.length : Int)) := ⟨by have := HV2.out.1; have := hsq.2.1; omega⟩
     have hvr := HV2.out.2.2 (rd_T69 (rd_T73 l0 (i : Int)).f0 (j : Int)).f1.f1 hsq.1 hsq.2.1
     clear hpb
     by_cases hj0 : 0 < j
     rotate_left
     · have hj1 : decide ((j : Int) > 0) = false := decide_eq_false (by omega)
       have hj2 : ¬ ((j : Int) > 0) := by omega
       rw [if_neg (fun h => hj0 (of_decide_eq_true h.1).1)] at HQ2
       by_cases cs : (rd_T69 (rd_T73 l0 (i : Int)).f0 (j : Int)).f0 = 1
       rotate_left
       · have cs0 : ((rd_T69 (rd_T73 l0 (i : Int)).f0 (j : Int)).f0 == 1) = false := beq_eq_false_iff_ne.mpr cs
         have cs1 : ((rd_T69 (rd_T73 l0 (i : Int)).f0 (j : Int)).f0 != 1) = true := bne_iff_ne.mpr cs
         rw [if_neg cs] at HQ2
         have hz := hsq.2.2.1 cs
         have hnm : (rd_T69 (rd_T73 l0 (i : Int)).f0 (j : Int)).f1.f1 ∉ S2 := fun h => by have := HV2.out.2.1 _ h; omega
         have HQ3 := am (HQ2)
         have hv := am (hvr.trans (decide_eq_false hnm))
         have HT := am (HV2.out.same hsq.1 hsq.2.1 false (decide_eq_false hnm).symm)
         clear HQ2 cs hvr hsq hz hnm
         go_wp2_with (first | ((with_reducible refine gate_dst (N := 6) rfl ?_); refine box_event ?hg (N := 6) ?hd (cs := #[.int .i64 0, .int .i64 0, .int .i64 0, .int .i64 0, .int .i64 0]) (t := 69) ?hr ?_; (case hd => rfl); (case hg => rfl); (case hr => first | (go_simp; done) | (go_simp; rfl)); intro g2 hg w7 hbox hb; have n0_ := am (below_step HB.out hb); have n1_ := am hbox; have GE2 := am ((by rw [hg]; exact below_size HB.out) : w.heap.size ≤ g2); have GL2 := am ((Nat.le_of_eq hg.symm)); have n2_ := am (Kd.R_below (Kd.R_elderB HO.out g2 (Nat.le_of_eq hg.symm)) hb); clear HB HO; have HB := n0_; have BK2 := n1_; have HO := n2_; clear n0_ n1_ n2_; obtain ⟨hczg2_0, hczg2_1, hczg2_2, hczg2_3, hczg2_4⟩ := b5 hbox; obtain ⟨hfzg2_0, hfzg2_1, hfzg2_2, hfzg2_3, hfzg2_4⟩ := f5 hbox; clear hb hbox hg) | ((with_reducible refine gate_callee (f := 61) rfl ?_); refine goesL_ (some 43) rfl rfl Try.func61 (by kernel_rfl) rfl #[.agg #[.int .i64 (rd_T69 (rd_T73 l0 (i : Int)).f0 (j : Int)).f0, .int .i64 (rd_T69 (rd_T73 l0 (i : Int)).f0 (j : Int)).f1.f0, .int .i64 (rd_T69 (rd_T73 l0 (i : Int)).f0 (j : Int)).f1.f1, .int .i64 (rd_T69 (rd_T73 l0 (i : Int)).f0 (j : Int)).f1.f2, .int .i64 (rd_T69 (rd_T73 l0 (i : Int)).f0 (j : Int)).f1.f3]] rfl (by (try simp only [List.map_toArray, List.map_cons, List.map_nil]); first | done | rfl) ?_; (with_reducible refine (spec_l2Page.calls _ _ _ _ _ _ _ hkp.out).mono ?_); rintro e w8 ⟨rfl, hb⟩; refine ⟨_, rfl, ?_⟩; have n0_ := am (below_step (bg1 HB.out GE2.out) hb); have n1_ := am (put5_ BK2.out hb); have n2_ := am (far5_ HO.out (fun _ hk => hk.2) hb); clear HB BK2 HO; have HB := n0_; have BK2 := n1_; have HO := n2_; clear n0_ n1_ n2_; clear hb hczg2_0 hfzg2_0 hczg2_1 hfzg2_1 hczg2_2 hfzg2_2 hczg2_3 hfzg2_3 hczg2_4 hfzg2_4; have hy2_0 := (blk_cell BK2.out 0).trans rfl; have hy2_1 := (blk_cell BK2.out 1).trans rfl; have hy2_2 := (blk_cell BK2.out 2).trans rfl; have hy2_3 := (blk_cell BK2.out 3).trans rfl; have hy2_4 := (blk_cell BK2.out 4).trans rfl; have hz0 := up HB.out HX0.out; have hz1 := up HB.out HX1.out))
         refine spec_FlashOk_mark w _ go cv V2 g2 _ _ _ _ _ false cs0 ⟨Kd.R_mono HO.out (fun _ _ => trivial)⟩ HV2.out.1 BK2 HB HS0.out HS1.out hv.out _ ?_ ?_
         · intro c_ a_ b_ w_ hd_ h_
           cases a_
           cases b_
           cases hd_
           exact h_
         intro x80 x81 x82 x83 x84 x85 x86 x87 x88 x89 x90 x91 x92 x93 x94 x95 w9 hr9 hb9
         go_wp2
         go_roundg k2
         case measure => omega
         case rel => exact ⟨j + 1, _, S2, by first | rfl | (simp; done) | (simp [*]; done), ⟨by have := HK2.out; omega⟩, ⟨by have := CJ.out; omega⟩, HQ3, ⟨HT.out⟩, ⟨hr9⟩, ⟨hb9⟩⟩
       have cs0 : ((rd_T69 (rd_T73 l0 (i : Int)).f0 (j : Int)).f0 == 1) = true := beq_iff_eq.mpr cs
       have cs1 : ((rd_T69 (rd_T73 l0 (i : Int)).f0 (j : Int)).f0 != 1) = false := bne_eq_false_iff_eq.mpr cs
       rw [if_pos cs] at HQ2
       have HS3 := hsq.2.2.2 cs
       have p9 : (0 ≤ (rd_T69 (rd_T73 l0 (i : Int)).f0 (j : Int)).f1.f1) = True := eq_true hsq.1
       have q9 : ((rd_T69 (rd_T73 l0 (i : Int)).f0 (j : Int)).f1.f1 < 601) = True := eq_true (by have := hsq.2.1; omega)
       clear cs
       by_cases hm : (rd_T69 (rd_T73 l0 (i : Int)).f0 (j : Int)).f1.f1 ∈ S2
       · rw [if_pos hm] at HQ2
         have HN := am HQ2.symm
         have hv := am (hvr.trans (decide_eq_true hm))
         clear HQ2 hm hvr hsq HS3
         go_wp2_with (first | ((with_reducible refine gate_dst (N := 6) rfl ?_); refine box_event ?hg (N := 6) ?hd (cs := #[.int .i64 0, .int .i64 0, .int .i64 0, .int .i64 0, .int .i64 0]) (t := 69) ?hr ?_; (case hd => rfl); (case hg => rfl); (case hr => first | (go_simp; done) | (go_simp; rfl)); intro g2 hg w7 hbox hb; have n0_ := am (below_step HB.out hb); have n1_ := am hbox; have GE2 := am ((by rw [hg]; exact below_size HB.out) : w.heap.size ≤ g2); have GL2 := am ((Nat.le_of_eq hg.symm)); have n2_ := am (Kd.R_below (Kd.R_elderB HO.out g2 (Nat.le_of_eq hg.symm)) hb); clear HB HO; have HB := n0_; have BK2 := n1_; have HO := n2_; clear n0_ n1_ n2_; obtain ⟨hczg2_0, hczg2_1, hczg2_2, hczg2_3, hczg2_4⟩ := b5 hbox; obtain ⟨hfzg2_0, hfzg2_1, hfzg2_2, hfzg2_3, hfzg2_4⟩ := f5 hbox; clear hb hbox hg) | ((with_reducible refine gate_callee (f := 61) rfl ?_); refine goesL_ (some 43) rfl rfl Try.func61 (by kernel_rfl) rfl #[.agg #[.int .i64 (rd_T69 (rd_T73 l0 (i : Int)).f0 (j : Int)).f0, .int .i64 (rd_T69 (rd_T73 l0 (i : Int)).f0 (j : Int)).f1.f0, .int .i64 (rd_T69 (rd_T73 l0 (i : Int)).f0 (j : Int)).f1.f1, .int .i64 (rd_T69 (rd_T73 l0 (i : Int)).f0 (j : Int)).f1.f2, .int .i64 (rd_T69 (rd_T73 l0 (i : Int)).f0 (j : Int)).f1.f3]] rfl (by (try simp only [List.map_toArray, List.map_cons, List.map_nil]); first | done | rfl) ?_; (with_reducible refine (spec_l2Page.calls _ _ _ _ _ _ _ hkp.out).mono ?_); rintro e w8 ⟨rfl, hb⟩; refine ⟨_, rfl, ?_⟩; have n0_ := am (below_step (bg1 HB.out GE2.out) hb); have n1_ := am (put5_ BK2.out hb); have n2_ := am (far5_ HO.out (fun _ hk => hk.2) hb); clear HB BK2 HO; have HB := n0_; have BK2 := n1_; have HO := n2_; clear n0_ n1_ n2_; clear hb hczg2_0 hfzg2_0 hczg2_1 hfzg2_1 hczg2_2 hfzg2_2 hczg2_3 hfzg2_3 hczg2_4 hfzg2_4; have hy2_0 := (blk_cell BK2.out 0).trans rfl; have hy2_1 := (blk_cell BK2.out 1).trans rfl; have hy2_2 := (blk_cell BK2.out 2).trans rfl; have hy2_3 := (blk_cell BK2.out 3).trans rfl; have hy2_4 := (blk_cell BK2.out 4).trans rfl; obtain ⟨ad9, e9, hx9⟩ := Kd.at_bool (Kd.R_reads' HO.out).2.2 (rd_T69 (rd_T73 l0 (i : Int)).f0 (j : Int)).f1.f1 HS0.out HS1.out; (rw [hv.out] at hx9); obtain rfl : ad9 = ⟨go, 0, none⟩ := (by injection e9 with e; exact e.symm); simp only [add_plain] at hx9; have hz0 := up HB.out HX0.out; have hz1 := up HB.out HX1.out))
         go_ret
         exact ⟨by rw [flash_false CI.out HP.out (HN.out)]; rfl, bg1 HB.out GE2.out⟩
       rw [if_neg hm] at HQ2
       have HQ3 := am (HQ2)
       have hv := am (hvr.trans (decide_eq_false hm))
       have HT := am (HV2.out.add HS3 hsq.2.1)
       clear HQ2 hm hvr hsq HS3
       go_wp2_with (first | ((with_reducible refine gate_dst (N := 6) rfl ?_); refine box_event ?hg (N := 6) ?hd (cs := #[.int .i64 0, .int .i64 0, .int .i64 0, .int .i64 0, .int .i64 0]) (t := 69) ?hr ?_; (case hd => rfl); (case hg => rfl); (case hr => first | (go_simp; done) | (go_simp; rfl)); intro g2 hg w7 hbox hb; have n0_ := am (below_step HB.out hb); have n1_ := am hbox; have GE2 := am ((by rw [hg]; exact below_size HB.out) : w.heap.size ≤ g2); have GL2 := am ((Nat.le_of_eq hg.symm)); have n2_ := am (Kd.R_below (Kd.R_elderB HO.out g2 (Nat.le_of_eq hg.symm)) hb); clear HB HO; have HB := n0_; have BK2 := n1_; have HO := n2_; clear n0_ n1_ n2_; obtain ⟨hczg2_0, hczg2_1, hczg2_2, hczg2_3, hczg2_4⟩ := b5 hbox; obtain ⟨hfzg2_0, hfzg2_1, hfzg2_2, hfzg2_3, hfzg2_4⟩ := f5 hbox; clear hb hbox hg) | ((with_reducible refine gate_callee (f := 61) rfl ?_); refine goesL_ (some 43) rfl rfl Try.func61 (by kernel_rfl) rfl #[.agg #[.int .i64 (rd_T69 (rd_T73 l0 (i : Int)).f0 (j : Int)).f0, .int .i64 (rd_T69 (rd_T73 l0 (i : Int)).f0 (j : Int)).f1.f0, .int .i64 (rd_T69 (rd_T73 l0 (i : Int)).f0 (j : Int)).f1.f1, .int .i64 (rd_T69 (rd_T73 l0 (i : Int)).f0 (j : Int)).f1.f2, .int .i64 (rd_T69 (rd_T73 l0 (i : Int)).f0 (j : Int)).f1.f3]] rfl (by (try simp only [List.map_toArray, List.map_cons, List.map_nil]); first | done | rfl) ?_; (with_reducible refine (spec_l2Page.calls _ _ _ _ _ _ _ hkp.out).mono ?_); rintro e w8 ⟨rfl, hb⟩; refine ⟨_, rfl, ?_⟩; have n0_ := am (below_step (bg1 HB.out GE2.out) hb); have n1_ := am (put5_ BK2.out hb); have n2_ := am (far5_ HO.out (fun _ hk => hk.2) hb); clear HB BK2 HO; have HB := n0_; have BK2 := n1_; have HO := n2_; clear n0_ n1_ n2_; clear hb hczg2_0 hfzg2_0 hczg2_1 hfzg2_1 hczg2_2 hfzg2_2 hczg2_3 hfzg2_3 hczg2_4 hfzg2_4; have hy2_0 := (blk_cell BK2.out 0).trans rfl; have hy2_1 := (blk_cell BK2.out 1).trans rfl; have hy2_2 := (blk_cell BK2.out 2).trans rfl; have hy2_3 := (blk_cell BK2.out 3).trans rfl; have hy2_4 := (blk_cell BK2.out 4).trans rfl; obtain ⟨ad9, e9, hx9⟩ := Kd.at_bool (Kd.R_reads' HO.out).2.2 (rd_T69 (rd_T73 l0 (i : Int)).f0 (j : Int)).f1.f1 HS0.out HS1.out; (rw [hv.out] at hx9); obtain rfl : ad9 = ⟨go, 0, none⟩ := (by injection e9 with e; exact e.symm); simp only [add_plain] at hx9; have hz0 := up HB.out HX0.out; have hz1 := up HB.out HX1.out))
       refine spec_FlashOk_mark w _ go cv V2 g2 _ _ _ _ _ true cs0 ⟨Kd.R_mono HO.out (fun _ _ => trivial)⟩ HV2.out.1 BK2 HB HS0.out HS1.out hv.out _ ?_ ?_
       · intro c_ a_ b_ w_ hd_ h_
         cases a_
         cases b_
         cases hd_
         exact h_
       intro x80 x81 x82 x83 x84 x85 x86 x87 x88 x89 x90 x91 x92 x93 x94 x95 w9 hr9 hb9
       go_wp2
       go_roundg k2
       case measure => omega
       case rel => exact ⟨j + 1, _, _ :: S2, by first | rfl | (simp; done) | (simp [*]; done), ⟨by have := HK2.out; omega⟩, ⟨by have := CJ.out; omega⟩, HQ3, ⟨HT.out⟩, ⟨hr9⟩, ⟨hb9⟩⟩
     have hj1 : decide ((j : Int) > 0) = true := decide_eq_true (by omega)
     have hj2 : (j : Int) > 0 := by omega
     have hwm : wrap64 ((j : Int) - 1) = ((j - 1 : Nat) : Int) := by have := CJ.out; rw [IntWalk.wrap64_in _ (by omega)]; omega
     by_cases hs0 : (rd_T69 (rd_T73 l0 (i : Int)).f0 (j : Int)).f0 = 0
     · have hs1 : ((rd_T69 (rd_T73 l0 (i : Int)).f0 (j : Int)).f0 != 0) = false := bne_eq_false_iff_eq.mpr hs0
       rw [if_neg (fun h => h.2 hs0)] at HQ2
       have cs : ¬ (rd_T69 (rd_T73 l0 (i : Int)).f0 (j : Int)).f0 = 1 := by omega
       clear hs0
       have cs0 : ((rd_T69 (rd_T73 l0 (i : Int)).f0 (j : Int)).f0 == 1) = false := beq_eq_false_iff_ne.mpr cs
       have cs1 : ((rd_T69 (rd_T73 l0 (i : Int)).f0 (j : Int)).f0 != 1) = true := bne_iff_ne.mpr cs
       rw [if_neg cs] at HQ2
       have hz := hsq.2.2.1 cs
       have hnm : (rd_T69 (rd_T73 l0 (i : Int)).f0 (j : Int)).f1.f1 ∉ S2 := fun h => by have := HV2.out.2.1 _ h; omega
       have HQ3 := am (HQ2)
       have hv := am (hvr.trans (decide_eq_false hnm))
       have HT := am (HV2.out.same hsq.1 hsq.2.1 false (decide_eq_false hnm).symm)
       clear HQ2 cs hvr hsq hz hnm
       go_wp2_with (first | ((with_reducible refine gate_dst (N := 6) rfl ?_); refine box_event ?hg (N := 6) ?hd (cs := #[.int .i64 0, .int .i64 0, .int .i64 0, .int .i64 0, .int .i64 0]) (t := 69) ?hr ?_; (case hd => rfl); (case hg => rfl); (case hr => first | (go_simp; done) | (go_simp; rfl)); intro g2 hg w7 hbox hb; have n0_ := am (below_step HB.out hb); have n1_ := am hbox; have GE2 := am ((by rw [hg]; exact below_size HB.out) : w.heap.size ≤ g2); have GL2 := am ((Nat.le_of_eq hg.symm)); have n2_ := am (Kd.R_below (Kd.R_elderB HO.out g2 (Nat.le_of_eq hg.symm)) hb); clear HB HO; have HB := n0_; have BK2 := n1_; have HO := n2_; clear n0_ n1_ n2_; obtain ⟨hczg2_0, hczg2_1, hczg2_2, hczg2_3, hczg2_4⟩ := b5 hbox; obtain ⟨hfzg2_0, hfzg2_1, hfzg2_2, hfzg2_3, hfzg2_4⟩ := f5 hbox; clear hb hbox hg) | ((with_reducible refine gate_callee (f := 61) rfl ?_); refine goesL_ (some 43) rfl rfl Try.func61 (by kernel_rfl) rfl #[.agg #[.int .i64 (rd_T69 (rd_T73 l0 (i : Int)).f0 (j : Int)).f0, .int .i64 (rd_T69 (rd_T73 l0 (i : Int)).f0 (j : Int)).f1.f0, .int .i64 (rd_T69 (rd_T73 l0 (i : Int)).f0 (j : Int)).f1.f1, .int .i64 (rd_T69 (rd_T73 l0 (i : Int)).f0 (j : Int)).f1.f2, .int .i64 (rd_T69 (rd_T73 l0 (i : Int)).f0 (j : Int)).f1.f3]] rfl (by (try simp only [List.map_toArray, List.map_cons, List.map_nil]); first | done | rfl) ?_; (with_reducible refine (spec_l2Page.calls _ _ _ _ _ _ _ hkp.out).mono ?_); rintro e w8 ⟨rfl, hb⟩; refine ⟨_, rfl, ?_⟩; have n0_ := am (below_step (bg1 HB.out GE2.out) hb); have n1_ := am (put5_ BK2.out hb); have n2_ := am (far5_ HO.out (fun _ hk => hk.2) hb); clear HB BK2 HO; have HB := n0_; have BK2 := n1_; have HO := n2_; clear n0_ n1_ n2_; clear hb hczg2_0 hfzg2_0 hczg2_1 hfzg2_1 hczg2_2 hfzg2_2 hczg2_3 hfzg2_3 hczg2_4 hfzg2_4; have hy2_0 := (blk_cell BK2.out 0).trans rfl; have hy2_1 := (blk_cell BK2.out 1).trans rfl; have hy2_2 := (blk_cell BK2.out 2).trans rfl; have hy2_3 := (blk_cell BK2.out 3).trans rfl; have hy2_4 := (blk_cell BK2.out 4).trans rfl; have hz0 := up HB.out HX0.out; have hz1 := up HB.out HX1.out))
       refine spec_FlashOk_mark w _ go cv V2 g2 _ _ _ _ _ false cs0 ⟨Kd.R_mono HO.out (fun _ _ => trivial)⟩ HV2.out.1 BK2 HB HS0.out HS1.out hv.out _ ?_ ?_
       · intro c_ a_ b_ w_ hd_ h_
         cases a_
         cases b_
         cases hd_
         exact h_
       intro x80 x81 x82 x83 x84 x85 x86 x87 x88 x89 x90 x91 x92 x93 x94 x95 w9 hr9 hb9
       go_wp2
       go_roundg k2
       case measure => omega
       case rel => exact ⟨j + 1, _, S2, by first | rfl | (simp; done) | (simp [*]; done), ⟨by have := HK2.out; omega⟩, ⟨by have := CJ.out; omega⟩, HQ3, ⟨HT.out⟩, ⟨hr9⟩, ⟨hb9⟩⟩
     have hs1 : ((rd_T69 (rd_T73 l0 (i : Int)).f0 (j : Int)).f0 != 0) = true := bne_iff_ne.mpr hs0
     have hpp : 0 ≤ ((j - 1 : Nat) : Int) := by omega
     have hpq : ((j - 1 : Nat) : Int) < ((rd_T73 l0 (i : Int)).f0.length : Int) := by have := CJ.out; have := H4.out; omega
     obtain ⟨ad3, e3, hx3, _, _, _, _⟩ := at_T69 hi1.out ((j - 1 : Nat) : Int) hpp hpq
     obtain rfl : ad2 = ad3 := by injection e3
     simp only [Int.toNat_natCast] at hx3
     have HXP := am hx3
     clear hx3 e3
     replace hpp := eq_true hpp
     replace hpq := eq_true hpq
     by_cases hq0 : (rd_T69 (rd_T73 l0 (i : Int)).f0 ((j - 1 : Nat) : Int)).f0 = 0
     · have hq1 : ((rd_T69 (rd_T73 l0 (i : Int)).f0 ((j - 1 : Nat) : Int)).f0 == 0) = true := beq_iff_eq.mpr hq0
       rw [if_pos ⟨decide_eq_true ⟨hj0, hq0⟩, hs0⟩] at HQ2
       have HN := am (HQ2.symm)
       clear HQ2 hq0 hs0 hvr hsq
       go_wp2_with (first | ((with_reducible refine gate_dst (N := 6) rfl ?_); refine box_event ?hg (N := 6) ?hd (cs := #[.int .i64 0, .int .i64 0, .int .i64 0, .int .i64 0, .int .i64 0]) (t := 69) ?hr ?_; (case hd => rfl); (case hg => rfl); (case hr => first | (go_simp; done) | (go_simp; rfl)); intro g2 hg w7 hbox hb; have n0_ := am (below_step HB.out hb); have n1_ := am hbox; have GE2 := am ((by rw [hg]; exact below_size HB.out) : w.heap.size ≤ g2); have GL2 := am ((Nat.le_of_eq hg.symm)); have n2_ := am (Kd.R_below (Kd.R_elderB HO.out g2 (Nat.le_of_eq hg.symm)) hb); clear HB HO; have HB := n0_; have BK2 := n1_; have HO := n2_; clear n0_ n1_ n2_; obtain ⟨hczg2_0, hczg2_1, hczg2_2, hczg2_3, hczg2_4⟩ := b5 hbox; obtain ⟨hfzg2_0, hfzg2_1, hfzg2_2, hfzg2_3, hfzg2_4⟩ := f5 hbox; clear hb hbox hg) | ((with_reducible refine gate_callee (f := 61) rfl ?_); refine goesL_ (some 43) rfl rfl Try.func61 (by kernel_rfl) rfl #[.agg #[.int .i64 (rd_T69 (rd_T73 l0 (i : Int)).f0 (j : Int)).f0, .int .i64 (rd_T69 (rd_T73 l0 (i : Int)).f0 (j : Int)).f1.f0, .int .i64 (rd_T69 (rd_T73 l0 (i : Int)).f0 (j : Int)).f1.f1, .int .i64 (rd_T69 (rd_T73 l0 (i : Int)).f0 (j : Int)).f1.f2, .int .i64 (rd_T69 (rd_T73 l0 (i : Int)).f0 (j : Int)).f1.f3]] rfl (by (try simp only [List.map_toArray, List.map_cons, List.map_nil]); first | done | rfl) ?_; (with_reducible refine (spec_l2Page.calls _ _ _ _ _ _ _ hkp.out).mono ?_); rintro e w8 ⟨rfl, hb⟩; refine ⟨_, rfl, ?_⟩; have n0_ := am (below_step (bg1 HB.out GE2.out) hb); have n1_ := am (put5_ BK2.out hb); have n2_ := am (far5_ HO.out (fun _ hk => hk.2) hb); clear HB BK2 HO; have HB := n0_; have BK2 := n1_; have HO := n2_; clear n0_ n1_ n2_; clear hb hczg2_0 hfzg2_0 hczg2_1 hfzg2_1 hczg2_2 hfzg2_2 hczg2_3 hfzg2_3 hczg2_4 hfzg2_4; have hy2_0 := (blk_cell BK2.out 0).trans rfl; have hy2_1 := (blk_cell BK2.out 1).trans rfl; have hy2_2 := (blk_cell BK2.out 2).trans rfl; have hy2_3 := (blk_cell BK2.out 3).trans rfl; have hy2_4 := (blk_cell BK2.out 4).trans rfl; have hz0 := up HB.out HX0.out; have hz1 := up HB.out HX1.out; have hzp := up HB.out HXP.out))
       go_ret
       exact ⟨by rw [flash_false CI.out HP.out (HN.out)]; rfl, bg1 HB.out GE2.out⟩
     have hq1 : ((rd_T69 (rd_T73 l0 (i : Int)).f0 ((j - 1 : Nat) : Int)).f0 == 0) = false := beq_eq_false_iff_ne.mpr hq0
     rw [if_neg (fun h => hq0 (of_decide_eq_true h.1).2)] at HQ2
     clear hq0 hs0
     by_cases cs : (rd_T69 (rd_T73 l0 (i : Int)).f0 (j : Int)).f0 = 1
     rotate_left
     · have cs0 : ((rd_T69 (rd_T73 l0 (i : Int)).f0 (j : Int)).f0 == 1) = false := beq_eq_false_iff_ne.mpr cs
       have cs1 : ((rd_T69 (rd_T73 l0 (i : Int)).f0 (j : Int)).f0 != 1) = true := bne_iff_ne.mpr cs
       rw [if_neg cs] at HQ2
       have hz := hsq.2.2.1 cs
       have hnm : (rd_T69 (rd_T73 l0 (i : Int)).f0 (j : Int)).f1.f1 ∉ S2 := fun h => by have := HV2.out.2.1 _ h; omega
       have HQ3 := am (HQ2)
       have hv := am (hvr.trans (decide_eq_false hnm))
       have HT := am (HV2.out.same hsq.1 hsq.2.1 false (decide_eq_false hnm).symm)
       clear HQ2 cs hvr hsq hz hnm
       go_wp2_with (first | ((with_reducible refine gate_dst (N := 6) rfl ?_); refine box_event ?hg (N := 6) ?hd (cs := #[.int .i64 0, .int .i64 0, .int .i64 0, .int .i64 0, .int .i64 0]) (t := 69) ?hr ?_; (case hd => rfl); (case hg => rfl); (case hr => first | (go_simp; done) | (go_simp; rfl)); intro g2 hg w7 hbox hb; have n0_ := am (below_step HB.out hb); have n1_ := am hbox; have GE2 := am ((by rw [hg]; exact below_size HB.out) : w.heap.size ≤ g2); have GL2 := am ((Nat.le_of_eq hg.symm)); have n2_ := am (Kd.R_below (Kd.R_elderB HO.out g2 (Nat.le_of_eq hg.symm)) hb); clear HB HO; have HB := n0_; have BK2 := n1_; have HO := n2_; clear n0_ n1_ n2_; obtain ⟨hczg2_0, hczg2_1, hczg2_2, hczg2_3, hczg2_4⟩ := b5 hbox; obtain ⟨hfzg2_0, hfzg2_1, hfzg2_2, hfzg2_3, hfzg2_4⟩ := f5 hbox; clear hb hbox hg) | ((with_reducible refine gate_callee (f := 61) rfl ?_); refine goesL_ (some 43) rfl rfl Try.func61 (by kernel_rfl) rfl #[.agg #[.int .i64 (rd_T69 (rd_T73 l0 (i : Int)).f0 (j : Int)).f0, .int .i64 (rd_T69 (rd_T73 l0 (i : Int)).f0 (j : Int)).f1.f0, .int .i64 (rd_T69 (rd_T73 l0 (i : Int)).f0 (j : Int)).f1.f1, .int .i64 (rd_T69 (rd_T73 l0 (i : Int)).f0 (j : Int)).f1.f2, .int .i64 (rd_T69 (rd_T73 l0 (i : Int)).f0 (j : Int)).f1.f3]] rfl (by (try simp only [List.map_toArray, List.map_cons, List.map_nil]); first | done | rfl) ?_; (with_reducible refine (spec_l2Page.calls _ _ _ _ _ _ _ hkp.out).mono ?_); rintro e w8 ⟨rfl, hb⟩; refine ⟨_, rfl, ?_⟩; have n0_ := am (below_step (bg1 HB.out GE2.out) hb); have n1_ := am (put5_ BK2.out hb); have n2_ := am (far5_ HO.out (fun _ hk => hk.2) hb); clear HB BK2 HO; have HB := n0_; have BK2 := n1_; have HO := n2_; clear n0_ n1_ n2_; clear hb hczg2_0 hfzg2_0 hczg2_1 hfzg2_1 hczg2_2 hfzg2_2 hczg2_3 hfzg2_3 hczg2_4 hfzg2_4; have hy2_0 := (blk_cell BK2.out 0).trans rfl; have hy2_1 := (blk_cell BK2.out 1).trans rfl; have hy2_2 := (blk_cell BK2.out 2).trans rfl; have hy2_3 := (blk_cell BK2.out 3).trans rfl; have hy2_4 := (blk_cell BK2.out 4).trans rfl; have hz0 := up HB.out HX0.out; have hz1 := up HB.out HX1.out; have hzp := up HB.out HXP.out))
       refine spec_FlashOk_mark w _ go cv V2 g2 _ _ _ _ _ false cs0 ⟨Kd.R_mono HO.out (fun _ _ => trivial)⟩ HV2.out.1 BK2 HB HS0.out HS1.out hv.out _ ?_ ?_
       · intro c_ a_ b_ w_ hd_ h_
         cases a_
         cases b_
         cases hd_
         exact h_
       intro x80 x81 x82 x83 x84 x85 x86 x87 x88 x89 x90 x91 x92 x93 x94 x95 w9 hr9 hb9
       go_wp2
       go_roundg k2
       case measure => omega
       case rel => exact ⟨j + 1, _, S2, by first | rfl | (simp; done) | (simp [*]; done), ⟨by have := HK2.out; omega⟩, ⟨by have := CJ.out; omega⟩, HQ3, ⟨HT.out⟩, ⟨hr9⟩, ⟨hb9⟩⟩
     have cs0 : ((rd_T69 (rd_T73 l0 (i : Int)).f0 (j : Int)).f0 == 1) = true := beq_iff_eq.mpr cs
     have cs1 : ((rd_T69 (rd_T73 l0 (i : Int)).f0 (j : Int)).f0 != 1) = false := bne_eq_false_iff_eq.mpr cs
     rw [if_pos cs] at HQ2
     have HS3 := hsq.2.2.2 cs
     have p9 : (0 ≤ (rd_T69 (rd_T73 l0 (i : Int)).f0 (j : Int)).f1.f1) = True := eq_true hsq.1
     have q9 : ((rd_T69 (rd_T73 l0 (i : Int)).f0 (j : Int)).f1.f1 < 601) = True := eq_true (by have := hsq.2.1; omega)
     clear cs
     by_cases hm : (rd_T69 (rd_T73 l0 (i : Int)).f0 (j : Int)).f1.f1 ∈ S2
     · rw [if_pos hm] at HQ2
       have HN := am HQ2.symm
       have hv := am (hvr.trans (decide_eq_true hm))
       clear HQ2 hm hvr hsq HS3
       go_wp2_with (first | ((with_reducible refine gate_dst (N := 6) rfl ?_); refine box_event ?hg (N := 6) ?hd (cs := #[.int .i64 0, .int .i64 0, .int .i64 0, .int .i64 0, .int .i64 0]) (t := 69) ?hr ?_; (case hd => rfl); (case hg => rfl); (case hr => first | (go_simp; done) | (go_simp; rfl)); intro g2 hg w7 hbox hb; have n0_ := am (below_step HB.out hb); have n1_ := am hbox; have GE2 := am ((by rw [hg]; exact below_size HB.out) : w.heap.size ≤ g2); have GL2 := am ((Nat.le_of_eq hg.symm)); have n2_ := am (Kd.R_below (Kd.R_elderB HO.out g2 (Nat.le_of_eq hg.symm)) hb); clear HB HO; have HB := n0_; have BK2 := n1_; have HO := n2_; clear n0_ n1_ n2_; obtain ⟨hczg2_0, hczg2_1, hczg2_2, hczg2_3, hczg2_4⟩ := b5 hbox; obtain ⟨hfzg2_0, hfzg2_1, hfzg2_2, hfzg2_3, hfzg2_4⟩ := f5 hbox; clear hb hbox hg) | ((with_reducible refine gate_callee (f := 61) rfl ?_); refine goesL_ (some 43) rfl rfl Try.func61 (by kernel_rfl) rfl #[.agg #[.int .i64 (rd_T69 (rd_T73 l0 (i : Int)).f0 (j : Int)).f0, .int .i64 (rd_T69 (rd_T73 l0 (i : Int)).f0 (j : Int)).f1.f0, .int .i64 (rd_T69 (rd_T73 l0 (i : Int)).f0 (j : Int)).f1.f1, .int .i64 (rd_T69 (rd_T73 l0 (i : Int)).f0 (j : Int)).f1.f2, .int .i64 (rd_T69 (rd_T73 l0 (i : Int)).f0 (j : Int)).f1.f3]] rfl (by (try simp only [List.map_toArray, List.map_cons, List.map_nil]); first | done | rfl) ?_; (with_reducible refine (spec_l2Page.calls _ _ _ _ _ _ _ hkp.out).mono ?_); rintro e w8 ⟨rfl, hb⟩; refine ⟨_, rfl, ?_⟩; have n0_ := am (below_step (bg1 HB.out GE2.out) hb); have n1_ := am (put5_ BK2.out hb); have n2_ := am (far5_ HO.out (fun _ hk => hk.2) hb); clear HB BK2 HO; have HB := n0_; have BK2 := n1_; have HO := n2_; clear n0_ n1_ n2_; clear hb hczg2_0 hfzg2_0 hczg2_1 hfzg2_1 hczg2_2 hfzg2_2 hczg2_3 hfzg2_3 hczg2_4 hfzg2_4; have hy2_0 := (blk_cell BK2.out 0).trans rfl; have hy2_1 := (blk_cell BK2.out 1).trans rfl; have hy2_2 := (blk_cell BK2.out 2).trans rfl; have hy2_3 := (blk_cell BK2.out 3).trans rfl; have hy2_4 := (blk_cell BK2.out 4).trans rfl; obtain ⟨ad9, e9, hx9⟩ := Kd.at_bool (Kd.R_reads' HO.out).2.2 (rd_T69 (rd_T73 l0 (i : Int)).f0 (j : Int)).f1.f1 HS0.out HS1.out; (rw [hv.out] at hx9); obtain rfl : ad9 = ⟨go, 0, none⟩ := (by injection e9 with e; exact e.symm); simp only [add_plain] at hx9; have hz0 := up HB.out HX0.out; have hz1 := up HB.out HX1.out; have hzp := up HB.out HXP.out))
       go_ret
       exact ⟨by rw [flash_false CI.out HP.out (HN.out)]; rfl, bg1 HB.out GE2.out⟩
     rw [if_neg hm] at HQ2
     have HQ3 := am (HQ2)
     have hv := am (hvr.trans (decide_eq_false hm))
     have HT := am (HV2.out.add HS3 hsq.2.1)
     clear HQ2 hm hvr hsq HS3
     go_wp2_with (first | ((with_reducible refine gate_dst (N := 6) rfl ?_); refine box_event ?hg (N := 6) ?hd (cs := #[.int .i64 0, .int .i64 0, .int .i64 0, .int .i64 0, .int .i64 0]) (t := 69) ?hr ?_; (case hd => rfl); (case hg => rfl); (case hr => first | (go_simp; done) | (go_simp; rfl)); intro g2 hg w7 hbox hb; have n0_ := am (below_step HB.out hb); have n1_ := am hbox; have GE2 := am ((by rw [hg]; exact below_size HB.out) : w.heap.size ≤ g2); have GL2 := am ((Nat.le_of_eq hg.symm)); have n2_ := am (Kd.R_below (Kd.R_elderB HO.out g2 (Nat.le_of_eq hg.symm)) hb); clear HB HO; have HB := n0_; have BK2 := n1_; have HO := n2_; clear n0_ n1_ n2_; obtain ⟨hczg2_0, hczg2_1, hczg2_2, hczg2_3, hczg2_4⟩ := b5 hbox; obtain ⟨hfzg2_0, hfzg2_1, hfzg2_2, hfzg2_3, hfzg2_4⟩ := f5 hbox; clear hb hbox hg) | ((with_reducible refine gate_callee (f := 61) rfl ?_); refine goesL_ (some 43) rfl rfl Try.func61 (by kernel_rfl) rfl #[.agg #[.int .i64 (rd_T69 (rd_T73 l0 (i : Int)).f0 (j : Int)).f0, .int .i64 (rd_T69 (rd_T73 l0 (i : Int)).f0 (j : Int)).f1.f0, .int .i64 (rd_T69 (rd_T73 l0 (i : Int)).f0 (j : Int)).f1.f1, .int .i64 (rd_T69 (rd_T73 l0 (i : Int)).f0 (j : Int)).f1.f2, .int .i64 (rd_T69 (rd_T73 l0 (i : Int)).f0 (j : Int)).f1.f3]] rfl (by (try simp only [List.map_toArray, List.map_cons, List.map_nil]); first | done | rfl) ?_; (with_reducible refine (spec_l2Page.calls _ _ _ _ _ _ _ hkp.out).mono ?_); rintro e w8 ⟨rfl, hb⟩; refine ⟨_, rfl, ?_⟩; have n0_ := am (below_step (bg1 HB.out GE2.out) hb); have n1_ := am (put5_ BK2.out hb); have n2_ := am (far5_ HO.out (fun _ hk => hk.2) hb); clear HB BK2 HO; have HB := n0_; have BK2 := n1_; have HO := n2_; clear n0_ n1_ n2_; clear hb hczg2_0 hfzg2_0 hczg2_1 hfzg2_1 hczg2_2 hfzg2_2 hczg2_3 hfzg2_3 hczg2_4 hfzg2_4; have hy2_0 := (blk_cell BK2.out 0).trans rfl; have hy2_1 := (blk_cell BK2.out 1).trans rfl; have hy2_2 := (blk_cell BK2.out 2).trans rfl; have hy2_3 := (blk_cell BK2.out 3).trans rfl; have hy2_4 := (blk_cell BK2.out 4).trans rfl; obtain ⟨ad9, e9, hx9⟩ := Kd.at_bool (Kd.R_reads' HO.out).2.2 (rd_T69 (rd_T73 l0 (i : Int)).f0 (j : Int)).f1.f1 HS0.out HS1.out; (rw [hv.out] at hx9); obtain rfl : ad9 = ⟨go, 0, none⟩ := (by injection e9 with e; exact e.symm); simp only [add_plain] at hx9; have hz0 := up HB.out HX0.out; have hz1 := up HB.out HX1.out; have hzp := up HB.out HXP.out))
     refine spec_FlashOk_mark w _ go cv V2 g2 _ _ _ _ _ true cs0 ⟨Kd.R_mono HO.out (fun _ _ => trivial)⟩ HV2.out.1 BK2 HB HS0.out HS1.out hv.out _ ?_ ?_
     · intro c_ a_ b_ w_ hd_ h_
       cases a_
       cases b_
       cases hd_
       exact h_
     intro x80 x81 x82 x83 x84 x85 x86 x87 x88 x89 x90 x91 x92 x93 x94 x95 w9 hr9 hb9
     go_wp2
     go_roundg k2
     case measure => omega
     case rel => exact ⟨j + 1, _, _ :: S2, by first | rfl | (simp; done) | (simp [*]; done), ⟨by have := HK2.out; omega⟩, ⟨by have := CJ.out; omega⟩, HQ3, ⟨HT.out⟩, ⟨hr9⟩, ⟨hb9⟩⟩
def spec_l3Most.l0 : Nat → Int → Int → List (S69) → Int → Option (Int)
 | 0, _, _, _, _ => none
 | k + 1, x3, x4, x112000, x112001 => if x4 < (x112000.length : Int) then (if 0 ≤ x4 then (spec_l3Most.l0 k (mx x3 ((rd_T69 x112000 x4).f1.f1)) (wrap64 (x4 + 1)) x112000 x112001) else (none)) else (some x3)
def spec_l3Most.f (k : Nat) (l0_0 : List (S69)) (a0_1 : Int) : Option (Int) := spec_l3Most.l0 k 0 0 l0_0 a0_1
theorem spec_l3Most.calls (k : Nat) (A0_0 : Option Addr) (c0_0 : Nat) (l0_0 : List (S69)) (a0_1 : Int) (r : Int) (w : World) (hr0_0 : Kd.C k69 w A0_0 l0_0.length l0_0) (hc0_0 : l0_0.length ≤ c0_0) (h : spec_l3Most.f k l0_0 a0_1 = some r) :
 Calls Try.prog 42 #[.agg #[.slice A0_0 l0_0.length c0_0, .int .i64 a0_1]] w fun e w' => e = .returned (.int .i64 r) ∧ Below w.heap.size w w' := by
 have hu73 := Try.underlying73
 have HR0_0 := am hr0_0
 have HC0_0 := am hc0_0
 clear hr0_0 hc0_0
 have HB := am (Below.refl w.heap.size w)
 have H : (spec_l3Most.l0 k 0 0 l0_0 a0_1) = some r := h
 clear h
 have H' := am H
 clear H
 go_enter Try.func42, Try.ntmps42
 go_wp2_with (first | (refine bx 1 #[.slice A0_0 l0_0.length c0_0, .int .i64 a0_1] 73 rfl ?_; intro gb111 hg w2 hbox hb; have BK111 := am (hbox); have GW111 := am (ge hg (ph HB.out)); have GE111 := GW111; replace HB := am (below_step (ph HB.out) hb); clear hb hbox hg))
 go_loopg [3, 4] k (fun kq v3 v4 w' => ∃ (x3_1 : Int) (x4_1 : Int), v3 = .int .i64 x3_1 ∧ v4 = .int .i64 x4_1 ∧ Aside0 (spec_l3Most.l0 kq x3_1 x4_1 l0_0 a0_1 = some r) ∧ Aside0 (kq ≤ k) ∧ Aside0 (w'.heap[gb111]? = some (.cells #[(.slice A0_0 l0_0.length c0_0), .int .i64 a0_1] 73 (0, 0))) ∧ Aside0 (Below w.heap.size w w'))
 case atStart => exact ⟨(0), (0), rf, rf, H', ⟨Nat.le_refl _⟩, ⟨pb BK111.out⟩, ⟨bg1 HB.out GE111.out⟩⟩
 case round =>
  clear H'
  obtain ⟨x3_1, x4_1, rfl, rfl, HA, HK1, BK111, HB⟩ := hrel
  cases gk with
  | zero => exact absurd HA.out (by simp [spec_l3Most.l0])
  | succ k1 =>
   have H := HA.out
   clear HA
   simp only [spec_l3Most.l0] at H
   by_cases c3 : x4_1 < (l0_0.length : Int)
   rotate_left
   · rw [if_neg c3] at H
     have c3b0 := decide_eq_false c3
     clear c3
     obtain rfl := Option.some.inj H
     obtain ⟨hcz7_0, hcz7_1⟩ := b2 BK111.out
     obtain ⟨hfz7_0, hfz7_1⟩ := f2 BK111.out
     go_wp2
     go_ret
     exact (rq (bg1 HB.out GE111.out))
   rw [if_pos c3] at H
   have c3b0 := decide_eq_true c3
   clear c3
   obtain ⟨c4b0, H⟩ := ifd H
   obtain ⟨ji5, hji5⟩ : ∃ j_ : Int, (mx x3_1 ((rd_T69 l0_0 x4_1).f1.f1)) = j_ := ⟨_, rfl⟩
   replace H : (spec_l3Most.l0 k1 ji5 (wrap64 (x4_1 + 1)) l0_0 a0_1) = some r := by first | (rw [hji5] at H; exact H) | (simp only [hji5] at H ⊢; exact H)
   have hji5_ : (if x3_1 < ((rd_T69 l0_0 x4_1).f1.f1) then ((rd_T69 l0_0 x4_1).f1.f1) else x3_1) = ji5 := hji5
   have H' := am H
   clear H
   obtain ⟨hcz6_0, hcz6_1⟩ := b2 BK111.out
   obtain ⟨hfz6_0, hfz6_1⟩ := f2 BK111.out
   have p112 : 0 ≤ (x4_1 : Int) := ofb
   have q112 : x4_1 < (l0_0.length : Int) := ofb
   obtain ⟨ad112, e112, hx112_0, hx112_1, hx112_2, hx112_3, hx112_4⟩ := at_T69 HR0_0.out x4_1 p112 q112
   cases e112
   replace hx112_0 := up HB.out hx112_0
   replace hx112_1 := up HB.out hx112_1
   replace hx112_2 := up HB.out hx112_2
   replace hx112_3 := up HB.out hx112_3
   replace hx112_4 := up HB.out hx112_4
   replace p112 := eq_true p112
   replace q112 := eq_true q112
   go_wp2
   go_roundg k1
   case measure => have := HK1.out; omega
   case rel => exact ⟨(ji5), (wrap64 (x4_1 + 1)), (by first | rfl | (simp; done) | (simp only [← hji5] <;> (first | rfl | simp)) | (simp [*]; done)), rf, H', ⟨by have := HK1.out; omega⟩, ⟨pb BK111.out⟩, ⟨bg1 HB.out GE111.out⟩⟩
def spec_l3Least.l0 : Nat → Int → Int → List (S69) → Int → Option (Int)
 | 0, _, _, _, _ => none
 | k + 1, x3, x4, x114000, x114001 => if x4 < (x114000.length : Int) then (if 0 ≤ x4 then (if ((rd_T69 x114000 x4).f1.f1) > 0 then (if x3 = 0 then (spec_l3Least.l0 k ((rd_T69 x114000 x4).f1.f1) (wrap64 (x4 + 1)) x114000 x114001) else (if ((rd_T69 x114000 x4).f1.f1) < x3 then (spec_l3Least.l0 k ((rd_T69 x114000 x4).f1.f1) (wrap64 (x4 + 1)) x114000 x114001) else (spec_l3Least.l0 k x3 (wrap64 (x4 + 1)) x114000 x114001))) else (spec_l3Least.l0 k x3 (wrap64 (x4 + 1)) x114000 x114001)) else (none)) else (some x3)
def spec_l3Least.f (k : Nat) (l0_0 : List (S69)) (a0_1 : Int) : Option (Int) := spec_l3Least.l0 k 0 0 l0_0 a0_1
theorem spec_l3Least.calls (k : Nat) (A0_0 : Option Addr) (c0_0 : Nat) (l0_0 : List (S69)) (a0_1 : Int) (r : Int) (w : World) (hr0_0 : Kd.C k69 w A0_0 l0_0.length l0_0) (hc0_0 : l0_0.length ≤ c0_0) (h : spec_l3Least.f k l0_0 a0_1 = some r) :
 Calls Try.prog 43 #[.agg #[.slice A0_0 l0_0.length c0_0, .int .i64 a0_1]] w fun e w' => e = .returned (.int .i64 r) ∧ Below w.heap.size w w' := by
 have hu73 := Try.underlying73
 have HR0_0 := am hr0_0
 have HC0_0 := am hc0_0
 clear hr0_0 hc0_0
 have HB := am (Below.refl w.heap.size w)
 have H : (spec_l3Least.l0 k 0 0 l0_0 a0_1) = some r := h
 clear h
 have H' := am H
 clear H
 go_enter Try.func43, Try.ntmps43
 go_wp2_with (first | (refine bx 1 #[.slice A0_0 l0_0.length c0_0, .int .i64 a0_1] 73 rfl ?_; intro gb113 hg w2 hbox hb; have BK113 := am (hbox); have GW113 := am (ge hg (ph HB.out)); have GE113 := GW113; replace HB := am (below_step (ph HB.out) hb); clear hb hbox hg))
 go_loopg [3, 4] k (fun kq v3 v4 w' => ∃ (x3_1 : Int) (x4_1 : Int), v3 = .int .i64 x3_1 ∧ v4 = .int .i64 x4_1 ∧ Aside0 (spec_l3Least.l0 kq x3_1 x4_1 l0_0 a0_1 = some r) ∧ Aside0 (kq ≤ k) ∧ Aside0 (w'.heap[gb113]? = some (.cells #[(.slice A0_0 l0_0.length c0_0), .int .i64 a0_1] 73 (0, 0))) ∧ Aside0 (Below w.heap.size w w'))
 case atStart => exact ⟨(0), (0), rf, rf, H', ⟨Nat.le_refl _⟩, ⟨pb BK113.out⟩, ⟨bg1 HB.out GE113.out⟩⟩
 case round =>
  clear H'
  obtain ⟨x3_1, x4_1, rfl, rfl, HA, HK1, BK113, HB⟩ := hrel
  cases gk with
  | zero => exact absurd HA.out (by simp [spec_l3Least.l0])
  | succ k1 =>
   have H := HA.out
   clear HA
   simp only [spec_l3Least.l0] at H
   by_cases c3 : x4_1 < (l0_0.length : Int)
   rotate_left
   · rw [if_neg c3] at H
     have c3b0 := decide_eq_false c3
     clear c3
     obtain rfl := Option.some.inj H
     obtain ⟨hcz12_0, hcz12_1⟩ := b2 BK113.out
     obtain ⟨hfz12_0, hfz12_1⟩ := f2 BK113.out
     go_wp2
     go_ret
     exact (rq (bg1 HB.out GE113.out))
   rw [if_pos c3] at H
   have c3b0 := decide_eq_true c3
   clear c3
   obtain ⟨c4b0, H⟩ := ifd H
   by_cases c5 : ((rd_T69 l0_0 x4_1).f1.f1) > 0
   rotate_left
   · rw [if_neg c5] at H
     have c5b0 := decide_eq_false c5
     clear c5
     have H' := am H
     clear H
     obtain ⟨hcz11_0, hcz11_1⟩ := b2 BK113.out
     obtain ⟨hfz11_0, hfz11_1⟩ := f2 BK113.out
     have p114 : 0 ≤ (x4_1 : Int) := ofb
     have q114 : x4_1 < (l0_0.length : Int) := ofb
     obtain ⟨ad114, e114, hx114_0, hx114_1, hx114_2, hx114_3, hx114_4⟩ := at_T69 HR0_0.out x4_1 p114 q114
     cases e114
     replace hx114_0 := up HB.out hx114_0
     replace hx114_1 := up HB.out hx114_1
     replace hx114_2 := up HB.out hx114_2
     replace hx114_3 := up HB.out hx114_3
     replace hx114_4 := up HB.out hx114_4
     replace p114 := eq_true p114
     replace q114 := eq_true q114
     go_wp2
     go_roundg k1
     case measure => have := HK1.out; omega
     case rel => exact ⟨(x3_1), (wrap64 (x4_1 + 1)), rf, rf, H', ⟨by have := HK1.out; omega⟩, ⟨pb BK113.out⟩, ⟨bg1 HB.out GE113.out⟩⟩
   rw [if_pos c5] at H
   have c5b0 := decide_eq_true c5
   clear c5
   by_cases c6 : x3_1 = 0
   · rw [if_pos c6] at H
     have c6b0 : (x3_1 == 0) = true := beq_iff_eq.mpr c6
     have c6b1 : (x3_1 != 0) = false := bne_eq_false_iff_eq.mpr c6
     clear c6
     have H' := am H
     clear H
     obtain ⟨hcz7_0, hcz7_1⟩ := b2 BK113.out
     obtain ⟨hfz7_0, hfz7_1⟩ := f2 BK113.out
     have p114 : 0 ≤ (x4_1 : Int) := ofb
     have q114 : x4_1 < (l0_0.length : Int) := ofb
     obtain ⟨ad114, e114, hx114_0, hx114_1, hx114_2, hx114_3, hx114_4⟩ := at_T69 HR0_0.out x4_1 p114 q114
     cases e114
     replace hx114_0 := up HB.out hx114_0
     replace hx114_1 := up HB.out hx114_1
     replace hx114_2 := up HB.out hx114_2
     replace hx114_3 := up HB.out hx114_3
     replace hx114_4 := up HB.out hx114_4
     replace p114 := eq_true p114
     replace q114 := eq_true q114
     go_wp2
     go_roundg k1
     case measure => have := HK1.out; omega
     case rel => exact ⟨((rd_T69 l0_0 x4_1).f1.f1), (wrap64 (x4_1 + 1)), rf, rf, H', ⟨by have := HK1.out; omega⟩, ⟨pb BK113.out⟩, ⟨bg1 HB.out GE113.out⟩⟩
   rw [if_neg c6] at H
   have c6b0 : (x3_1 == 0) = false := beq_eq_false_iff_ne.mpr c6
   have c6b1 : (x3_1 != 0) = true := bne_iff_ne.mpr c6
   by_cases c8 : ((rd_T69 l0_0 x4_1).f1.f1) < x3_1
   rotate_left
   · rw [if_neg c8] at H
     have c8b0 := decide_eq_false c8
     clear c8
     have H' := am H
     clear H
     obtain ⟨hcz10_0, hcz10_1⟩ := b2 BK113.out
     obtain ⟨hfz10_0, hfz10_1⟩ := f2 BK113.out
     have p114 : 0 ≤ (x4_1 : Int) := ofb
     have q114 : x4_1 < (l0_0.length : Int) := ofb
     obtain ⟨ad114, e114, hx114_0, hx114_1, hx114_2, hx114_3, hx114_4⟩ := at_T69 HR0_0.out x4_1 p114 q114
     cases e114
     replace hx114_0 := up HB.out hx114_0
     replace hx114_1 := up HB.out hx114_1
     replace hx114_2 := up HB.out hx114_2
     replace hx114_3 := up HB.out hx114_3
     replace hx114_4 := up HB.out hx114_4
     replace p114 := eq_true p114
     replace q114 := eq_true q114
     go_wp2
     go_roundg k1
     case measure => have := HK1.out; omega
     case rel => exact ⟨(x3_1), (wrap64 (x4_1 + 1)), rf, rf, H', ⟨by have := HK1.out; omega⟩, ⟨pb BK113.out⟩, ⟨bg1 HB.out GE113.out⟩⟩
   rw [if_pos c8] at H
   have c8b0 := decide_eq_true c8
   clear c8
   have H' := am H
   clear H
   obtain ⟨hcz9_0, hcz9_1⟩ := b2 BK113.out
   obtain ⟨hfz9_0, hfz9_1⟩ := f2 BK113.out
   have p114 : 0 ≤ (x4_1 : Int) := ofb
   have q114 : x4_1 < (l0_0.length : Int) := ofb
   obtain ⟨ad114, e114, hx114_0, hx114_1, hx114_2, hx114_3, hx114_4⟩ := at_T69 HR0_0.out x4_1 p114 q114
   cases e114
   replace hx114_0 := up HB.out hx114_0
   replace hx114_1 := up HB.out hx114_1
   replace hx114_2 := up HB.out hx114_2
   replace hx114_3 := up HB.out hx114_3
   replace hx114_4 := up HB.out hx114_4
   replace p114 := eq_true p114
   replace q114 := eq_true q114
   go_wp2
   go_roundg k1
   case measure => have := HK1.out; omega
   case rel => exact ⟨((rd_T69 l0_0 x4_1).f1.f1), (wrap64 (x4_1 + 1)), rf, rf, H', ⟨by have := HK1.out; omega⟩, ⟨pb BK113.out⟩, ⟨bg1 HB.out GE113.out⟩⟩
def spec_l2Clean.l0 : Nat → Int → Int → List (S69) → Int → Option (Int)
 | 0, _, _, _, _ => none
 | k + 1, x3, x4, x116000, x116001 => if x4 < (x116000.length : Int) then (if 0 ≤ x4 then (if ((rd_T69 x116000 x4).f0) = 0 then (spec_l2Clean.l0 k (wrap64 (x3 + 1)) (wrap64 (x4 + 1)) x116000 x116001) else (spec_l2Clean.l0 k x3 (wrap64 (x4 + 1)) x116000 x116001)) else (none)) else (some x3)
def spec_l2Clean.f (k : Nat) (l0_0 : List (S69)) (a0_1 : Int) : Option (Int) := spec_l2Clean.l0 k 0 0 l0_0 a0_1
theorem spec_l2Clean.calls (k : Nat) (A0_0 : Option Addr) (c0_0 : Nat) (l0_0 : List (S69)) (a0_1 : Int) (r : Int) (w : World) (hr0_0 : Kd.C k69 w A0_0 l0_0.length l0_0) (hc0_0 : l0_0.length ≤ c0_0) (h : spec_l2Clean.f k l0_0 a0_1 = some r) :
 Calls Try.prog 44 #[.agg #[.slice A0_0 l0_0.length c0_0, .int .i64 a0_1]] w fun e w' => e = .returned (.int .i64 r) ∧ Below w.heap.size w w' := by
 have hu73 := Try.underlying73
 have HR0_0 := am hr0_0
 have HC0_0 := am hc0_0
 clear hr0_0 hc0_0
 have HB := am (Below.refl w.heap.size w)
 have H : (spec_l2Clean.l0 k 0 0 l0_0 a0_1) = some r := h
 clear h
 have H' := am H
 clear H
 go_enter Try.func44, Try.ntmps44
 go_wp2_with (first | (refine bx 1 #[.slice A0_0 l0_0.length c0_0, .int .i64 a0_1] 73 rfl ?_; intro gb115 hg w2 hbox hb; have BK115 := am (hbox); have GW115 := am (ge hg (ph HB.out)); have GE115 := GW115; replace HB := am (below_step (ph HB.out) hb); clear hb hbox hg))
 go_loopg [3, 4] k (fun kq v3 v4 w' => ∃ (x3_1 : Int) (x4_1 : Int), v3 = .int .i64 x3_1 ∧ v4 = .int .i64 x4_1 ∧ Aside0 (spec_l2Clean.l0 kq x3_1 x4_1 l0_0 a0_1 = some r) ∧ Aside0 (kq ≤ k) ∧ Aside0 (w'.heap[gb115]? = some (.cells #[(.slice A0_0 l0_0.length c0_0), .int .i64 a0_1] 73 (0, 0))) ∧ Aside0 (Below w.heap.size w w'))
 case atStart => exact ⟨(0), (0), rf, rf, H', ⟨Nat.le_refl _⟩, ⟨pb BK115.out⟩, ⟨bg1 HB.out GE115.out⟩⟩
 case round =>
  clear H'
  obtain ⟨x3_1, x4_1, rfl, rfl, HA, HK1, BK115, HB⟩ := hrel
  cases gk with
  | zero => exact absurd HA.out (by simp [spec_l2Clean.l0])
  | succ k1 =>
   have H := HA.out
   clear HA
   simp only [spec_l2Clean.l0] at H
   by_cases c3 : x4_1 < (l0_0.length : Int)
   rotate_left
   · rw [if_neg c3] at H
     have c3b0 := decide_eq_false c3
     clear c3
     obtain rfl := Option.some.inj H
     obtain ⟨hcz8_0, hcz8_1⟩ := b2 BK115.out
     obtain ⟨hfz8_0, hfz8_1⟩ := f2 BK115.out
     go_wp2
     go_ret
     exact (rq (bg1 HB.out GE115.out))
   rw [if_pos c3] at H
   have c3b0 := decide_eq_true c3
   clear c3
   obtain ⟨c4b0, H⟩ := ifd H
   by_cases c5 : ((rd_T69 l0_0 x4_1).f0) = 0
   rotate_left
   · rw [if_neg c5] at H
     have c5b0 : (((rd_T69 l0_0 x4_1).f0) == 0) = false := beq_eq_false_iff_ne.mpr c5
     have c5b1 : (((rd_T69 l0_0 x4_1).f0) != 0) = true := bne_iff_ne.mpr c5
     have H' := am H
     clear H
     obtain ⟨hcz7_0, hcz7_1⟩ := b2 BK115.out
     obtain ⟨hfz7_0, hfz7_1⟩ := f2 BK115.out
     have p116 : 0 ≤ (x4_1 : Int) := ofb
     have q116 : x4_1 < (l0_0.length : Int) := ofb
     obtain ⟨ad116, e116, hx116_0, hx116_1, hx116_2, hx116_3, hx116_4⟩ := at_T69 HR0_0.out x4_1 p116 q116
     cases e116
     replace hx116_0 := up HB.out hx116_0
     replace hx116_1 := up HB.out hx116_1
     replace hx116_2 := up HB.out hx116_2
     replace hx116_3 := up HB.out hx116_3
     replace hx116_4 := up HB.out hx116_4
     replace p116 := eq_true p116
     replace q116 := eq_true q116
     go_wp2
     go_roundg k1
     case measure => have := HK1.out; omega
     case rel => exact ⟨(x3_1), (wrap64 (x4_1 + 1)), rf, rf, H', ⟨by have := HK1.out; omega⟩, ⟨pb BK115.out⟩, ⟨bg1 HB.out GE115.out⟩⟩
   rw [if_pos c5] at H
   have c5b0 : (((rd_T69 l0_0 x4_1).f0) == 0) = true := beq_iff_eq.mpr c5
   have c5b1 : (((rd_T69 l0_0 x4_1).f0) != 0) = false := bne_eq_false_iff_eq.mpr c5
   clear c5
   have H' := am H
   clear H
   obtain ⟨hcz6_0, hcz6_1⟩ := b2 BK115.out
   obtain ⟨hfz6_0, hfz6_1⟩ := f2 BK115.out
   have p116 : 0 ≤ (x4_1 : Int) := ofb
   have q116 : x4_1 < (l0_0.length : Int) := ofb
   obtain ⟨ad116, e116, hx116_0, hx116_1, hx116_2, hx116_3, hx116_4⟩ := at_T69 HR0_0.out x4_1 p116 q116
   cases e116
   replace hx116_0 := up HB.out hx116_0
   replace hx116_1 := up HB.out hx116_1
   replace hx116_2 := up HB.out hx116_2
   replace hx116_3 := up HB.out hx116_3
   replace hx116_4 := up HB.out hx116_4
   replace p116 := eq_true p116
   replace q116 := eq_true q116
   go_wp2
   go_roundg k1
   case measure => have := HK1.out; omega
   case rel => exact ⟨(wrap64 (x3_1 + 1)), (wrap64 (x4_1 + 1)), rf, rf, H', ⟨by have := HK1.out; omega⟩, ⟨pb BK115.out⟩, ⟨bg1 HB.out GE115.out⟩⟩
attribute [local go_sem] Oper.semAt_some
abbrev Spot := Nat × Nat × S69
def spotsB (i : Nat) : Nat → List S69 → List Spot
 | _, [] => []
 | j, p :: ps => (i, j, p) :: spotsB i (j + 1) ps
def spotsF : Nat → List S73 → List Spot
 | _, [] => []
 | i, b :: bs => spotsB i 0 b.f0 ++ spotsF (i + 1) bs
def pagesL (l : List S73) : List S69 := (spotsF 0 l).map (·.2.2)
abbrev spotArgs (x : Spot) : Array Value := #[.agg #[.int .i64 (x.1 : Int), .int .i64 (x.2.1 : Int)], .agg #[.int .i64 x.2.2.f0, .int .i64 x.2.2.f1.f0, .int .i64 x.2.2.f1.f1, .int .i64 x.2.2.f1.f2, .int .i64 x.2.2.f1.f3]]
theorem drop_pg {l : List S69} {i : Nat} (h : i < l.length) : l.drop i = rd_T69 l (i : Int) :: l.drop (i + 1) := by
 rw [List.drop_eq_getElem_cons h]
 simp [rd_T69, List.getD_eq_getElem?_getD, h]
theorem drop_bl {l : List S73} {i : Nat} (h : i < l.length) : l.drop i = rd_T73 l (i : Int) :: l.drop (i + 1) := by
 rw [List.drop_eq_getElem_cons h]
 simp [rd_T73, List.getD_eq_getElem?_getD, h]
theorem eachPage_in (F : Fence) (n : Nat) (hF : F.fn 33) (hro : F.round = none) (A : Option Addr) (len c : Nat) (w : World) :
 CallsIn F n Try.prog 33 #[.slice A len c] w fun e w' => e = .returned (.func (.func 54) #[] #[.pointer (some ⟨w.heap.size, 0, none⟩)]) ∧ w' = w.alloc (.cells #[.slice A len c] 23) := by
 refine callsIn_of_wp Try.func33 rfl hF ?_ hro
 simp only [Try.ntmps33, List.size_toArray, List.length_cons, List.length_nil, Nat.reduceAdd, Nat.reduceSub, Array.replicate_succ, Array.replicate_zero, List.push_toArray, List.append_toArray, List.nil_append, List.cons_append]
 gi_wp2
 go_ret
 exact ⟨rfl, rfl⟩
theorem eachPage1_in (F : Fence) (n : Nat) (hF : F.fn 54) (hro : F.round = none) (hn : 1 ≤ n) (T : Spot → Prop) (l Bf : Nat) (A0 : Option Addr) (c0 : Nat) (l0 : List S73) (w : World)
 (hr0 : Kd.C k73 w A0 l0.length l0) (hT : ∀ x ∈ spotsF 0 l0, T x) (J Jx : List {x : Spot // T x} → World → Prop) (W : World) (hJ : AbidesFrom W.heap.size J)
 (hY : ∀ pre x W1, J pre W1 → pre.length < (spotsF 0 l0).length → YieldAt F (n - 1) Try.prog l (spotArgs x.1) W1 fun e W' =>
  (e = .returned (.bool true) ∧ J (pre ++ [x]) W' ∧ Below w.heap.size W1 W') ∨ (e = .returned (.bool false) ∧ Jx (pre ++ [x]) W'))
 (hB : Below w.heap.size w W) (hBf : W.cell? ⟨Bf, 0, none⟩ = some (.slice A0 l0.length c0)) (h0 : J [] W) :
 CallsIn F n Try.prog 54 #[.func (.yield l) #[] #[], .pointer (some ⟨Bf, 0, none⟩)] W fun e W' => (∃ v, e = .returned v) ∧
  ((∃ ys, ys.map (·.1) = spotsF 0 l0 ∧ J ys W') ∨ (∃ pre, True ∧ Jx pre W')) := by
 have hJa : ∀ s A o, J s A → J s (A.alloc o) := fun s A o h => hJ s A _ none h (World.grownBy_alloc A o none) (by simp)
 have hBa : ∀ A o, Below w.heap.size w A → Below w.heap.size w (A.alloc o) := fun A o h => h.alloc h.size o
 have hlm := Kd.C_max hr0
 refine callsIn_of_wp Try.func54 rfl hF ?_ hro
 simp only [Try.ntmps54, List.size_toArray, List.length_cons, List.length_nil, Nat.reduceAdd, Nat.reduceSub, Array.replicate_succ, Array.replicate_zero, List.push_toArray, List.append_toArray, List.nil_append, List.cons_append]
 gi_wp2
 gi_loopw [9] (fun v9 wr => ∃ (i : Nat) (pre : List {x : Spot // T x}), v9 = .int .i64 (i : Int) ∧ i ≤ l0.length ∧ pre.map (·.1) ++ spotsF i (l0.drop i) = spotsF 0 l0 ∧ J pre wr ∧ Below w.heap.size w wr)
  (fun v9 _ => l0.length - (intOf v9).toNat)
 case atStart => exact ⟨0, [], rfl, Nat.zero_le _, rfl, h0, hB⟩
 case round =>
  obtain ⟨i, pre, rfl, hi, hp, hJs, hBs⟩ := hrel
  by_cases ci : i < l0.length
  rotate_left
  · obtain rfl : i = l0.length := by omega
    rw [List.drop_eq_nil_of_le (Nat.le_refl _), spotsF, List.append_nil] at hp
    gi_wp2
    go_end0
    exact ⟨⟨_, rfl⟩, .inl ⟨_, hp, hJs⟩⟩
  have cib : decide ((i : Int) < (l0.length : Int)) = true := decide_eq_true (by omega)
  have p1 : 0 ≤ (i : Int) := by omega
  have q1 : (i : Int) < (l0.length : Int) := by omega
  obtain ⟨ad1, A1, c1, e1, hx1_0, hx1_1, hl1, hi1⟩ := at_T73 hr0 (i : Int) p1 q1
  cases e1
  replace hx1_0 := (hBs.cell (World.block_lt_of_cell? w _ hx1_0)).trans hx1_0
  replace hx1_1 := (hBs.cell (World.block_lt_of_cell? w _ hx1_1)).trans hx1_1
  have hlm1 := Kd.C_max hi1
  simp only [Int.toNat_natCast] at hx1_0 hx1_1
  rw [drop_bl ci, spotsF] at hp
  generalize hbl : rd_T73 l0 (i : Int) = bl at hx1_0 hx1_1 hl1 hi1 hlm1 hp
  have hw9 : wrap64 ((i : Int) + 1) = ((i + 1 : Nat) : Int) := by rw [IntWalk.wrap64_in _ (by omega)]; omega
  gi_wp2
  gi_loopw [17] (fun v17 w2 => ∃ (j : Nat) (pre2 : List {x : Spot // T x}), v17 = .int .i64 (j : Int) ∧ j ≤ bl.f0.length ∧ pre2.map (·.1) ++ (spotsB i j (bl.f0.drop j) ++ spotsF (i + 1) (l0.drop (i + 1))) = spotsF 0 l0 ∧ J pre2 w2 ∧ Below w.heap.size w w2)
   (fun v17 _ => bl.f0.length - (intOf v17).toNat)
  case atStart => exact ⟨0, pre, rfl, Nat.zero_le _, hp, hJa _ _ _ hJs, hBa _ _ hBs⟩
  case round =>
   clear hx1_0 hx1_1 hJs hBs hp pre
   obtain ⟨j, pre2, rfl, hj, hp, hJs, hBs⟩ := hrel
   by_cases cj : j < bl.f0.length
   rotate_left
   · obtain rfl : j = bl.f0.length := by omega
     rw [List.drop_eq_nil_of_le (Nat.le_refl _), spotsB, List.nil_append] at hp
     gi_wp2
     go_roundw
     case rel => exact ⟨i + 1, pre2, by simp, by omega, hp, hJs, hBs⟩
     case measure => simp [intOf]; omega
   have cjb : decide ((j : Int) < (bl.f0.length : Int)) = true := decide_eq_true (by omega)
   have p2 : 0 ≤ (j : Int) := by omega
   have q2 : (j : Int) < (bl.f0.length : Int) := by omega
   obtain ⟨ad2, e2, hx2_0, hx2_1, hx2_2, hx2_3, hx2_4⟩ := at_T69 hi1 (j : Int) p2 q2
   cases e2
   replace hx2_0 := (hBs.cell (World.block_lt_of_cell? w _ hx2_0)).trans hx2_0
   replace hx2_1 := (hBs.cell (World.block_lt_of_cell? w _ hx2_1)).trans hx2_1
   replace hx2_2 := (hBs.cell (World.block_lt_of_cell? w _ hx2_2)).trans hx2_2
   replace hx2_3 := (hBs.cell (World.block_lt_of_cell? w _ hx2_3)).trans hx2_3
   replace hx2_4 := (hBs.cell (World.block_lt_of_cell? w _ hx2_4)).trans hx2_4
   simp only [Int.toNat_natCast] at hx2_0 hx2_1 hx2_2 hx2_3 hx2_4
   rw [drop_pg cj, spotsB] at hp
   generalize hpg : rd_T69 bl.f0 (j : Int) = pg at hx2_0 hx2_1 hx2_2 hx2_3 hx2_4 hp
   have hw17 : wrap64 ((j : Int) + 1) = ((j + 1 : Nat) : Int) := by rw [IntWalk.wrap64_in _ (by omega)]; omega
   have hTx : T (i, j, pg) := hT _ (by rw [← hp]; simp)
   have hlen : pre2.length < (spotsF 0 l0).length := by rw [← hp]; simp
   obtain ⟨fn, tmps, assign, body, hy, hR⟩ := hY pre2 ⟨(i, j, pg), hTx⟩ (wr.alloc (.cells #[.int .i64 pg.f0, .int .i64 pg.f1.f0, .int .i64 pg.f1.f1, .int .i64 pg.f1.f2, .int .i64 pg.f1.f3] 69)) (hJa _ _ _ hJs) hlen
   dsimp only [spotArgs] at hy
   gi_wp2
   refine hR.mono ?_
   rintro e W3 (⟨rfl, hJ3, hk3⟩ | ⟨rfl, hJx3⟩)
   · gi_wp2
     go_roundw
     case rel => exact ⟨j + 1, pre2 ++ [⟨(i, j, pg), hTx⟩], by simp, by omega, by rw [← hp]; simp, hJ3, (hBa _ _ hBs).trans hk3⟩
     case measure => simp [intOf]; omega
   · gi_wp2
     refine bodyPost_ret (results_none rfl _ _ _) rfl ?_
     exact ⟨⟨_, rfl⟩, .inr ⟨_, trivial, hJx3⟩⟩
theorem eachPage_stops (F : Fence) (n : Nat) (hF : F.fn 54) (hro : F.round = none) (hn : 1 ≤ n) (T : Spot → Prop) (Bf : Nat) (A0 : Option Addr) (c0 : Nat) (l0 : List S73) (w W0 : World)
 (hr0 : Kd.C k73 w A0 l0.length l0) (hT : ∀ x ∈ spotsF 0 l0, T x) (hB : Below w.heap.size w W0) (hBf : W0.cell? ⟨Bf, 0, none⟩ = some (.slice A0 l0.length c0)) :
 SeqStopsK F n Try.prog 54 #[.pointer (some ⟨Bf, 0, none⟩)] (fun x : {x : Spot // T x} => spotArgs x.1) (Below w.heap.size) (fun ys => ys.map (·.1) = spotsF 0 l0) (fun _ => True) (spotsF 0 l0).length W0 := fun l J Jx W hW hJ _ hY h0 =>
 eachPage1_in F n hF hro hn T l Bf A0 c0 l0 w hr0 hT J Jx W hJ hY (hB.trans (hW.mono hB.size)) ((hW.cell (p := ⟨Bf, 0, none⟩) (World.block_lt_of_cell? W0 _ hBf)).trans hBf) h0
def PageBox (W : World) (B : Nat) (p : S69) : Prop := W.heap[B]? = some (.cells #[.int .i64 p.f0, .int .i64 p.f1.f0, .int .i64 p.f1.f1, .int .i64 p.f1.f2, .int .i64 p.f1.f3] 69 (0, 0))
theorem PageBox.own (B : Nat) (b : Nat) (p : S69) : OwnFrom b (fun (_ : Unit) W => PageBox W B p) := Own.from (fun s X Y row hs hg hrow => (hg.block B (Array.getElem?_eq_some_iff.1 hs).1 (fun e => by obtain ⟨o, ho, hc⟩ := hrow B e.symm; rw [show X.heap[B]? = _ from hs] at ho; cases ho; cases hc)).trans hs) _
theorem PageBox.cells {W : World} {B : Nat} {p : S69} (h : PageBox W B p) : W.cell? ⟨B, 0, none⟩ = some (.int .i64 p.f0) ∧ W.cell? ⟨B, 1, none⟩ = some (.int .i64 p.f1.f0) ∧ W.cell? ⟨B, 2, none⟩ = some (.int .i64 p.f1.f1) ∧ W.cell? ⟨B, 3, none⟩ = some (.int .i64 p.f1.f2) ∧ W.cell? ⟨B, 4, none⟩ = some (.int .i64 p.f1.f3) :=
 ⟨(blk_cell h 0).trans rfl, (blk_cell h 1).trans rfl, (blk_cell h 2).trans rfl, (blk_cell h 3).trans rfl, (blk_cell h 4).trans rfl⟩
abbrev AnyPage := {x : Spot // True}
def RecBox (W : World) (B : Nat) (r : S36) : Prop := W.heap[B]? = some (.cells #[.int .i64 r.f0, .int .i64 r.f1, .int .i64 r.f2, .int .i64 r.f3] 36 (0, 0))
abbrev set4 (W : World) (B : Nat) (r : S36) : World := (((W.setCell ⟨B, 0, none⟩ (.int .i64 r.f0)).setCell ⟨B, 1, none⟩ (.int .i64 r.f1)).setCell ⟨B, 2, none⟩ (.int .i64 r.f2)).setCell ⟨B, 3, none⟩ (.int .i64 r.f3)
theorem RecBox.own (B : Nat) {β : Type} (f : β → S36) : Own (fun s W => RecBox W B (f s)) := fun s X Y row hs hg hrow => (hg.block B (Array.getElem?_eq_some_iff.1 hs).1 (fun e => by obtain ⟨o, ho, hc⟩ := hrow B e.symm; rw [show X.heap[B]? = _ from hs] at ho; cases ho; cases hc)).trans hs
theorem RecBox.cells {W : World} {B : Nat} {r : S36} (h : RecBox W B r) : W.cell? ⟨B, 0, none⟩ = some (.int .i64 r.f0) ∧ W.cell? ⟨B, 1, none⟩ = some (.int .i64 r.f1) ∧ W.cell? ⟨B, 2, none⟩ = some (.int .i64 r.f2) ∧ W.cell? ⟨B, 3, none⟩ = some (.int .i64 r.f3) :=
 ⟨(blk_cell h 0).trans rfl, (blk_cell h 1).trans rfl, (blk_cell h 2).trans rfl, (blk_cell h 3).trans rfl⟩
theorem RecBox.frozen {W : World} {B : Nat} {r : S36} (h : RecBox W B r) (i : Nat) : W.frozen? ⟨B, i, none⟩ = false := blk_frozen h i
theorem RecBox.put {W : World} {B : Nat} {r : S36} (h : RecBox W B r) (s : S36) : RecBox (set4 W B s) B s := blk_put (blk_put (blk_put (blk_put h 0 _ rfl) 1 _ rfl) 2 _ rfl) 3 _ rfl
theorem RecBox.far {W : World} {B B' : Nat} {r : S36} (h : RecBox W B r) (hne : B ≠ B') (s : S36) : RecBox (set4 W B' s) B r := blk_far (blk_far (blk_far (blk_far h (p := ⟨B', 0, none⟩) hne _) (p := ⟨B', 1, none⟩) hne _) (p := ⟨B', 2, none⟩) hne _) (p := ⟨B', 3, none⟩) hne _
theorem Boxed.far4 {W : World} {B B' t : Nat} {v : Value} (h : Boxed W B t v) (hne : B ≠ B') (s : S36) : Boxed (set4 W B' s) B t v := blk_far (blk_far (blk_far (blk_far h (p := ⟨B', 0, none⟩) hne _) (p := ⟨B', 1, none⟩) hne _) (p := ⟨B', 2, none⟩) hne _) (p := ⟨B', 3, none⟩) hne _
theorem below_set4 {b : Nat} {w W : World} (h : Below b w W) {B : Nat} (hb : b ≤ B) (s : S36) : Below b w (set4 W B s) := (((h.setCell (p := ⟨B, 0, none⟩) hb _).setCell (p := ⟨B, 1, none⟩) hb _).setCell (p := ⟨B, 2, none⟩) hb _).setCell (p := ⟨B, 3, none⟩) hb _
theorem keeps_set4 (W : World) (B : Nat) (s : S36) : KeepsOthers W (set4 W B s) := (((KeepsOthers.setCell W _ _).trans (KeepsOthers.setCell _ _ _)).trans (KeepsOthers.setCell _ _ _)).trans (KeepsOthers.setCell _ _ _)
def freeQ : List S69 → Nat
 | [] => 0
 | p :: ps => (if p.f0 = 0 then 1 else 0) + freeQ ps
end Go.Proofs.Ytbhchamohldehaa.P4
