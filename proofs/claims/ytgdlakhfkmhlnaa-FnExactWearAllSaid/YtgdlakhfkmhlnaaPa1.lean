-- printed by wip/pp/pp.py
import Derived.Test.YtgdlakhfkmhlnaaPa0
import Derived.Test.YtgdlakhfkmhlnaaWShort
import Derived.IntWalk
namespace Go.Proofs.Ytgdlakhfkmhlnaa.Pa
open Go.RowKit Go.Proofs.YtgdlakhfkmhlnaaW.PrintWords Go.Proofs.YtgdlakhfkmhlnaaW.PrintLast Go.Proofs.YtgdlakhfkmhlnaaW.PrintMore
attribute [local go_sem] max2_int min2_int max_two min_two max_three min_three max_four min_four   -- for this text's walks alone
set_option linter.unusedVariables false
set_option linter.unusedSimpArgs false
theorem drop_T49s {l : List S49} {i : Nat} (h : i < l.length) : l.drop i = rd_T49 l (i : Int) :: l.drop (i + 1) := by
  rw [List.drop_eq_getElem_cons h]
  simp [rd_T49, List.getD_eq_getElem?_getD, h]
theorem drop_T36s {l : List S36} {i : Nat} (h : i < l.length) : l.drop i = rd_T36 l (i : Int) :: l.drop (i + 1) := by
  rw [List.drop_eq_getElem_cons h]
  simp [rd_T36, List.getD_eq_getElem?_getD, h]
theorem l6In_eqF (a b c : Int) : spec_l6In.f a b c = some (decide (b ≤ a ∧ a ≤ c)) := by
  unfold spec_l6In.f
  by_cases h : a ≥ b
  rotate_left
  · rw [if_neg h]
    exact congrArg some (decide_eq_false (fun h2 => h h2.1)).symm
  rw [if_pos h]
  exact congrArg some (decide_eq_decide.2 ⟨fun h2 => ⟨h, h2⟩, fun h2 => h2.2⟩)
theorem specRecOk_eqF (a b c d : Int) : spec_RecOk.f a b c d = some (recOkB a b c d) := by
  unfold spec_RecOk.f recOkB
  simp only [l6In_eqF, Option.bind_some]
  repeat' split
  all_goals simp_all
  all_goals omega
theorem l2Page_ok (p : S49) : spec_l2Page.f p.f0 p.f1.f0 p.f1.f1 p.f1.f2 p.f1.f3 = some (pageB p) := by
  unfold spec_l2Page.f pageB
  by_cases h1 : p.f0 = 1
  · rw [if_pos h1, if_pos h1, specRecOk_eqF]
    rfl
  rw [if_neg h1, if_neg h1]
  by_cases h2 : p.f0 = 0
  · rw [if_pos h2, if_pos (Or.inl h2)]
  by_cases h3 : p.f0 = 2
  rotate_left
  · rw [if_neg h2, if_neg h3, if_neg (by omega)]
  rw [if_neg h2, if_pos h3, if_pos (Or.inr h3)]
theorem pageB_seq {p : S49} (h : pageB p = true) : 0 ≤ p.f1.f1 ∧ p.f1.f1 ≤ 600 ∧ (p.f0 ≠ 1 → p.f1.f1 = 0) ∧ (p.f0 = 1 → 1 ≤ p.f1.f1) := by
  unfold pageB at h
  by_cases h1 : p.f0 = 1
  · rw [if_pos h1] at h
    simp only [recOkB, decide_eq_true_eq] at h
    exact ⟨by omega, by omega, fun hn => absurd h1 hn, fun _ => by omega⟩
  rw [if_neg h1] at h
  by_cases h2 : p.f0 = 0 ∨ p.f0 = 2
  rotate_left
  · rw [if_neg h2] at h
    cases h
  rw [if_pos h2] at h
  simp only [Bool.and_eq_true, beq_iff_eq] at h
  exact ⟨by omega, by omega, fun _ => by omega, fun hn => absurd hn h1⟩
def Tab (V : List Bool) (S : List Int) : Prop := V.length = 601 ∧ (∀ x ∈ S, 1 ≤ x) ∧ ∀ x : Int, 0 ≤ x → x ≤ 600 → rdOf false V x = decide (x ∈ S)
theorem rdOf_set (V : List Bool) (x y : Int) (b : Bool) (hx : 0 ≤ x) (hy : 0 ≤ y) (hl : x < V.length) : rdOf false (V.set x.toNat b) y = if y = x then b else rdOf false V y := by
  unfold rdOf
  rw [List.getD_eq_getElem?_getD, List.getD_eq_getElem?_getD, List.getElem?_set]
  by_cases h : y = x
  rotate_left
  · rw [if_neg h, if_neg (by omega)]
  subst h
  rw [if_pos rfl, if_pos rfl, if_pos (by omega)]
  rfl
theorem Tab.add {V : List Bool} {S : List Int} (h : Tab V S) {x : Int} (h0 : 1 ≤ x) (h1 : x ≤ 600) : Tab (V.set x.toNat true) (x :: S) := by
  refine ⟨by rw [List.length_set]; exact h.1, fun y hy => ?_, fun y hy hy2 => ?_⟩
  · rcases List.mem_cons.1 hy with rfl | hy
    · exact h0
    · exact h.2.1 y hy
  · rw [rdOf_set V x y true (by omega) hy (by have := h.1; omega), h.2.2 y hy hy2]
    by_cases e : y = x
    rotate_left
    · simp [e]
    simp [e]
theorem Tab.same {V : List Bool} {S : List Int} (h : Tab V S) {x : Int} (h0 : 0 ≤ x) (h1 : x ≤ 600) (b : Bool) (hb : b = decide (x ∈ S)) : Tab (V.set x.toNat b) S := by
  refine ⟨by rw [List.length_set]; exact h.1, h.2.1, fun y hy hy2 => ?_⟩
  rw [rdOf_set V x y b h0 hy (by have := h.1; omega), h.2.2 y hy hy2]
  by_cases e : y = x
  rotate_left
  · simp [e]
  simp [e, hb]
def pagesS : List S49 → Bool → List Int → Option (List Int)
  | [], _, S => some S
  | p :: ps, pc, S => if pageB p = true then (if pc = true ∧ p.f0 ≠ 0 then none else (if p.f0 = 1 then (if p.f1.f1 ∈ S then none else pagesS ps (p.f0 == 0) (p.f1.f1 :: S)) else pagesS ps (p.f0 == 0) S)) else none
theorem pagesS_eq : ∀ (ps : List S49) (pc : Bool) (S : List Int), pagesS ps pc S = if shapeB ps pc = true then pagesB ps S else none
  | [], _, _ => rfl
  | p :: ps, pc, S => by
    rw [pagesS, shapeB, pagesB]
    by_cases h1 : pageB p = true
    rotate_left
    · rw [if_neg h1, if_neg h1]
      simp
    by_cases h2 : pc = true ∧ p.f0 ≠ 0
    · simp [h1, h2]
    rw [if_pos h1, if_neg h2, if_neg h2, if_pos h1]
    by_cases h3 : p.f0 = 1
    rotate_left
    · rw [if_neg h3, if_neg h3, pagesS_eq]
    rw [if_pos h3, if_pos h3]
    by_cases h4 : p.f1.f1 ∈ S
    rotate_left
    · rw [if_neg h4, if_neg h4, pagesS_eq]
    rw [if_pos h4, if_pos h4]
    simp
def pcAt (ps : List S49) (j : Nat) : Bool := decide (0 < j ∧ (rd_T49 ps ((j - 1 : Nat) : Int)).f0 = 0)
theorem tab0 : Tab (List.replicate 601 false) [] := ⟨List.length_replicate, fun x h => by simp at h, fun x h0 h1 => by
    unfold rdOf
    rw [List.getD_eq_getElem?_getD, List.getElem?_replicate]
    split
    · simp
    · simp⟩
theorem flash_bad {l : List S36} {i : Nat} {S : List Int} (hi : i < l.length) (hP : blocksB (l.drop i) S = blocksB l []) (hb : ¬ (((rd_T36 l (i : Int)).f0.length : Int) = 4 ∧ 0 ≤ (rd_T36 l (i : Int)).f1 ∧ (rd_T36 l (i : Int)).f1 ≤ 200)) : flashOkB l = false := by
  rw [drop_T36s hi, blocksB] at hP
  unfold flashOkB
  rw [← hP]
  unfold blockB
  rw [decide_eq_false hb, Bool.false_and, Bool.false_and, Bool.and_false]
theorem flash_false {l : List S36} {i : Nat} {S : List Int} (hi : i < l.length) (hP : blocksB (l.drop i) S = blocksB l []) (hN : pagesS (rd_T36 l (i : Int)).f0 false S = none) : flashOkB l = false := by
  rw [drop_T36s hi, blocksB] at hP
  unfold flashOkB
  rw [← hP]
  rw [pagesS_eq] at hN
  unfold blockB
  cases hs : shapeB (rd_T36 l (i : Int)).f0 false with
  | false => rw [Bool.and_false, Bool.false_and, Bool.and_false]
  | true =>
    rw [hs, if_pos rfl] at hN
    rw [hN, Bool.and_false, Bool.and_false]
theorem flash_next {l : List S36} {i : Nat} {S S' : List Int} (hi : i < l.length) (hP : blocksB (l.drop i) S = blocksB l []) (hb : ((rd_T36 l (i : Int)).f0.length : Int) = 4 ∧ 0 ≤ (rd_T36 l (i : Int)).f1 ∧ (rd_T36 l (i : Int)).f1 ≤ 200) (hS : pagesS (rd_T36 l (i : Int)).f0 false S = some S') : blocksB (l.drop (i + 1)) S' = blocksB l [] := by
  rw [drop_T36s hi, blocksB] at hP
  rw [pagesS_eq] at hS
  unfold blockB at hP
  rw [decide_eq_true hb, Bool.true_and] at hP
  cases hs : shapeB (rd_T36 l (i : Int)).f0 false with
  | false => rw [hs, if_neg (by simp)] at hS; cases hS
  | true =>
    rw [hs, if_pos rfl] at hS
    rw [hs, hS, Bool.true_and] at hP
    exact hP
theorem flash_end {l : List S36} {i : Nat} {S : List Int} (hi : ¬ i < l.length) (hP : blocksB (l.drop i) S = blocksB l []) : flashOkB l = ((l.length : Int) == 4) := by
  rw [List.drop_eq_nil_of_le (by omega), blocksB] at hP
  unfold flashOkB
  rw [← hP, Bool.and_true]
  by_cases h : (l.length : Int) = 4
  rotate_left
  · simp [h]
  simp [h]
def spec_FlashOkM.T13 : Bool × List (List Nat × List Nat) := (true, [([], []), ([], []), ([1], [1]), ([2], [2]), ([], []), ([], []), ([5], [5]), ([6], [6]), ([4, 7], [4, 7]), ([8], [8]), ([9], [9]), ([10], [10]), ([11, 10], [10, 11]), ([12, 10], [10, 12]), ([10, 13], [10, 13]), ([0, 3, 0, 1, 2, 3, 4, 5, 6, 7, 8, 9, 10, 11, 12, 13, 14], [0, 3]), ([15, 14, 10, 0, 1, 2, 3, 4, 5, 6, 7, 8, 9, 10, 11, 12, 13, 14], [14, 15])])
def spec_FlashOkM.B13 : List Nat := [0, 0, 2, 6, 0, 0, 32, 96, 240, 496, 1008, 2032, 4080, 8176, 16368, 32767, 65535]
theorem spec_FlashOkM.tab13 : rtab .any (opsOf Try.f10 13) = spec_FlashOkM.T13 := by kernel_rfl
theorem spec_FlashOkM.bits13 : waitsOk spec_FlashOkM.T13.2 spec_FlashOkM.B13 = true := by kernel_rfl
set_option maxHeartbeats 8000000 in
set_option maxRecDepth 100000 in
theorem spec_FlashOk_mark (w W : World) (go cv : Nat) (V : List Bool) (g2 : Nat) (st kd sq ar vl : Int) (b : Bool) (hb : (st == 1) = b)
    (HO : Aside0 (Kd.R Kd.bool 4 W w.heap.size (fun _ => True) (.slice (some ⟨go, 0, none⟩) 601 cv) V)) (HV : V.length = 601) (BK : Aside0 (W.heap[g2]? = some (.cells #[.int .i64 st, .int .i64 kd, .int .i64 sq, .int .i64 ar, .int .i64 vl] 49 (0, 0)))) (HB : Aside0 (Below w.heap.size w W))
    (h0 : 0 ≤ sq) (h1 : sq < (V.length : Int)) (hs : rdOf false V sq = false) (Q : Exit → Act → World → Prop) {u0 u1 u2 u4 u5 u7 u8 u9 u10 u11 u12 u13 u14 u15 u16 u17 u18 u19 u20 u21 u22 u23 u24 u25 u26 u27 u28 u29 u30 u31 u32 u33 u34 u35 u36 u37 u38 u39 u40 u41 u42 u43 u44 u45 u46 u47 u48 u49 u50 u51 u52 u53 u54 u55 u56 u57 u58 u59 u60 u61 u62 u63 u64 u65 u66 u67 u68 u69 u70 u71 u72 u73 u74 u75 u76 u77 u78 u79 u80 u81 u82 u83 u84 u85 u86 u87 u88 u89 u90 u91 u92 u93 u94 u95 u96 u97 u98 : Value}
    (hP : ∀ c (a a' : Act) w, a.defers = a'.defers → Q (.panic c) a w → Q (.panic c) a' w)
    (hQ : ∀ (x80 x81 x82 x83 x84 x85 x86 x87 x88 x89 x90 x91 x92 x93 x94 x95 : Value) (W' : World), Kd.R Kd.bool 4 W' w.heap.size (fun _ => True) (.slice (some ⟨go, 0, none⟩) 601 cv) (V.set sq.toNat b) → Below w.heap.size w W' → Q .normal { tmps := #[u0, u1, u2, .slice (some ⟨go, 0, none⟩) 601 cv, u4, u5, .pointer (some ⟨g2, 0, none⟩), u7, u8, u9, u10, u11, u12, u13, u14, u15, u16, u17, u18, u19, u20, u21, u22, u23, u24, u25, u26, u27, u28, u29, u30, u31, u32, u33, u34, u35, u36, u37, u38, u39, u40, u41, u42, u43, u44, u45, u46, u47, u48, u49, u50, u51, u52, u53, u54, u55, u56, u57, u58, u59, u60, u61, u62, u63, u64, u65, u66, u67, u68, u69, u70, u71, u72, u73, u74, u75, u76, u77, u78, u79, x80, x81, x82, x83, x84, x85, x86, x87, x88, x89, x90, x91, x92, x93, x94, x95, u96, u97, u98], defers := [] } W') :
    Code.wp Try.prog (Code.region 13 (opsOf Try.f10 13) true) Q { tmps := #[u0, u1, u2, .slice (some ⟨go, 0, none⟩) 601 cv, u4, u5, .pointer (some ⟨g2, 0, none⟩), u7, u8, u9, u10, u11, u12, u13, u14, u15, u16, u17, u18, u19, u20, u21, u22, u23, u24, u25, u26, u27, u28, u29, u30, u31, u32, u33, u34, u35, u36, u37, u38, u39, u40, u41, u42, u43, u44, u45, u46, u47, u48, u49, u50, u51, u52, u53, u54, u55, u56, u57, u58, u59, u60, u61, u62, u63, u64, u65, u66, u67, u68, u69, u70, u71, u72, u73, u74, u75, u76, u77, u78, u79, u80, u81, u82, u83, u84, u85, u86, u87, u88, u89, u90, u91, u92, u93, u94, u95, u96, u97, u98], defers := [] } W := by
  simp only [opsOf, opsIn, Try.f10, Option.bind_some, Option.getD_some, Option.getD, Option.bind, Nat.reduceEqDiff, if_true, if_false, Option.orElse, reduceCtorEq, Nat.reduceBEq, Bool.false_eq_true]
  have hu49 := Try.underlying49
  have hu47 := Try.underlying47
  have n0_ := Aside0.mk (Kd.R_drew HO.out)
  have n1_ := Aside0.mk (blk_drew BK.out)
  have n2_ := Aside0.mk (below_drew1 HB.out)
  clear HO BK HB
  have HO := n0_
  have BK := n1_
  have HB := n2_
  clear n0_ n1_ n2_
  obtain ⟨ad, e137, hx0⟩ := Kd.at_bool (Kd.R_reads' HO.out).2.2 sq h0 (by omega)
  rw [hs] at hx0
  obtain rfl : ad = ⟨go, 0, none⟩ := (by injection e137 with e; exact e.symm)
  obtain ⟨hx1, hf0⟩ := Kd.R_celln false HO.out sq h0 (by omega)
  have HQ := Kd.R_putn HO.out sq b
  obtain ⟨go2, _, e3, gb, _, _, _⟩ := Kd.R_form HO.out (by omega)
  obtain rfl : go = go2 := by
    injection e3 with e _ _
    injection e with e
    injection e
  have GB := Aside0.mk gb
  clear gb
  have p114 := eq_true h0
  have q114 : (sq < 601) = True := eq_true (by omega)
  (first | simp only [add_plain] at hx0 | skip)
  refine start_ (n := 17) (S := fun w' => w'.cell? ⟨g2, 0, none⟩ = some (.int .i64 st) ∧ w'.cell? ⟨g2, 1, none⟩ = some (.int .i64 kd) ∧ w'.cell? ⟨g2, 2, none⟩ = some (.int .i64 sq) ∧ w'.cell? ⟨g2, 3, none⟩ = some (.int .i64 ar) ∧ w'.cell? ⟨g2, 4, none⟩ = some (.int .i64 vl) ∧ w'.cell? ⟨go, (sq).toNat, none⟩ = some (.bool (false))) (ds := [16]) #[false, false, false, false, false, false, false, false, false, false, false, false, false, false, false, false, false] (by kernel_rfl) rfl rfl ⟨(blk_cell BK.out 0).trans rfl, (blk_cell BK.out 1).trans rfl, (blk_cell BK.out 2).trans rfl, (blk_cell BK.out 3).trans rfl, (blk_cell BK.out 4).trans rfl, hx0⟩ (fun hHeld => ?_); refine with_tabW spec_FlashOkM.tab13 spec_FlashOkM.bits13 (fun HT_ HW_ => ?_)
  generalize W.drew = W2 at HO BK HB HQ hf0 hx1 hx0 hHeld ⊢
  refine pure_ (i := 0) (N := some 80) (v := ?_) (a' := ?_) #[true, false, false, false, false, false, false, false, false, false, false, false, false, false, false, false, false] rfl rfl (any_of HT_.out (by kernel_rfl)) (fun c_ a_ w_ h => hP c_ _ a_ w_ (by first | rfl | simp [Act.put]) h) (Or.inl ⟨by rfl, ?_⟩) ?_ ?_
  rotate_left; (· intro w'; go_simp; with_reducible rfl); rotate_left; (· simp only [Act.put, List.setIfInBounds_toArray, List.set_cons_zero, List.set_cons_succ, i64_w, i32_w]; rfl)
  refine pure_ (i := 1) (N := some 81) (v := ?_) (a' := ?_) #[true, true, false, false, false, false, false, false, false, false, false, false, false, false, false, false, false] rfl rfl (any_of HT_.out (by kernel_rfl)) (fun c_ a_ w_ h => hP c_ _ a_ w_ (by first | rfl | simp [Act.put]) h) (Or.inl ⟨by rfl, ?_⟩) ?_ ?_
  rotate_left; (· intro w'; go_simp; with_reducible rfl); rotate_left; (· simp only [Act.put, List.setIfInBounds_toArray, List.set_cons_zero, List.set_cons_succ, i64_w, i32_w]; rfl)
  refine pure_ (i := 2) (N := some 82) (v := ?_) (a' := ?_) #[true, true, true, false, false, false, false, false, false, false, false, false, false, false, false, false, false] rfl rfl (any_of HT_.out (by kernel_rfl)) (fun c_ a_ w_ h => hP c_ _ a_ w_ (by first | rfl | simp [Act.put]) h) (Or.inl ⟨by rfl, ?_⟩) ?_ ?_
  rotate_left; (· intro w'; go_simp; with_reducible rfl); rotate_left; (· simp only [Act.put, List.setIfInBounds_toArray, List.set_cons_zero, List.set_cons_succ, i64_w, i32_w]; rfl)
  refine pure_ (i := 4) (N := some 84) (v := ?_) (a' := ?_) #[true, true, true, false, true, false, false, false, false, false, false, false, false, false, false, false, false] rfl rfl (any_of HT_.out (by kernel_rfl)) (fun c_ a_ w_ h => hP c_ _ a_ w_ (by first | rfl | simp [Act.put]) h) (Or.inl ⟨by rfl, ?_⟩) ?_ ?_
  rotate_left; (· intro w'; go_simp; with_reducible rfl); rotate_left; (· simp only [Act.put, List.setIfInBounds_toArray, List.set_cons_zero, List.set_cons_succ, i64_w, i32_w]; rfl)
  refine pure_ (i := 5) (N := some 85) (v := ?_) (a' := ?_) #[true, true, true, false, true, true, false, false, false, false, false, false, false, false, false, false, false] rfl rfl (any_of HT_.out (by kernel_rfl)) (fun c_ a_ w_ h => hP c_ _ a_ w_ (by first | rfl | simp [Act.put]) h) (Or.inl ⟨by rfl, ?_⟩) ?_ ?_
  rotate_left; (· intro w'; go_simp; with_reducible rfl); rotate_left; (· simp only [Act.put, List.setIfInBounds_toArray, List.set_cons_zero, List.set_cons_succ, i64_w, i32_w]; rfl)
  refine pure_ (i := 6) (N := some 86) (v := ?_) (a' := ?_) #[true, true, true, false, true, true, true, false, false, false, false, false, false, false, false, false, false] rfl rfl (any_of HT_.out (by kernel_rfl)) (fun c_ a_ w_ h => hP c_ _ a_ w_ (by first | rfl | simp [Act.put]) h) (Or.inl ⟨by rfl, ?_⟩) ?_ ?_
  rotate_left; (· intro w'; go_simp; with_reducible rfl); rotate_left; (· simp only [Act.put, List.setIfInBounds_toArray, List.set_cons_zero, List.set_cons_succ, i64_w, i32_w]; rfl)
  refine take_ (i := 3) (N := some 83) (v := ?_) (a' := ?_) #[true, true, true, true, true, true, true, false, false, false, false, false, false, false, false, false, false] rfl rfl (take_ofW HT_.out HW_.out (by kernel_rfl)) (fun c_ a_ w_ h => hP c_ _ a_ w_ (by first | rfl | simp [Act.put]) h) (Or.inl ⟨by rfl, ?_⟩) hHeld ?_ ?_
  rotate_left; (· rintro w' ⟨s0, s1, s2, s3, s4, s5⟩; go_simp; with_reducible rfl); rotate_left; (· simp only [Act.put, List.setIfInBounds_toArray, List.set_cons_zero, List.set_cons_succ, i64_w, i32_w]; rfl)
  refine take_ (i := 7) (N := some 87) (v := ?_) (a' := ?_) #[true, true, true, true, true, true, true, true, false, false, false, false, false, false, false, false, false] rfl rfl (take_ofW HT_.out HW_.out (by kernel_rfl)) (fun c_ a_ w_ h => hP c_ _ a_ w_ (by first | rfl | simp [Act.put]) h) (Or.inl ⟨by rfl, ?_⟩) hHeld ?_ ?_
  rotate_left; (· rintro w' ⟨s0, s1, s2, s3, s4, s5⟩; go_simp; with_reducible rfl); rotate_left; (· simp only [Act.put, List.setIfInBounds_toArray, List.set_cons_zero, List.set_cons_succ, i64_w, i32_w]; rfl)
  refine pure_ (i := 8) (N := some 88) (v := ?_) (a' := ?_) #[true, true, true, true, true, true, true, true, true, false, false, false, false, false, false, false, false] rfl rfl (any_of HT_.out (by kernel_rfl)) (fun c_ a_ w_ h => hP c_ _ a_ w_ (by first | rfl | simp [Act.put]) h) (Or.inl ⟨by rfl, ?_⟩) ?_ ?_
  rotate_left; (· intro w'; go_simp; with_reducible rfl); rotate_left; (· simp only [Act.put, List.setIfInBounds_toArray, List.set_cons_zero, List.set_cons_succ, i64_w, i32_w]; rfl)
  refine take_ (i := 9) (N := some 89) (v := ?_) (a' := ?_) #[true, true, true, true, true, true, true, true, true, true, false, false, false, false, false, false, false] rfl rfl (take_ofW HT_.out HW_.out (by kernel_rfl)) (fun c_ a_ w_ h => hP c_ _ a_ w_ (by first | rfl | simp [Act.put]) h) (Or.inl ⟨by rfl, ?_⟩) hHeld ?_ ?_
  rotate_left; (· rintro w' ⟨s0, s1, s2, s3, s4, s5⟩; go_simp; with_reducible rfl); rotate_left; (· simp only [Act.put, List.setIfInBounds_toArray, List.set_cons_zero, List.set_cons_succ, i64_w, i32_w]; rfl)
  refine pure_ (i := 10) (N := some 90) (v := ?_) (a' := ?_) #[true, true, true, true, true, true, true, true, true, true, true, false, false, false, false, false, false] rfl rfl (any_of HT_.out (by kernel_rfl)) (fun c_ a_ w_ h => hP c_ _ a_ w_ (by first | rfl | simp [Act.put]) h) (Or.inl ⟨by rfl, ?_⟩) ?_ ?_
  rotate_left; (· intro w'; go_simp; with_reducible rfl); rotate_left; (· simp only [Act.put, List.setIfInBounds_toArray, List.set_cons_zero, List.set_cons_succ, i64_w, i32_w]; rfl)
  refine pure_ (i := 11) (N := some 91) (v := ?_) (a' := ?_) #[true, true, true, true, true, true, true, true, true, true, true, true, false, false, false, false, false] rfl rfl (any_of HT_.out (by kernel_rfl)) (fun c_ a_ w_ h => hP c_ _ a_ w_ (by first | rfl | simp [Act.put]) h) (Or.inl ⟨by rfl, ?_⟩) ?_ ?_
  rotate_left; (· intro w'; go_simp; with_reducible rfl); rotate_left; (· simp only [Act.put, List.setIfInBounds_toArray, List.set_cons_zero, List.set_cons_succ, i64_w, i32_w]; rfl)
  refine take_ (i := 12) (N := some 92) (v := ?_) (a' := ?_) #[true, true, true, true, true, true, true, true, true, true, true, true, true, false, false, false, false] rfl rfl (take_ofW HT_.out HW_.out (by kernel_rfl)) (fun c_ a_ w_ h => hP c_ _ a_ w_ (by first | rfl | simp [Act.put]) h) (Or.inl ⟨by rfl, ?_⟩) hHeld ?_ ?_
  rotate_left; (· rintro w' ⟨s0, s1, s2, s3, s4, s5⟩; go_simp; with_reducible rfl); rotate_left; (· simp only [Act.put, List.setIfInBounds_toArray, List.set_cons_zero, List.set_cons_succ, i64_w, i32_w]; rfl)
  refine pure_ (i := 13) (N := some 93) (v := ?_) (a' := ?_) #[true, true, true, true, true, true, true, true, true, true, true, true, true, true, false, false, false] rfl rfl (any_of HT_.out (by kernel_rfl)) (fun c_ a_ w_ h => hP c_ _ a_ w_ (by first | rfl | simp [Act.put]) h) (Or.inl ⟨by rfl, ?_⟩) ?_ ?_
  rotate_left; (· intro w'; go_simp; with_reducible rfl); rotate_left; (· simp only [Act.put, List.setIfInBounds_toArray, List.set_cons_zero, List.set_cons_succ, i64_w, i32_w]; rfl)
  refine pure_ (i := 14) (N := some 94) (v := ?_) (a' := ?_) #[true, true, true, true, true, true, true, true, true, true, true, true, true, true, true, false, false] rfl rfl (any_of HT_.out (by kernel_rfl)) (fun c_ a_ w_ h => hP c_ _ a_ w_ (by first | rfl | simp [Act.put]) h) (Or.inl ⟨by rfl, ?_⟩) ?_ ?_
  rotate_left; (· intro w'; go_simp; with_reducible rfl); rotate_left; (· simp only [Act.put, List.setIfInBounds_toArray, List.set_cons_zero, List.set_cons_succ, i64_w, i32_w]; rfl)
  refine pure_ (i := 15) (N := some 95) (v := ?_) (a' := ?_) #[true, true, true, true, true, true, true, true, true, true, true, true, true, true, true, true, false] rfl rfl (any_of HT_.out (by kernel_rfl)) (fun c_ a_ w_ h => hP c_ _ a_ w_ (by first | rfl | simp [Act.put]) h) (Or.inl ⟨by rfl, ?_⟩) ?_ ?_
  rotate_left; (· intro w'; go_simp; with_reducible rfl); rotate_left; (· simp only [Act.put, List.setIfInBounds_toArray, List.set_cons_zero, List.set_cons_succ, i64_w, i32_w]; rfl)
  refine last_ (i := 16) (N := none) #[true, true, true, true, true, true, true, true, true, true, true, true, true, true, true, true, true] rfl rfl (one_of HT_.out (by kernel_rfl)) (by decide) (fun K hK => ?_)
  refine skip_ (w1 := ?_) (by rfl) rfl ?_ ?_
  rotate_left
  · go_simp
    rfl
  refine hK.out _ _ ?_
  clear hK K
  refine done_ (done_of HT_.out (by kernel_rfl)) ?_
  exact hQ _ _ _ _ _ _ _ _ _ _ _ _ _ _ _ _ _ HQ (below_set HB.out GB.out)
def spec_FlashOk.f (l0 : List (S36)) : Option (Bool) := some (flashOkB l0)
theorem put5_ {W W1 : World} {g : Nat} {t : TypeId} {a b c d e : Value} (h : W.heap[g]? = some (.cells #[.int .i64 0, .int .i64 0, .int .i64 0, .int .i64 0, .int .i64 0] t (0, 0))) (hb : Below (((((W.setCell ⟨g, 0, none⟩ a).setCell ⟨g, 1, none⟩ b).setCell ⟨g, 2, none⟩ c).setCell ⟨g, 3, none⟩ d).setCell ⟨g, 4, none⟩ e).heap.size (((((W.setCell ⟨g, 0, none⟩ a).setCell ⟨g, 1, none⟩ b).setCell ⟨g, 2, none⟩ c).setCell ⟨g, 3, none⟩ d).setCell ⟨g, 4, none⟩ e) W1) : W1.heap[g]? = some (.cells #[a, b, c, d, e] t (0, 0)) :=
  blk_below (blk_put (cs := #[a, b, c, d, .int .i64 0]) (blk_put (cs := #[a, b, c, .int .i64 0, .int .i64 0]) (blk_put (cs := #[a, b, .int .i64 0, .int .i64 0, .int .i64 0]) (blk_put (cs := #[a, .int .i64 0, .int .i64 0, .int .i64 0, .int .i64 0]) (blk_put (cs := #[.int .i64 0, .int .i64 0, .int .i64 0, .int .i64 0, .int .i64 0]) h 0 _ rfl) 1 _ rfl) 2 _ rfl) 3 _ rfl) 4 _ rfl) hb
theorem far5_ {α : Type} {k : Kd α} {q base g : Nat} {ok : Nat → Prop} {v : Value} {xs : List α} {W W1 : World} {a b c d e : Value} (h : k.R q W base ok v xs) (hok : ∀ j, ok j → j ≠ g) (hb : Below (((((W.setCell ⟨g, 0, none⟩ a).setCell ⟨g, 1, none⟩ b).setCell ⟨g, 2, none⟩ c).setCell ⟨g, 3, none⟩ d).setCell ⟨g, 4, none⟩ e).heap.size (((((W.setCell ⟨g, 0, none⟩ a).setCell ⟨g, 1, none⟩ b).setCell ⟨g, 2, none⟩ c).setCell ⟨g, 3, none⟩ d).setCell ⟨g, 4, none⟩ e) W1) : k.R q W1 base ok v xs :=
  Kd.R_below (Kd.R_far (p := ⟨g, 4, none⟩) (Kd.R_far (p := ⟨g, 3, none⟩) (Kd.R_far (p := ⟨g, 2, none⟩) (Kd.R_far (p := ⟨g, 1, none⟩) (Kd.R_far (p := ⟨g, 0, none⟩) h hok a) hok b) hok c) hok d) hok e) hb
set_option maxHeartbeats 8000000 in
set_option maxRecDepth 100000 in
theorem spec_FlashOk.calls (A0 : Option Addr) (c0 : Nat) (l0 : List (S36)) (r : Bool) (w : World) (hr0 : Kd.C k36 w A0 l0.length l0) (hc0 : l0.length ≤ c0) (h : spec_FlashOk.f l0 = some r) :
    Calls Try.prog 10 #[.slice A0 l0.length c0] w fun e w' => e = .returned (.bool r) ∧ Below w.heap.size w w' := by
  have hu36 := Try.underlying36
  have hu49 := Try.underlying49
  have hu47 := Try.underlying47
  obtain rfl : r = flashOkB l0 := (Option.some.inj h).symm
  clear h
  have HL := Aside0.mk (Kd.C_max hr0)
  have HB := Aside0.mk (Below.refl w.heap.size w)
  go_enter Try.func10, Try.ntmps10
  go_wp2_with (first | ((with_reducible refine gate_dst (N := 7) rfl ?_); refine Kd.R_make Kd.bool _ 4 rfl (N := 7) rfl 44 _ _ rfl 601 rfl rfl Try.underlying44 (.bool false) 1 info4 rfl (by decide) (by omega) false (ok := fun _ => True) (okp := fun _ => True) rfl (fun _ hk => hk) trivial (by omega) (by omega) (Below.refl _ _) (Nat.le_refl _) ?_; intro v3 w3 ho4 hb hg_ hnew_; clear hg_ hnew_; simp only [Int.reduceToNat] at ho4; have n0_ := Aside0.mk (Kd.R_lower ho4 (below_size HB.out)); have n1_ := Aside0.mk (below_step HB.out hb); clear HB; have HO := n0_; have HB := n1_; clear n0_ n1_; clear hb ho4))
  obtain ⟨go, cv, ev, hgo, _⟩ := Kd.R_form HO.out (by rw [List.length_replicate]; omega)
  subst ev
  clear hgo
  go_loopg [4] (l0.length + 1) (fun kq v4 w' => ∃ (i : Nat) (V : List Bool) (S : List Int), v4 = .int .i64 (i : Int) ∧ Aside0 (kq + i = l0.length + 1) ∧ Aside0 (i ≤ l0.length) ∧ Aside0 (blocksB (l0.drop i) S = blocksB l0 []) ∧ Aside0 (Tab V S) ∧ Aside0 (Kd.R Kd.bool 4 w' w.heap.size (fun _ => True) (.slice (some ⟨go, 0, none⟩) 601 cv) V) ∧ Aside0 (Below w.heap.size w w'))
  case atStart => exact ⟨0, _, [], rfl, ⟨rfl⟩, ⟨Nat.zero_le _⟩, ⟨by simp⟩, ⟨tab0⟩, HO, HB⟩
  case round =>
    clear HO HB
    obtain ⟨i, V, S, rfl, HK, HI, HP, HV, HO, HB⟩ := hrel
    obtain ⟨k1, rfl⟩ : ∃ k, gk = k + 1 := by
      have := HK.out
      have := HI.out
      exact ⟨gk - 1, by omega⟩
    by_cases ci : i < l0.length
    rotate_left
    · have cib : decide ((i : Int) < (l0.length : Int)) = false := decide_eq_false (by omega)
      have ci2 : ¬ ((i : Int) < (l0.length : Int)) := by omega
      have HF := Aside0.mk (flash_end ci HP.out)
      go_wp2
      go_ret
      exact ⟨by rw [HF.out]; rfl, by repeat (first | (with_reducible first | exact HB.out | apply below_alloc | apply pw_below_drewN | apply below_drew1) | exact HB.out)⟩
    have hw14 : wrap64 ((i : Int) + 1) = ((i + 1 : Nat) : Int) := by have := HL.out; rw [IntWalk.wrap64_in _ (by omega)]; omega
    have cib : decide ((i : Int) < (l0.length : Int)) = true := decide_eq_true (by omega)
    have p1 : 0 ≤ (i : Int) := by omega
    have q1 : (i : Int) < (l0.length : Int) := by omega
    obtain ⟨ad1, A1, c1, e1, hx1_0, hx1_1, hl1, hi1⟩ := at_T36 hr0 (i : Int) p1 q1
    cases e1
    simp only [Int.toNat_natCast] at hx1_0 hx1_1
    have HX0 := Aside0.mk hx1_0
    have HX1 := Aside0.mk hx1_1
    replace hx1_0 := up HB.out hx1_0
    replace hx1_1 := up HB.out hx1_1
    have hki := Aside0.mk (l6In_eqF (rd_T36 l0 (i : Int)).f1 0 200)
    replace hi1 := Aside0.mk hi1
    replace p1 := eq_true p1
    replace q1 := eq_true q1
    have CI := Aside0.mk ci
    clear ci
    by_cases h4 : ((rd_T36 l0 (i : Int)).f0.length : Int) = 4
    rotate_left
    · have h4a : (((rd_T36 l0 (i : Int)).f0.length : Int) == 4) = false := by simp [h4]
      have h4b : (((rd_T36 l0 (i : Int)).f0.length : Int) != 4) = true := by simp [h4]
      have HF := Aside0.mk (flash_bad CI.out HP.out (fun h => h4 h.1))
      clear h4
      go_wp2
      go_ret
      exact ⟨by rw [HF.out]; rfl, by repeat (first | (with_reducible first | exact HB.out | apply below_alloc | apply pw_below_drewN | apply below_drew1) | exact HB.out)⟩
    have h4a : (((rd_T36 l0 (i : Int)).f0.length : Int) == 4) = true := by simp [h4]
    have h4b : (((rd_T36 l0 (i : Int)).f0.length : Int) != 4) = false := by simp [h4]
    have H4 := Aside0.mk h4
    clear h4
    cases hw : decide (0 ≤ (rd_T36 l0 (i : Int)).f1 ∧ (rd_T36 l0 (i : Int)).f1 ≤ 200) with
    | false =>
      rw [hw] at hki
      have HW := Aside0.mk hw
      clear hw
      go_wp2_with (first | (go_at_call 16; (with_reducible refine (spec_l6In.calls _ 0 200 _ _ hki.out).mono ?_); rintro e w' ⟨rfl, ⟨nd, rfl⟩⟩))
      go_ret
      exact ⟨by rw [flash_bad CI.out HP.out (fun h => of_decide_eq_false HW.out h.2)]; rfl, by repeat (first | (with_reducible first | exact HB.out | apply below_alloc | apply pw_below_drewN | apply below_drew1) | exact HB.out)⟩
    | true =>
      rw [hw] at hki
      have HW := Aside0.mk hw
      clear hw
      go_wp2_with (first | (go_at_call 16; (with_reducible refine (spec_l6In.calls _ 0 200 _ _ hki.out).mono ?_); rintro e w' ⟨rfl, ⟨nd, rfl⟩⟩))
      have HB2 : Aside0 (Below w.heap.size w (wr.drewN nd)) := ⟨by repeat (first | (with_reducible first | exact HB.out | apply below_alloc | apply pw_below_drewN | apply below_drew1) | exact HB.out)⟩
      have HO2 : Aside0 (Kd.R Kd.bool 4 (wr.drewN nd) w.heap.size (fun _ => True) (.slice (some ⟨go, 0, none⟩) 601 cv) V) := ⟨by (with_reducible repeat (first | apply Kd.R_alloc | apply Kd.R_drewN | apply Kd.R_drew)); exact HO.out⟩
      clear HB HO
      have HB := HB2
      have HO := HO2
      clear HB2 HO2
      go_loopg [5] (4 + 1) (fun kq v5 w' => ∃ (j : Nat) (V2 : List Bool) (S2 : List Int), v5 = .int .i64 (j : Int) ∧ Aside0 (kq + j = 5) ∧ Aside0 (j ≤ 4) ∧ Aside0 (pagesS ((rd_T36 l0 (i : Int)).f0.drop j) (pcAt (rd_T36 l0 (i : Int)).f0 j) S2 = pagesS (rd_T36 l0 (i : Int)).f0 false S) ∧ Aside0 (Tab V2 S2) ∧ Aside0 (Kd.R Kd.bool 4 w' w.heap.size (fun _ => True) (.slice (some ⟨go, 0, none⟩) 601 cv) V2) ∧ Aside0 (Below w.heap.size w w'))
      case atStart => exact ⟨0, V, S, rfl, ⟨rfl⟩, ⟨Nat.zero_le _⟩, ⟨rfl⟩, HV, HO, HB⟩
      case round =>
        clear HB HO
        obtain ⟨j, V2, S2, rfl, HK2, HJ, HQ, HV2, HO, HB⟩ := hrel
        have hbl' : (rd_T36 l0 (i : Int)).f0.length = 4 := by have := H4.out; omega
        obtain ⟨k2, rfl⟩ : ∃ k, gk = k + 1 := by
          have := HK2.out
          have := HJ.out
          exact ⟨gk - 1, by omega⟩
        by_cases cj : j < 4
        rotate_left
        · have cjb : decide ((j : Int) < 4) = false := decide_eq_false (by omega)
          have cj2 : ¬ ((j : Int) < 4) := by omega
          have HQ2 := HQ.out
          rw [List.drop_eq_nil_of_le (by omega), pagesS] at HQ2
          have HP4 := Aside0.mk (flash_next CI.out HP.out ⟨H4.out, of_decide_eq_true HW.out⟩ HQ2.symm)
          clear HQ2 hbl'
          go_wp2
          go_roundg k1
          case measure => omega
          case rel => exact ⟨i + 1, V2, S2, by first | rfl | (simp; done) | (simp [*]; done), ⟨by have := HK.out; omega⟩, ⟨CI.out⟩, HP4, HV2, HO, HB⟩
        have cjb : decide ((j : Int) < 4) = true := decide_eq_true (by omega)
        have p2 : 0 ≤ (j : Int) := by omega
        have q2 : (j : Int) < ((rd_T36 l0 (i : Int)).f0.length : Int) := by omega
        obtain ⟨ad2, e2, hx2_0, hx2_1, hx2_2, hx2_3, hx2_4⟩ := at_T49 hi1.out (j : Int) p2 q2
        cases e2
        replace hx2_0 := up HB.out hx2_0
        replace hx2_1 := up HB.out hx2_1
        replace hx2_2 := up HB.out hx2_2
        replace hx2_3 := up HB.out hx2_3
        replace hx2_4 := up HB.out hx2_4
        simp only [Int.toNat_natCast] at hx2_0 hx2_1 hx2_2 hx2_3 hx2_4
        have hx1_0 := up HB.out HX0.out
        have hx1_1 := up HB.out HX1.out
        have hkp := Aside0.mk (l2Page_ok (rd_T49 (rd_T36 l0 (i : Int)).f0 (j : Int)))
        have HQ2 := HQ.out
        rw [drop_T49s (by omega), pagesS] at HQ2
        have hw24 : wrap64 ((j : Int) + 1) = ((j + 1 : Nat) : Int) := by rw [IntWalk.wrap64_in _ (by omega)]; omega
        replace p2 := eq_true p2
        replace q2 := eq_true q2
        have CJ := Aside0.mk cj
        clear hbl' cj
        have hpcs : pcAt (rd_T36 l0 (i : Int)).f0 (j + 1) = ((rd_T49 (rd_T36 l0 (i : Int)).f0 (j : Int)).f0 == 0) := by
          unfold pcAt
          rw [Nat.add_sub_cancel]
          by_cases h : (rd_T49 (rd_T36 l0 (i : Int)).f0 (j : Int)).f0 = 0
          rotate_left
          · simp [h]
          simp [h]
        rw [← hpcs] at HQ2
        clear hpcs
        cases hpb : pageB (rd_T49 (rd_T36 l0 (i : Int)).f0 (j : Int)) with
        | false =>
          rw [hpb] at hkp
          rw [hpb, if_neg (by simp)] at HQ2
          have HN := Aside0.mk HQ2.symm
          clear HQ2 hpb
          go_wp2_with (first | ((with_reducible refine gate_dst (N := 6) rfl ?_); refine box_event ?hg (N := 6) ?hd (cs := #[.int .i64 0, .int .i64 0, .int .i64 0, .int .i64 0, .int .i64 0]) (t := 49) ?hr ?_; (case hd => rfl); (case hg => rfl); (case hr => first | (go_simp; done) | (go_simp; rfl)); intro g2 hg w7 hbox hb; have n0_ := Aside0.mk (below_step HB.out hb); have n1_ := Aside0.mk hbox; have GE2 := Aside0.mk ((by rw [hg]; exact below_size HB.out) : w.heap.size ≤ g2); have GL2 := Aside0.mk ((Nat.le_of_eq hg.symm)); have n2_ := Aside0.mk (Kd.R_below (Kd.R_elderB HO.out g2 (Nat.le_of_eq hg.symm)) hb); clear HB HO; have HB := n0_; have BK2 := n1_; have HO := n2_; clear n0_ n1_ n2_; have hczg2_0 : w7.cell? ⟨g2, 0, none⟩ = some (.int .i64 0) := (blk_cell hbox 0).trans rfl; have hczg2_1 : w7.cell? ⟨g2, 1, none⟩ = some (.int .i64 0) := (blk_cell hbox 1).trans rfl; have hczg2_2 : w7.cell? ⟨g2, 2, none⟩ = some (.int .i64 0) := (blk_cell hbox 2).trans rfl; have hczg2_3 : w7.cell? ⟨g2, 3, none⟩ = some (.int .i64 0) := (blk_cell hbox 3).trans rfl; have hczg2_4 : w7.cell? ⟨g2, 4, none⟩ = some (.int .i64 0) := (blk_cell hbox 4).trans rfl; have hfzg2_0 := blk_frozen hbox 0; have hfzg2_1 := blk_frozen hbox 1; have hfzg2_2 := blk_frozen hbox 2; have hfzg2_3 := blk_frozen hbox 3; have hfzg2_4 := blk_frozen hbox 4; clear hb hbox hg) | ((with_reducible refine gate_callee (f := 17) rfl ?_); refine goesL_ (some 43) rfl rfl Try.func17 (by kernel_rfl) rfl #[.agg #[.int .i64 (rd_T49 (rd_T36 l0 (i : Int)).f0 (j : Int)).f0, .int .i64 (rd_T49 (rd_T36 l0 (i : Int)).f0 (j : Int)).f1.f0, .int .i64 (rd_T49 (rd_T36 l0 (i : Int)).f0 (j : Int)).f1.f1, .int .i64 (rd_T49 (rd_T36 l0 (i : Int)).f0 (j : Int)).f1.f2, .int .i64 (rd_T49 (rd_T36 l0 (i : Int)).f0 (j : Int)).f1.f3]] rfl (by (try simp only [List.map_toArray, List.map_cons, List.map_nil]); first | done | rfl) ?_; (with_reducible refine (spec_l2Page.calls _ _ _ _ _ _ _ hkp.out).mono ?_); rintro e w8 ⟨rfl, hb⟩; refine ⟨_, rfl, ?_⟩; have n0_ := Aside0.mk (below_step (by repeat (first | (with_reducible first | exact HB.out | apply below_alloc | apply pw_below_drewN | apply below_drew1 | refine below_set ?_ GE2.out) | exact HB.out)) hb); have n1_ := Aside0.mk (put5_ BK2.out hb); have n2_ := Aside0.mk (far5_ HO.out (fun _ hk => hk.2) hb); clear HB BK2 HO; have HB := n0_; have BK2 := n1_; have HO := n2_; clear n0_ n1_ n2_; clear hb hczg2_0 hfzg2_0 hczg2_1 hfzg2_1 hczg2_2 hfzg2_2 hczg2_3 hfzg2_3 hczg2_4 hfzg2_4; have hy2_0 := (blk_cell BK2.out 0).trans rfl; have hy2_1 := (blk_cell BK2.out 1).trans rfl; have hy2_2 := (blk_cell BK2.out 2).trans rfl; have hy2_3 := (blk_cell BK2.out 3).trans rfl; have hy2_4 := (blk_cell BK2.out 4).trans rfl))
          go_ret
          exact ⟨by rw [flash_false CI.out HP.out (HN.out)]; rfl, by repeat (first | (with_reducible first | exact HB.out | apply below_alloc | apply pw_below_drewN | apply below_drew1 | refine below_set ?_ GE2.out) | exact HB.out)⟩
        | true =>
          rw [hpb] at hkp
          rw [hpb, if_pos rfl] at HQ2
          have hsq := pageB_seq hpb
          have HS0 := Aside0.mk hsq.1
          have HS1 : Aside0 ((rd_T49 (rd_T36 l0 (i : Int)).f0 (j : Int)).f1.f1 < (V2.length : Int)) := ⟨by have := HV2.out.1; have := hsq.2.1; omega⟩
          have hvr := HV2.out.2.2 (rd_T49 (rd_T36 l0 (i : Int)).f0 (j : Int)).f1.f1 hsq.1 hsq.2.1
          clear hpb
          by_cases hj0 : 0 < j
          rotate_left
          · have hj1 : decide ((j : Int) > 0) = false := decide_eq_false (by omega)
            have hj2 : ¬ ((j : Int) > 0) := by omega
            rw [if_neg (fun h => hj0 (of_decide_eq_true h.1).1)] at HQ2
            by_cases cs : (rd_T49 (rd_T36 l0 (i : Int)).f0 (j : Int)).f0 = 1
            rotate_left
            · have cs0 : ((rd_T49 (rd_T36 l0 (i : Int)).f0 (j : Int)).f0 == 1) = false := beq_eq_false_iff_ne.mpr cs
              have cs1 : ((rd_T49 (rd_T36 l0 (i : Int)).f0 (j : Int)).f0 != 1) = true := bne_iff_ne.mpr cs
              rw [if_neg cs] at HQ2
              have hz := hsq.2.2.1 cs
              have hnm : (rd_T49 (rd_T36 l0 (i : Int)).f0 (j : Int)).f1.f1 ∉ S2 := fun h => by have := HV2.out.2.1 _ h; omega
              have HQ3 := Aside0.mk (HQ2)
              have hv := Aside0.mk (hvr.trans (decide_eq_false hnm))
              have HT := Aside0.mk (HV2.out.same hsq.1 hsq.2.1 false (decide_eq_false hnm).symm)
              clear HQ2 cs hvr hsq hz hnm
              go_wp2_with (first | ((with_reducible refine gate_dst (N := 6) rfl ?_); refine box_event ?hg (N := 6) ?hd (cs := #[.int .i64 0, .int .i64 0, .int .i64 0, .int .i64 0, .int .i64 0]) (t := 49) ?hr ?_; (case hd => rfl); (case hg => rfl); (case hr => first | (go_simp; done) | (go_simp; rfl)); intro g2 hg w7 hbox hb; have n0_ := Aside0.mk (below_step HB.out hb); have n1_ := Aside0.mk hbox; have GE2 := Aside0.mk ((by rw [hg]; exact below_size HB.out) : w.heap.size ≤ g2); have GL2 := Aside0.mk ((Nat.le_of_eq hg.symm)); have n2_ := Aside0.mk (Kd.R_below (Kd.R_elderB HO.out g2 (Nat.le_of_eq hg.symm)) hb); clear HB HO; have HB := n0_; have BK2 := n1_; have HO := n2_; clear n0_ n1_ n2_; have hczg2_0 : w7.cell? ⟨g2, 0, none⟩ = some (.int .i64 0) := (blk_cell hbox 0).trans rfl; have hczg2_1 : w7.cell? ⟨g2, 1, none⟩ = some (.int .i64 0) := (blk_cell hbox 1).trans rfl; have hczg2_2 : w7.cell? ⟨g2, 2, none⟩ = some (.int .i64 0) := (blk_cell hbox 2).trans rfl; have hczg2_3 : w7.cell? ⟨g2, 3, none⟩ = some (.int .i64 0) := (blk_cell hbox 3).trans rfl; have hczg2_4 : w7.cell? ⟨g2, 4, none⟩ = some (.int .i64 0) := (blk_cell hbox 4).trans rfl; have hfzg2_0 := blk_frozen hbox 0; have hfzg2_1 := blk_frozen hbox 1; have hfzg2_2 := blk_frozen hbox 2; have hfzg2_3 := blk_frozen hbox 3; have hfzg2_4 := blk_frozen hbox 4; clear hb hbox hg) | ((with_reducible refine gate_callee (f := 17) rfl ?_); refine goesL_ (some 43) rfl rfl Try.func17 (by kernel_rfl) rfl #[.agg #[.int .i64 (rd_T49 (rd_T36 l0 (i : Int)).f0 (j : Int)).f0, .int .i64 (rd_T49 (rd_T36 l0 (i : Int)).f0 (j : Int)).f1.f0, .int .i64 (rd_T49 (rd_T36 l0 (i : Int)).f0 (j : Int)).f1.f1, .int .i64 (rd_T49 (rd_T36 l0 (i : Int)).f0 (j : Int)).f1.f2, .int .i64 (rd_T49 (rd_T36 l0 (i : Int)).f0 (j : Int)).f1.f3]] rfl (by (try simp only [List.map_toArray, List.map_cons, List.map_nil]); first | done | rfl) ?_; (with_reducible refine (spec_l2Page.calls _ _ _ _ _ _ _ hkp.out).mono ?_); rintro e w8 ⟨rfl, hb⟩; refine ⟨_, rfl, ?_⟩; have n0_ := Aside0.mk (below_step (by repeat (first | (with_reducible first | exact HB.out | apply below_alloc | apply pw_below_drewN | apply below_drew1 | refine below_set ?_ GE2.out) | exact HB.out)) hb); have n1_ := Aside0.mk (put5_ BK2.out hb); have n2_ := Aside0.mk (far5_ HO.out (fun _ hk => hk.2) hb); clear HB BK2 HO; have HB := n0_; have BK2 := n1_; have HO := n2_; clear n0_ n1_ n2_; clear hb hczg2_0 hfzg2_0 hczg2_1 hfzg2_1 hczg2_2 hfzg2_2 hczg2_3 hfzg2_3 hczg2_4 hfzg2_4; have hy2_0 := (blk_cell BK2.out 0).trans rfl; have hy2_1 := (blk_cell BK2.out 1).trans rfl; have hy2_2 := (blk_cell BK2.out 2).trans rfl; have hy2_3 := (blk_cell BK2.out 3).trans rfl; have hy2_4 := (blk_cell BK2.out 4).trans rfl; have hz0 := up HB.out HX0.out; have hz1 := up HB.out HX1.out))
              refine spec_FlashOk_mark w _ go cv V2 g2 _ _ _ _ _ false cs0 ⟨Kd.R_mono HO.out (fun _ _ => trivial)⟩ HV2.out.1 BK2 HB HS0.out HS1.out hv.out _ ?_ ?_
              · intro c_ a_ b_ w_ hd_ h_
                cases a_
                cases b_
                cases hd_
                exact h_
              intro x80 x81 x82 x83 x84 x85 x86 x87 x88 x89 x90 x91 x92 x93 x94 x95 w9 hr9 hb9
              go_wp2
              go_roundg k2
              case measure => omega
              case rel => exact ⟨j + 1, _, S2, by first | rfl | (simp; done) | (simp [*]; done), ⟨by have := HK2.out; omega⟩, ⟨by have := CJ.out; omega⟩, HQ3, ⟨HT.out⟩, ⟨hr9⟩, ⟨hb9⟩⟩
            have cs0 : ((rd_T49 (rd_T36 l0 (i : Int)).f0 (j : Int)).f0 == 1) = true := beq_iff_eq.mpr cs
            have cs1 : ((rd_T49 (rd_T36 l0 (i : Int)).f0 (j : Int)).f0 != 1) = false := bne_eq_false_iff_eq.mpr cs
            rw [if_pos cs] at HQ2
            have HS3 := hsq.2.2.2 cs
            have p9 : (0 ≤ (rd_T49 (rd_T36 l0 (i : Int)).f0 (j : Int)).f1.f1) = True := eq_true hsq.1
            have q9 : ((rd_T49 (rd_T36 l0 (i : Int)).f0 (j : Int)).f1.f1 < 601) = True := eq_true (by have := hsq.2.1; omega)
            clear cs
            by_cases hm : (rd_T49 (rd_T36 l0 (i : Int)).f0 (j : Int)).f1.f1 ∈ S2
            · rw [if_pos hm] at HQ2
              have HN := Aside0.mk HQ2.symm
              have hv := Aside0.mk (hvr.trans (decide_eq_true hm))
              clear HQ2 hm hvr hsq HS3
              go_wp2_with (first | ((with_reducible refine gate_dst (N := 6) rfl ?_); refine box_event ?hg (N := 6) ?hd (cs := #[.int .i64 0, .int .i64 0, .int .i64 0, .int .i64 0, .int .i64 0]) (t := 49) ?hr ?_; (case hd => rfl); (case hg => rfl); (case hr => first | (go_simp; done) | (go_simp; rfl)); intro g2 hg w7 hbox hb; have n0_ := Aside0.mk (below_step HB.out hb); have n1_ := Aside0.mk hbox; have GE2 := Aside0.mk ((by rw [hg]; exact below_size HB.out) : w.heap.size ≤ g2); have GL2 := Aside0.mk ((Nat.le_of_eq hg.symm)); have n2_ := Aside0.mk (Kd.R_below (Kd.R_elderB HO.out g2 (Nat.le_of_eq hg.symm)) hb); clear HB HO; have HB := n0_; have BK2 := n1_; have HO := n2_; clear n0_ n1_ n2_; have hczg2_0 : w7.cell? ⟨g2, 0, none⟩ = some (.int .i64 0) := (blk_cell hbox 0).trans rfl; have hczg2_1 : w7.cell? ⟨g2, 1, none⟩ = some (.int .i64 0) := (blk_cell hbox 1).trans rfl; have hczg2_2 : w7.cell? ⟨g2, 2, none⟩ = some (.int .i64 0) := (blk_cell hbox 2).trans rfl; have hczg2_3 : w7.cell? ⟨g2, 3, none⟩ = some (.int .i64 0) := (blk_cell hbox 3).trans rfl; have hczg2_4 : w7.cell? ⟨g2, 4, none⟩ = some (.int .i64 0) := (blk_cell hbox 4).trans rfl; have hfzg2_0 := blk_frozen hbox 0; have hfzg2_1 := blk_frozen hbox 1; have hfzg2_2 := blk_frozen hbox 2; have hfzg2_3 := blk_frozen hbox 3; have hfzg2_4 := blk_frozen hbox 4; clear hb hbox hg) | ((with_reducible refine gate_callee (f := 17) rfl ?_); refine goesL_ (some 43) rfl rfl Try.func17 (by kernel_rfl) rfl #[.agg #[.int .i64 (rd_T49 (rd_T36 l0 (i : Int)).f0 (j : Int)).f0, .int .i64 (rd_T49 (rd_T36 l0 (i : Int)).f0 (j : Int)).f1.f0, .int .i64 (rd_T49 (rd_T36 l0 (i : Int)).f0 (j : Int)).f1.f1, .int .i64 (rd_T49 (rd_T36 l0 (i : Int)).f0 (j : Int)).f1.f2, .int .i64 (rd_T49 (rd_T36 l0 (i : Int)).f0 (j : Int)).f1.f3]] rfl (by (try simp only [List.map_toArray, List.map_cons, List.map_nil]); first | done | rfl) ?_; (with_reducible refine (spec_l2Page.calls _ _ _ _ _ _ _ hkp.out).mono ?_); rintro e w8 ⟨rfl, hb⟩; refine ⟨_, rfl, ?_⟩; have n0_ := Aside0.mk (below_step (by repeat (first | (with_reducible first | exact HB.out | apply below_alloc | apply pw_below_drewN | apply below_drew1 | refine below_set ?_ GE2.out) | exact HB.out)) hb); have n1_ := Aside0.mk (put5_ BK2.out hb); have n2_ := Aside0.mk (far5_ HO.out (fun _ hk => hk.2) hb); clear HB BK2 HO; have HB := n0_; have BK2 := n1_; have HO := n2_; clear n0_ n1_ n2_; clear hb hczg2_0 hfzg2_0 hczg2_1 hfzg2_1 hczg2_2 hfzg2_2 hczg2_3 hfzg2_3 hczg2_4 hfzg2_4; have hy2_0 := (blk_cell BK2.out 0).trans rfl; have hy2_1 := (blk_cell BK2.out 1).trans rfl; have hy2_2 := (blk_cell BK2.out 2).trans rfl; have hy2_3 := (blk_cell BK2.out 3).trans rfl; have hy2_4 := (blk_cell BK2.out 4).trans rfl; obtain ⟨ad9, e9, hx9⟩ := Kd.at_bool (Kd.R_reads' HO.out).2.2 (rd_T49 (rd_T36 l0 (i : Int)).f0 (j : Int)).f1.f1 HS0.out HS1.out; (rw [hv.out] at hx9); obtain rfl : ad9 = ⟨go, 0, none⟩ := (by injection e9 with e; exact e.symm); simp only [add_plain] at hx9; have hz0 := up HB.out HX0.out; have hz1 := up HB.out HX1.out))
              go_ret
              exact ⟨by rw [flash_false CI.out HP.out (HN.out)]; rfl, by repeat (first | (with_reducible first | exact HB.out | apply below_alloc | apply pw_below_drewN | apply below_drew1 | refine below_set ?_ GE2.out) | exact HB.out)⟩
            rw [if_neg hm] at HQ2
            have HQ3 := Aside0.mk (HQ2)
            have hv := Aside0.mk (hvr.trans (decide_eq_false hm))
            have HT := Aside0.mk (HV2.out.add HS3 hsq.2.1)
            clear HQ2 hm hvr hsq HS3
            go_wp2_with (first | ((with_reducible refine gate_dst (N := 6) rfl ?_); refine box_event ?hg (N := 6) ?hd (cs := #[.int .i64 0, .int .i64 0, .int .i64 0, .int .i64 0, .int .i64 0]) (t := 49) ?hr ?_; (case hd => rfl); (case hg => rfl); (case hr => first | (go_simp; done) | (go_simp; rfl)); intro g2 hg w7 hbox hb; have n0_ := Aside0.mk (below_step HB.out hb); have n1_ := Aside0.mk hbox; have GE2 := Aside0.mk ((by rw [hg]; exact below_size HB.out) : w.heap.size ≤ g2); have GL2 := Aside0.mk ((Nat.le_of_eq hg.symm)); have n2_ := Aside0.mk (Kd.R_below (Kd.R_elderB HO.out g2 (Nat.le_of_eq hg.symm)) hb); clear HB HO; have HB := n0_; have BK2 := n1_; have HO := n2_; clear n0_ n1_ n2_; have hczg2_0 : w7.cell? ⟨g2, 0, none⟩ = some (.int .i64 0) := (blk_cell hbox 0).trans rfl; have hczg2_1 : w7.cell? ⟨g2, 1, none⟩ = some (.int .i64 0) := (blk_cell hbox 1).trans rfl; have hczg2_2 : w7.cell? ⟨g2, 2, none⟩ = some (.int .i64 0) := (blk_cell hbox 2).trans rfl; have hczg2_3 : w7.cell? ⟨g2, 3, none⟩ = some (.int .i64 0) := (blk_cell hbox 3).trans rfl; have hczg2_4 : w7.cell? ⟨g2, 4, none⟩ = some (.int .i64 0) := (blk_cell hbox 4).trans rfl; have hfzg2_0 := blk_frozen hbox 0; have hfzg2_1 := blk_frozen hbox 1; have hfzg2_2 := blk_frozen hbox 2; have hfzg2_3 := blk_frozen hbox 3; have hfzg2_4 := blk_frozen hbox 4; clear hb hbox hg) | ((with_reducible refine gate_callee (f := 17) rfl ?_); refine goesL_ (some 43) rfl rfl Try.func17 (by kernel_rfl) rfl #[.agg #[.int .i64 (rd_T49 (rd_T36 l0 (i : Int)).f0 (j : Int)).f0, .int .i64 (rd_T49 (rd_T36 l0 (i : Int)).f0 (j : Int)).f1.f0, .int .i64 (rd_T49 (rd_T36 l0 (i : Int)).f0 (j : Int)).f1.f1, .int .i64 (rd_T49 (rd_T36 l0 (i : Int)).f0 (j : Int)).f1.f2, .int .i64 (rd_T49 (rd_T36 l0 (i : Int)).f0 (j : Int)).f1.f3]] rfl (by (try simp only [List.map_toArray, List.map_cons, List.map_nil]); first | done | rfl) ?_; (with_reducible refine (spec_l2Page.calls _ _ _ _ _ _ _ hkp.out).mono ?_); rintro e w8 ⟨rfl, hb⟩; refine ⟨_, rfl, ?_⟩; have n0_ := Aside0.mk (below_step (by repeat (first | (with_reducible first | exact HB.out | apply below_alloc | apply pw_below_drewN | apply below_drew1 | refine below_set ?_ GE2.out) | exact HB.out)) hb); have n1_ := Aside0.mk (put5_ BK2.out hb); have n2_ := Aside0.mk (far5_ HO.out (fun _ hk => hk.2) hb); clear HB BK2 HO; have HB := n0_; have BK2 := n1_; have HO := n2_; clear n0_ n1_ n2_; clear hb hczg2_0 hfzg2_0 hczg2_1 hfzg2_1 hczg2_2 hfzg2_2 hczg2_3 hfzg2_3 hczg2_4 hfzg2_4; have hy2_0 := (blk_cell BK2.out 0).trans rfl; have hy2_1 := (blk_cell BK2.out 1).trans rfl; have hy2_2 := (blk_cell BK2.out 2).trans rfl; have hy2_3 := (blk_cell BK2.out 3).trans rfl; have hy2_4 := (blk_cell BK2.out 4).trans rfl; obtain ⟨ad9, e9, hx9⟩ := Kd.at_bool (Kd.R_reads' HO.out).2.2 (rd_T49 (rd_T36 l0 (i : Int)).f0 (j : Int)).f1.f1 HS0.out HS1.out; (rw [hv.out] at hx9); obtain rfl : ad9 = ⟨go, 0, none⟩ := (by injection e9 with e; exact e.symm); simp only [add_plain] at hx9; have hz0 := up HB.out HX0.out; have hz1 := up HB.out HX1.out))
            refine spec_FlashOk_mark w _ go cv V2 g2 _ _ _ _ _ true cs0 ⟨Kd.R_mono HO.out (fun _ _ => trivial)⟩ HV2.out.1 BK2 HB HS0.out HS1.out hv.out _ ?_ ?_
            · intro c_ a_ b_ w_ hd_ h_
              cases a_
              cases b_
              cases hd_
              exact h_
            intro x80 x81 x82 x83 x84 x85 x86 x87 x88 x89 x90 x91 x92 x93 x94 x95 w9 hr9 hb9
            go_wp2
            go_roundg k2
            case measure => omega
            case rel => exact ⟨j + 1, _, _ :: S2, by first | rfl | (simp; done) | (simp [*]; done), ⟨by have := HK2.out; omega⟩, ⟨by have := CJ.out; omega⟩, HQ3, ⟨HT.out⟩, ⟨hr9⟩, ⟨hb9⟩⟩
          have hj1 : decide ((j : Int) > 0) = true := decide_eq_true (by omega)
          have hj2 : (j : Int) > 0 := by omega
          have hwm : wrap64 ((j : Int) - 1) = ((j - 1 : Nat) : Int) := by have := CJ.out; rw [IntWalk.wrap64_in _ (by omega)]; omega
          by_cases hs0 : (rd_T49 (rd_T36 l0 (i : Int)).f0 (j : Int)).f0 = 0
          · have hs1 : ((rd_T49 (rd_T36 l0 (i : Int)).f0 (j : Int)).f0 != 0) = false := bne_eq_false_iff_eq.mpr hs0
            rw [if_neg (fun h => h.2 hs0)] at HQ2
            have cs : ¬ (rd_T49 (rd_T36 l0 (i : Int)).f0 (j : Int)).f0 = 1 := by omega
            clear hs0
            have cs0 : ((rd_T49 (rd_T36 l0 (i : Int)).f0 (j : Int)).f0 == 1) = false := beq_eq_false_iff_ne.mpr cs
            have cs1 : ((rd_T49 (rd_T36 l0 (i : Int)).f0 (j : Int)).f0 != 1) = true := bne_iff_ne.mpr cs
            rw [if_neg cs] at HQ2
            have hz := hsq.2.2.1 cs
            have hnm : (rd_T49 (rd_T36 l0 (i : Int)).f0 (j : Int)).f1.f1 ∉ S2 := fun h => by have := HV2.out.2.1 _ h; omega
            have HQ3 := Aside0.mk (HQ2)
            have hv := Aside0.mk (hvr.trans (decide_eq_false hnm))
            have HT := Aside0.mk (HV2.out.same hsq.1 hsq.2.1 false (decide_eq_false hnm).symm)
            clear HQ2 cs hvr hsq hz hnm
            go_wp2_with (first | ((with_reducible refine gate_dst (N := 6) rfl ?_); refine box_event ?hg (N := 6) ?hd (cs := #[.int .i64 0, .int .i64 0, .int .i64 0, .int .i64 0, .int .i64 0]) (t := 49) ?hr ?_; (case hd => rfl); (case hg => rfl); (case hr => first | (go_simp; done) | (go_simp; rfl)); intro g2 hg w7 hbox hb; have n0_ := Aside0.mk (below_step HB.out hb); have n1_ := Aside0.mk hbox; have GE2 := Aside0.mk ((by rw [hg]; exact below_size HB.out) : w.heap.size ≤ g2); have GL2 := Aside0.mk ((Nat.le_of_eq hg.symm)); have n2_ := Aside0.mk (Kd.R_below (Kd.R_elderB HO.out g2 (Nat.le_of_eq hg.symm)) hb); clear HB HO; have HB := n0_; have BK2 := n1_; have HO := n2_; clear n0_ n1_ n2_; have hczg2_0 : w7.cell? ⟨g2, 0, none⟩ = some (.int .i64 0) := (blk_cell hbox 0).trans rfl; have hczg2_1 : w7.cell? ⟨g2, 1, none⟩ = some (.int .i64 0) := (blk_cell hbox 1).trans rfl; have hczg2_2 : w7.cell? ⟨g2, 2, none⟩ = some (.int .i64 0) := (blk_cell hbox 2).trans rfl; have hczg2_3 : w7.cell? ⟨g2, 3, none⟩ = some (.int .i64 0) := (blk_cell hbox 3).trans rfl; have hczg2_4 : w7.cell? ⟨g2, 4, none⟩ = some (.int .i64 0) := (blk_cell hbox 4).trans rfl; have hfzg2_0 := blk_frozen hbox 0; have hfzg2_1 := blk_frozen hbox 1; have hfzg2_2 := blk_frozen hbox 2; have hfzg2_3 := blk_frozen hbox 3; have hfzg2_4 := blk_frozen hbox 4; clear hb hbox hg) | ((with_reducible refine gate_callee (f := 17) rfl ?_); refine goesL_ (some 43) rfl rfl Try.func17 (by kernel_rfl) rfl #[.agg #[.int .i64 (rd_T49 (rd_T36 l0 (i : Int)).f0 (j : Int)).f0, .int .i64 (rd_T49 (rd_T36 l0 (i : Int)).f0 (j : Int)).f1.f0, .int .i64 (rd_T49 (rd_T36 l0 (i : Int)).f0 (j : Int)).f1.f1, .int .i64 (rd_T49 (rd_T36 l0 (i : Int)).f0 (j : Int)).f1.f2, .int .i64 (rd_T49 (rd_T36 l0 (i : Int)).f0 (j : Int)).f1.f3]] rfl (by (try simp only [List.map_toArray, List.map_cons, List.map_nil]); first | done | rfl) ?_; (with_reducible refine (spec_l2Page.calls _ _ _ _ _ _ _ hkp.out).mono ?_); rintro e w8 ⟨rfl, hb⟩; refine ⟨_, rfl, ?_⟩; have n0_ := Aside0.mk (below_step (by repeat (first | (with_reducible first | exact HB.out | apply below_alloc | apply pw_below_drewN | apply below_drew1 | refine below_set ?_ GE2.out) | exact HB.out)) hb); have n1_ := Aside0.mk (put5_ BK2.out hb); have n2_ := Aside0.mk (far5_ HO.out (fun _ hk => hk.2) hb); clear HB BK2 HO; have HB := n0_; have BK2 := n1_; have HO := n2_; clear n0_ n1_ n2_; clear hb hczg2_0 hfzg2_0 hczg2_1 hfzg2_1 hczg2_2 hfzg2_2 hczg2_3 hfzg2_3 hczg2_4 hfzg2_4; have hy2_0 := (blk_cell BK2.out 0).trans rfl; have hy2_1 := (blk_cell BK2.out 1).trans rfl; have hy2_2 := (blk_cell BK2.out 2).trans rfl; have hy2_3 := (blk_cell BK2.out 3).trans rfl; have hy2_4 := (blk_cell BK2.out 4).trans rfl; have hz0 := up HB.out HX0.out; have hz1 := up HB.out HX1.out))
            refine spec_FlashOk_mark w _ go cv V2 g2 _ _ _ _ _ false cs0 ⟨Kd.R_mono HO.out (fun _ _ => trivial)⟩ HV2.out.1 BK2 HB HS0.out HS1.out hv.out _ ?_ ?_
            · intro c_ a_ b_ w_ hd_ h_
              cases a_
              cases b_
              cases hd_
              exact h_
            intro x80 x81 x82 x83 x84 x85 x86 x87 x88 x89 x90 x91 x92 x93 x94 x95 w9 hr9 hb9
            go_wp2
            go_roundg k2
            case measure => omega
            case rel => exact ⟨j + 1, _, S2, by first | rfl | (simp; done) | (simp [*]; done), ⟨by have := HK2.out; omega⟩, ⟨by have := CJ.out; omega⟩, HQ3, ⟨HT.out⟩, ⟨hr9⟩, ⟨hb9⟩⟩
          have hs1 : ((rd_T49 (rd_T36 l0 (i : Int)).f0 (j : Int)).f0 != 0) = true := bne_iff_ne.mpr hs0
          have hpp : 0 ≤ ((j - 1 : Nat) : Int) := by omega
          have hpq : ((j - 1 : Nat) : Int) < ((rd_T36 l0 (i : Int)).f0.length : Int) := by have := CJ.out; have := H4.out; omega
          obtain ⟨ad3, e3, hx3, _, _, _, _⟩ := at_T49 hi1.out ((j - 1 : Nat) : Int) hpp hpq
          obtain rfl : ad2 = ad3 := by injection e3
          simp only [Int.toNat_natCast] at hx3
          have HXP := Aside0.mk hx3
          clear hx3 e3
          replace hpp := eq_true hpp
          replace hpq := eq_true hpq
          by_cases hq0 : (rd_T49 (rd_T36 l0 (i : Int)).f0 ((j - 1 : Nat) : Int)).f0 = 0
          · have hq1 : ((rd_T49 (rd_T36 l0 (i : Int)).f0 ((j - 1 : Nat) : Int)).f0 == 0) = true := beq_iff_eq.mpr hq0
            rw [if_pos ⟨decide_eq_true ⟨hj0, hq0⟩, hs0⟩] at HQ2
            have HN := Aside0.mk (HQ2.symm)
            clear HQ2 hq0 hs0 hvr hsq
            go_wp2_with (first | ((with_reducible refine gate_dst (N := 6) rfl ?_); refine box_event ?hg (N := 6) ?hd (cs := #[.int .i64 0, .int .i64 0, .int .i64 0, .int .i64 0, .int .i64 0]) (t := 49) ?hr ?_; (case hd => rfl); (case hg => rfl); (case hr => first | (go_simp; done) | (go_simp; rfl)); intro g2 hg w7 hbox hb; have n0_ := Aside0.mk (below_step HB.out hb); have n1_ := Aside0.mk hbox; have GE2 := Aside0.mk ((by rw [hg]; exact below_size HB.out) : w.heap.size ≤ g2); have GL2 := Aside0.mk ((Nat.le_of_eq hg.symm)); have n2_ := Aside0.mk (Kd.R_below (Kd.R_elderB HO.out g2 (Nat.le_of_eq hg.symm)) hb); clear HB HO; have HB := n0_; have BK2 := n1_; have HO := n2_; clear n0_ n1_ n2_; have hczg2_0 : w7.cell? ⟨g2, 0, none⟩ = some (.int .i64 0) := (blk_cell hbox 0).trans rfl; have hczg2_1 : w7.cell? ⟨g2, 1, none⟩ = some (.int .i64 0) := (blk_cell hbox 1).trans rfl; have hczg2_2 : w7.cell? ⟨g2, 2, none⟩ = some (.int .i64 0) := (blk_cell hbox 2).trans rfl; have hczg2_3 : w7.cell? ⟨g2, 3, none⟩ = some (.int .i64 0) := (blk_cell hbox 3).trans rfl; have hczg2_4 : w7.cell? ⟨g2, 4, none⟩ = some (.int .i64 0) := (blk_cell hbox 4).trans rfl; have hfzg2_0 := blk_frozen hbox 0; have hfzg2_1 := blk_frozen hbox 1; have hfzg2_2 := blk_frozen hbox 2; have hfzg2_3 := blk_frozen hbox 3; have hfzg2_4 := blk_frozen hbox 4; clear hb hbox hg) | ((with_reducible refine gate_callee (f := 17) rfl ?_); refine goesL_ (some 43) rfl rfl Try.func17 (by kernel_rfl) rfl #[.agg #[.int .i64 (rd_T49 (rd_T36 l0 (i : Int)).f0 (j : Int)).f0, .int .i64 (rd_T49 (rd_T36 l0 (i : Int)).f0 (j : Int)).f1.f0, .int .i64 (rd_T49 (rd_T36 l0 (i : Int)).f0 (j : Int)).f1.f1, .int .i64 (rd_T49 (rd_T36 l0 (i : Int)).f0 (j : Int)).f1.f2, .int .i64 (rd_T49 (rd_T36 l0 (i : Int)).f0 (j : Int)).f1.f3]] rfl (by (try simp only [List.map_toArray, List.map_cons, List.map_nil]); first | done | rfl) ?_; (with_reducible refine (spec_l2Page.calls _ _ _ _ _ _ _ hkp.out).mono ?_); rintro e w8 ⟨rfl, hb⟩; refine ⟨_, rfl, ?_⟩; have n0_ := Aside0.mk (below_step (by repeat (first | (with_reducible first | exact HB.out | apply below_alloc | apply pw_below_drewN | apply below_drew1 | refine below_set ?_ GE2.out) | exact HB.out)) hb); have n1_ := Aside0.mk (put5_ BK2.out hb); have n2_ := Aside0.mk (far5_ HO.out (fun _ hk => hk.2) hb); clear HB BK2 HO; have HB := n0_; have BK2 := n1_; have HO := n2_; clear n0_ n1_ n2_; clear hb hczg2_0 hfzg2_0 hczg2_1 hfzg2_1 hczg2_2 hfzg2_2 hczg2_3 hfzg2_3 hczg2_4 hfzg2_4; have hy2_0 := (blk_cell BK2.out 0).trans rfl; have hy2_1 := (blk_cell BK2.out 1).trans rfl; have hy2_2 := (blk_cell BK2.out 2).trans rfl; have hy2_3 := (blk_cell BK2.out 3).trans rfl; have hy2_4 := (blk_cell BK2.out 4).trans rfl; have hz0 := up HB.out HX0.out; have hz1 := up HB.out HX1.out; have hzp := up HB.out HXP.out))
            go_ret
            exact ⟨by rw [flash_false CI.out HP.out (HN.out)]; rfl, by repeat (first | (with_reducible first | exact HB.out | apply below_alloc | apply pw_below_drewN | apply below_drew1 | refine below_set ?_ GE2.out) | exact HB.out)⟩
          have hq1 : ((rd_T49 (rd_T36 l0 (i : Int)).f0 ((j - 1 : Nat) : Int)).f0 == 0) = false := beq_eq_false_iff_ne.mpr hq0
          rw [if_neg (fun h => hq0 (of_decide_eq_true h.1).2)] at HQ2
          clear hq0 hs0
          by_cases cs : (rd_T49 (rd_T36 l0 (i : Int)).f0 (j : Int)).f0 = 1
          rotate_left
          · have cs0 : ((rd_T49 (rd_T36 l0 (i : Int)).f0 (j : Int)).f0 == 1) = false := beq_eq_false_iff_ne.mpr cs
            have cs1 : ((rd_T49 (rd_T36 l0 (i : Int)).f0 (j : Int)).f0 != 1) = true := bne_iff_ne.mpr cs
            rw [if_neg cs] at HQ2
            have hz := hsq.2.2.1 cs
            have hnm : (rd_T49 (rd_T36 l0 (i : Int)).f0 (j : Int)).f1.f1 ∉ S2 := fun h => by have := HV2.out.2.1 _ h; omega
            have HQ3 := Aside0.mk (HQ2)
            have hv := Aside0.mk (hvr.trans (decide_eq_false hnm))
            have HT := Aside0.mk (HV2.out.same hsq.1 hsq.2.1 false (decide_eq_false hnm).symm)
            clear HQ2 cs hvr hsq hz hnm
            go_wp2_with (first | ((with_reducible refine gate_dst (N := 6) rfl ?_); refine box_event ?hg (N := 6) ?hd (cs := #[.int .i64 0, .int .i64 0, .int .i64 0, .int .i64 0, .int .i64 0]) (t := 49) ?hr ?_; (case hd => rfl); (case hg => rfl); (case hr => first | (go_simp; done) | (go_simp; rfl)); intro g2 hg w7 hbox hb; have n0_ := Aside0.mk (below_step HB.out hb); have n1_ := Aside0.mk hbox; have GE2 := Aside0.mk ((by rw [hg]; exact below_size HB.out) : w.heap.size ≤ g2); have GL2 := Aside0.mk ((Nat.le_of_eq hg.symm)); have n2_ := Aside0.mk (Kd.R_below (Kd.R_elderB HO.out g2 (Nat.le_of_eq hg.symm)) hb); clear HB HO; have HB := n0_; have BK2 := n1_; have HO := n2_; clear n0_ n1_ n2_; have hczg2_0 : w7.cell? ⟨g2, 0, none⟩ = some (.int .i64 0) := (blk_cell hbox 0).trans rfl; have hczg2_1 : w7.cell? ⟨g2, 1, none⟩ = some (.int .i64 0) := (blk_cell hbox 1).trans rfl; have hczg2_2 : w7.cell? ⟨g2, 2, none⟩ = some (.int .i64 0) := (blk_cell hbox 2).trans rfl; have hczg2_3 : w7.cell? ⟨g2, 3, none⟩ = some (.int .i64 0) := (blk_cell hbox 3).trans rfl; have hczg2_4 : w7.cell? ⟨g2, 4, none⟩ = some (.int .i64 0) := (blk_cell hbox 4).trans rfl; have hfzg2_0 := blk_frozen hbox 0; have hfzg2_1 := blk_frozen hbox 1; have hfzg2_2 := blk_frozen hbox 2; have hfzg2_3 := blk_frozen hbox 3; have hfzg2_4 := blk_frozen hbox 4; clear hb hbox hg) | ((with_reducible refine gate_callee (f := 17) rfl ?_); refine goesL_ (some 43) rfl rfl Try.func17 (by kernel_rfl) rfl #[.agg #[.int .i64 (rd_T49 (rd_T36 l0 (i : Int)).f0 (j : Int)).f0, .int .i64 (rd_T49 (rd_T36 l0 (i : Int)).f0 (j : Int)).f1.f0, .int .i64 (rd_T49 (rd_T36 l0 (i : Int)).f0 (j : Int)).f1.f1, .int .i64 (rd_T49 (rd_T36 l0 (i : Int)).f0 (j : Int)).f1.f2, .int .i64 (rd_T49 (rd_T36 l0 (i : Int)).f0 (j : Int)).f1.f3]] rfl (by (try simp only [List.map_toArray, List.map_cons, List.map_nil]); first | done | rfl) ?_; (with_reducible refine (spec_l2Page.calls _ _ _ _ _ _ _ hkp.out).mono ?_); rintro e w8 ⟨rfl, hb⟩; refine ⟨_, rfl, ?_⟩; have n0_ := Aside0.mk (below_step (by repeat (first | (with_reducible first | exact HB.out | apply below_alloc | apply pw_below_drewN | apply below_drew1 | refine below_set ?_ GE2.out) | exact HB.out)) hb); have n1_ := Aside0.mk (put5_ BK2.out hb); have n2_ := Aside0.mk (far5_ HO.out (fun _ hk => hk.2) hb); clear HB BK2 HO; have HB := n0_; have BK2 := n1_; have HO := n2_; clear n0_ n1_ n2_; clear hb hczg2_0 hfzg2_0 hczg2_1 hfzg2_1 hczg2_2 hfzg2_2 hczg2_3 hfzg2_3 hczg2_4 hfzg2_4; have hy2_0 := (blk_cell BK2.out 0).trans rfl; have hy2_1 := (blk_cell BK2.out 1).trans rfl; have hy2_2 := (blk_cell BK2.out 2).trans rfl; have hy2_3 := (blk_cell BK2.out 3).trans rfl; have hy2_4 := (blk_cell BK2.out 4).trans rfl; have hz0 := up HB.out HX0.out; have hz1 := up HB.out HX1.out; have hzp := up HB.out HXP.out))
            refine spec_FlashOk_mark w _ go cv V2 g2 _ _ _ _ _ false cs0 ⟨Kd.R_mono HO.out (fun _ _ => trivial)⟩ HV2.out.1 BK2 HB HS0.out HS1.out hv.out _ ?_ ?_
            · intro c_ a_ b_ w_ hd_ h_
              cases a_
              cases b_
              cases hd_
              exact h_
            intro x80 x81 x82 x83 x84 x85 x86 x87 x88 x89 x90 x91 x92 x93 x94 x95 w9 hr9 hb9
            go_wp2
            go_roundg k2
            case measure => omega
            case rel => exact ⟨j + 1, _, S2, by first | rfl | (simp; done) | (simp [*]; done), ⟨by have := HK2.out; omega⟩, ⟨by have := CJ.out; omega⟩, HQ3, ⟨HT.out⟩, ⟨hr9⟩, ⟨hb9⟩⟩
          have cs0 : ((rd_T49 (rd_T36 l0 (i : Int)).f0 (j : Int)).f0 == 1) = true := beq_iff_eq.mpr cs
          have cs1 : ((rd_T49 (rd_T36 l0 (i : Int)).f0 (j : Int)).f0 != 1) = false := bne_eq_false_iff_eq.mpr cs
          rw [if_pos cs] at HQ2
          have HS3 := hsq.2.2.2 cs
          have p9 : (0 ≤ (rd_T49 (rd_T36 l0 (i : Int)).f0 (j : Int)).f1.f1) = True := eq_true hsq.1
          have q9 : ((rd_T49 (rd_T36 l0 (i : Int)).f0 (j : Int)).f1.f1 < 601) = True := eq_true (by have := hsq.2.1; omega)
          clear cs
          by_cases hm : (rd_T49 (rd_T36 l0 (i : Int)).f0 (j : Int)).f1.f1 ∈ S2
          · rw [if_pos hm] at HQ2
            have HN := Aside0.mk HQ2.symm
            have hv := Aside0.mk (hvr.trans (decide_eq_true hm))
            clear HQ2 hm hvr hsq HS3
            go_wp2_with (first | ((with_reducible refine gate_dst (N := 6) rfl ?_); refine box_event ?hg (N := 6) ?hd (cs := #[.int .i64 0, .int .i64 0, .int .i64 0, .int .i64 0, .int .i64 0]) (t := 49) ?hr ?_; (case hd => rfl); (case hg => rfl); (case hr => first | (go_simp; done) | (go_simp; rfl)); intro g2 hg w7 hbox hb; have n0_ := Aside0.mk (below_step HB.out hb); have n1_ := Aside0.mk hbox; have GE2 := Aside0.mk ((by rw [hg]; exact below_size HB.out) : w.heap.size ≤ g2); have GL2 := Aside0.mk ((Nat.le_of_eq hg.symm)); have n2_ := Aside0.mk (Kd.R_below (Kd.R_elderB HO.out g2 (Nat.le_of_eq hg.symm)) hb); clear HB HO; have HB := n0_; have BK2 := n1_; have HO := n2_; clear n0_ n1_ n2_; have hczg2_0 : w7.cell? ⟨g2, 0, none⟩ = some (.int .i64 0) := (blk_cell hbox 0).trans rfl; have hczg2_1 : w7.cell? ⟨g2, 1, none⟩ = some (.int .i64 0) := (blk_cell hbox 1).trans rfl; have hczg2_2 : w7.cell? ⟨g2, 2, none⟩ = some (.int .i64 0) := (blk_cell hbox 2).trans rfl; have hczg2_3 : w7.cell? ⟨g2, 3, none⟩ = some (.int .i64 0) := (blk_cell hbox 3).trans rfl; have hczg2_4 : w7.cell? ⟨g2, 4, none⟩ = some (.int .i64 0) := (blk_cell hbox 4).trans rfl; have hfzg2_0 := blk_frozen hbox 0; have hfzg2_1 := blk_frozen hbox 1; have hfzg2_2 := blk_frozen hbox 2; have hfzg2_3 := blk_frozen hbox 3; have hfzg2_4 := blk_frozen hbox 4; clear hb hbox hg) | ((with_reducible refine gate_callee (f := 17) rfl ?_); refine goesL_ (some 43) rfl rfl Try.func17 (by kernel_rfl) rfl #[.agg #[.int .i64 (rd_T49 (rd_T36 l0 (i : Int)).f0 (j : Int)).f0, .int .i64 (rd_T49 (rd_T36 l0 (i : Int)).f0 (j : Int)).f1.f0, .int .i64 (rd_T49 (rd_T36 l0 (i : Int)).f0 (j : Int)).f1.f1, .int .i64 (rd_T49 (rd_T36 l0 (i : Int)).f0 (j : Int)).f1.f2, .int .i64 (rd_T49 (rd_T36 l0 (i : Int)).f0 (j : Int)).f1.f3]] rfl (by (try simp only [List.map_toArray, List.map_cons, List.map_nil]); first | done | rfl) ?_; (with_reducible refine (spec_l2Page.calls _ _ _ _ _ _ _ hkp.out).mono ?_); rintro e w8 ⟨rfl, hb⟩; refine ⟨_, rfl, ?_⟩; have n0_ := Aside0.mk (below_step (by repeat (first | (with_reducible first | exact HB.out | apply below_alloc | apply pw_below_drewN | apply below_drew1 | refine below_set ?_ GE2.out) | exact HB.out)) hb); have n1_ := Aside0.mk (put5_ BK2.out hb); have n2_ := Aside0.mk (far5_ HO.out (fun _ hk => hk.2) hb); clear HB BK2 HO; have HB := n0_; have BK2 := n1_; have HO := n2_; clear n0_ n1_ n2_; clear hb hczg2_0 hfzg2_0 hczg2_1 hfzg2_1 hczg2_2 hfzg2_2 hczg2_3 hfzg2_3 hczg2_4 hfzg2_4; have hy2_0 := (blk_cell BK2.out 0).trans rfl; have hy2_1 := (blk_cell BK2.out 1).trans rfl; have hy2_2 := (blk_cell BK2.out 2).trans rfl; have hy2_3 := (blk_cell BK2.out 3).trans rfl; have hy2_4 := (blk_cell BK2.out 4).trans rfl; obtain ⟨ad9, e9, hx9⟩ := Kd.at_bool (Kd.R_reads' HO.out).2.2 (rd_T49 (rd_T36 l0 (i : Int)).f0 (j : Int)).f1.f1 HS0.out HS1.out; (rw [hv.out] at hx9); obtain rfl : ad9 = ⟨go, 0, none⟩ := (by injection e9 with e; exact e.symm); simp only [add_plain] at hx9; have hz0 := up HB.out HX0.out; have hz1 := up HB.out HX1.out; have hzp := up HB.out HXP.out))
            go_ret
            exact ⟨by rw [flash_false CI.out HP.out (HN.out)]; rfl, by repeat (first | (with_reducible first | exact HB.out | apply below_alloc | apply pw_below_drewN | apply below_drew1 | refine below_set ?_ GE2.out) | exact HB.out)⟩
          rw [if_neg hm] at HQ2
          have HQ3 := Aside0.mk (HQ2)
          have hv := Aside0.mk (hvr.trans (decide_eq_false hm))
          have HT := Aside0.mk (HV2.out.add HS3 hsq.2.1)
          clear HQ2 hm hvr hsq HS3
          go_wp2_with (first | ((with_reducible refine gate_dst (N := 6) rfl ?_); refine box_event ?hg (N := 6) ?hd (cs := #[.int .i64 0, .int .i64 0, .int .i64 0, .int .i64 0, .int .i64 0]) (t := 49) ?hr ?_; (case hd => rfl); (case hg => rfl); (case hr => first | (go_simp; done) | (go_simp; rfl)); intro g2 hg w7 hbox hb; have n0_ := Aside0.mk (below_step HB.out hb); have n1_ := Aside0.mk hbox; have GE2 := Aside0.mk ((by rw [hg]; exact below_size HB.out) : w.heap.size ≤ g2); have GL2 := Aside0.mk ((Nat.le_of_eq hg.symm)); have n2_ := Aside0.mk (Kd.R_below (Kd.R_elderB HO.out g2 (Nat.le_of_eq hg.symm)) hb); clear HB HO; have HB := n0_; have BK2 := n1_; have HO := n2_; clear n0_ n1_ n2_; have hczg2_0 : w7.cell? ⟨g2, 0, none⟩ = some (.int .i64 0) := (blk_cell hbox 0).trans rfl; have hczg2_1 : w7.cell? ⟨g2, 1, none⟩ = some (.int .i64 0) := (blk_cell hbox 1).trans rfl; have hczg2_2 : w7.cell? ⟨g2, 2, none⟩ = some (.int .i64 0) := (blk_cell hbox 2).trans rfl; have hczg2_3 : w7.cell? ⟨g2, 3, none⟩ = some (.int .i64 0) := (blk_cell hbox 3).trans rfl; have hczg2_4 : w7.cell? ⟨g2, 4, none⟩ = some (.int .i64 0) := (blk_cell hbox 4).trans rfl; have hfzg2_0 := blk_frozen hbox 0; have hfzg2_1 := blk_frozen hbox 1; have hfzg2_2 := blk_frozen hbox 2; have hfzg2_3 := blk_frozen hbox 3; have hfzg2_4 := blk_frozen hbox 4; clear hb hbox hg) | ((with_reducible refine gate_callee (f := 17) rfl ?_); refine goesL_ (some 43) rfl rfl Try.func17 (by kernel_rfl) rfl #[.agg #[.int .i64 (rd_T49 (rd_T36 l0 (i : Int)).f0 (j : Int)).f0, .int .i64 (rd_T49 (rd_T36 l0 (i : Int)).f0 (j : Int)).f1.f0, .int .i64 (rd_T49 (rd_T36 l0 (i : Int)).f0 (j : Int)).f1.f1, .int .i64 (rd_T49 (rd_T36 l0 (i : Int)).f0 (j : Int)).f1.f2, .int .i64 (rd_T49 (rd_T36 l0 (i : Int)).f0 (j : Int)).f1.f3]] rfl (by (try simp only [List.map_toArray, List.map_cons, List.map_nil]); first | done | rfl) ?_; (with_reducible refine (spec_l2Page.calls _ _ _ _ _ _ _ hkp.out).mono ?_); rintro e w8 ⟨rfl, hb⟩; refine ⟨_, rfl, ?_⟩; have n0_ := Aside0.mk (below_step (by repeat (first | (with_reducible first | exact HB.out | apply below_alloc | apply pw_below_drewN | apply below_drew1 | refine below_set ?_ GE2.out) | exact HB.out)) hb); have n1_ := Aside0.mk (put5_ BK2.out hb); have n2_ := Aside0.mk (far5_ HO.out (fun _ hk => hk.2) hb); clear HB BK2 HO; have HB := n0_; have BK2 := n1_; have HO := n2_; clear n0_ n1_ n2_; clear hb hczg2_0 hfzg2_0 hczg2_1 hfzg2_1 hczg2_2 hfzg2_2 hczg2_3 hfzg2_3 hczg2_4 hfzg2_4; have hy2_0 := (blk_cell BK2.out 0).trans rfl; have hy2_1 := (blk_cell BK2.out 1).trans rfl; have hy2_2 := (blk_cell BK2.out 2).trans rfl; have hy2_3 := (blk_cell BK2.out 3).trans rfl; have hy2_4 := (blk_cell BK2.out 4).trans rfl; obtain ⟨ad9, e9, hx9⟩ := Kd.at_bool (Kd.R_reads' HO.out).2.2 (rd_T49 (rd_T36 l0 (i : Int)).f0 (j : Int)).f1.f1 HS0.out HS1.out; (rw [hv.out] at hx9); obtain rfl : ad9 = ⟨go, 0, none⟩ := (by injection e9 with e; exact e.symm); simp only [add_plain] at hx9; have hz0 := up HB.out HX0.out; have hz1 := up HB.out HX1.out; have hzp := up HB.out HXP.out))
          refine spec_FlashOk_mark w _ go cv V2 g2 _ _ _ _ _ true cs0 ⟨Kd.R_mono HO.out (fun _ _ => trivial)⟩ HV2.out.1 BK2 HB HS0.out HS1.out hv.out _ ?_ ?_
          · intro c_ a_ b_ w_ hd_ h_
            cases a_
            cases b_
            cases hd_
            exact h_
          intro x80 x81 x82 x83 x84 x85 x86 x87 x88 x89 x90 x91 x92 x93 x94 x95 w9 hr9 hb9
          go_wp2
          go_roundg k2
          case measure => omega
          case rel => exact ⟨j + 1, _, _ :: S2, by first | rfl | (simp; done) | (simp [*]; done), ⟨by have := HK2.out; omega⟩, ⟨by have := CJ.out; omega⟩, HQ3, ⟨HT.out⟩, ⟨hr9⟩, ⟨hb9⟩⟩
end Go.Proofs.Ytgdlakhfkmhlnaa.Pa
