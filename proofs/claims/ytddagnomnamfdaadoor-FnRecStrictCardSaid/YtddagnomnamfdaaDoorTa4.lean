-- printed by wip/pp/pp.py
import Derived.Test.YtddagnomnamfdaaDoorTa0
import Derived.Test.YtddagnomnamfdaaDoorTa2
import Derived.Test.YtddagnomnamfdaaDoorTa3
namespace Go.Proofs.YtddagnomnamfdaaDoor.Ta
open Go.RowKit Go.Proofs.YtddagnomnamfdaaDoorW.PrintWords Go.Proofs.YtddagnomnamfdaaDoorW.PrintLast Go.Proofs.YtddagnomnamfdaaDoorW.PrintMore
attribute [local go_sem] max2_int min2_int max_two min_two max_three min_three max_four min_four   -- for this text's walks alone
set_option linter.unusedVariables false
set_option linter.unusedSimpArgs false

/-! ### spec_RecText: function 9 -/
def spec_RecText.f (k : Nat) (a0_0 : Int) (a0_1 : Int) (a0_2 : Int) (a0_3 : Int) : Option (ByteArray) := (spec_RecOk.f a0_0 a0_1 a0_2 a0_3).bind fun t162 => (if t162 = true then ((some (([(⟨#[]⟩ : ByteArray), (⟨#[100, 105, 114, 116, 121]⟩ : ByteArray), (⟨#[99, 108, 101, 97, 110]⟩ : ByteArray)] : List ByteArray) : List ByteArray)).bind fun y163 => (if 0 ≤ a0_0 then (if a0_0 < (y163.length : Int) then (if (rdOf ByteArray.empty y163 a0_0).size + 1 ≤ 9223372036854775807 then ((spec_l6Dec.f k a0_1).bind fun t167 => (if ((rdOf ByteArray.empty y163 a0_0) ++ (⟨#[32]⟩ : ByteArray)).size + t167.size ≤ 9223372036854775807 then (if (((rdOf ByteArray.empty y163 a0_0) ++ (⟨#[32]⟩ : ByteArray)) ++ t167).size + 1 ≤ 9223372036854775807 then ((spec_l6Dec.f k a0_2).bind fun t168 => (if ((((rdOf ByteArray.empty y163 a0_0) ++ (⟨#[32]⟩ : ByteArray)) ++ t167) ++ (⟨#[32]⟩ : ByteArray)).size + t168.size ≤ 9223372036854775807 then (if (((((rdOf ByteArray.empty y163 a0_0) ++ (⟨#[32]⟩ : ByteArray)) ++ t167) ++ (⟨#[32]⟩ : ByteArray)) ++ t168).size + 1 ≤ 9223372036854775807 then ((spec_l6Dec.f k a0_3).bind fun t169 => (if ((((((rdOf ByteArray.empty y163 a0_0) ++ (⟨#[32]⟩ : ByteArray)) ++ t167) ++ (⟨#[32]⟩ : ByteArray)) ++ t168) ++ (⟨#[32]⟩ : ByteArray)).size + t169.size ≤ 9223372036854775807 then (some (((((((rdOf ByteArray.empty y163 a0_0) ++ (⟨#[32]⟩ : ByteArray)) ++ t167) ++ (⟨#[32]⟩ : ByteArray)) ++ t168) ++ (⟨#[32]⟩ : ByteArray)) ++ t169)) else (none))) else (none)) else (none))) else (none)) else (none))) else (none)) else (none)) else (none))) else (some (⟨#[]⟩ : ByteArray)))
theorem spec_RecText.mono : ∀ a0 a1 a2 a3 k, LeO (spec_RecText.f k a0 a1 a2 a3) (spec_RecText.f (k + 1) a0 a1 a2 a3) := by
  intro a0 a1 a2 a3 k
  unfold spec_RecText.f
  repeat' first
      | (with_reducible exact spec_l6Dec.mono _ _)
      | (with_reducible exact LeO.refl _)
      | (with_reducible exact LeO.none _)
      | (with_reducible refine LeO.ite ?_ ?_)
      | (with_reducible refine LeO.bind ?_ (fun _ => ?_))
      | exact spec_l6Dec.mono _ _
      | exact LeO.none _
      | refine LeO.ite ?_ ?_
      | refine LeO.bind ?_ (fun _ => ?_)
def spec_RecText.T3 : Bool × List (List Nat × List Nat) := (true, [([], []), ([], []), ([1], [1]), ([0, 2], [0, 2]), ([3], [3]), ([4], [4]), ([], []), ([6], [6]), ([7], [7]), ([5, 8], [5, 8]), ([9], [9]), ([], []), ([11], [11]), ([12, 8], [12]), ([10, 13], [10, 13]), ([14], [14]), ([], []), ([16], [16]), ([17, 13], [17]), ([15, 18], [15, 18]), ([19, 18, 0, 1, 2, 3, 4, 5, 6, 7, 8, 9, 10, 11, 12, 13, 14, 15, 16, 17, 18, 19], [19])])
def spec_RecText.B3 : List Nat := [0, 0, 2, 7, 15, 31, 0, 64, 192, 511, 1023, 0, 2048, 6592, 16383, 32767, 0, 65536, 211392, 524287, 1048575]
theorem spec_RecText.tab3 : rtab .any (opsOf Tryd.f9 3) = spec_RecText.T3 := by kernel_rfl
theorem spec_RecText.bits3 : waitsOk spec_RecText.T3.2 spec_RecText.B3 = true := by kernel_rfl
set_option maxHeartbeats 8000000 in
set_option maxRecDepth 100000 in
theorem spec_RecText.calls (k : Nat) (a0_0 : Int) (a0_1 : Int) (a0_2 : Int) (a0_3 : Int) (r : ByteArray) (w : World) (h : spec_RecText.f k a0_0 a0_1 a0_2 a0_3 = some r) :
    Calls Tryd.prog 9 #[.agg #[.int .i64 a0_0, .int .i64 a0_1, .int .i64 a0_2, .int .i64 a0_3]] w fun e w' => e = .returned (.string r) ∧ Below w.heap.size w w' := by
  have hu24 := Tryd.underlying24
  have HB := Aside0.mk (Below.refl w.heap.size w)
  have H : ((spec_RecOk.f a0_0 a0_1 a0_2 a0_3).bind fun t162 => (if t162 = true then ((some (([(⟨#[]⟩ : ByteArray), (⟨#[100, 105, 114, 116, 121]⟩ : ByteArray), (⟨#[99, 108, 101, 97, 110]⟩ : ByteArray)] : List ByteArray) : List ByteArray)).bind fun y163 => (if 0 ≤ a0_0 then (if a0_0 < (y163.length : Int) then (if (rdOf ByteArray.empty y163 a0_0).size + 1 ≤ 9223372036854775807 then ((spec_l6Dec.f k a0_1).bind fun t167 => (if ((rdOf ByteArray.empty y163 a0_0) ++ (⟨#[32]⟩ : ByteArray)).size + t167.size ≤ 9223372036854775807 then (if (((rdOf ByteArray.empty y163 a0_0) ++ (⟨#[32]⟩ : ByteArray)) ++ t167).size + 1 ≤ 9223372036854775807 then ((spec_l6Dec.f k a0_2).bind fun t168 => (if ((((rdOf ByteArray.empty y163 a0_0) ++ (⟨#[32]⟩ : ByteArray)) ++ t167) ++ (⟨#[32]⟩ : ByteArray)).size + t168.size ≤ 9223372036854775807 then (if (((((rdOf ByteArray.empty y163 a0_0) ++ (⟨#[32]⟩ : ByteArray)) ++ t167) ++ (⟨#[32]⟩ : ByteArray)) ++ t168).size + 1 ≤ 9223372036854775807 then ((spec_l6Dec.f k a0_3).bind fun t169 => (if ((((((rdOf ByteArray.empty y163 a0_0) ++ (⟨#[32]⟩ : ByteArray)) ++ t167) ++ (⟨#[32]⟩ : ByteArray)) ++ t168) ++ (⟨#[32]⟩ : ByteArray)).size + t169.size ≤ 9223372036854775807 then (some (((((((rdOf ByteArray.empty y163 a0_0) ++ (⟨#[32]⟩ : ByteArray)) ++ t167) ++ (⟨#[32]⟩ : ByteArray)) ++ t168) ++ (⟨#[32]⟩ : ByteArray)) ++ t169)) else (none))) else (none)) else (none))) else (none)) else (none))) else (none)) else (none)) else (none))) else (some (⟨#[]⟩ : ByteArray)))) = some r := h
  clear h
  replace H := Option.bind_eq_some_iff.mp H
  obtain ⟨t162, A20, H⟩ := H
  replace H : (if t162 = true then ((some (([(⟨#[]⟩ : ByteArray), (⟨#[100, 105, 114, 116, 121]⟩ : ByteArray), (⟨#[99, 108, 101, 97, 110]⟩ : ByteArray)] : List ByteArray) : List ByteArray)).bind fun y163 => (if 0 ≤ a0_0 then (if a0_0 < (y163.length : Int) then (if (rdOf ByteArray.empty y163 a0_0).size + 1 ≤ 9223372036854775807 then ((spec_l6Dec.f k a0_1).bind fun t167 => (if ((rdOf ByteArray.empty y163 a0_0) ++ (⟨#[32]⟩ : ByteArray)).size + t167.size ≤ 9223372036854775807 then (if (((rdOf ByteArray.empty y163 a0_0) ++ (⟨#[32]⟩ : ByteArray)) ++ t167).size + 1 ≤ 9223372036854775807 then ((spec_l6Dec.f k a0_2).bind fun t168 => (if ((((rdOf ByteArray.empty y163 a0_0) ++ (⟨#[32]⟩ : ByteArray)) ++ t167) ++ (⟨#[32]⟩ : ByteArray)).size + t168.size ≤ 9223372036854775807 then (if (((((rdOf ByteArray.empty y163 a0_0) ++ (⟨#[32]⟩ : ByteArray)) ++ t167) ++ (⟨#[32]⟩ : ByteArray)) ++ t168).size + 1 ≤ 9223372036854775807 then ((spec_l6Dec.f k a0_3).bind fun t169 => (if ((((((rdOf ByteArray.empty y163 a0_0) ++ (⟨#[32]⟩ : ByteArray)) ++ t167) ++ (⟨#[32]⟩ : ByteArray)) ++ t168) ++ (⟨#[32]⟩ : ByteArray)).size + t169.size ≤ 9223372036854775807 then (some (((((((rdOf ByteArray.empty y163 a0_0) ++ (⟨#[32]⟩ : ByteArray)) ++ t167) ++ (⟨#[32]⟩ : ByteArray)) ++ t168) ++ (⟨#[32]⟩ : ByteArray)) ++ t169)) else (none))) else (none)) else (none))) else (none)) else (none))) else (none)) else (none)) else (none))) else (some (⟨#[]⟩ : ByteArray))) = some r := H
  have A2 := Aside0.mk A20
  clear A20
  by_cases c3 : t162 = true
  rotate_left
  · replace c3 := Bool.eq_false_iff.mpr c3
    subst c3
    have H1 : (some (⟨#[]⟩ : ByteArray)) = some r := by rw [if_neg (show ¬ (false = true) by decide)] at H; exact H
    clear H
    have H := H1
    clear H1
    obtain rfl := Option.some.inj H
    go_enter Tryd.func9, Tryd.ntmps9
    go_wp2_with (first | ((with_reducible refine gate_dst (N := 1) rfl ?_); refine box_event ?hg (N := 1) ?hd (cs := #[.int .i64 a0_0, .int .i64 a0_1, .int .i64 a0_2, .int .i64 a0_3]) (t := 24) ?hr ?_; (case hd => rfl); (case hg => rfl); (case hr => first | (go_simp; done) | (go_simp; rfl)); intro gb161 hg w27 hbox hb; have n0_ := Aside0.mk (below_step (by repeat (first | (with_reducible first | exact HB.out | apply below_alloc | apply pw_below_drewN | apply below_drew1) | exact HB.out)) hb); have n1_ := Aside0.mk (hbox); have n2_ := Aside0.mk ((by rw [hg]; exact (below_size (by repeat (first | (with_reducible first | exact HB.out | apply below_alloc | apply pw_below_drewN | apply below_drew1) | exact HB.out))) : w.heap.size ≤ gb161)); have n3_ := Aside0.mk ((by rw [hg]; exact (below_size (by repeat (first | (with_reducible first | exact HB.out | apply below_alloc | apply pw_below_drewN | apply below_drew1) | exact HB.out))) : w.heap.size ≤ gb161)); clear HB; have HB := n0_; have BK161 := n1_; have GW161 := n2_; have GE161 := n3_; clear n0_ n1_ n2_ n3_; clear hb hbox hg; have hcz28_0 : w27.cell? ⟨gb161, 0, none⟩ = some (.int .i64 a0_0) := (blk_cell BK161.out 0).trans rfl; have hcz28_1 : w27.cell? ⟨gb161, 1, none⟩ = some (.int .i64 a0_1) := (blk_cell BK161.out 1).trans rfl; have hcz28_2 : w27.cell? ⟨gb161, 2, none⟩ = some (.int .i64 a0_2) := (blk_cell BK161.out 2).trans rfl; have hcz28_3 : w27.cell? ⟨gb161, 3, none⟩ = some (.int .i64 a0_3) := (blk_cell BK161.out 3).trans rfl; have hfz28_0 := blk_frozen BK161.out 0; have hfz28_1 := blk_frozen BK161.out 1; have hfz28_2 := blk_frozen BK161.out 2; have hfz28_3 := blk_frozen BK161.out 3) | ((with_reducible refine gate_callee (f := 21) rfl ?_); refine goesL_ (some 4) rfl rfl Tryd.func21 (by kernel_rfl) rfl #[.agg #[.int .i64 a0_0, .int .i64 a0_1, .int .i64 a0_2, .int .i64 a0_3]] rfl (by (try simp only [List.map_toArray, List.map_cons, List.map_nil]); first | done | rfl | (simp only [List.length_drop, List.length_take]; rfl)) ?_; (with_reducible refine (spec_RecOk.calls a0_0 a0_1 a0_2 a0_3 false _ A2.out).mono ?_); rintro e w29 ⟨rfl, hb⟩; refine ⟨_, rfl, ?_⟩; have n0_ := Aside0.mk (blk_below (g := gb161) (o := .cells #[.int .i64 a0_0, .int .i64 a0_1, .int .i64 a0_2, .int .i64 a0_3] 24 (0, 0)) (by (with_reducible repeat (first | refine blk_drewN ?_ _ | refine blk_drew ?_ | refine blk_alloc ?_ _)); exact BK161.out) hb); have n1_ := Aside0.mk (below_step (by repeat (first | (with_reducible first | exact HB.out | apply below_alloc | apply pw_below_drewN | apply below_drew1 | refine below_set ?_ GE161.out) | exact HB.out)) hb); clear BK161; clear HB; have BK161 := n0_; have HB := n1_; clear n0_ n1_; (try clear hb); (try clear hb2); (try clear hk); (try clear hi)))
    go_ret
    exact ⟨by first | rfl | (simp [errW_none, errW_some] <;> rfl) | (simp [*, errW_none, errW_some] <;> rfl), by repeat (first | (with_reducible first | exact HB.out | apply below_alloc | apply pw_below_drewN | apply below_drew1 | refine below_set ?_ GE161.out) | exact HB.out)⟩
  subst c3
  have H1 : ((some (([(⟨#[]⟩ : ByteArray), (⟨#[100, 105, 114, 116, 121]⟩ : ByteArray), (⟨#[99, 108, 101, 97, 110]⟩ : ByteArray)] : List ByteArray) : List ByteArray)).bind fun y163 => (if 0 ≤ a0_0 then (if a0_0 < (y163.length : Int) then (if (rdOf ByteArray.empty y163 a0_0).size + 1 ≤ 9223372036854775807 then ((spec_l6Dec.f k a0_1).bind fun t167 => (if ((rdOf ByteArray.empty y163 a0_0) ++ (⟨#[32]⟩ : ByteArray)).size + t167.size ≤ 9223372036854775807 then (if (((rdOf ByteArray.empty y163 a0_0) ++ (⟨#[32]⟩ : ByteArray)) ++ t167).size + 1 ≤ 9223372036854775807 then ((spec_l6Dec.f k a0_2).bind fun t168 => (if ((((rdOf ByteArray.empty y163 a0_0) ++ (⟨#[32]⟩ : ByteArray)) ++ t167) ++ (⟨#[32]⟩ : ByteArray)).size + t168.size ≤ 9223372036854775807 then (if (((((rdOf ByteArray.empty y163 a0_0) ++ (⟨#[32]⟩ : ByteArray)) ++ t167) ++ (⟨#[32]⟩ : ByteArray)) ++ t168).size + 1 ≤ 9223372036854775807 then ((spec_l6Dec.f k a0_3).bind fun t169 => (if ((((((rdOf ByteArray.empty y163 a0_0) ++ (⟨#[32]⟩ : ByteArray)) ++ t167) ++ (⟨#[32]⟩ : ByteArray)) ++ t168) ++ (⟨#[32]⟩ : ByteArray)).size + t169.size ≤ 9223372036854775807 then (some (((((((rdOf ByteArray.empty y163 a0_0) ++ (⟨#[32]⟩ : ByteArray)) ++ t167) ++ (⟨#[32]⟩ : ByteArray)) ++ t168) ++ (⟨#[32]⟩ : ByteArray)) ++ t169)) else (none))) else (none)) else (none))) else (none)) else (none))) else (none)) else (none)) else (none))) = some r := by rw [if_pos rfl] at H; exact H
  clear H
  have H := H1
  clear H1
  obtain ⟨y163, hy163⟩ : ∃ y_ : List ByteArray, y_ = (([(⟨#[]⟩ : ByteArray), (⟨#[100, 105, 114, 116, 121]⟩ : ByteArray), (⟨#[99, 108, 101, 97, 110]⟩ : ByteArray)] : List ByteArray)) := ⟨_, rfl⟩
  replace H : (if 0 ≤ a0_0 then (if a0_0 < (y163.length : Int) then (if (rdOf ByteArray.empty y163 a0_0).size + 1 ≤ 9223372036854775807 then ((spec_l6Dec.f k a0_1).bind fun t167 => (if ((rdOf ByteArray.empty y163 a0_0) ++ (⟨#[32]⟩ : ByteArray)).size + t167.size ≤ 9223372036854775807 then (if (((rdOf ByteArray.empty y163 a0_0) ++ (⟨#[32]⟩ : ByteArray)) ++ t167).size + 1 ≤ 9223372036854775807 then ((spec_l6Dec.f k a0_2).bind fun t168 => (if ((((rdOf ByteArray.empty y163 a0_0) ++ (⟨#[32]⟩ : ByteArray)) ++ t167) ++ (⟨#[32]⟩ : ByteArray)).size + t168.size ≤ 9223372036854775807 then (if (((((rdOf ByteArray.empty y163 a0_0) ++ (⟨#[32]⟩ : ByteArray)) ++ t167) ++ (⟨#[32]⟩ : ByteArray)) ++ t168).size + 1 ≤ 9223372036854775807 then ((spec_l6Dec.f k a0_3).bind fun t169 => (if ((((((rdOf ByteArray.empty y163 a0_0) ++ (⟨#[32]⟩ : ByteArray)) ++ t167) ++ (⟨#[32]⟩ : ByteArray)) ++ t168) ++ (⟨#[32]⟩ : ByteArray)).size + t169.size ≤ 9223372036854775807 then (some (((((((rdOf ByteArray.empty y163 a0_0) ++ (⟨#[32]⟩ : ByteArray)) ++ t167) ++ (⟨#[32]⟩ : ByteArray)) ++ t168) ++ (⟨#[32]⟩ : ByteArray)) ++ t169)) else (none))) else (none)) else (none))) else (none)) else (none))) else (none)) else (none)) else (none)) = some r := by first | (rw [hy163]; with_reducible exact H) | (have H2_ := (Option.bind_some _ _).symm.trans H; rw [hy163]; with_reducible exact H2_) | (have H2_ := (Option.bind_some _ _).symm.trans H; with_reducible exact H2_) | with_reducible exact H | (rw [hy163]; exact H) | exact H
  have Ny163 := Aside0.mk hy163
  clear hy163
  by_cases c4 : 0 ≤ a0_0
  rotate_left
  · rw [if_neg c4] at H
    exact absurd H (by simp)
  rw [if_pos c4] at H
  have c4b0 := decide_eq_true c4
  clear c4
  by_cases c5 : a0_0 < (y163.length : Int)
  rotate_left
  · rw [if_neg c5] at H
    exact absurd H (by simp)
  rw [if_pos c5] at H
  have c5b0 := decide_eq_true c5
  clear c5
  by_cases c6 : (rdOf ByteArray.empty y163 a0_0).size + 1 ≤ 9223372036854775807
  rotate_left
  · rw [if_neg c6] at H
    exact absurd H (by simp)
  rw [if_pos c6] at H
  have c6b0 := eq_true c6
  have c6b1 := decide_eq_true c6
  try have c6b2 : (9223372036854775807 < (rdOf ByteArray.empty y163 a0_0).size + 1) = False := eq_false (Nat.not_lt.2 c6)
  replace H := Option.bind_eq_some_iff.mp H
  obtain ⟨t167, A70, H⟩ := H
  replace H : (if ((rdOf ByteArray.empty y163 a0_0) ++ (⟨#[32]⟩ : ByteArray)).size + t167.size ≤ 9223372036854775807 then (if (((rdOf ByteArray.empty y163 a0_0) ++ (⟨#[32]⟩ : ByteArray)) ++ t167).size + 1 ≤ 9223372036854775807 then ((spec_l6Dec.f k a0_2).bind fun t168 => (if ((((rdOf ByteArray.empty y163 a0_0) ++ (⟨#[32]⟩ : ByteArray)) ++ t167) ++ (⟨#[32]⟩ : ByteArray)).size + t168.size ≤ 9223372036854775807 then (if (((((rdOf ByteArray.empty y163 a0_0) ++ (⟨#[32]⟩ : ByteArray)) ++ t167) ++ (⟨#[32]⟩ : ByteArray)) ++ t168).size + 1 ≤ 9223372036854775807 then ((spec_l6Dec.f k a0_3).bind fun t169 => (if ((((((rdOf ByteArray.empty y163 a0_0) ++ (⟨#[32]⟩ : ByteArray)) ++ t167) ++ (⟨#[32]⟩ : ByteArray)) ++ t168) ++ (⟨#[32]⟩ : ByteArray)).size + t169.size ≤ 9223372036854775807 then (some (((((((rdOf ByteArray.empty y163 a0_0) ++ (⟨#[32]⟩ : ByteArray)) ++ t167) ++ (⟨#[32]⟩ : ByteArray)) ++ t168) ++ (⟨#[32]⟩ : ByteArray)) ++ t169)) else (none))) else (none)) else (none))) else (none)) else (none)) = some r := H
  have A7 := Aside0.mk A70
  clear A70
  by_cases c8 : ((rdOf ByteArray.empty y163 a0_0) ++ (⟨#[32]⟩ : ByteArray)).size + t167.size ≤ 9223372036854775807
  rotate_left
  · rw [if_neg c8] at H
    exact absurd H (by simp)
  rw [if_pos c8] at H
  have c8b0 := eq_true c8
  have c8b1 := decide_eq_true c8
  try have c8b2 : (9223372036854775807 < ((rdOf ByteArray.empty y163 a0_0) ++ (⟨#[32]⟩ : ByteArray)).size + t167.size) = False := eq_false (Nat.not_lt.2 c8)
  by_cases c9 : (((rdOf ByteArray.empty y163 a0_0) ++ (⟨#[32]⟩ : ByteArray)) ++ t167).size + 1 ≤ 9223372036854775807
  rotate_left
  · rw [if_neg c9] at H
    exact absurd H (by simp)
  rw [if_pos c9] at H
  have c9b0 := eq_true c9
  have c9b1 := decide_eq_true c9
  try have c9b2 : (9223372036854775807 < (((rdOf ByteArray.empty y163 a0_0) ++ (⟨#[32]⟩ : ByteArray)) ++ t167).size + 1) = False := eq_false (Nat.not_lt.2 c9)
  replace H := Option.bind_eq_some_iff.mp H
  obtain ⟨t168, A100, H⟩ := H
  replace H : (if ((((rdOf ByteArray.empty y163 a0_0) ++ (⟨#[32]⟩ : ByteArray)) ++ t167) ++ (⟨#[32]⟩ : ByteArray)).size + t168.size ≤ 9223372036854775807 then (if (((((rdOf ByteArray.empty y163 a0_0) ++ (⟨#[32]⟩ : ByteArray)) ++ t167) ++ (⟨#[32]⟩ : ByteArray)) ++ t168).size + 1 ≤ 9223372036854775807 then ((spec_l6Dec.f k a0_3).bind fun t169 => (if ((((((rdOf ByteArray.empty y163 a0_0) ++ (⟨#[32]⟩ : ByteArray)) ++ t167) ++ (⟨#[32]⟩ : ByteArray)) ++ t168) ++ (⟨#[32]⟩ : ByteArray)).size + t169.size ≤ 9223372036854775807 then (some (((((((rdOf ByteArray.empty y163 a0_0) ++ (⟨#[32]⟩ : ByteArray)) ++ t167) ++ (⟨#[32]⟩ : ByteArray)) ++ t168) ++ (⟨#[32]⟩ : ByteArray)) ++ t169)) else (none))) else (none)) else (none)) = some r := H
  have A10 := Aside0.mk A100
  clear A100
  by_cases c11 : ((((rdOf ByteArray.empty y163 a0_0) ++ (⟨#[32]⟩ : ByteArray)) ++ t167) ++ (⟨#[32]⟩ : ByteArray)).size + t168.size ≤ 9223372036854775807
  rotate_left
  · rw [if_neg c11] at H
    exact absurd H (by simp)
  rw [if_pos c11] at H
  have c11b0 := eq_true c11
  have c11b1 := decide_eq_true c11
  try have c11b2 : (9223372036854775807 < ((((rdOf ByteArray.empty y163 a0_0) ++ (⟨#[32]⟩ : ByteArray)) ++ t167) ++ (⟨#[32]⟩ : ByteArray)).size + t168.size) = False := eq_false (Nat.not_lt.2 c11)
  by_cases c12 : (((((rdOf ByteArray.empty y163 a0_0) ++ (⟨#[32]⟩ : ByteArray)) ++ t167) ++ (⟨#[32]⟩ : ByteArray)) ++ t168).size + 1 ≤ 9223372036854775807
  rotate_left
  · rw [if_neg c12] at H
    exact absurd H (by simp)
  rw [if_pos c12] at H
  have c12b0 := eq_true c12
  have c12b1 := decide_eq_true c12
  try have c12b2 : (9223372036854775807 < (((((rdOf ByteArray.empty y163 a0_0) ++ (⟨#[32]⟩ : ByteArray)) ++ t167) ++ (⟨#[32]⟩ : ByteArray)) ++ t168).size + 1) = False := eq_false (Nat.not_lt.2 c12)
  replace H := Option.bind_eq_some_iff.mp H
  obtain ⟨t169, A130, H⟩ := H
  replace H : (if ((((((rdOf ByteArray.empty y163 a0_0) ++ (⟨#[32]⟩ : ByteArray)) ++ t167) ++ (⟨#[32]⟩ : ByteArray)) ++ t168) ++ (⟨#[32]⟩ : ByteArray)).size + t169.size ≤ 9223372036854775807 then (some (((((((rdOf ByteArray.empty y163 a0_0) ++ (⟨#[32]⟩ : ByteArray)) ++ t167) ++ (⟨#[32]⟩ : ByteArray)) ++ t168) ++ (⟨#[32]⟩ : ByteArray)) ++ t169)) else (none)) = some r := H
  have A13 := Aside0.mk A130
  clear A130
  by_cases c14 : ((((((rdOf ByteArray.empty y163 a0_0) ++ (⟨#[32]⟩ : ByteArray)) ++ t167) ++ (⟨#[32]⟩ : ByteArray)) ++ t168) ++ (⟨#[32]⟩ : ByteArray)).size + t169.size ≤ 9223372036854775807
  rotate_left
  · rw [if_neg c14] at H
    exact absurd H (by simp)
  rw [if_pos c14] at H
  have c14b0 := eq_true c14
  have c14b1 := decide_eq_true c14
  try have c14b2 : (9223372036854775807 < ((((((rdOf ByteArray.empty y163 a0_0) ++ (⟨#[32]⟩ : ByteArray)) ++ t167) ++ (⟨#[32]⟩ : ByteArray)) ++ t168) ++ (⟨#[32]⟩ : ByteArray)).size + t169.size) = False := eq_false (Nat.not_lt.2 c14)
  obtain rfl := Option.some.inj H
  go_enter Tryd.func9, Tryd.ntmps9
  try go_wp2_with (first | ((with_reducible refine gate_dst (N := 1) rfl ?_); refine box_event ?hg (N := 1) ?hd (cs := #[.int .i64 a0_0, .int .i64 a0_1, .int .i64 a0_2, .int .i64 a0_3]) (t := 24) ?hr ?_; (case hd => rfl); (case hg => rfl); (case hr => first | (go_simp; done) | (go_simp; rfl)); intro gb161 hg w15 hbox hb; have n0_ := Aside0.mk (below_step (by repeat (first | (with_reducible first | exact HB.out | apply below_alloc | apply pw_below_drewN | apply below_drew1) | exact HB.out)) hb); have n1_ := Aside0.mk (hbox); have n2_ := Aside0.mk ((by rw [hg]; exact (below_size (by repeat (first | (with_reducible first | exact HB.out | apply below_alloc | apply pw_below_drewN | apply below_drew1) | exact HB.out))) : w.heap.size ≤ gb161)); have n3_ := Aside0.mk ((by rw [hg]; exact (below_size (by repeat (first | (with_reducible first | exact HB.out | apply below_alloc | apply pw_below_drewN | apply below_drew1) | exact HB.out))) : w.heap.size ≤ gb161)); clear HB; have HB := n0_; have BK161 := n1_; have GW161 := n2_; have GE161 := n3_; clear n0_ n1_ n2_ n3_; clear hb hbox hg; have hcz16_0 : w15.cell? ⟨gb161, 0, none⟩ = some (.int .i64 a0_0) := (blk_cell BK161.out 0).trans rfl; have hcz16_1 : w15.cell? ⟨gb161, 1, none⟩ = some (.int .i64 a0_1) := (blk_cell BK161.out 1).trans rfl; have hcz16_2 : w15.cell? ⟨gb161, 2, none⟩ = some (.int .i64 a0_2) := (blk_cell BK161.out 2).trans rfl; have hcz16_3 : w15.cell? ⟨gb161, 3, none⟩ = some (.int .i64 a0_3) := (blk_cell BK161.out 3).trans rfl; have hfz16_0 := blk_frozen BK161.out 0; have hfz16_1 := blk_frozen BK161.out 1; have hfz16_2 := blk_frozen BK161.out 2; have hfz16_3 := blk_frozen BK161.out 3) | ((with_reducible refine gate_callee (f := 21) rfl ?_); refine goesL_ (some 4) rfl rfl Tryd.func21 (by kernel_rfl) rfl #[.agg #[.int .i64 a0_0, .int .i64 a0_1, .int .i64 a0_2, .int .i64 a0_3]] rfl (by (try simp only [List.map_toArray, List.map_cons, List.map_nil]); first | done | rfl | (simp only [List.length_drop, List.length_take]; rfl)) ?_; (with_reducible refine (spec_RecOk.calls a0_0 a0_1 a0_2 a0_3 true _ A2.out).mono ?_); rintro e w17 ⟨rfl, hb⟩; refine ⟨_, rfl, ?_⟩; have n0_ := Aside0.mk (blk_below (g := gb161) (o := .cells #[.int .i64 a0_0, .int .i64 a0_1, .int .i64 a0_2, .int .i64 a0_3] 24 (0, 0)) (by (with_reducible repeat (first | refine blk_drewN ?_ _ | refine blk_drew ?_ | refine blk_alloc ?_ _)); exact BK161.out) hb); have n1_ := Aside0.mk (below_step (by repeat (first | (with_reducible first | exact HB.out | apply below_alloc | apply pw_below_drewN | apply below_drew1 | refine below_set ?_ GE161.out) | exact HB.out)) hb); clear BK161; clear HB; have BK161 := n0_; have HB := n1_; clear n0_ n1_; (try clear hb); (try clear hb2); (try clear hk); (try clear hi)))
  have pi166 : (0 ≤ (a0_0 : Int)) = True := eq_true (ofb)
  have qi166 : (a0_0 < (y163.length : Int)) = True := eq_true (ofb)
  have n0_ := Aside0.mk (blk_drew BK161.out)
  have n1_ := Aside0.mk (below_drew1 HB.out)
  clear BK161
  clear HB
  have BK161 := n0_
  have HB := n1_
  clear n0_ n1_
  refine start_ (n := 21) (S := fun w' => True) (ds := []) #[false, false, false, false, false, false, false, false, false, false, false, false, false, false, false, false, false, false, false, false, false] (by kernel_rfl) rfl rfl trivial (fun hHeld => ?_); refine with_tabW spec_RecText.tab3 spec_RecText.bits3 (fun HT_ HW_ => ?_)
  generalize w17.drew = w18 at BK161 HB hHeld ⊢
  refine pure_ (i := 1) (N := some 7) (v := ?_) (a' := ?_) #[false, true, false, false, false, false, false, false, false, false, false, false, false, false, false, false, false, false, false, false, false] rfl rfl (any_of HT_.out (by kernel_rfl)) (fun _ _ _ h => h) (Or.inl ⟨by rfl, ?_⟩) ?_ ?_
  rotate_left; (· intro w'; go_simp; with_reducible rfl); rotate_left; (· simp only [Act.put, List.setIfInBounds_toArray, List.set_cons_zero, List.set_cons_succ, i64_w, i32_w]; rfl)
  refine pure_ (i := 6) (N := some 12) (v := ?_) (a' := ?_) #[false, true, false, false, false, false, true, false, false, false, false, false, false, false, false, false, false, false, false, false, false] rfl rfl (any_of HT_.out (by kernel_rfl)) (fun _ _ _ h => h) (Or.inl ⟨by rfl, ?_⟩) ?_ ?_
  rotate_left; (· intro w'; go_simp; with_reducible rfl); rotate_left; (· simp only [Act.put, List.setIfInBounds_toArray, List.set_cons_zero, List.set_cons_succ, i64_w, i32_w]; rfl)
  refine pure_ (i := 11) (N := some 17) (v := ?_) (a' := ?_) #[false, true, false, false, false, false, true, false, false, false, false, true, false, false, false, false, false, false, false, false, false] rfl rfl (any_of HT_.out (by kernel_rfl)) (fun _ _ _ h => h) (Or.inl ⟨by rfl, ?_⟩) ?_ ?_
  rotate_left; (· intro w'; go_simp; with_reducible rfl); rotate_left; (· simp only [Act.put, List.setIfInBounds_toArray, List.set_cons_zero, List.set_cons_succ, i64_w, i32_w]; rfl)
  refine pure_ (i := 16) (N := some 22) (v := ?_) (a' := ?_) #[false, true, false, false, false, false, true, false, false, false, false, true, false, false, false, false, true, false, false, false, false] rfl rfl (any_of HT_.out (by kernel_rfl)) (fun _ _ _ h => h) (Or.inl ⟨by rfl, ?_⟩) ?_ ?_
  rotate_left; (· intro w'; go_simp; with_reducible rfl); rotate_left; (· simp only [Act.put, List.setIfInBounds_toArray, List.set_cons_zero, List.set_cons_succ, i64_w, i32_w]; rfl)
  refine inv_at [0, 2, 3, 4, 5, 7, 8, 9, 10, 12, 13, 14, 15, 17, 18, 19, 20] (fun a0_ b a w' => ∃ (v164 : Value) (adz_v164 : Addr) (m3_ : Value), a = putSel a0_ b [(0, 6, v164), (2, 8, .int .i64 a0_0), (3, 9, m3_), (4, 10, .string (rdOf ByteArray.empty y163 a0_0)), (5, 11, .string ((rdOf ByteArray.empty y163 a0_0) ++ (⟨#[32]⟩ : ByteArray))), (7, 13, .int .i64 a0_1), (8, 14, .string t167), (9, 15, .string (((rdOf ByteArray.empty y163 a0_0) ++ (⟨#[32]⟩ : ByteArray)) ++ t167)), (10, 16, .string ((((rdOf ByteArray.empty y163 a0_0) ++ (⟨#[32]⟩ : ByteArray)) ++ t167) ++ (⟨#[32]⟩ : ByteArray))), (12, 18, .int .i64 a0_2), (13, 19, .string t168), (14, 20, .string (((((rdOf ByteArray.empty y163 a0_0) ++ (⟨#[32]⟩ : ByteArray)) ++ t167) ++ (⟨#[32]⟩ : ByteArray)) ++ t168)), (15, 21, .string ((((((rdOf ByteArray.empty y163 a0_0) ++ (⟨#[32]⟩ : ByteArray)) ++ t167) ++ (⟨#[32]⟩ : ByteArray)) ++ t168) ++ (⟨#[32]⟩ : ByteArray))), (17, 23, .int .i64 a0_3), (18, 24, .string t169), (19, 25, .string (((((((rdOf ByteArray.empty y163 a0_0) ++ (⟨#[32]⟩ : ByteArray)) ++ t167) ++ (⟨#[32]⟩ : ByteArray)) ++ t168) ++ (⟨#[32]⟩ : ByteArray)) ++ t169)), (20, 2, .string (((((((rdOf ByteArray.empty y163 a0_0) ++ (⟨#[32]⟩ : ByteArray)) ++ t167) ++ (⟨#[32]⟩ : ByteArray)) ++ t168) ++ (⟨#[32]⟩ : ByteArray)) ++ t169))] ∧ (w'.heap[gb161]? = some (.cells #[.int .i64 a0_0, .int .i64 a0_1, .int .i64 a0_2, .int .i64 a0_3] 24 (0, 0))) ∧ (Below w.heap.size w w') ∧ (b 0 = true → Kd.R Kd.string 9 w' w.heap.size (fun _ => True) v164 y163) ∧ (b 0 = true → ∃ c_, (v164 : Value) = .slice (some adz_v164) y163.length c_) ∧ (b 3 = true → (m3_ : Value) = .pointer (some (adz_v164.add (a0_0).toNat)))) HT_.out HW_.out (by kernel_rfl) (by kernel_rfl) ?_ ?_ ?_
  · exact ⟨.bool false, ⟨0, 0, none⟩, .bool false, by simp only [putSel, Bool.false_eq_true, if_false], BK161.out, HB.out, fun h_ => absurd h_ (by decide), fun h_ => absurd h_ (by decide), fun h_ => absurd h_ (by decide)⟩
  · skip
    clear BK161 HB
    refine steps_cons ?_ ?_
    · rintro b a w' ⟨v164, adz_v164, m3_, ha, Q_BK161, Q_HB, Q_HO165, Q_HA_HO165, Q_X3_⟩ hb_ hon hoff
      refine ⟨_, rfl, fun K hK => ?_⟩
      replace ha := Aside0.mk ha
      have BK161 := Aside0.mk Q_BK161
      have HB := Aside0.mk Q_HB
      refine Kd.R_lit_step Kd.string _ 9 ?hg (N := 6) ?hd (xs := ([(⟨#[]⟩ : ByteArray), (⟨#[100, 105, 114, 116, 121]⟩ : ByteArray), (⟨#[99, 108, 101, 97, 110]⟩ : ByteArray)] : List ByteArray)) (inner := [.string (⟨#[]⟩ : ByteArray), .string (⟨#[100, 105, 114, 116, 121]⟩ : ByteArray), .string (⟨#[99, 108, 101, 97, 110]⟩ : ByteArray)]) (ok := fun _ => True) (okp := fun _ => True) ?hr ?hp (fun _ hk => hk) trivial (Below.refl _ _) (Nat.le_refl _) (by simp) ?_; (case hd => rfl); (case hg => rfl); (case hr => first | (go_simp; done) | (go_simp; rfl)); (case hp => exact (Reps.one (show Kd.M Kd.string _ _ _ (⟨#[]⟩ : ByteArray) [.string (⟨#[]⟩ : ByteArray)] from rfl) (Reps.one (show Kd.M Kd.string _ _ _ (⟨#[100, 105, 114, 116, 121]⟩ : ByteArray) [.string (⟨#[100, 105, 114, 116, 121]⟩ : ByteArray)] from rfl) (Reps.one (show Kd.M Kd.string _ _ _ (⟨#[99, 108, 101, 97, 110]⟩ : ByteArray) [.string (⟨#[99, 108, 101, 97, 110]⟩ : ByteArray)] from rfl) (Reps.none _ _)))))
      intro v164 w19 ho20 hb hg_ hnew_
      clear hg_ hnew_
      (first | rw [← Ny163.out] at ho20 | (simp only [Int.reduceToNat] at ho20; rw [← Ny163.out] at ho20))
      have n0_ := Aside0.mk (Kd.R_lower ho20 (below_size (by repeat (first | (with_reducible first | exact HB.out | apply below_alloc | apply pw_below_drewN | apply below_drew1 | refine below_set ?_ GE161.out) | exact HB.out))))
      have n1_ := Aside0.mk (blk_below (g := gb161) (o := .cells #[.int .i64 a0_0, .int .i64 a0_1, .int .i64 a0_2, .int .i64 a0_3] 24 (0, 0)) (by (with_reducible repeat (first | refine blk_drewN ?_ _ | refine blk_drew ?_ | refine blk_alloc ?_ _)); exact BK161.out) hb)
      have n2_ := Aside0.mk (below_step (by repeat (first | (with_reducible first | exact HB.out | apply below_alloc | apply pw_below_drewN | apply below_drew1 | refine below_set ?_ GE161.out) | exact HB.out)) hb)
      clear BK161
      clear HB
      have HO165 := n0_
      have BK161 := n1_
      have HB := n2_
      clear n0_ n1_ n2_
      clear hb ho20
      obtain ⟨Ao21, co21, eo21⟩ := Kd.R_slice HO165.out
      subst eo21
      obtain ⟨ado21, fo21, _⟩ := Kd.at_string (Kd.R_reads' HO165.out).2.2 0 (by decide) (by rw [Ny163.out]; simp)
      cases fo21
      refine hK.out _ _ ⟨.slice (some ado21) y163.length co21, ado21, m3_, (by rw [ha.out]; exact putSel_upk 0 hb_ rfl rfl rfl), (by (with_reducible repeat (first | refine blk_drewN ?_ _ | refine blk_drew ?_ | refine blk_alloc ?_ _)); exact BK161.out), (by repeat (first | (with_reducible first | exact HB.out | apply below_alloc | apply pw_below_drewN | apply below_drew1 | refine below_set ?_ GE161.out) | exact HB.out)), fun _ => (by (with_reducible repeat (first | apply Kd.R_alloc | apply Kd.R_drewN | apply Kd.R_drew)); exact HO165.out), fun _ => ⟨_, rfl⟩, fun h0_ => absurd ((hoff 3 (by kernel_rfl)).symm.trans h0_) (by decide)⟩
    refine steps_cons ?_ ?_
    · rintro b a w' ⟨v164, adz_v164, m3_, ha, Q_BK161, Q_HB, Q_HO165, Q_HA_HO165, Q_X3_⟩ hb_ hon hoff
      refine ⟨_, rfl, fun K hK => ?_⟩
      have e7 : a.tmps[7]? = some (.pointer (some ⟨gb161, 0, none⟩)) := by rw [ha]; exact (putSel_off rfl).trans rfl
      replace ha := Aside0.mk ha
      have BK161 := Aside0.mk Q_BK161
      have HB := Aside0.mk Q_HB
      have hc0_ : w'.cell? ⟨gb161, 0, none⟩ = some (.int .i64 a0_0) := (blk_cell BK161.out 0).trans rfl
      have hc1_ : w'.cell? ⟨gb161, 1, none⟩ = some (.int .i64 a0_1) := (blk_cell BK161.out 1).trans rfl
      have hc2_ : w'.cell? ⟨gb161, 2, none⟩ = some (.int .i64 a0_2) := (blk_cell BK161.out 2).trans rfl
      have hc3_ : w'.cell? ⟨gb161, 3, none⟩ = some (.int .i64 a0_3) := (blk_cell BK161.out 3).trans rfl
      refine value_ (w1 := w') (v := .int .i64 a0_0) (by rfl) rfl ?_ ?_
      · go_simp
        (try simp only [i64_w])
        try rfl
        all_goals (have s1_ : (⟨#[32]⟩ : ByteArray).size = 1 := rfl; simp only [ByteArray.size_append, s1_] at *; omega)
      refine hK.out _ _ ⟨v164, adz_v164, m3_, (by rw [ha.out]; exact putSel_upk 1 hb_ rfl rfl rfl), Q_BK161, Q_HB, Q_HO165, Q_HA_HO165, fun h0_ => absurd ((hoff 3 (by kernel_rfl)).symm.trans h0_) (by decide)⟩
    refine steps_cons ?_ ?_
    · rintro b a w' ⟨v164, adz_v164, m3_, ha, Q_BK161, Q_HB, Q_HO165, Q_HA_HO165, Q_X3_⟩ hb_ hon hoff
      refine ⟨_, rfl, fun K hK => ?_⟩
      have e6 : a.tmps[6]? = some (v164) := by rw [ha]; exact putSel_on (e := (0, 6, v164)) 0 rfl rfl (hon 0 (by kernel_rfl)) rfl
      have e8 : a.tmps[8]? = some (.int .i64 a0_0) := by rw [ha]; exact putSel_on (e := (2, 8, .int .i64 a0_0)) 1 rfl rfl (hon 2 (by kernel_rfl)) rfl
      replace ha := Aside0.mk ha
      have BK161 := Aside0.mk Q_BK161
      have HB := Aside0.mk Q_HB
      have HO165 := Aside0.mk (Q_HO165 (hon 0 (by kernel_rfl)))
      have HA_HO165 := Aside0.mk (Q_HA_HO165 (hon 0 (by kernel_rfl)))
      obtain ⟨c_, hv_⟩ := HA_HO165.out
      rw [hv_] at e6
      refine value_ (w1 := w') (v := .pointer (some (adz_v164.add (a0_0).toNat))) (by rfl) rfl ?_ ?_
      · go_simp
        (try simp only [i64_w])
        try rfl
        all_goals (have s1_ : (⟨#[32]⟩ : ByteArray).size = 1 := rfl; simp only [ByteArray.size_append, s1_] at *; omega)
      refine hK.out _ _ ⟨v164, adz_v164, (.pointer (some (adz_v164.add (a0_0).toNat))), (by rw [ha.out]; exact putSel_upk 2 hb_ rfl rfl rfl), Q_BK161, Q_HB, Q_HO165, Q_HA_HO165, fun _ => rfl⟩
    refine steps_cons ?_ ?_
    · rintro b a w' ⟨v164, adz_v164, m3_, ha, Q_BK161, Q_HB, Q_HO165, Q_HA_HO165, Q_X3_⟩ hb_ hon hoff
      refine ⟨_, rfl, fun K hK => ?_⟩
      have e9 : a.tmps[9]? = some (m3_) := by rw [ha]; exact putSel_on (e := (3, 9, m3_)) 2 rfl rfl (hon 3 (by kernel_rfl)) rfl
      rw [Q_X3_ (hon 3 (by kernel_rfl))] at e9
      replace ha := Aside0.mk ha
      have BK161 := Aside0.mk Q_BK161
      have HB := Aside0.mk Q_HB
      have HO165 := Aside0.mk (Q_HO165 (hon 0 (by kernel_rfl)))
      have HA_HO165 := Aside0.mk (Q_HA_HO165 (hon 0 (by kernel_rfl)))
      obtain ⟨c_, hv_⟩ := HA_HO165.out
      have hF_ := HO165.out
      rw [hv_] at hF_
      obtain ⟨ad_, ea_, hx_⟩ := Kd.at_string (Kd.R_reads' hF_).2.2 a0_0 (of_eq_true pi166) (of_eq_true qi166)
      cases ea_
      refine value_ (w1 := w') (v := .string (rdOf ByteArray.empty y163 a0_0)) (by rfl) rfl ?_ ?_
      · go_simp
        (try simp only [i64_w])
        try rfl
        all_goals (have s1_ : (⟨#[32]⟩ : ByteArray).size = 1 := rfl; simp only [ByteArray.size_append, s1_] at *; omega)
      refine hK.out _ _ ⟨v164, adz_v164, m3_, (by rw [ha.out]; exact putSel_upk 3 hb_ rfl rfl rfl), Q_BK161, Q_HB, Q_HO165, Q_HA_HO165, Q_X3_⟩
    refine steps_cons ?_ ?_
    · rintro b a w' ⟨v164, adz_v164, m3_, ha, Q_BK161, Q_HB, Q_HO165, Q_HA_HO165, Q_X3_⟩ hb_ hon hoff
      refine ⟨_, rfl, fun K hK => ?_⟩
      have e10 : a.tmps[10]? = some (.string (rdOf ByteArray.empty y163 a0_0)) := by rw [ha]; exact putSel_on (e := (4, 10, .string (rdOf ByteArray.empty y163 a0_0))) 3 rfl rfl (hon 4 (by kernel_rfl)) rfl
      replace ha := Aside0.mk ha
      have BK161 := Aside0.mk Q_BK161
      have HB := Aside0.mk Q_HB
      have HO165 := Aside0.mk (Q_HO165 (hon 0 (by kernel_rfl)))
      have HA_HO165 := Aside0.mk (Q_HA_HO165 (hon 0 (by kernel_rfl)))
      refine value_ (w1 := w') (v := .string ((rdOf ByteArray.empty y163 a0_0) ++ (⟨#[32]⟩ : ByteArray))) (by rfl) rfl ?_ ?_
      · go_simp
        (try simp only [i64_w])
        try rfl
        all_goals (have s1_ : (⟨#[32]⟩ : ByteArray).size = 1 := rfl; simp only [ByteArray.size_append, s1_] at *; omega)
      refine hK.out _ _ ⟨v164, adz_v164, m3_, (by rw [ha.out]; exact putSel_upk 4 hb_ rfl rfl rfl), Q_BK161, Q_HB, Q_HO165, Q_HA_HO165, Q_X3_⟩
    refine steps_cons ?_ ?_
    · rintro b a w' ⟨v164, adz_v164, m3_, ha, Q_BK161, Q_HB, Q_HO165, Q_HA_HO165, Q_X3_⟩ hb_ hon hoff
      refine ⟨_, rfl, fun K hK => ?_⟩
      have e12 : a.tmps[12]? = some (.pointer (some ⟨gb161, 1, none⟩)) := by rw [ha]; exact (putSel_off rfl).trans rfl
      replace ha := Aside0.mk ha
      have BK161 := Aside0.mk Q_BK161
      have HB := Aside0.mk Q_HB
      have hc0_ : w'.cell? ⟨gb161, 0, none⟩ = some (.int .i64 a0_0) := (blk_cell BK161.out 0).trans rfl
      have hc1_ : w'.cell? ⟨gb161, 1, none⟩ = some (.int .i64 a0_1) := (blk_cell BK161.out 1).trans rfl
      have hc2_ : w'.cell? ⟨gb161, 2, none⟩ = some (.int .i64 a0_2) := (blk_cell BK161.out 2).trans rfl
      have hc3_ : w'.cell? ⟨gb161, 3, none⟩ = some (.int .i64 a0_3) := (blk_cell BK161.out 3).trans rfl
      refine value_ (w1 := w') (v := .int .i64 a0_1) (by rfl) rfl ?_ ?_
      · go_simp
        (try simp only [i64_w])
        try rfl
        all_goals (have s1_ : (⟨#[32]⟩ : ByteArray).size = 1 := rfl; simp only [ByteArray.size_append, s1_] at *; omega)
      refine hK.out _ _ ⟨v164, adz_v164, m3_, (by rw [ha.out]; exact putSel_upk 5 hb_ rfl rfl rfl), Q_BK161, Q_HB, Q_HO165, Q_HA_HO165, Q_X3_⟩
    refine steps_cons ?_ ?_
    · rintro b a w' ⟨v164, adz_v164, m3_, ha, Q_BK161, Q_HB, Q_HO165, Q_HA_HO165, Q_X3_⟩ hb_ hon hoff
      refine ⟨_, rfl, fun K hK => ?_⟩
      have e13 : a.tmps[13]? = some (.int .i64 a0_1) := by rw [ha]; exact putSel_on (e := (7, 13, .int .i64 a0_1)) 5 rfl rfl (hon 7 (by kernel_rfl)) rfl
      replace ha := Aside0.mk ha
      have BK161 := Aside0.mk Q_BK161
      have HB := Aside0.mk Q_HB
      refine goes_ Tryd.func22 (by kernel_rfl) rfl #[.int .i64 a0_1] (by rfl) rfl rfl (by first | (simp only [List.map_toArray, List.map_cons, List.map_nil, Act.eval, Array.getD_eq_getD_getElem?, Option.getD_some, e13]; done) | (simp only [List.map_toArray, List.map_cons, List.map_nil, Act.eval, Array.getD_eq_getD_getElem?, Option.getD_some, e13]; rfl)) ?_
      with_reducible refine (spec_l6Dec.calls k a0_1 t167 _ A7.out).mono ?_
      rintro e w19 ⟨rfl, hb⟩
      refine ⟨_, rfl, ?_⟩
      have n0_ := Aside0.mk (blk_below (g := gb161) (o := .cells #[.int .i64 a0_0, .int .i64 a0_1, .int .i64 a0_2, .int .i64 a0_3] 24 (0, 0)) (by (with_reducible repeat (first | refine blk_drewN ?_ _ | refine blk_drew ?_ | refine blk_alloc ?_ _)); exact BK161.out) hb)
      have n1_ := Aside0.mk (below_step (by repeat (first | (with_reducible first | exact HB.out | apply below_alloc | apply pw_below_drewN | apply below_drew1 | refine below_set ?_ GE161.out) | exact HB.out)) hb)
      have z_HO165 := fun (h0_ : b 0 = true) => (show Kd.R Kd.string 9 w19 w.heap.size (fun _ => True) v164 y163 from by first | exact (Kd.R_below (by (with_reducible repeat (first | apply Kd.R_alloc | apply Kd.R_drewN | apply Kd.R_drew)); exact (Q_HO165 h0_)) hb) | exact Kd.R_mono (Kd.R_below (by (with_reducible repeat (first | apply Kd.R_alloc | apply Kd.R_drewN | apply Kd.R_drew)); exact (Q_HO165 h0_)) hb) (fun _ h_ => by first | trivial | exact h_ | exact h_.1))
      clear BK161
      clear HB
      have BK161 := n0_
      have HB := n1_
      clear n0_ n1_
      (try clear hb)
      (try clear hb2)
      (try clear hk)
      (try clear hi)
      refine hK.out _ _ ⟨v164, adz_v164, m3_, (by rw [ha.out]; exact putSel_upk 6 hb_ rfl rfl rfl), (by (with_reducible repeat (first | refine blk_drewN ?_ _ | refine blk_drew ?_ | refine blk_alloc ?_ _)); exact BK161.out), (by repeat (first | (with_reducible first | exact HB.out | apply below_alloc | apply pw_below_drewN | apply below_drew1 | refine below_set ?_ GE161.out) | exact HB.out)), z_HO165, Q_HA_HO165, Q_X3_⟩
    refine steps_cons ?_ ?_
    · rintro b a w' ⟨v164, adz_v164, m3_, ha, Q_BK161, Q_HB, Q_HO165, Q_HA_HO165, Q_X3_⟩ hb_ hon hoff
      refine ⟨_, rfl, fun K hK => ?_⟩
      have e11 : a.tmps[11]? = some (.string ((rdOf ByteArray.empty y163 a0_0) ++ (⟨#[32]⟩ : ByteArray))) := by rw [ha]; exact putSel_on (e := (5, 11, .string ((rdOf ByteArray.empty y163 a0_0) ++ (⟨#[32]⟩ : ByteArray)))) 4 rfl rfl (hon 5 (by kernel_rfl)) rfl
      have e14 : a.tmps[14]? = some (.string t167) := by rw [ha]; exact putSel_on (e := (8, 14, .string t167)) 6 rfl rfl (hon 8 (by kernel_rfl)) rfl
      replace ha := Aside0.mk ha
      have BK161 := Aside0.mk Q_BK161
      have HB := Aside0.mk Q_HB
      have HO165 := Aside0.mk (Q_HO165 (hon 0 (by kernel_rfl)))
      have HA_HO165 := Aside0.mk (Q_HA_HO165 (hon 0 (by kernel_rfl)))
      refine value_ (w1 := w') (v := .string (((rdOf ByteArray.empty y163 a0_0) ++ (⟨#[32]⟩ : ByteArray)) ++ t167)) (by rfl) rfl ?_ ?_
      · go_simp
        (try simp only [i64_w])
        try rfl
        all_goals (have s1_ : (⟨#[32]⟩ : ByteArray).size = 1 := rfl; simp only [ByteArray.size_append, s1_] at *; omega)
      refine hK.out _ _ ⟨v164, adz_v164, m3_, (by rw [ha.out]; exact putSel_upk 7 hb_ rfl rfl rfl), Q_BK161, Q_HB, Q_HO165, Q_HA_HO165, Q_X3_⟩
    refine steps_cons ?_ ?_
    · rintro b a w' ⟨v164, adz_v164, m3_, ha, Q_BK161, Q_HB, Q_HO165, Q_HA_HO165, Q_X3_⟩ hb_ hon hoff
      refine ⟨_, rfl, fun K hK => ?_⟩
      have e15 : a.tmps[15]? = some (.string (((rdOf ByteArray.empty y163 a0_0) ++ (⟨#[32]⟩ : ByteArray)) ++ t167)) := by rw [ha]; exact putSel_on (e := (9, 15, .string (((rdOf ByteArray.empty y163 a0_0) ++ (⟨#[32]⟩ : ByteArray)) ++ t167))) 7 rfl rfl (hon 9 (by kernel_rfl)) rfl
      replace ha := Aside0.mk ha
      have BK161 := Aside0.mk Q_BK161
      have HB := Aside0.mk Q_HB
      have HO165 := Aside0.mk (Q_HO165 (hon 0 (by kernel_rfl)))
      have HA_HO165 := Aside0.mk (Q_HA_HO165 (hon 0 (by kernel_rfl)))
      refine value_ (w1 := w') (v := .string ((((rdOf ByteArray.empty y163 a0_0) ++ (⟨#[32]⟩ : ByteArray)) ++ t167) ++ (⟨#[32]⟩ : ByteArray))) (by rfl) rfl ?_ ?_
      · go_simp
        (try simp only [i64_w])
        try rfl
        all_goals (have s1_ : (⟨#[32]⟩ : ByteArray).size = 1 := rfl; simp only [ByteArray.size_append, s1_] at *; omega)
      refine hK.out _ _ ⟨v164, adz_v164, m3_, (by rw [ha.out]; exact putSel_upk 8 hb_ rfl rfl rfl), Q_BK161, Q_HB, Q_HO165, Q_HA_HO165, Q_X3_⟩
    refine steps_cons ?_ ?_
    · rintro b a w' ⟨v164, adz_v164, m3_, ha, Q_BK161, Q_HB, Q_HO165, Q_HA_HO165, Q_X3_⟩ hb_ hon hoff
      refine ⟨_, rfl, fun K hK => ?_⟩
      have e17 : a.tmps[17]? = some (.pointer (some ⟨gb161, 2, none⟩)) := by rw [ha]; exact (putSel_off rfl).trans rfl
      replace ha := Aside0.mk ha
      have BK161 := Aside0.mk Q_BK161
      have HB := Aside0.mk Q_HB
      have hc0_ : w'.cell? ⟨gb161, 0, none⟩ = some (.int .i64 a0_0) := (blk_cell BK161.out 0).trans rfl
      have hc1_ : w'.cell? ⟨gb161, 1, none⟩ = some (.int .i64 a0_1) := (blk_cell BK161.out 1).trans rfl
      have hc2_ : w'.cell? ⟨gb161, 2, none⟩ = some (.int .i64 a0_2) := (blk_cell BK161.out 2).trans rfl
      have hc3_ : w'.cell? ⟨gb161, 3, none⟩ = some (.int .i64 a0_3) := (blk_cell BK161.out 3).trans rfl
      refine value_ (w1 := w') (v := .int .i64 a0_2) (by rfl) rfl ?_ ?_
      · go_simp
        (try simp only [i64_w])
        try rfl
        all_goals (have s1_ : (⟨#[32]⟩ : ByteArray).size = 1 := rfl; simp only [ByteArray.size_append, s1_] at *; omega)
      refine hK.out _ _ ⟨v164, adz_v164, m3_, (by rw [ha.out]; exact putSel_upk 9 hb_ rfl rfl rfl), Q_BK161, Q_HB, Q_HO165, Q_HA_HO165, Q_X3_⟩
    refine steps_cons ?_ ?_
    · rintro b a w' ⟨v164, adz_v164, m3_, ha, Q_BK161, Q_HB, Q_HO165, Q_HA_HO165, Q_X3_⟩ hb_ hon hoff
      refine ⟨_, rfl, fun K hK => ?_⟩
      have e18 : a.tmps[18]? = some (.int .i64 a0_2) := by rw [ha]; exact putSel_on (e := (12, 18, .int .i64 a0_2)) 9 rfl rfl (hon 12 (by kernel_rfl)) rfl
      replace ha := Aside0.mk ha
      have BK161 := Aside0.mk Q_BK161
      have HB := Aside0.mk Q_HB
      refine goes_ Tryd.func22 (by kernel_rfl) rfl #[.int .i64 a0_2] (by rfl) rfl rfl (by first | (simp only [List.map_toArray, List.map_cons, List.map_nil, Act.eval, Array.getD_eq_getD_getElem?, Option.getD_some, e18]; done) | (simp only [List.map_toArray, List.map_cons, List.map_nil, Act.eval, Array.getD_eq_getD_getElem?, Option.getD_some, e18]; rfl)) ?_
      with_reducible refine (spec_l6Dec.calls k a0_2 t168 _ A10.out).mono ?_
      rintro e w21 ⟨rfl, hb⟩
      refine ⟨_, rfl, ?_⟩
      have n0_ := Aside0.mk (blk_below (g := gb161) (o := .cells #[.int .i64 a0_0, .int .i64 a0_1, .int .i64 a0_2, .int .i64 a0_3] 24 (0, 0)) (by (with_reducible repeat (first | refine blk_drewN ?_ _ | refine blk_drew ?_ | refine blk_alloc ?_ _)); exact BK161.out) hb)
      have n1_ := Aside0.mk (below_step (by repeat (first | (with_reducible first | exact HB.out | apply below_alloc | apply pw_below_drewN | apply below_drew1 | refine below_set ?_ GE161.out) | exact HB.out)) hb)
      have z_HO165 := fun (h0_ : b 0 = true) => (show Kd.R Kd.string 9 w21 w.heap.size (fun _ => True) v164 y163 from by first | exact (Kd.R_below (by (with_reducible repeat (first | apply Kd.R_alloc | apply Kd.R_drewN | apply Kd.R_drew)); exact (Q_HO165 h0_)) hb) | exact Kd.R_mono (Kd.R_below (by (with_reducible repeat (first | apply Kd.R_alloc | apply Kd.R_drewN | apply Kd.R_drew)); exact (Q_HO165 h0_)) hb) (fun _ h_ => by first | trivial | exact h_ | exact h_.1))
      clear BK161
      clear HB
      have BK161 := n0_
      have HB := n1_
      clear n0_ n1_
      (try clear hb)
      (try clear hb2)
      (try clear hk)
      (try clear hi)
      refine hK.out _ _ ⟨v164, adz_v164, m3_, (by rw [ha.out]; exact putSel_upk 10 hb_ rfl rfl rfl), (by (with_reducible repeat (first | refine blk_drewN ?_ _ | refine blk_drew ?_ | refine blk_alloc ?_ _)); exact BK161.out), (by repeat (first | (with_reducible first | exact HB.out | apply below_alloc | apply pw_below_drewN | apply below_drew1 | refine below_set ?_ GE161.out) | exact HB.out)), z_HO165, Q_HA_HO165, Q_X3_⟩
    refine steps_cons ?_ ?_
    · rintro b a w' ⟨v164, adz_v164, m3_, ha, Q_BK161, Q_HB, Q_HO165, Q_HA_HO165, Q_X3_⟩ hb_ hon hoff
      refine ⟨_, rfl, fun K hK => ?_⟩
      have e16 : a.tmps[16]? = some (.string ((((rdOf ByteArray.empty y163 a0_0) ++ (⟨#[32]⟩ : ByteArray)) ++ t167) ++ (⟨#[32]⟩ : ByteArray))) := by rw [ha]; exact putSel_on (e := (10, 16, .string ((((rdOf ByteArray.empty y163 a0_0) ++ (⟨#[32]⟩ : ByteArray)) ++ t167) ++ (⟨#[32]⟩ : ByteArray)))) 8 rfl rfl (hon 10 (by kernel_rfl)) rfl
      have e19 : a.tmps[19]? = some (.string t168) := by rw [ha]; exact putSel_on (e := (13, 19, .string t168)) 10 rfl rfl (hon 13 (by kernel_rfl)) rfl
      replace ha := Aside0.mk ha
      have BK161 := Aside0.mk Q_BK161
      have HB := Aside0.mk Q_HB
      have HO165 := Aside0.mk (Q_HO165 (hon 0 (by kernel_rfl)))
      have HA_HO165 := Aside0.mk (Q_HA_HO165 (hon 0 (by kernel_rfl)))
      refine value_ (w1 := w') (v := .string (((((rdOf ByteArray.empty y163 a0_0) ++ (⟨#[32]⟩ : ByteArray)) ++ t167) ++ (⟨#[32]⟩ : ByteArray)) ++ t168)) (by rfl) rfl ?_ ?_
      · go_simp
        (try simp only [i64_w])
        try rfl
        all_goals (have s1_ : (⟨#[32]⟩ : ByteArray).size = 1 := rfl; simp only [ByteArray.size_append, s1_] at *; omega)
      refine hK.out _ _ ⟨v164, adz_v164, m3_, (by rw [ha.out]; exact putSel_upk 11 hb_ rfl rfl rfl), Q_BK161, Q_HB, Q_HO165, Q_HA_HO165, Q_X3_⟩
    refine steps_cons ?_ ?_
    · rintro b a w' ⟨v164, adz_v164, m3_, ha, Q_BK161, Q_HB, Q_HO165, Q_HA_HO165, Q_X3_⟩ hb_ hon hoff
      refine ⟨_, rfl, fun K hK => ?_⟩
      have e20 : a.tmps[20]? = some (.string (((((rdOf ByteArray.empty y163 a0_0) ++ (⟨#[32]⟩ : ByteArray)) ++ t167) ++ (⟨#[32]⟩ : ByteArray)) ++ t168)) := by rw [ha]; exact putSel_on (e := (14, 20, .string (((((rdOf ByteArray.empty y163 a0_0) ++ (⟨#[32]⟩ : ByteArray)) ++ t167) ++ (⟨#[32]⟩ : ByteArray)) ++ t168))) 11 rfl rfl (hon 14 (by kernel_rfl)) rfl
      replace ha := Aside0.mk ha
      have BK161 := Aside0.mk Q_BK161
      have HB := Aside0.mk Q_HB
      have HO165 := Aside0.mk (Q_HO165 (hon 0 (by kernel_rfl)))
      have HA_HO165 := Aside0.mk (Q_HA_HO165 (hon 0 (by kernel_rfl)))
      refine value_ (w1 := w') (v := .string ((((((rdOf ByteArray.empty y163 a0_0) ++ (⟨#[32]⟩ : ByteArray)) ++ t167) ++ (⟨#[32]⟩ : ByteArray)) ++ t168) ++ (⟨#[32]⟩ : ByteArray))) (by rfl) rfl ?_ ?_
      · go_simp
        (try simp only [i64_w])
        try rfl
        all_goals (have s1_ : (⟨#[32]⟩ : ByteArray).size = 1 := rfl; simp only [ByteArray.size_append, s1_] at *; omega)
      refine hK.out _ _ ⟨v164, adz_v164, m3_, (by rw [ha.out]; exact putSel_upk 12 hb_ rfl rfl rfl), Q_BK161, Q_HB, Q_HO165, Q_HA_HO165, Q_X3_⟩
    refine steps_cons ?_ ?_
    · rintro b a w' ⟨v164, adz_v164, m3_, ha, Q_BK161, Q_HB, Q_HO165, Q_HA_HO165, Q_X3_⟩ hb_ hon hoff
      refine ⟨_, rfl, fun K hK => ?_⟩
      have e22 : a.tmps[22]? = some (.pointer (some ⟨gb161, 3, none⟩)) := by rw [ha]; exact (putSel_off rfl).trans rfl
      replace ha := Aside0.mk ha
      have BK161 := Aside0.mk Q_BK161
      have HB := Aside0.mk Q_HB
      have hc0_ : w'.cell? ⟨gb161, 0, none⟩ = some (.int .i64 a0_0) := (blk_cell BK161.out 0).trans rfl
      have hc1_ : w'.cell? ⟨gb161, 1, none⟩ = some (.int .i64 a0_1) := (blk_cell BK161.out 1).trans rfl
      have hc2_ : w'.cell? ⟨gb161, 2, none⟩ = some (.int .i64 a0_2) := (blk_cell BK161.out 2).trans rfl
      have hc3_ : w'.cell? ⟨gb161, 3, none⟩ = some (.int .i64 a0_3) := (blk_cell BK161.out 3).trans rfl
      refine value_ (w1 := w') (v := .int .i64 a0_3) (by rfl) rfl ?_ ?_
      · go_simp
        (try simp only [i64_w])
        try rfl
        all_goals (have s1_ : (⟨#[32]⟩ : ByteArray).size = 1 := rfl; simp only [ByteArray.size_append, s1_] at *; omega)
      refine hK.out _ _ ⟨v164, adz_v164, m3_, (by rw [ha.out]; exact putSel_upk 13 hb_ rfl rfl rfl), Q_BK161, Q_HB, Q_HO165, Q_HA_HO165, Q_X3_⟩
    refine steps_cons ?_ ?_
    · rintro b a w' ⟨v164, adz_v164, m3_, ha, Q_BK161, Q_HB, Q_HO165, Q_HA_HO165, Q_X3_⟩ hb_ hon hoff
      refine ⟨_, rfl, fun K hK => ?_⟩
      have e23 : a.tmps[23]? = some (.int .i64 a0_3) := by rw [ha]; exact putSel_on (e := (17, 23, .int .i64 a0_3)) 13 rfl rfl (hon 17 (by kernel_rfl)) rfl
      replace ha := Aside0.mk ha
      have BK161 := Aside0.mk Q_BK161
      have HB := Aside0.mk Q_HB
      refine goes_ Tryd.func22 (by kernel_rfl) rfl #[.int .i64 a0_3] (by rfl) rfl rfl (by first | (simp only [List.map_toArray, List.map_cons, List.map_nil, Act.eval, Array.getD_eq_getD_getElem?, Option.getD_some, e23]; done) | (simp only [List.map_toArray, List.map_cons, List.map_nil, Act.eval, Array.getD_eq_getD_getElem?, Option.getD_some, e23]; rfl)) ?_
      with_reducible refine (spec_l6Dec.calls k a0_3 t169 _ A13.out).mono ?_
      rintro e w22 ⟨rfl, hb⟩
      refine ⟨_, rfl, ?_⟩
      have n0_ := Aside0.mk (blk_below (g := gb161) (o := .cells #[.int .i64 a0_0, .int .i64 a0_1, .int .i64 a0_2, .int .i64 a0_3] 24 (0, 0)) (by (with_reducible repeat (first | refine blk_drewN ?_ _ | refine blk_drew ?_ | refine blk_alloc ?_ _)); exact BK161.out) hb)
      have n1_ := Aside0.mk (below_step (by repeat (first | (with_reducible first | exact HB.out | apply below_alloc | apply pw_below_drewN | apply below_drew1 | refine below_set ?_ GE161.out) | exact HB.out)) hb)
      have z_HO165 := fun (h0_ : b 0 = true) => (show Kd.R Kd.string 9 w22 w.heap.size (fun _ => True) v164 y163 from by first | exact (Kd.R_below (by (with_reducible repeat (first | apply Kd.R_alloc | apply Kd.R_drewN | apply Kd.R_drew)); exact (Q_HO165 h0_)) hb) | exact Kd.R_mono (Kd.R_below (by (with_reducible repeat (first | apply Kd.R_alloc | apply Kd.R_drewN | apply Kd.R_drew)); exact (Q_HO165 h0_)) hb) (fun _ h_ => by first | trivial | exact h_ | exact h_.1))
      clear BK161
      clear HB
      have BK161 := n0_
      have HB := n1_
      clear n0_ n1_
      (try clear hb)
      (try clear hb2)
      (try clear hk)
      (try clear hi)
      refine hK.out _ _ ⟨v164, adz_v164, m3_, (by rw [ha.out]; exact putSel_upk 14 hb_ rfl rfl rfl), (by (with_reducible repeat (first | refine blk_drewN ?_ _ | refine blk_drew ?_ | refine blk_alloc ?_ _)); exact BK161.out), (by repeat (first | (with_reducible first | exact HB.out | apply below_alloc | apply pw_below_drewN | apply below_drew1 | refine below_set ?_ GE161.out) | exact HB.out)), z_HO165, Q_HA_HO165, Q_X3_⟩
    refine steps_cons ?_ ?_
    · rintro b a w' ⟨v164, adz_v164, m3_, ha, Q_BK161, Q_HB, Q_HO165, Q_HA_HO165, Q_X3_⟩ hb_ hon hoff
      refine ⟨_, rfl, fun K hK => ?_⟩
      have e21 : a.tmps[21]? = some (.string ((((((rdOf ByteArray.empty y163 a0_0) ++ (⟨#[32]⟩ : ByteArray)) ++ t167) ++ (⟨#[32]⟩ : ByteArray)) ++ t168) ++ (⟨#[32]⟩ : ByteArray))) := by rw [ha]; exact putSel_on (e := (15, 21, .string ((((((rdOf ByteArray.empty y163 a0_0) ++ (⟨#[32]⟩ : ByteArray)) ++ t167) ++ (⟨#[32]⟩ : ByteArray)) ++ t168) ++ (⟨#[32]⟩ : ByteArray)))) 12 rfl rfl (hon 15 (by kernel_rfl)) rfl
      have e24 : a.tmps[24]? = some (.string t169) := by rw [ha]; exact putSel_on (e := (18, 24, .string t169)) 14 rfl rfl (hon 18 (by kernel_rfl)) rfl
      replace ha := Aside0.mk ha
      have BK161 := Aside0.mk Q_BK161
      have HB := Aside0.mk Q_HB
      have HO165 := Aside0.mk (Q_HO165 (hon 0 (by kernel_rfl)))
      have HA_HO165 := Aside0.mk (Q_HA_HO165 (hon 0 (by kernel_rfl)))
      refine value_ (w1 := w') (v := .string (((((((rdOf ByteArray.empty y163 a0_0) ++ (⟨#[32]⟩ : ByteArray)) ++ t167) ++ (⟨#[32]⟩ : ByteArray)) ++ t168) ++ (⟨#[32]⟩ : ByteArray)) ++ t169)) (by rfl) rfl ?_ ?_
      · go_simp
        (try simp only [i64_w])
        try rfl
        all_goals (have s1_ : (⟨#[32]⟩ : ByteArray).size = 1 := rfl; simp only [ByteArray.size_append, s1_] at *; omega)
      refine hK.out _ _ ⟨v164, adz_v164, m3_, (by rw [ha.out]; exact putSel_upk 15 hb_ rfl rfl rfl), Q_BK161, Q_HB, Q_HO165, Q_HA_HO165, Q_X3_⟩
    refine steps_cons ?_ ?_
    · rintro b a w' ⟨v164, adz_v164, m3_, ha, Q_BK161, Q_HB, Q_HO165, Q_HA_HO165, Q_X3_⟩ hb_ hon hoff
      refine ⟨_, rfl, fun K hK => ?_⟩
      have e25 : a.tmps[25]? = some (.string (((((((rdOf ByteArray.empty y163 a0_0) ++ (⟨#[32]⟩ : ByteArray)) ++ t167) ++ (⟨#[32]⟩ : ByteArray)) ++ t168) ++ (⟨#[32]⟩ : ByteArray)) ++ t169)) := by rw [ha]; exact putSel_on (e := (19, 25, .string (((((((rdOf ByteArray.empty y163 a0_0) ++ (⟨#[32]⟩ : ByteArray)) ++ t167) ++ (⟨#[32]⟩ : ByteArray)) ++ t168) ++ (⟨#[32]⟩ : ByteArray)) ++ t169))) 15 rfl rfl (hon 19 (by kernel_rfl)) rfl
      replace ha := Aside0.mk ha
      have BK161 := Aside0.mk Q_BK161
      have HB := Aside0.mk Q_HB
      have HO165 := Aside0.mk (Q_HO165 (hon 0 (by kernel_rfl)))
      have HA_HO165 := Aside0.mk (Q_HA_HO165 (hon 0 (by kernel_rfl)))
      refine value_ (w1 := w') (v := .string (((((((rdOf ByteArray.empty y163 a0_0) ++ (⟨#[32]⟩ : ByteArray)) ++ t167) ++ (⟨#[32]⟩ : ByteArray)) ++ t168) ++ (⟨#[32]⟩ : ByteArray)) ++ t169)) (by rfl) rfl ?_ ?_
      · go_simp
        (try simp only [i64_w])
        try rfl
        all_goals (have s1_ : (⟨#[32]⟩ : ByteArray).size = 1 := rfl; simp only [ByteArray.size_append, s1_] at *; omega)
      refine hK.out _ _ ⟨v164, adz_v164, m3_, (by rw [ha.out]; exact putSel_upk 16 hb_ rfl rfl rfl), Q_BK161, Q_HB, Q_HO165, Q_HA_HO165, Q_X3_⟩
    exact steps_nil
  rintro b a w25 hall ⟨v164, adz_v164, m3_, ha, Q_BK161, Q_HB, Q_HO165, Q_HA_HO165, Q_X3_⟩
  clear BK161 HB
  have hb0_ := hall 0 (by kernel_rfl)
  have hb2_ := hall 2 (by kernel_rfl)
  have hb3_ := hall 3 (by kernel_rfl)
  have hb4_ := hall 4 (by kernel_rfl)
  have hb5_ := hall 5 (by kernel_rfl)
  have hb7_ := hall 7 (by kernel_rfl)
  have hb8_ := hall 8 (by kernel_rfl)
  have hb9_ := hall 9 (by kernel_rfl)
  have hb10_ := hall 10 (by kernel_rfl)
  have hb12_ := hall 12 (by kernel_rfl)
  have hb13_ := hall 13 (by kernel_rfl)
  have hb14_ := hall 14 (by kernel_rfl)
  have hb15_ := hall 15 (by kernel_rfl)
  have hb17_ := hall 17 (by kernel_rfl)
  have hb18_ := hall 18 (by kernel_rfl)
  have hb19_ := hall 19 (by kernel_rfl)
  have hb20_ := hall 20 (by kernel_rfl)
  subst ha
  obtain rfl := Q_X3_ hb3_
  simp only [putSel, hb0_, hb2_, hb3_, hb4_, hb5_, hb7_, hb8_, hb9_, hb10_, hb12_, hb13_, hb14_, hb15_, hb17_, hb18_, hb19_, hb20_, if_true, Act.put, List.setIfInBounds_toArray, List.set_cons_zero, List.set_cons_succ]
  have BK161 := Aside0.mk Q_BK161
  clear Q_BK161
  have HB := Aside0.mk Q_HB
  clear Q_HB
  have HO165 := Aside0.mk (Q_HO165 hb0_)
  clear Q_HO165
  have HA_HO165 := Aside0.mk (Q_HA_HO165 hb0_)
  clear Q_HA_HO165
  clear hall hb0_ hb2_ hb3_ hb4_ hb5_ hb7_ hb8_ hb9_ hb10_ hb12_ hb13_ hb14_ hb15_ hb17_ hb18_ hb19_ hb20_
  obtain ⟨co26, eo26⟩ := HA_HO165.out
  clear HA_HO165
  subst eo26
  try go_wp2
  go_ret
  exact ⟨by first | rfl | (simp [errW_none, errW_some] <;> rfl) | (simp [*, errW_none, errW_some] <;> rfl), by repeat (first | (with_reducible first | exact HB.out | apply below_alloc | apply pw_below_drewN | apply below_drew1 | refine below_set ?_ GE161.out) | exact HB.out)⟩

end Go.Proofs.YtddagnomnamfdaaDoor.Ta
