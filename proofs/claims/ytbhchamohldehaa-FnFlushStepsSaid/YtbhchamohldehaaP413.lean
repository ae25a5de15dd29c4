-- printed by wip/pp/pp.py
import Derived.Test.YtbhchamohldehaaP40
import Derived.Test.YtbhchamohldehaaP41
import Derived.RangeFuncNested
import Derived.RangeFuncBound
import Derived.RangeFuncCalls
import Derived.RangeFuncLeaves
import Derived.Shelf.Abstract
import Derived.WalkKit
import Derived.OwnWalkIn
import Derived.TacticsInMore
import Derived.LoopNIn
import Derived.LoopIn
import Derived.IntWalk
import Derived.Test.YtbhchamohldehaaP412
import Derived.Test.YtbhchamohldehaaWMap
import Derived.Maps.OwnOps
import Derived.Maps.Own
import Derived.Maps.OwnIn
import Derived.WalkArith
namespace Go.Proofs.Ytbhchamohldehaa.P4
set_option maxHeartbeats 8000000
set_option maxRecDepth 100000
open Go.RowKit Go.Proofs.YtbhchamohldehaaW.PrintWords Go.Proofs.YtbhchamohldehaaW.PrintLast Go.Proofs.YtbhchamohldehaaW.PrintMore
attribute [local go_sem] max2_int min2_int max_two min_two max_three min_three max_four min_four
set_option linter.unusedVariables false
set_option linter.unusedSimpArgs false
attribute [local go_sem] Oper.semAt_some
theorem uponIn_wide_round {l n : Nat} {P : Program} {o : Oper} {a : Act} {K : Act → World → Prop} {Q : Exit → Act → World → Prop} {r : Result Next} (h : o.upon P a K Q r) : o.uponIn (Fence.wide.inRound l) n P a K Q r := by
 cases r with
 | ok x w' =>
  cases x with
  | value v => exact h
  | skip => exact h
  | defer d => exact h
  | enter f args => exact ⟨fun h => by simp [Fence.inRound, Fence.wide] at h, CallsIn.inRound l (callsIn_wide.2 h)⟩
  | row r args => exact ⟨fun h => by simp [Fence.inRound, Fence.wide] at h, fun c cs _ => let ⟨v, w2, q, s⟩ := h c cs; ⟨v, w2, q, stepsIn_wide.2 s⟩⟩
  | _ => exact h.elim
 | halt x w' =>
  cases x with
  | panic v => exact h
  | _ => exact h.elim
theorem wpOpIn_wide_round {l n : Nat} {P : Program} {ops : Array Oper} {i : Nat} {a : Act} {w : World} {K : Act → World → Prop} {Q : Exit → Act → World → Prop} (hd : ∀ o, ops[i]? = some o → ∀ c, o.op ≠ .defer c) (hQ : ¬ LetsOut Q)
 (h : wpOp P ops Q i K a w) : wpOpIn (Fence.wide.inRound l) n P ops Q i K a w := by
 unfold wpOp at h
 unfold wpOpIn
 cases ho : ops[i]? with
 | none => rw [ho] at h; exact h
 | some o =>
  simp only [ho] at h ⊢
  by_cases hw : Region.wanted o (yielded ops a.tmps) = true
  rotate_left
  · simp only [hw] at h ⊢
    exact ⟨fun f _ => trivial, h⟩
  simp only [hw, if_true] at h ⊢
  refine ⟨fun f _ => trivial, ?_⟩
  rw [Oper.semAt_plain (Fence.wide.inRound l) _ o (hd o ho)]
  exact uponIn_wide_round (h.resolve_right (fun h => hQ h.2))
theorem wpAnyIn_wide_round {l n : Nat} {P : Program} {ops : Array Oper} {md : Region.Mode} {Q : Exit → Act → World → Prop} (hd : ∀ (i : Nat) (o : Oper), ops[i]? = some o → ∀ c, o.op ≠ .defer c) (hQ : ¬ LetsOut Q) :
 ∀ (fuel : Nat) (listed : Array Bool) (a : Act) (w : World), wpAny P md ops Q fuel listed a w → wpAnyIn (Fence.wide.inRound l) n P md ops Q fuel listed a w
 | 0, _, _, _, h => h
 | fuel + 1, _, _, _, h => ⟨h.1, fun i hi => wpOpIn_mono (fun a' w' h' => wpAnyIn_wide_round hd hQ fuel _ a' w' h') (wpOpIn_wide_round (hd i) hQ (h.2 i hi))⟩
theorem region_in_round {l n id : Nat} {P : Program} {ops : Array Oper} {Q : Exit → Act → World → Prop} {a : Act} {w : World} (hm : P.follows .mixedOrders = true) (hd : ∀ (i : Nat) (o : Oper), ops[i]? = some o → ∀ c, o.op ≠ .defer c) (hQ : ¬ LetsOut Q)
 (h : wpAny P .any ops Q ops.size (Array.replicate ops.size false) a w.drew) : (Code.region id ops true).wpIn (Fence.wide.inRound l) n P Q a w :=
 wpIn_region_any hm (wpAnyIn_wide_round hd hQ _ _ _ _ h)
def noDefer (ops : Array Oper) : Bool := ops.all fun o => match o.op with
 | .defer _ => false
 | _ => true
theorem noDefer_spec {ops : Array Oper} (h : noDefer ops = true) : ∀ (i : Nat) (o : Oper), ops[i]? = some o → ∀ c, o.op ≠ .defer c := fun i o ho c hc => by
 have h1 := Array.all_eq_true_iff_forall_mem.1 h o (Array.mem_of_getElem? ho)
 rw [hc] at h1
 simp at h1
theorem start_round {l nn id n : Nat} {P : Program} {ops : Array Oper} {Q : Exit → Act → World → Prop} {S : World → Prop} {ds : List Nat} {a : Act} {w : World} (lst : Array Bool) (hm : P.follows .mixedOrders = true) (hn : ops.size = n) (hl : Array.replicate n false = lst)
 (hd : noDefer ops = true) (hQ : ¬ LetsOut Q) (h : wpAnyLast P .any ops Q S ds n lst a w.drew) : (Code.region id ops true).wpIn (Fence.wide.inRound l) nn P Q a w := by
 subst hn
 subst hl
 exact region_in_round hm (noDefer_spec hd) hQ (wpAny_of_last _ _ _ _ h)
abbrev Spans := Nat → Int × Int
def stepSpan (s : Int × Int) (p : S69) : Int × Int := if p.f0 = 1 then (if s.1 = 0 ∨ p.f1.f1 < s.1 then p.f1.f1 else s.1, mx s.2 p.f1.f1) else s
def spansStep (s : Spans) (x : Spot) : Spans := fun j => if j = x.1 then stepSpan (s j) x.2.2 else s j
def spansF (l : List S73) : Spans := (spotsF 0 l).foldl spansStep (fun _ => (0, 0))
def SpansBox (W : World) (g : Nat) (s : Spans) : Prop := W.heap[g]? = some (.cells #[.int .i64 (s 0).1, .int .i64 (s 0).2, .int .i64 (s 1).1, .int .i64 (s 1).2, .int .i64 (s 2).1, .int .i64 (s 2).2, .int .i64 (s 3).1, .int .i64 (s 3).2] 87 (0, 0))
theorem spansStep_lo {W : World} {g : Nat} {s : Spans} (h : SpansBox W g s) (i : Nat) (hi : i < 4) (a : Int) : SpansBox (W.setCell ⟨g, i * 2, none⟩ (.int .i64 a)) g (fun j => if j = i then (a, (s j).2) else s j) := by
 have := blk_set h (i * 2) (.int .i64 a)
 unfold SpansBox
 rw [this]
 obtain rfl | rfl | rfl | rfl : i = 0 ∨ i = 1 ∨ i = 2 ∨ i = 3 := by omega
 all_goals simp
theorem spansStep_hi {W : World} {g : Nat} {s : Spans} (h : SpansBox W g s) (i : Nat) (hi : i < 4) (a : Int) : SpansBox (W.setCell ⟨g, i * 2 + 1, none⟩ (.int .i64 a)) g (fun j => if j = i then ((s j).1, a) else s j) := by
 have := blk_set h (i * 2 + 1) (.int .i64 a)
 unfold SpansBox
 rw [this]
 obtain rfl | rfl | rfl | rfl : i = 0 ∨ i = 1 ∨ i = 2 ∨ i = 3 := by omega
 all_goals simp
theorem SpansBox.at_ {W : World} {g : Nat} {s : Spans} (h : SpansBox W g s) (i : Nat) (hi : i < 4) : W.cell? ⟨g, i * 2, none⟩ = some (.int .i64 (s i).1) ∧ W.cell? ⟨g, i * 2 + 1, none⟩ = some (.int .i64 (s i).2) := by
 rw [blk_cell h (i * 2), blk_cell h (i * 2 + 1)]
 obtain rfl | rfl | rfl | rfl : i = 0 ∨ i = 1 ∨ i = 2 ∨ i = 3 := by omega
 all_goals exact ⟨rfl, rfl⟩
theorem SpansBox.frozen {W : World} {g : Nat} {s : Spans} (h : SpansBox W g s) (i : Nat) : W.frozen? ⟨g, i, none⟩ = false := blk_frozen h i
theorem SpansBox.own (g : Nat) {β : Type} (f : β → Spans) : Own (fun s W => SpansBox W g (f s)) := fun s X Y row hs hg hrow => (hg.block g (Array.getElem?_eq_some_iff.1 hs).1 (fun e => by obtain ⟨o, ho, hc⟩ := hrow g e.symm; rw [show X.heap[g]? = _ from hs] at ho; cases ho; cases hc)).trans hs
theorem spotsB_lt (i : Nat) : ∀ (j : Nat) (ps : List S69) (x : Spot), x ∈ spotsB i j ps → x.1 = i
 | _, [], _, h => by cases h
 | j, p :: ps, x, h => by
  rw [spotsB] at h
  rcases List.mem_cons.1 h with rfl | h
  · rfl
  · exact spotsB_lt i (j + 1) ps x h
theorem spotsF_lt : ∀ (i : Nat) (l : List S73) (x : Spot), x ∈ spotsF i l → x.1 < i + l.length
 | _, [], _, h => by cases h
 | i, b :: bs, x, h => by
  rw [spotsF] at h
  rw [List.length_cons]
  rcases List.mem_append.1 h with h | h
  · have := spotsB_lt i 0 _ x h
    omega
  · have := spotsF_lt (i + 1) bs x h
    omega
abbrev SpotIn := {x : Spot // x.1 < 4}
def spansOfL (pre : List SpotIn) : Spans := pre.foldl (fun s x => spansStep s x.1) (fun _ => (0, 0))
theorem spansOfL_snoc (pre : List SpotIn) (x : SpotIn) : spansOfL (pre ++ [x]) = spansStep (spansOfL pre) x.1 := by simp [spansOfL]
theorem spansOfL_all {ys : List SpotIn} {l0 : List S73} (h : ys.map (·.1) = spotsF 0 l0) : spansOfL ys = spansF l0 := by
 unfold spansOfL spansF
 rw [← h, List.foldl_map]
theorem make_spans (W : World) : (Instr.makeSlice 84 (.int .i64 4) (.int .i64 4)).run Try.prog W = .ok (.slice (some ⟨W.heap.size, 0, none⟩) 4 4) (W.alloc (.cells #[.int .i64 0, .int .i64 0, .int .i64 0, .int .i64 0, .int .i64 0, .int .i64 0, .int .i64 0, .int .i64 0] 87)) := by
 have hinfo : (Try.prog.info? 87).map (fun i => (i.zero, i.size, i.bytes)) = some (some (.agg #[.int .i64 0, .int .i64 0]), 2, 16) := by kernel_rfl
 obtain ⟨i0, hi, hzz⟩ := Option.map_eq_some_iff.1 hinfo
 simp only [Prod.mk.injEq] at hzz
 obtain ⟨hz0, hz1, hz2⟩ := hzz
 have hr := run_make (P := Try.prog) W 84 87 i0 _ Try.underlying84 hi hz0 .i64 .i64 4 4 (by decide) (by decide) (by rw [hz2]; decide) (by decide)
 have h8 : Array.range (Int.toNat 4 * 2) = #[0, 1, 2, 3, 4, 5, 6, 7] := by decide
 rw [hz1] at hr
 unfold madeCells at hr
 have hc : (Value.agg #[Value.int IntKind.i64 0, Value.int IntKind.i64 0]).cells = #[Value.int IntKind.i64 0, Value.int IntKind.i64 0] := by simp [Value.cells]
 rw [h8, hc] at hr
 simpa using hr
theorem spansOf_any (A0 : Option Addr) (c0 : Nat) (l0 : List (S73)) (w : World) (hr0 : Kd.C k73 w A0 l0.length l0) (hl : l0.length = 4) :
 Calls Try.prog 50 #[.slice A0 4 c0] w fun e w' => ∃ g, e = .returned (.slice (some ⟨g, 0, none⟩) 4 4) ∧ SpansBox w' g (spansF l0) ∧ w.heap.size ≤ g ∧ Below w.heap.size w w' := by
 refine (callsIn_wide (n := 3)).1 ?_
 have hmk := make_spans
 refine callsIn_of_wp_marks Try.func50 rfl trivial ?_ rfl
 simp only [Try.ntmps50, List.size_toArray, List.length_cons, List.length_nil, Nat.reduceAdd, Nat.reduceSub, Array.replicate_succ, Array.replicate_zero, List.push_toArray, List.append_toArray, List.nil_append, List.cons_append]
 gi_wp2_with (first | (refine ⟨trivial, ?_⟩; gi_at_call 33; refine (eachPage_in Fence.wide 2 trivial rfl _ _ _ _).mono ?_; rintro e w2 ⟨rfl, rfl⟩))
 have bS : SpansBox (((w.alloc (.cells #[.int .i64 0, .int .i64 0, .int .i64 0, .int .i64 0, .int .i64 0, .int .i64 0, .int .i64 0, .int .i64 0] 87)).alloc (.cells #[.slice (some ⟨w.heap.size, 0, none⟩) 4 4] 84)).alloc (.cells #[.slice A0 4 c0] 23)) w.heap.size (fun _ => (0, 0)) := blk_alloc (blk_alloc (blk_new w _) _) _
 have bV : Boxed (((w.alloc (.cells #[.int .i64 0, .int .i64 0, .int .i64 0, .int .i64 0, .int .i64 0, .int .i64 0, .int .i64 0, .int .i64 0] 87)).alloc (.cells #[.slice (some ⟨w.heap.size, 0, none⟩) 4 4] 84)).alloc (.cells #[.slice A0 4 c0] 23)) (w.heap.size + 1) 84 (.slice (some ⟨w.heap.size, 0, none⟩) 4 4) := by
  have := blk_alloc (blk_new (w.alloc (.cells #[.int .i64 0, .int .i64 0, .int .i64 0, .int .i64 0, .int .i64 0, .int .i64 0, .int .i64 0, .int .i64 0] 87)) (.cells #[.slice (some ⟨w.heap.size, 0, none⟩) 4 4] 84)) (.cells #[.slice A0 4 c0] 23)
  rw [World.size_alloc] at this
  exact this
 have bN : Boxed (((w.alloc (.cells #[.int .i64 0, .int .i64 0, .int .i64 0, .int .i64 0, .int .i64 0, .int .i64 0, .int .i64 0, .int .i64 0] 87)).alloc (.cells #[.slice (some ⟨w.heap.size, 0, none⟩) 4 4] 84)).alloc (.cells #[.slice A0 4 c0] 23)) (w.heap.size + 1 + 1) 23 (.slice A0 l0.length c0) := by
  have := blk_new ((w.alloc (.cells #[.int .i64 0, .int .i64 0, .int .i64 0, .int .i64 0, .int .i64 0, .int .i64 0, .int .i64 0, .int .i64 0] 87)).alloc (.cells #[.slice (some ⟨w.heap.size, 0, none⟩) 4 4] 84)) (.cells #[.slice A0 4 c0] 23)
  rw [World.size_alloc, World.size_alloc] at this
  rw [hl]
  exact this
 have hB0 : Below w.heap.size w (((w.alloc (.cells #[.int .i64 0, .int .i64 0, .int .i64 0, .int .i64 0, .int .i64 0, .int .i64 0, .int .i64 0, .int .i64 0] 87)).alloc (.cells #[.slice (some ⟨w.heap.size, 0, none⟩) 4 4] 84)).alloc (.cells #[.slice A0 4 c0] 23)) := below_alloc (below_alloc (below_alloc (Below.refl _ w) _) _) _
 have hN : ∀ x ∈ spotsF 0 l0, x.1 < 4 := fun x hx => by
  have := spotsF_lt 0 l0 x hx
  omega
 generalize hW0 : (((w.alloc (.cells #[.int .i64 0, .int .i64 0, .int .i64 0, .int .i64 0, .int .i64 0, .int .i64 0, .int .i64 0, .int .i64 0] 87)).alloc (.cells #[.slice (some ⟨w.heap.size, 0, none⟩) 4 4] 84)).alloc (.cells #[.slice A0 4 c0] 23)) = W0 at *
 refine wpIn_rangeFunc_ownH (F := Fence.wide) rfl (by decide) (gf := 54) (lb := #[.pointer (some ⟨w.heap.size + 1 + 1, 0, none⟩)]) rfl trivial (enters_of Try.func54 (by kernel_rfl) rfl)
  (eachPage_stops Fence.wide 2 trivial rfl (by decide) (fun x => x.1 < 4) (w.heap.size + 1 + 1) A0 c0 l0 w _ hr0 hN hB0 bN.cell) belowK_t (belowK_b hB0.size) (Below.refl _ _) (fun _ => rfl)
  (fun pre W => SpansBox W w.heap.size (spansOfL pre) ∧ Boxed W (w.heap.size + 1) 84 (.slice (some ⟨w.heap.size, 0, none⟩) 4 4) ∧ Below w.heap.size w W) (fun _ _ _ => False)
  (OwnFrom.and (Own.from (SpansBox.own _ _) _) (OwnFrom.and (Own.from (boxed_own _ _ (fun _ => _)) _) (ownFrom_below (Nat.le_refl _) hB0.size))) (fun _ _ _ _ _ hs _ _ => hs)
  ⟨bS, bV, hB0⟩
  (fun x a' W => ∃ Bs Bx, w.heap.size + 1 < Bs ∧ w.heap.size + 1 < Bx ∧ W.heap[Bs]? = some (.cells #[.int .i64 (x.1.1 : Int), .int .i64 (x.1.2.1 : Int)] 67 (0, 0)) ∧ PageBox W Bx x.1.2.2 ∧ a' = { tmps := #[.slice A0 4 c0, undef, .slice none 0 0, .pointer (some ⟨w.heap.size + 1, 0, none⟩), .pointer (some ⟨Bs, 0, none⟩), .pointer (some ⟨Bx, 0, none⟩), undef, .slice A0 4 c0, .int .i64 4, .slice (some ⟨w.heap.size, 0, none⟩) 4 4, .slice A0 4 c0, .func (.func 54) #[] #[.pointer (some ⟨w.heap.size + 1 + 1, 0, none⟩)], .agg #[.int .i64 (x.1.1 : Int), .int .i64 (x.1.2.1 : Int)], .agg #[.int .i64 x.1.2.2.f0, .int .i64 x.1.2.2.f1.f0, .int .i64 x.1.2.2.f1.f1, .int .i64 x.1.2.2.f1.f2, .int .i64 x.1.2.2.f1.f3], undef, undef, undef, undef, undef, undef, undef, undef, undef, undef, undef, undef, undef, undef, undef, undef, undef, undef, undef, undef, undef, undef, undef, undef, undef, undef, undef, undef, undef, undef, undef, undef, undef, undef, undef, undef, undef, undef, undef, undef], defers := [] })
  (fun x a' s X Y row hs hg hr => by
   obtain ⟨Bs, Bx, h1, h2, h3, h4, h5⟩ := hs
   exact ⟨Bs, Bx, h1, h2, (hg.block Bs (blk_lt h3) (fun e => by obtain ⟨B0, o, ho, hc⟩ := hr Bs e.symm; rw [h3] at ho; cases ho; cases hc)).trans h3, PageBox.own Bx _ _ () X Y row h4 hg hr, h5⟩) ?assign ?body ?done ?stop
 case assign =>
  rintro l pre x W K ⟨hbx, hbv, hB⟩ hK
  gi_wp2
  exact hK _ _ (((KeepsOthers.alloc _ _).trans (KeepsOthers.alloc _ _)).from _) (((Below.refl _ W).alloc hB.size _).alloc (by have := hB.size; simp; omega) _) ⟨blk_alloc (blk_alloc hbx _) _, (hbv.alloc _).alloc _, (hB.alloc hB.size _).alloc (hB.alloc hB.size _).size _⟩
   ⟨W.heap.size, W.heap.size + 1, hbv.lt, by have := hbv.lt; omega, blk_alloc (blk_new W _) _, by have := blk_new (W.alloc (.cells #[.int .i64 (x.1.1 : Int), .int .i64 (x.1.2.1 : Int)] 67)) (.cells #[.int .i64 x.1.2.2.f0, .int .i64 x.1.2.2.f1.f0, .int .i64 x.1.2.2.f1.f1, .int .i64 x.1.2.2.f1.f2, .int .i64 x.1.2.2.f1.f3] 69); rw [World.size_alloc] at this; exact this, rfl⟩
 case body =>
  rintro l pre x a' W hl_ ⟨r, hr⟩ ⟨hbx, hbv, hB⟩ ⟨Bs, Bx, hBs, hBx, bs, bX, rfl⟩ hlt
  obtain ⟨hc0_, hc1_, hc2_, hc3_, hc4_⟩ := bX.cells
  have hcs0 : W.cell? ⟨Bs, 0, none⟩ = some (.int .i64 (x.1.1 : Int)) := (blk_cell bs 0).trans rfl
  have hcv := hbv.cell
  have hi4 := x.2
  obtain ⟨hlo, hhi⟩ := hbx.at_ x.1.1 hi4
  have hf0 := hbx.frozen (x.1.1 * 2)
  have hf1 := hbx.frozen (x.1.1 * 2 + 1)
  have hsn := spansOfL_snoc pre x
  by_cases hs1 : x.1.2.2.f0 = 1
  rotate_left
  · have hs2 : (x.1.2.2.f0 != 1) = true := by simp [hs1]
    have e : spansOfL (pre ++ [x]) = spansOfL pre := by
     rw [hsn]
     funext j
     unfold spansStep stepSpan
     rw [if_neg hs1]
     split <;> rfl
    gi_wp2
    exact ⟨KeepsFrom.refl _ _, Below.refl _ _, by rw [e]; exact hbx, hbv, hB⟩
  have hs2 : (x.1.2.2.f0 != 1) = false := by simp [hs1]
  have p1 : 0 ≤ (x.1.1 : Int) := by omega
  have q1 : (x.1.1 : Int) < 4 := by omega
  by_cases hz : (spansOfL pre x.1.1).1 = 0
  · have hz2 : ((spansOfL pre x.1.1).1 == 0) = true := by simp [hz]
    gi_wp2
    have hSt : (fun W' => W'.cell? ⟨w.heap.size, x.1.1 * 2, none⟩ = some (.int .i64 (spansOfL pre x.1.1).1) ∧ W'.cell? ⟨Bx, 2, none⟩ = some (.int .i64 x.1.2.2.f1.f1)) W.drew := ⟨hlo, hc2_⟩
    refine start_round (S := fun W' => W'.cell? ⟨w.heap.size, x.1.1 * 2, none⟩ = some (.int .i64 (spansOfL pre x.1.1).1) ∧ W'.cell? ⟨Bx, 2, none⟩ = some (.int .i64 x.1.2.2.f1.f1)) (ds := []) (bt 15 0) (by kernel_rfl) rfl rfl (by kernel_rfl) (by rintro ⟨a, w, h⟩; exact h) ?_
    refine pi_ 0 21 (bt 15 1) rfl rfl (fun _ _ _ h => h) ?_
    refine pi_ 1 22 (bt 15 3) rfl rfl (fun _ _ _ h => h) ?_
    refine pi_ 2 23 (bt 15 7) rfl rfl (fun _ _ _ h => h) ?_
    refine take_ (i := 3) (N := some 24) (v := ?_) (a' := ?_) (bt 15 15) rfl rfl (by kernel_rfl) (fun _ _ _ h => h) (Or.inl ⟨by rfl, ?_⟩) hSt ?_ ?_
    rotate_left
    · intro w' hS'
      have hL' := hS'.1
      go_simp
      with_reducible rfl
    rotate_left
    · simp only [Act.put, List.setIfInBounds_toArray, List.set_cons_zero, List.set_cons_succ]
      rfl
    refine pi_ 4 25 (bt 15 31) rfl rfl (fun _ _ _ h => h) ?_
    refine pi_ 5 26 (bt 15 63) rfl rfl (fun _ _ _ h => h) ?_
    refine pure_ (i := 6) (N := some 27) (v := undef) (a' := ?_) (bt 15 127) rfl rfl (by kernel_rfl) (fun _ _ _ h => h) (Or.inr ⟨by rfl, rfl⟩) ?_ ?_
    rotate_left
    · simp only [Act.put, List.setIfInBounds_toArray, List.set_cons_zero, List.set_cons_succ]
      rfl
    refine pure_ (i := 7) (N := some 28) (v := undef) (a' := ?_) (bt 15 255) rfl rfl (by kernel_rfl) (fun _ _ _ h => h) (Or.inr ⟨by rfl, rfl⟩) ?_ ?_
    rotate_left
    · simp only [Act.put, List.setIfInBounds_toArray, List.set_cons_zero, List.set_cons_succ]
      rfl
    refine pure_ (i := 8) (N := some 29) (v := undef) (a' := ?_) (bt 15 511) rfl rfl (by kernel_rfl) (fun _ _ _ h => h) (Or.inr ⟨by rfl, rfl⟩) ?_ ?_
    rotate_left
    · simp only [Act.put, List.setIfInBounds_toArray, List.set_cons_zero, List.set_cons_succ]
      rfl
    refine pure_ (i := 9) (N := some 30) (v := undef) (a' := ?_) (bt 15 1023) rfl rfl (by kernel_rfl) (fun _ _ _ h => h) (Or.inr ⟨by rfl, rfl⟩) ?_ ?_
    rotate_left
    · simp only [Act.put, List.setIfInBounds_toArray, List.set_cons_zero, List.set_cons_succ]
      rfl
    refine pure_ (i := 10) (N := some 31) (v := undef) (a' := ?_) (bt 15 2047) rfl rfl (by kernel_rfl) (fun _ _ _ h => h) (Or.inr ⟨by rfl, rfl⟩) ?_ ?_
    rotate_left
    · simp only [Act.put, List.setIfInBounds_toArray, List.set_cons_zero, List.set_cons_succ]
      rfl
    refine pure_ (i := 11) (N := some 32) (v := undef) (a' := ?_) (bt 15 4095) rfl rfl (by kernel_rfl) (fun _ _ _ h => h) (Or.inr ⟨by rfl, rfl⟩) ?_ ?_
    rotate_left
    · simp only [Act.put, List.setIfInBounds_toArray, List.set_cons_zero, List.set_cons_succ]
      rfl
    refine pure_ (i := 12) (N := some 33) (v := undef) (a' := ?_) (bt 15 8191) rfl rfl (by kernel_rfl) (fun _ _ _ h => h) (Or.inr ⟨by rfl, rfl⟩) ?_ ?_
    rotate_left
    · simp only [Act.put, List.setIfInBounds_toArray, List.set_cons_zero, List.set_cons_succ]
      rfl
    refine pure_ (i := 13) (N := some 34) (v := undef) (a' := ?_) (bt 15 16383) rfl rfl (by kernel_rfl) (fun _ _ _ h => h) (Or.inr ⟨by rfl, rfl⟩) ?_ ?_
    rotate_left
    · simp only [Act.put, List.setIfInBounds_toArray, List.set_cons_zero, List.set_cons_succ]
      rfl
    refine pi_ 14 35 (bt 15 32767) rfl rfl (fun _ _ _ h => h) ?_
    refine done_ (by kernel_rfl) ?_
    gi_wp2
    have v1 : SpansBox (W.setCell ⟨w.heap.size, x.1.1 * 2, none⟩ (.int .i64 x.1.2.2.f1.f1)).drew w.heap.size (fun j => if j = x.1.1 then (x.1.2.2.f1.f1, (spansOfL pre j).2) else spansOfL pre j) := spansStep_lo hbx x.1.1 hi4 x.1.2.2.f1.f1
    have v2 : Boxed (W.setCell ⟨w.heap.size, x.1.1 * 2, none⟩ (.int .i64 x.1.2.2.f1.f1)).drew (w.heap.size + 1) 84 (.slice (some ⟨w.heap.size, 0, none⟩) 4 4) := blk_far hbv (p := ⟨w.heap.size, x.1.1 * 2, none⟩) (by show w.heap.size + 1 ≠ w.heap.size; omega) _
    have v3 : Below w.heap.size w (W.setCell ⟨w.heap.size, x.1.1 * 2, none⟩ (.int .i64 x.1.2.2.f1.f1)).drew := below_drew (hB.setCell (p := ⟨w.heap.size, x.1.1 * 2, none⟩) (Nat.le_refl _) _)
    have v4 : Below w.heap.size W (W.setCell ⟨w.heap.size, x.1.1 * 2, none⟩ (.int .i64 x.1.2.2.f1.f1)).drew := below_drew ((Below.refl _ W).setCell (p := ⟨w.heap.size, x.1.1 * 2, none⟩) (Nat.le_refl _) _)
    have v5 : KeepsFrom W0.heap.size W (W.setCell ⟨w.heap.size, x.1.1 * 2, none⟩ (.int .i64 x.1.2.2.f1.f1)).drew := ((KeepsOthers.setCell W ⟨w.heap.size, x.1.1 * 2, none⟩ (.int .i64 x.1.2.2.f1.f1)).trans (KeepsOthers.drew _)).from _
    have v6 : PageBox (W.setCell ⟨w.heap.size, x.1.1 * 2, none⟩ (.int .i64 x.1.2.2.f1.f1)).drew Bx x.1.2.2 := blk_far bX (p := ⟨w.heap.size, x.1.1 * 2, none⟩) (by show Bx ≠ w.heap.size; omega) _
    generalize hV : (W.setCell ⟨w.heap.size, x.1.1 * 2, none⟩ (.int .i64 x.1.2.2.f1.f1)).drew = V at v1 v2 v3 v4 v5 v6 ⊢
    have hhiV : V.cell? ⟨w.heap.size, x.1.1 * 2 + 1, none⟩ = some (.int .i64 (spansOfL pre x.1.1).2) := by have := (v1.at_ x.1.1 hi4).2; simpa using this
    have hsqV := v6.cells.2.2.1
    have hfV := v1.frozen (x.1.1 * 2 + 1)
    clear hV hbx hlo hhi hf0 hf1 hc0_ hc1_ hc2_ hc3_ hc4_ hcs0 hcv hbv bs bX
    have hSt : (fun W' => W'.cell? ⟨w.heap.size, x.1.1 * 2 + 1, none⟩ = some (.int .i64 (spansOfL pre x.1.1).2) ∧ W'.cell? ⟨Bx, 2, none⟩ = some (.int .i64 x.1.2.2.f1.f1)) V.drew := ⟨hhiV, hsqV⟩
    refine start_round (S := fun W' => W'.cell? ⟨w.heap.size, x.1.1 * 2 + 1, none⟩ = some (.int .i64 (spansOfL pre x.1.1).2) ∧ W'.cell? ⟨Bx, 2, none⟩ = some (.int .i64 x.1.2.2.f1.f1)) (ds := [11]) (bt 12 0) (by kernel_rfl) rfl rfl (by kernel_rfl) (by rintro ⟨a, w, h⟩; exact h) ?_
    refine pi_ 0 42 (bt 12 1) rfl rfl (fun _ _ _ h => h) ?_
    refine pi_ 1 43 (bt 12 3) rfl rfl (fun _ _ _ h => h) ?_
    refine pi_ 2 44 (bt 12 7) rfl rfl (fun _ _ _ h => h) ?_
    refine pi_ 3 45 (bt 12 15) rfl rfl (fun _ _ _ h => h) ?_
    refine take_ (i := 4) (N := some 46) (v := ?_) (a' := ?_) (bt 12 31) rfl rfl (by kernel_rfl) (fun _ _ _ h => h) (Or.inl ⟨by rfl, ?_⟩) hSt ?_ ?_
    rotate_left
    · intro w' hS'
      have hL' := hS'.1
      go_simp
      with_reducible rfl
    rotate_left
    · simp only [Act.put, List.setIfInBounds_toArray, List.set_cons_zero, List.set_cons_succ]
      rfl
    refine pi_ 5 47 (bt 12 63) rfl rfl (fun _ _ _ h => h) ?_
    refine pi_ 6 48 (bt 12 127) rfl rfl (fun _ _ _ h => h) ?_
    refine take_ (i := 7) (N := some 49) (v := ?_) (a' := ?_) (bt 12 255) rfl rfl (by kernel_rfl) (fun _ _ _ h => h) (Or.inl ⟨by rfl, ?_⟩) hSt ?_ ?_
    rotate_left
    · intro w' hS'
      have hL' := hS'.2
      go_simp
      with_reducible rfl
    rotate_left
    · simp only [Act.put, List.setIfInBounds_toArray, List.set_cons_zero, List.set_cons_succ]
      rfl
    refine pi_ 8 50 (bt 12 511) rfl rfl (fun _ _ _ h => h) ?_
    refine pi_ 9 51 (bt 12 1023) rfl rfl (fun _ _ _ h => h) ?_
    refine pi_ 10 52 (bt 12 2047) rfl rfl (fun _ _ _ h => h) ?_
    refine last_ (i := 11) (N := none) (bt 12 4095) rfl rfl (by kernel_rfl) (by decide) ?_
    intro K hK
    refine qs rfl ?_
    refine hK.out _ _ ?_
    clear hK K
    refine done_ (by kernel_rfl) ?_
    have k1 := spansStep_hi (show SpansBox V.drew w.heap.size (fun j => if j = x.1.1 then (x.1.2.2.f1.f1, (spansOfL pre j).2) else spansOfL pre j) from v1) x.1.1 hi4 (if (spansOfL pre x.1.1).2 < x.1.2.2.f1.f1 then x.1.2.2.f1.f1 else (spansOfL pre x.1.1).2)
    refine ⟨v5.trans (((KeepsOthers.drew V).trans (KeepsOthers.setCell _ _ _)).from _), v4.trans ((below_drew (Below.refl _ V)).setCell (p := ⟨w.heap.size, x.1.1 * 2 + 1, none⟩) (Nat.le_refl _) _), ?_, blk_far v2 (p := ⟨w.heap.size, x.1.1 * 2 + 1, none⟩) (by show w.heap.size + 1 ≠ w.heap.size; omega) _, (below_drew v3).setCell (p := ⟨w.heap.size, x.1.1 * 2 + 1, none⟩) (Nat.le_refl _) _⟩
    rw [hsn]
    have e : spansStep (spansOfL pre) x.1 = (fun j => if j = x.1.1 then (((fun j => if j = x.1.1 then (x.1.2.2.f1.f1, (spansOfL pre j).2) else spansOfL pre j) j).1, (if (spansOfL pre x.1.1).2 < x.1.2.2.f1.f1 then x.1.2.2.f1.f1 else (spansOfL pre x.1.1).2)) else (fun j => if j = x.1.1 then (x.1.2.2.f1.f1, (spansOfL pre j).2) else spansOfL pre j) j) := by
     funext j
     unfold spansStep stepSpan mx
     by_cases hj : j = x.1.1
     rotate_left
     · simp [hj]
     subst hj
     rw [if_pos rfl, if_pos hs1, if_pos (Or.inl hz), if_pos rfl]
     simp
    rw [e]
    exact k1
  have hz2 : ((spansOfL pre x.1.1).1 == 0) = false := by simp [hz]
  by_cases hw : x.1.2.2.f1.f1 < (spansOfL pre x.1.1).1
  rotate_left
  · have hw2 : decide (x.1.2.2.f1.f1 < (spansOfL pre x.1.1).1) = false := decide_eq_false hw
    gi_wp2
    have hSt : (fun W' => W'.cell? ⟨w.heap.size, x.1.1 * 2, none⟩ = some (.int .i64 (spansOfL pre x.1.1).1) ∧ W'.cell? ⟨Bx, 2, none⟩ = some (.int .i64 x.1.2.2.f1.f1)) W.drew := ⟨hlo, hc2_⟩
    refine start_round (S := fun W' => W'.cell? ⟨w.heap.size, x.1.1 * 2, none⟩ = some (.int .i64 (spansOfL pre x.1.1).1) ∧ W'.cell? ⟨Bx, 2, none⟩ = some (.int .i64 x.1.2.2.f1.f1)) (ds := []) (bt 15 0) (by kernel_rfl) rfl rfl (by kernel_rfl) (by rintro ⟨a, w, h⟩; exact h) ?_
    refine pi_ 0 21 (bt 15 1) rfl rfl (fun _ _ _ h => h) ?_
    refine pi_ 1 22 (bt 15 3) rfl rfl (fun _ _ _ h => h) ?_
    refine pi_ 2 23 (bt 15 7) rfl rfl (fun _ _ _ h => h) ?_
    refine take_ (i := 3) (N := some 24) (v := ?_) (a' := ?_) (bt 15 15) rfl rfl (by kernel_rfl) (fun _ _ _ h => h) (Or.inl ⟨by rfl, ?_⟩) hSt ?_ ?_
    rotate_left
    · intro w' hS'
      have hL' := hS'.1
      go_simp
      with_reducible rfl
    rotate_left
    · simp only [Act.put, List.setIfInBounds_toArray, List.set_cons_zero, List.set_cons_succ]
      rfl
    refine pi_ 4 25 (bt 15 31) rfl rfl (fun _ _ _ h => h) ?_
    refine pi_ 5 26 (bt 15 63) rfl rfl (fun _ _ _ h => h) ?_
    refine pi_ 6 27 (bt 15 127) rfl rfl (fun _ _ _ h => h) ?_
    refine pi_ 7 28 (bt 15 255) rfl rfl (fun _ _ _ h => h) ?_
    refine take_ (i := 8) (N := some 29) (v := ?_) (a' := ?_) (bt 15 511) rfl rfl (by kernel_rfl) (fun _ _ _ h => h) (Or.inl ⟨by rfl, ?_⟩) hSt ?_ ?_
    rotate_left
    · intro w' hS'
      have hL' := hS'.2
      go_simp
      with_reducible rfl
    rotate_left
    · simp only [Act.put, List.setIfInBounds_toArray, List.set_cons_zero, List.set_cons_succ]
      rfl
    refine pi_ 9 30 (bt 15 1023) rfl rfl (fun _ _ _ h => h) ?_
    refine pi_ 10 31 (bt 15 2047) rfl rfl (fun _ _ _ h => h) ?_
    refine pi_ 11 32 (bt 15 4095) rfl rfl (fun _ _ _ h => h) ?_
    refine take_ (i := 12) (N := some 33) (v := ?_) (a' := ?_) (bt 15 8191) rfl rfl (by kernel_rfl) (fun _ _ _ h => h) (Or.inl ⟨by rfl, ?_⟩) hSt ?_ ?_
    rotate_left
    · intro w' hS'
      have hL' := hS'.1
      go_simp
      with_reducible rfl
    rotate_left
    · simp only [Act.put, List.setIfInBounds_toArray, List.set_cons_zero, List.set_cons_succ]
      rfl
    refine pi_ 13 34 (bt 15 16383) rfl rfl (fun _ _ _ h => h) ?_
    refine pi_ 14 35 (bt 15 32767) rfl rfl (fun _ _ _ h => h) ?_
    refine done_ (by kernel_rfl) ?_
    gi_wp2
    have v1 : SpansBox W.drew w.heap.size (spansOfL pre) := hbx
    have v2 : Boxed W.drew (w.heap.size + 1) 84 (.slice (some ⟨w.heap.size, 0, none⟩) 4 4) := hbv
    have v3 : Below w.heap.size w W.drew := below_drew hB
    have v4 : Below w.heap.size W W.drew := below_drew (Below.refl _ W)
    have v5 : KeepsFrom W0.heap.size W W.drew := (KeepsOthers.drew W).from _
    have v6 : PageBox W.drew Bx x.1.2.2 := bX
    generalize hV : W.drew = V at v1 v2 v3 v4 v5 v6 ⊢
    have hhiV := (v1.at_ x.1.1 hi4).2
    have hsqV := v6.cells.2.2.1
    have hfV := v1.frozen (x.1.1 * 2 + 1)
    clear hV hbx hlo hhi hf0 hf1 hc0_ hc1_ hc2_ hc3_ hc4_ hcs0 hcv hbv bs bX
    have hSt : (fun W' => W'.cell? ⟨w.heap.size, x.1.1 * 2 + 1, none⟩ = some (.int .i64 (spansOfL pre x.1.1).2) ∧ W'.cell? ⟨Bx, 2, none⟩ = some (.int .i64 x.1.2.2.f1.f1)) V.drew := ⟨hhiV, hsqV⟩
    refine start_round (S := fun W' => W'.cell? ⟨w.heap.size, x.1.1 * 2 + 1, none⟩ = some (.int .i64 (spansOfL pre x.1.1).2) ∧ W'.cell? ⟨Bx, 2, none⟩ = some (.int .i64 x.1.2.2.f1.f1)) (ds := [11]) (bt 12 0) (by kernel_rfl) rfl rfl (by kernel_rfl) (by rintro ⟨a, w, h⟩; exact h) ?_
    refine pi_ 0 42 (bt 12 1) rfl rfl (fun _ _ _ h => h) ?_
    refine pi_ 1 43 (bt 12 3) rfl rfl (fun _ _ _ h => h) ?_
    refine pi_ 2 44 (bt 12 7) rfl rfl (fun _ _ _ h => h) ?_
    refine pi_ 3 45 (bt 12 15) rfl rfl (fun _ _ _ h => h) ?_
    refine take_ (i := 4) (N := some 46) (v := ?_) (a' := ?_) (bt 12 31) rfl rfl (by kernel_rfl) (fun _ _ _ h => h) (Or.inl ⟨by rfl, ?_⟩) hSt ?_ ?_
    rotate_left
    · intro w' hS'
      have hL' := hS'.1
      go_simp
      with_reducible rfl
    rotate_left
    · simp only [Act.put, List.setIfInBounds_toArray, List.set_cons_zero, List.set_cons_succ]
      rfl
    refine pi_ 5 47 (bt 12 63) rfl rfl (fun _ _ _ h => h) ?_
    refine pi_ 6 48 (bt 12 127) rfl rfl (fun _ _ _ h => h) ?_
    refine take_ (i := 7) (N := some 49) (v := ?_) (a' := ?_) (bt 12 255) rfl rfl (by kernel_rfl) (fun _ _ _ h => h) (Or.inl ⟨by rfl, ?_⟩) hSt ?_ ?_
    rotate_left
    · intro w' hS'
      have hL' := hS'.2
      go_simp
      with_reducible rfl
    rotate_left
    · simp only [Act.put, List.setIfInBounds_toArray, List.set_cons_zero, List.set_cons_succ]
      rfl
    refine pi_ 8 50 (bt 12 511) rfl rfl (fun _ _ _ h => h) ?_
    refine pi_ 9 51 (bt 12 1023) rfl rfl (fun _ _ _ h => h) ?_
    refine pi_ 10 52 (bt 12 2047) rfl rfl (fun _ _ _ h => h) ?_
    refine last_ (i := 11) (N := none) (bt 12 4095) rfl rfl (by kernel_rfl) (by decide) ?_
    intro K hK
    refine qs rfl ?_
    refine hK.out _ _ ?_
    clear hK K
    refine done_ (by kernel_rfl) ?_
    have k1 := spansStep_hi (show SpansBox V.drew w.heap.size (spansOfL pre) from v1) x.1.1 hi4 (if (spansOfL pre x.1.1).2 < x.1.2.2.f1.f1 then x.1.2.2.f1.f1 else (spansOfL pre x.1.1).2)
    refine ⟨v5.trans (((KeepsOthers.drew V).trans (KeepsOthers.setCell _ _ _)).from _), v4.trans ((below_drew (Below.refl _ V)).setCell (p := ⟨w.heap.size, x.1.1 * 2 + 1, none⟩) (Nat.le_refl _) _), ?_, blk_far v2 (p := ⟨w.heap.size, x.1.1 * 2 + 1, none⟩) (by show w.heap.size + 1 ≠ w.heap.size; omega) _, (below_drew v3).setCell (p := ⟨w.heap.size, x.1.1 * 2 + 1, none⟩) (Nat.le_refl _) _⟩
    rw [hsn]
    have e : spansStep (spansOfL pre) x.1 = (fun j => if j = x.1.1 then (((spansOfL pre) j).1, (if (spansOfL pre x.1.1).2 < x.1.2.2.f1.f1 then x.1.2.2.f1.f1 else (spansOfL pre x.1.1).2)) else (spansOfL pre) j) := by
     funext j
     unfold spansStep stepSpan mx
     by_cases hj : j = x.1.1
     rotate_left
     · simp [hj]
     subst hj
     rw [if_pos rfl, if_pos hs1, if_neg (fun h => h.elim hz (fun h => by omega)), if_pos rfl]
    rw [e]
    exact k1
  have hw2 : decide (x.1.2.2.f1.f1 < (spansOfL pre x.1.1).1) = true := decide_eq_true hw
  gi_wp2
  have hSt : (fun W' => W'.cell? ⟨w.heap.size, x.1.1 * 2, none⟩ = some (.int .i64 (spansOfL pre x.1.1).1) ∧ W'.cell? ⟨Bx, 2, none⟩ = some (.int .i64 x.1.2.2.f1.f1)) W.drew := ⟨hlo, hc2_⟩
  refine start_round (S := fun W' => W'.cell? ⟨w.heap.size, x.1.1 * 2, none⟩ = some (.int .i64 (spansOfL pre x.1.1).1) ∧ W'.cell? ⟨Bx, 2, none⟩ = some (.int .i64 x.1.2.2.f1.f1)) (ds := []) (bt 15 0) (by kernel_rfl) rfl rfl (by kernel_rfl) (by rintro ⟨a, w, h⟩; exact h) ?_
  refine pi_ 0 21 (bt 15 1) rfl rfl (fun _ _ _ h => h) ?_
  refine pi_ 1 22 (bt 15 3) rfl rfl (fun _ _ _ h => h) ?_
  refine pi_ 2 23 (bt 15 7) rfl rfl (fun _ _ _ h => h) ?_
  refine take_ (i := 3) (N := some 24) (v := ?_) (a' := ?_) (bt 15 15) rfl rfl (by kernel_rfl) (fun _ _ _ h => h) (Or.inl ⟨by rfl, ?_⟩) hSt ?_ ?_
  rotate_left
  · intro w' hS'
    have hL' := hS'.1
    go_simp
    with_reducible rfl
  rotate_left
  · simp only [Act.put, List.setIfInBounds_toArray, List.set_cons_zero, List.set_cons_succ]
    rfl
  refine pi_ 4 25 (bt 15 31) rfl rfl (fun _ _ _ h => h) ?_
  refine pi_ 5 26 (bt 15 63) rfl rfl (fun _ _ _ h => h) ?_
  refine pi_ 6 27 (bt 15 127) rfl rfl (fun _ _ _ h => h) ?_
  refine pi_ 7 28 (bt 15 255) rfl rfl (fun _ _ _ h => h) ?_
  refine take_ (i := 8) (N := some 29) (v := ?_) (a' := ?_) (bt 15 511) rfl rfl (by kernel_rfl) (fun _ _ _ h => h) (Or.inl ⟨by rfl, ?_⟩) hSt ?_ ?_
  rotate_left
  · intro w' hS'
    have hL' := hS'.2
    go_simp
    with_reducible rfl
  rotate_left
  · simp only [Act.put, List.setIfInBounds_toArray, List.set_cons_zero, List.set_cons_succ]
    rfl
  refine pi_ 9 30 (bt 15 1023) rfl rfl (fun _ _ _ h => h) ?_
  refine pi_ 10 31 (bt 15 2047) rfl rfl (fun _ _ _ h => h) ?_
  refine pi_ 11 32 (bt 15 4095) rfl rfl (fun _ _ _ h => h) ?_
  refine take_ (i := 12) (N := some 33) (v := ?_) (a' := ?_) (bt 15 8191) rfl rfl (by kernel_rfl) (fun _ _ _ h => h) (Or.inl ⟨by rfl, ?_⟩) hSt ?_ ?_
  rotate_left
  · intro w' hS'
    have hL' := hS'.1
    go_simp
    with_reducible rfl
  rotate_left
  · simp only [Act.put, List.setIfInBounds_toArray, List.set_cons_zero, List.set_cons_succ]
    rfl
  refine pi_ 13 34 (bt 15 16383) rfl rfl (fun _ _ _ h => h) ?_
  refine pi_ 14 35 (bt 15 32767) rfl rfl (fun _ _ _ h => h) ?_
  refine done_ (by kernel_rfl) ?_
  gi_wp2
  have v1 : SpansBox (W.setCell ⟨w.heap.size, x.1.1 * 2, none⟩ (.int .i64 x.1.2.2.f1.f1)).drew w.heap.size (fun j => if j = x.1.1 then (x.1.2.2.f1.f1, (spansOfL pre j).2) else spansOfL pre j) := spansStep_lo hbx x.1.1 hi4 x.1.2.2.f1.f1
  have v2 : Boxed (W.setCell ⟨w.heap.size, x.1.1 * 2, none⟩ (.int .i64 x.1.2.2.f1.f1)).drew (w.heap.size + 1) 84 (.slice (some ⟨w.heap.size, 0, none⟩) 4 4) := blk_far hbv (p := ⟨w.heap.size, x.1.1 * 2, none⟩) (by show w.heap.size + 1 ≠ w.heap.size; omega) _
  have v3 : Below w.heap.size w (W.setCell ⟨w.heap.size, x.1.1 * 2, none⟩ (.int .i64 x.1.2.2.f1.f1)).drew := below_drew (hB.setCell (p := ⟨w.heap.size, x.1.1 * 2, none⟩) (Nat.le_refl _) _)
  have v4 : Below w.heap.size W (W.setCell ⟨w.heap.size, x.1.1 * 2, none⟩ (.int .i64 x.1.2.2.f1.f1)).drew := below_drew ((Below.refl _ W).setCell (p := ⟨w.heap.size, x.1.1 * 2, none⟩) (Nat.le_refl _) _)
  have v5 : KeepsFrom W0.heap.size W (W.setCell ⟨w.heap.size, x.1.1 * 2, none⟩ (.int .i64 x.1.2.2.f1.f1)).drew := ((KeepsOthers.setCell W ⟨w.heap.size, x.1.1 * 2, none⟩ (.int .i64 x.1.2.2.f1.f1)).trans (KeepsOthers.drew _)).from _
  have v6 : PageBox (W.setCell ⟨w.heap.size, x.1.1 * 2, none⟩ (.int .i64 x.1.2.2.f1.f1)).drew Bx x.1.2.2 := blk_far bX (p := ⟨w.heap.size, x.1.1 * 2, none⟩) (by show Bx ≠ w.heap.size; omega) _
  generalize hV : (W.setCell ⟨w.heap.size, x.1.1 * 2, none⟩ (.int .i64 x.1.2.2.f1.f1)).drew = V at v1 v2 v3 v4 v5 v6 ⊢
  have hhiV : V.cell? ⟨w.heap.size, x.1.1 * 2 + 1, none⟩ = some (.int .i64 (spansOfL pre x.1.1).2) := by have := (v1.at_ x.1.1 hi4).2; simpa using this
  have hsqV := v6.cells.2.2.1
  have hfV := v1.frozen (x.1.1 * 2 + 1)
  clear hV hbx hlo hhi hf0 hf1 hc0_ hc1_ hc2_ hc3_ hc4_ hcs0 hcv hbv bs bX
  have hSt : (fun W' => W'.cell? ⟨w.heap.size, x.1.1 * 2 + 1, none⟩ = some (.int .i64 (spansOfL pre x.1.1).2) ∧ W'.cell? ⟨Bx, 2, none⟩ = some (.int .i64 x.1.2.2.f1.f1)) V.drew := ⟨hhiV, hsqV⟩
  refine start_round (S := fun W' => W'.cell? ⟨w.heap.size, x.1.1 * 2 + 1, none⟩ = some (.int .i64 (spansOfL pre x.1.1).2) ∧ W'.cell? ⟨Bx, 2, none⟩ = some (.int .i64 x.1.2.2.f1.f1)) (ds := [11]) (bt 12 0) (by kernel_rfl) rfl rfl (by kernel_rfl) (by rintro ⟨a, w, h⟩; exact h) ?_
  refine pi_ 0 42 (bt 12 1) rfl rfl (fun _ _ _ h => h) ?_
  refine pi_ 1 43 (bt 12 3) rfl rfl (fun _ _ _ h => h) ?_
  refine pi_ 2 44 (bt 12 7) rfl rfl (fun _ _ _ h => h) ?_
  refine pi_ 3 45 (bt 12 15) rfl rfl (fun _ _ _ h => h) ?_
  refine take_ (i := 4) (N := some 46) (v := ?_) (a' := ?_) (bt 12 31) rfl rfl (by kernel_rfl) (fun _ _ _ h => h) (Or.inl ⟨by rfl, ?_⟩) hSt ?_ ?_
  rotate_left
  · intro w' hS'
    have hL' := hS'.1
    go_simp
    with_reducible rfl
  rotate_left
  · simp only [Act.put, List.setIfInBounds_toArray, List.set_cons_zero, List.set_cons_succ]
    rfl
  refine pi_ 5 47 (bt 12 63) rfl rfl (fun _ _ _ h => h) ?_
  refine pi_ 6 48 (bt 12 127) rfl rfl (fun _ _ _ h => h) ?_
  refine take_ (i := 7) (N := some 49) (v := ?_) (a' := ?_) (bt 12 255) rfl rfl (by kernel_rfl) (fun _ _ _ h => h) (Or.inl ⟨by rfl, ?_⟩) hSt ?_ ?_
  rotate_left
  · intro w' hS'
    have hL' := hS'.2
    go_simp
    with_reducible rfl
  rotate_left
  · simp only [Act.put, List.setIfInBounds_toArray, List.set_cons_zero, List.set_cons_succ]
    rfl
  refine pi_ 8 50 (bt 12 511) rfl rfl (fun _ _ _ h => h) ?_
  refine pi_ 9 51 (bt 12 1023) rfl rfl (fun _ _ _ h => h) ?_
  refine pi_ 10 52 (bt 12 2047) rfl rfl (fun _ _ _ h => h) ?_
  refine last_ (i := 11) (N := none) (bt 12 4095) rfl rfl (by kernel_rfl) (by decide) ?_
  intro K hK
  refine qs rfl ?_
  refine hK.out _ _ ?_
  clear hK K
  refine done_ (by kernel_rfl) ?_
  have k1 := spansStep_hi (show SpansBox V.drew w.heap.size (fun j => if j = x.1.1 then (x.1.2.2.f1.f1, (spansOfL pre j).2) else spansOfL pre j) from v1) x.1.1 hi4 (if (spansOfL pre x.1.1).2 < x.1.2.2.f1.f1 then x.1.2.2.f1.f1 else (spansOfL pre x.1.1).2)
  refine ⟨v5.trans (((KeepsOthers.drew V).trans (KeepsOthers.setCell _ _ _)).from _), v4.trans ((below_drew (Below.refl _ V)).setCell (p := ⟨w.heap.size, x.1.1 * 2 + 1, none⟩) (Nat.le_refl _) _), ?_, blk_far v2 (p := ⟨w.heap.size, x.1.1 * 2 + 1, none⟩) (by show w.heap.size + 1 ≠ w.heap.size; omega) _, (below_drew v3).setCell (p := ⟨w.heap.size, x.1.1 * 2 + 1, none⟩) (Nat.le_refl _) _⟩
  rw [hsn]
  have e : spansStep (spansOfL pre) x.1 = (fun j => if j = x.1.1 then (((fun j => if j = x.1.1 then (x.1.2.2.f1.f1, (spansOfL pre j).2) else spansOfL pre j) j).1, (if (spansOfL pre x.1.1).2 < x.1.2.2.f1.f1 then x.1.2.2.f1.f1 else (spansOfL pre x.1.1).2)) else (fun j => if j = x.1.1 then (x.1.2.2.f1.f1, (spansOfL pre j).2) else spansOfL pre j) j) := by
   funext j
   unfold spansStep stepSpan mx
   by_cases hj : j = x.1.1
   rotate_left
   · simp [hj]
   subst hj
   rw [if_pos rfl, if_pos hs1, if_pos (Or.inr hw), if_pos rfl]
   simp
  rw [e]
  exact k1
 case done =>
  rintro D ys W hD hys ⟨hbx, hbv, hB⟩ hK
  rw [spansOfL_all hys] at hbx
  have hcv := hbv.cell
  gi_wp2
  refine ⟨by simp, .inl ⟨_, _, rfl, run_takeDeferred hK, ?_⟩⟩
  have hbq := SpansBox.own (β := Unit) _ (fun _ => spansF l0) () _ _ _ hbx (grownBy_putObj' _ D (.deferred none)) (fun r e => by cases e; exact ⟨_, hK, rfl⟩)
  exact ⟨_, results_tmp rfl _ _ _, w.heap.size, rfl, hbq, Nat.le_refl _, hB.trans (belowK_b (w := w) (Nat.le_refl _) W D _ _ (by have := hB0.size; omega) hK rfl rfl)⟩
 case stop =>
  rintro D c pre W _ _ h _
  exact h.elim
def impl_freePages.l0 : Nat → Int → List (S69) → Int → Int → Option (Int)
 | 0, _, _, _, _ => none
 | k + 1, x3, x7, x8, x9 => if x9 < x8 then (if 0 ≤ x9 then (if x9 < (x7.length : Int) then (if ((rd_T69 x7 x9).f0) = 0 then (impl_freePages.l0 k (wrap64 (x3 + 1)) x7 x8 (wrap64 (x9 + 1))) else (impl_freePages.l0 k x3 x7 x8 (wrap64 (x9 + 1)))) else (none)) else (none)) else (some x3)
def impl_freePages.f (k : Nat) (l0_0 : List (S69)) (a0_1 : Int) : Option (Int) := impl_freePages.l0 k 0 l0_0 (l0_0.length : Int) 0
theorem impl_freePages.calls (k : Nat) (A0_0 : Option Addr) (c0_0 : Nat) (l0_0 : List (S69)) (a0_1 : Int) (r : Int) (w : World) (hr0_0 : Kd.C k69 w A0_0 l0_0.length l0_0) (hc0_0 : l0_0.length ≤ c0_0) (h : impl_freePages.f k l0_0 a0_1 = some r) :
 Calls Try.prog 56 #[.agg #[.slice A0_0 l0_0.length c0_0, .int .i64 a0_1]] w fun e w' => e = .returned (.int .i64 r) ∧ Below w.heap.size w w' := by
 have hu73 := Try.underlying73
 have hu69 := Try.underlying69
 have HR0_0 := am hr0_0
 have HC0_0 := am hc0_0
 clear hr0_0 hc0_0
 have HB := am (Below.refl w.heap.size w)
 have H : (impl_freePages.l0 k 0 l0_0 (l0_0.length : Int) 0) = some r := h
 clear h
 have H' := am H
 clear H
 go_enter Try.func56, Try.ntmps56
 go_wp2_with (first | (refine bx 1 #[.slice A0_0 l0_0.length c0_0, .int .i64 a0_1] 73 rfl ?_; intro gb397 hg w2 hbox hb; have BK397 := am (hbox); have GW397 := am (ge hg (ph HB.out)); have GE397 := GW397; replace HB := am (below_step (ph HB.out) hb); clear hb hbox hg; obtain ⟨hcz3_0, hcz3_1⟩ := b2 BK397.out; obtain ⟨hfz3_0, hfz3_1⟩ := f2 BK397.out))
 go_loopg [3, 9] k (fun kq v3 v9 w' => ∃ (x3_1 : Int) (x9_1 : Int), v3 = .int .i64 x3_1 ∧ v9 = .int .i64 x9_1 ∧ Aside0 (impl_freePages.l0 kq x3_1 l0_0 (l0_0.length : Int) x9_1 = some r) ∧ Aside0 (kq ≤ k) ∧ Aside0 (w'.heap[gb397]? = some (.cells #[(.slice A0_0 l0_0.length c0_0), .int .i64 a0_1] 73 (0, 0))) ∧ Aside0 (Below w.heap.size w w'))
 case atStart => exact ⟨(0), (0), rf, rf, H', ⟨Nat.le_refl _⟩, ⟨pb BK397.out⟩, ⟨bg1 HB.out GE397.out⟩⟩
 case round =>
  clear H'
  obtain ⟨x3_1, x9_1, rfl, rfl, HA, HK1, BK397, HB⟩ := hrel
  cases gk with
  | zero => exact absurd HA.out (by simp [impl_freePages.l0])
  | succ k1 =>
   have H := HA.out
   clear HA
   simp only [impl_freePages.l0] at H
   by_cases c4 : x9_1 < (l0_0.length : Int)
   rotate_left
   · rw [if_neg c4] at H
     have c4b0 := decide_eq_false c4
     clear c4
     obtain rfl := Option.some.inj H
     go_wp2
     go_ret
     exact (rq (bg1 HB.out GE397.out))
   rw [if_pos c4] at H
   have c4b0 := decide_eq_true c4
   clear c4
   obtain ⟨c5b0, H⟩ := ifd H
   obtain ⟨c6b0, H⟩ := ifd H
   by_cases c7 : ((rd_T69 l0_0 x9_1).f0) = 0
   rotate_left
   · rw [if_neg c7] at H
     have c7b0 : (((rd_T69 l0_0 x9_1).f0) == 0) = false := beq_eq_false_iff_ne.mpr c7
     have c7b1 : (((rd_T69 l0_0 x9_1).f0) != 0) = true := bne_iff_ne.mpr c7
     have H' := am H
     clear H
     have p398 : 0 ≤ (x9_1 : Int) := ofb
     have q398 : x9_1 < (l0_0.length : Int) := ofb
     obtain ⟨ad398, e398, hx398_0, hx398_1, hx398_2, hx398_3, hx398_4⟩ := at_T69 HR0_0.out x9_1 p398 q398
     cases e398
     replace hx398_0 := up HB.out hx398_0
     replace hx398_1 := up HB.out hx398_1
     replace hx398_2 := up HB.out hx398_2
     replace hx398_3 := up HB.out hx398_3
     replace hx398_4 := up HB.out hx398_4
     replace p398 := eq_true p398
     replace q398 := eq_true q398
     go_wp2_with (first | (refine bx 5 #[.int .i64 0, .int .i64 0, .int .i64 0, .int .i64 0, .int .i64 0] 69 rfl ?_; intro gb399 hg w11 hbox hb; have BK399 := am (hbox); have GW399 := am (ge hg (bg1 HB.out GE397.out)); have GE399 := GW399; replace HB := am (below_step (bg1 HB.out GE397.out) hb); have NB397_399 := am (nb hg (pb BK397.out)); have NB399_397 := am (Ne.symm NB397_399.out); replace BK397 := am (blk_below (pb BK397.out) hb); clear hb hbox hg; have hnb12 := NB399_397.out; have hnc12 := NB397_399.out; obtain ⟨hcz13_0, hcz13_1, hcz13_2, hcz13_3, hcz13_4⟩ := b5 BK399.out; obtain ⟨hfz13_0, hfz13_1, hfz13_2, hfz13_3, hfz13_4⟩ := f5 BK399.out))
     go_roundg k1
     case measure => have := HK1.out; omega
     case rel => exact ⟨(x3_1), (wrap64 (x9_1 + 1)), rf, rf, H', ⟨by have := HK1.out; omega⟩, ⟨bf5 (pb BK397.out) NB397_399.out⟩, ⟨bg2 HB.out GE397.out GE399.out⟩⟩
   rw [if_pos c7] at H
   have c7b0 : (((rd_T69 l0_0 x9_1).f0) == 0) = true := beq_iff_eq.mpr c7
   have c7b1 : (((rd_T69 l0_0 x9_1).f0) != 0) = false := bne_eq_false_iff_eq.mpr c7
   clear c7
   have H' := am H
   clear H
   have p398 : 0 ≤ (x9_1 : Int) := ofb
   have q398 : x9_1 < (l0_0.length : Int) := ofb
   obtain ⟨ad398, e398, hx398_0, hx398_1, hx398_2, hx398_3, hx398_4⟩ := at_T69 HR0_0.out x9_1 p398 q398
   cases e398
   replace hx398_0 := up HB.out hx398_0
   replace hx398_1 := up HB.out hx398_1
   replace hx398_2 := up HB.out hx398_2
   replace hx398_3 := up HB.out hx398_3
   replace hx398_4 := up HB.out hx398_4
   replace p398 := eq_true p398
   replace q398 := eq_true q398
   go_wp2_with (first | (refine bx 5 #[.int .i64 0, .int .i64 0, .int .i64 0, .int .i64 0, .int .i64 0] 69 rfl ?_; intro gb399 hg w8 hbox hb; have BK399 := am (hbox); have GW399 := am (ge hg (bg1 HB.out GE397.out)); have GE399 := GW399; replace HB := am (below_step (bg1 HB.out GE397.out) hb); have NB397_399 := am (nb hg (pb BK397.out)); have NB399_397 := am (Ne.symm NB397_399.out); replace BK397 := am (blk_below (pb BK397.out) hb); clear hb hbox hg; have hnb9 := NB399_397.out; have hnc9 := NB397_399.out; obtain ⟨hcz10_0, hcz10_1, hcz10_2, hcz10_3, hcz10_4⟩ := b5 BK399.out; obtain ⟨hfz10_0, hfz10_1, hfz10_2, hfz10_3, hfz10_4⟩ := f5 BK399.out))
   go_roundg k1
   case measure => have := HK1.out; omega
   case rel => exact ⟨(wrap64 (x3_1 + 1)), (wrap64 (x9_1 + 1)), rf, rf, H', ⟨by have := HK1.out; omega⟩, ⟨bf5 (pb BK397.out) NB397_399.out⟩, ⟨bg2 HB.out GE397.out GE399.out⟩⟩
def impl_partlyUsed.f (k : Nat) (l0_0 : List (S69)) (a0_1 : Int) : Option (Bool) := (impl_freePages.f k l0_0 a0_1).bind fun t401 => (if t401 > 0 then (some (decide (t401 < 4))) else (some false))
theorem impl_partlyUsed.calls (k : Nat) (A0_0 : Option Addr) (c0_0 : Nat) (l0_0 : List (S69)) (a0_1 : Int) (r : Bool) (w : World) (hr0_0 : Kd.C k69 w A0_0 l0_0.length l0_0) (hc0_0 : l0_0.length ≤ c0_0) (h : impl_partlyUsed.f k l0_0 a0_1 = some r) :
 Calls Try.prog 51 #[.agg #[.slice A0_0 l0_0.length c0_0, .int .i64 a0_1]] w fun e w' => e = .returned (.bool r) ∧ Below w.heap.size w w' := by
 have hu73 := Try.underlying73
 have HR0_0 := am hr0_0
 have HC0_0 := am hc0_0
 clear hr0_0 hc0_0
 have HB := am (Below.refl w.heap.size w)
 have H : ((impl_freePages.f k l0_0 a0_1).bind fun t401 => (if t401 > 0 then (some (decide (t401 < 4))) else (some false))) = some r := h
 clear h
 replace H := Option.bind_eq_some_iff.mp H
 obtain ⟨t401, A20, H⟩ := H
 have A2 := am A20
 clear A20
 by_cases c3 : t401 > 0
 · rw [if_pos c3] at H
   have c3b0 := decide_eq_true c3
   clear c3
   obtain rfl := Option.some.inj H
   go_enter Try.func51, Try.ntmps51
   go_wp2_with (first | (refine bx 1 #[.slice A0_0 l0_0.length c0_0, .int .i64 a0_1] 73 rfl ?_; intro gb400 hg w4 hbox hb; have BK400 := am (hbox); have GW400 := am (ge hg (ph HB.out)); have GE400 := GW400; replace HB := am (below_step (ph HB.out) hb); clear hb hbox hg; obtain ⟨hcz5_0, hcz5_1⟩ := b2 BK400.out; obtain ⟨hfz5_0, hfz5_1⟩ := f2 BK400.out) | (refine gl 5 Try.func56 #[.agg #[.slice A0_0 l0_0.length c0_0, .int .i64 a0_1]] rfl ?_; (with_reducible refine (impl_freePages.calls k _ _ l0_0 a0_1 t401 _ ?side1 ?side2 A2.out).mono ?_); (case side1 => exact pc (Kd.C_below HR0_0.out HB.out)); (case side2 => exact HC0_0.out); rintro e w6 ⟨rfl, hb⟩; refine ⟨_, rfl, ?_⟩; replace BK400 := am (blk_below (pb BK400.out) hb); replace HB := am (below_step (bg1 HB.out GE400.out) hb); clear hb))
   go_ret
   exact (rq (bg1 HB.out GE400.out))
 rw [if_neg c3] at H
 have c3b0 := decide_eq_false c3
 clear c3
 obtain rfl := Option.some.inj H
 go_enter Try.func51, Try.ntmps51
 go_wp2_with (first | (refine bx 1 #[.slice A0_0 l0_0.length c0_0, .int .i64 a0_1] 73 rfl ?_; intro gb400 hg w7 hbox hb; have BK400 := am (hbox); have GW400 := am (ge hg (ph HB.out)); have GE400 := GW400; replace HB := am (below_step (ph HB.out) hb); clear hb hbox hg; obtain ⟨hcz8_0, hcz8_1⟩ := b2 BK400.out; obtain ⟨hfz8_0, hfz8_1⟩ := f2 BK400.out) | (refine gl 5 Try.func56 #[.agg #[.slice A0_0 l0_0.length c0_0, .int .i64 a0_1]] rfl ?_; (with_reducible refine (impl_freePages.calls k _ _ l0_0 a0_1 t401 _ ?side1 ?side2 A2.out).mono ?_); (case side1 => exact pc (Kd.C_below HR0_0.out HB.out)); (case side2 => exact HC0_0.out); rintro e w9 ⟨rfl, hb⟩; refine ⟨_, rfl, ?_⟩; replace BK400 := am (blk_below (pb BK400.out) hb); replace HB := am (below_step (bg1 HB.out GE400.out) hb); clear hb))
 go_ret
 exact (rq (bg1 HB.out GE400.out))
attribute [local go_sem] Oper.semAt_some
theorem flash_four' {l : List S73} (h : flashOkB l = true) : l.length = 4 := by
 unfold flashOkB at h
 rw [Bool.and_eq_true, decide_eq_true_eq] at h
 omega
theorem freeQ_loop (l : List S69) (hl : l.length ≤ maxLen) : ∀ (n i m : Nat), i + n = l.length → m ≤ i → impl_freePages.l0 (n + 1) (m : Int) l (l.length : Int) (i : Int) = some ((m + freeQ (l.drop i) : Nat) : Int)
 | 0, i, m, h, hm => by
  rw [impl_freePages.l0, if_neg (by omega), List.drop_eq_nil_of_le (by omega)]
  rfl
 | n + 1, i, m, h, hm => by
  have ih1 := freeQ_loop l hl n (i + 1) (m + 1) (by omega) (by omega)
  have ih2 := freeQ_loop l hl n (i + 1) m (by omega) (by omega)
  have e1 : wrap64 ((i : Int) + 1) = ((i + 1 : Nat) : Int) := by simp only [maxLen] at hl; rw [IntWalk.wrap64_in _ (by omega)]; omega
  have e2 : wrap64 ((m : Int) + 1) = ((m + 1 : Nat) : Int) := by simp only [maxLen] at hl; rw [IntWalk.wrap64_in _ (by omega)]; omega
  rw [drop_pg (by omega : i < l.length), freeQ, impl_freePages.l0, if_pos (by omega), if_pos (by omega), if_pos (by omega), e1, e2]
  by_cases hs : (rd_T69 l (i : Int)).f0 = 0
  rotate_left
  · rw [if_neg hs, if_neg hs, Nat.zero_add]
    exact ih2
  rw [if_pos hs, if_pos hs, show m + (1 + freeQ (l.drop (i + 1))) = m + 1 + freeQ (l.drop (i + 1)) by omega]
  exact ih1
def partB (b : S73) : Bool := decide (0 < freeQ b.f0 ∧ freeQ b.f0 < 4)
theorem partlyUsed_ok (b : S73) (hl : b.f0.length ≤ maxLen) : ∃ k, impl_partlyUsed.f k b.f0 b.f1 = some (partB b) := by
 refine ⟨b.f0.length + 1, ?_⟩
 have := freeQ_loop b.f0 hl b.f0.length 0 0 (by omega) (by omega)
 have this2 : impl_freePages.l0 (b.f0.length + 1) 0 b.f0 (b.f0.length : Int) 0 = _ := this
 unfold impl_partlyUsed.f impl_freePages.f partB
 rw [this2, Option.bind_some, List.drop_zero, Nat.zero_add]
 by_cases h : 0 < freeQ b.f0
 rotate_left
 · rw [if_neg (by omega), decide_eq_false (fun q => h q.1)]
 rw [if_pos (by omega)]
 by_cases h4 : freeQ b.f0 < 4
 · rw [decide_eq_true (by omega : ((freeQ b.f0 : Nat) : Int) < 4), decide_eq_true ⟨h, h4⟩]
 rw [decide_eq_false (by omega : ¬ ((freeQ b.f0 : Nat) : Int) < 4), decide_eq_false (fun q => h4 q.2)]
def crossB (a b : Int × Int) : Bool := decide (a.2 > 0 ∧ b.2 > 0 ∧ a.2 ≥ b.1 ∧ b.2 ≥ a.1)
def overI (s : Spans) (i : Nat) : Nat → Bool
 | 0 => false
 | j + 1 => overI s i j || crossB (s i) (s j)
def overN (s : Spans) : Nat → Bool
 | 0 => false
 | i + 1 => overN s i || overI s i i
def newestN (s : Spans) : Nat → Int
 | 0 => 0
 | i + 1 => mx (newestN s i) (s i).2
def partN (l : List S73) : Nat → Nat
 | 0 => 0
 | i + 1 => partN l i + (if partB (rd_T73 l (i : Int)) = true then 1 else 0)
def badN (l : List S73) (s : Spans) (m : Int) : Nat → Bool
 | 0 => false
 | i + 1 => badN l s m i || (partB (rd_T73 l (i : Int)) && decide ((s i).2 > 0 ∧ (s i).2 < m))
theorem partN_le (l : List S73) : ∀ i, partN l i ≤ i
 | 0 => Nat.le_refl _
 | i + 1 => by
  have := partN_le l i
  rw [partN]
  split <;> omega
theorem overI_of {s : Spans} {i j : Nat} (h : crossB (s i) (s j) = true) : ∀ n, j < n → overI s i n = true
 | 0, hn => by omega
 | n + 1, hn => by
  rw [overI, Bool.or_eq_true]
  by_cases e : j = n
  · subst e; exact .inr h
  exact .inl (overI_of h n (by omega))
theorem overN_of {s : Spans} {i : Nat} (h : overI s i i = true) : ∀ n, i < n → overN s n = true
 | 0, hn => by omega
 | n + 1, hn => by
  rw [overN, Bool.or_eq_true]
  by_cases e : i = n
  · subst e; exact .inr h
  exact .inl (overN_of h n (by omega))
theorem badN_of {l : List S73} {s : Spans} {m : Int} {i : Nat} (h : partB (rd_T73 l (i : Int)) = true) (h2 : (s i).2 > 0 ∧ (s i).2 < m) : ∀ n, i < n → badN l s m n = true
 | 0, hn => by omega
 | n + 1, hn => by
  rw [badN, Bool.or_eq_true]
  by_cases e : i = n
  rotate_left
  · exact .inl (badN_of h h2 n (by omega))
  subst e; exact .inr (by rw [h, decide_eq_true h2]; rfl)
theorem overI_step {s : Spans} {i j : Nat} (h : overI s i j = false) (h2 : crossB (s i) (s j) = false) : overI s i (j + 1) = false := by rw [overI, h, h2]; rfl
theorem crossB_false {a b : Int × Int} (h : ¬ (a.2 > 0 ∧ b.2 > 0 ∧ a.2 ≥ b.1 ∧ b.2 ≥ a.1)) : crossB a b = false := decide_eq_false h
def orderI (l : List S73) : Bool := flashOkB l && (!overN (spansF l) 4 && (!badN l (spansF l) (newestN (spansF l) 4) 4 && decide (partN l 4 ≤ 1)))
def impl_FindOrder.f (l0 : List (S73)) : Option (Bool) := some (orderI l0)
theorem impl_FindOrder.calls (A0 : Option Addr) (c0 : Nat) (l0 : List (S73)) (r : Bool) (w : World) (hr0 : Kd.C k73 w A0 l0.length l0) (hc0 : l0.length ≤ c0) (h : impl_FindOrder.f l0 = some r) :
 Calls Try.prog 30 #[.slice A0 l0.length c0] w fun e w' => e = .returned (.bool r) ∧ Below w.heap.size w w' := by
 obtain rfl := Option.some.inj h
 clear h
 refine (callsIn_wide (n := 3)).1 ?_
 have hok := callsIn_wide (n := 2).2 (impl_FlashOk.calls A0 c0 l0 _ w hr0 hc0 rfl)
 have hu := Try.underlying87
 have hu2 := Try.underlying73
 unfold orderI
 cases hf : flashOkB l0 with
 | false =>
  rw [hf] at hok
  refine callsIn_of_wp Try.func30 rfl trivial ?_ rfl
  simp only [Try.ntmps30, List.size_toArray, List.length_cons, List.length_nil, Nat.reduceAdd, Nat.reduceSub, Array.replicate_succ, Array.replicate_zero, List.push_toArray, List.append_toArray, List.nil_append, List.cons_append]
  gi_wp2_with (first | (refine ⟨trivial, ?_⟩; gi_at_call 32; refine hok.mono ?_; rintro e w1 ⟨rfl, hb⟩))
  go_ret
  exact ⟨rfl, hb⟩
 | true =>
  rw [hf] at hok
  have hl := flash_four' hf
  rw [Bool.true_and]
  have hsp : ∀ W, Below w.heap.size w W → CallsIn Fence.wide 2 Try.prog 50 #[.slice A0 4 c0] W fun e w' => ∃ g, e = .returned (.slice (some ⟨g, 0, none⟩) 4 4) ∧ SpansBox w' g (spansF l0) ∧ W.heap.size ≤ g ∧ Below W.heap.size W w' := fun W hb => callsIn_wide.2 (spansOf_any A0 c0 l0 W (Kd.C_below hr0 hb) hl)
  generalize spansF l0 = s at hsp ⊢
  obtain ⟨V, hV⟩ : ∃ V : Bool, (!overN s 4 && (!badN l0 s (newestN s 4) 4 && decide (partN l0 4 ≤ 1))) = V := ⟨_, rfl⟩
  rw [hV]
  have HV := am hV
  clear hV
  rw [hl] at hok ⊢
  refine callsIn_of_wp Try.func30 rfl trivial ?_ rfl
  simp only [Try.ntmps30, List.size_toArray, List.length_cons, List.length_nil, Nat.reduceAdd, Nat.reduceSub, Array.replicate_succ, Array.replicate_zero, List.push_toArray, List.append_toArray, List.nil_append, List.cons_append]
  gi_wp2_with (first | (refine ⟨trivial, ?_⟩; gi_at_call 32; refine hok.mono ?_; rintro e w1 ⟨rfl, hb⟩) | (refine ⟨trivial, ?_⟩; gi_at_call 50; refine (hsp _ hb).mono ?_; rintro e w2 ⟨g, rfl, hsb, hg, hb2⟩))
  have hB0 := below_then hb hb.size hb2
  clear hsp hok
  gi_loopw [19, 4] (fun v19 v4 wr => ∃ i : Nat, v19 = .int .i64 (i : Int) ∧ v4 = .int .i64 (newestN s i) ∧ i ≤ 4 ∧ overN s i = false ∧ SpansBox wr g s ∧ Below w.heap.size w wr) (fun v19 _ _ => 4 - (intOf v19).toNat)
  case atStart => exact ⟨0, rfl, rfl, by omega, rfl, hsb, hB0⟩
  case round =>
   clear hsb hB0
   obtain ⟨i, rfl, rfl, hi, hov, hbx, hB⟩ := hrel
   by_cases ci : i < 4
   · have cib : decide ((i : Int) < 4) = true := decide_eq_true (by omega)
     have p1 : 0 ≤ (i : Int) := by omega
     have q1 : (i : Int) < 4 := by omega
     obtain ⟨h1, h2⟩ := hbx.at_ i ci
     have hglt := blk_lt hbx
     have hst : newestN s (i + 1) = mx (newestN s i) (s i).2 := rfl
     gi_wp2
     all_goals
      have hA := blk_new wr (.cells #[.int .i64 (s i).1, .int .i64 (s i).2] 87)
      have hbx := blk_alloc hbx (.cells #[.int .i64 (s i).1, .int .i64 (s i).2] 87)
      have hB := below_alloc hB (.cells #[.int .i64 (s i).1, .int .i64 (s i).2] 87)
      clear h1 h2 hglt
      generalize wr.heap.size = gA at hA ⊢
      generalize wr.alloc (.cells #[.int .i64 (s i).1, .int .i64 (s i).2] 87) = wa at hA hbx hB ⊢
      gi_loopw [32] (fun v32 w3 => ∃ j : Nat, v32 = .int .i64 (j : Int) ∧ j ≤ i ∧ overI s i j = false ∧ SpansBox w3 g s ∧ w3.heap[gA]? = some (.cells #[.int .i64 (s i).1, .int .i64 (s i).2] 87 (0, 0)) ∧ Below w.heap.size w w3) (fun v32 _ => i - (intOf v32).toNat)
      case atStart => exact ⟨0, rfl, by omega, rfl, hbx, hA, hB⟩
      case round =>
       clear hbx hA hB
       obtain ⟨j, rfl, hj, hoj, hbx, hA, hB⟩ := hrel
       by_cases cj : j < i
       rotate_left
       · obtain rfl : j = i := by omega
         have HC : Aside0 (overN s (j + 1) = false) := ⟨by rw [overN, hov, hoj]; rfl⟩
         have HM : Aside0 (newestN s (j + 1) = mx (newestN s j) (s j).2) := ⟨rfl⟩
         clear hst
         gi_wp2
         refine ⟨⟨j + 1, by simp, ?_, by omega, HC.out, hbx, hB⟩, by simp [intOf]; omega⟩
         rw [HM.out]
         unfold mx
         first
          | (rw [if_pos (by assumption)]; done)
          | (rw [if_pos (by omega)]; done)
          | (rw [if_neg (by omega)]; done)
       have cjb : decide ((j : Int) < (i : Int)) = true := decide_eq_true (by omega)
       have p2 : 0 ≤ (j : Int) := by omega
       have q2 : (j : Int) < (i : Int) := by omega
       obtain ⟨h3, h4⟩ := hbx.at_ j (by omega)
       have hglt := blk_lt hbx
       have hAlt := blk_lt hA
       have ha0 : wr.cell? ⟨gA, 0, none⟩ = some (.int .i64 (s i).1) := (blk_cell hA 0).trans rfl
       have ha1 : wr.cell? ⟨gA, 1, none⟩ = some (.int .i64 (s i).2) := (blk_cell hA 1).trans rfl
       by_cases k1 : 0 < (s i).2
       rotate_left
       · have k1b : decide (0 < (s i).2) = false := decide_eq_false k1
         have HC := am (overI_step hoj (crossB_false (fun q => k1 q.1)))
         gi_wp2
         exact ⟨⟨j + 1, by simp, by omega, HC.out, blk_alloc hbx _, blk_alloc hA _, below_alloc hB _⟩, by simp [intOf]; omega⟩
       have k1b : decide (0 < (s i).2) = true := decide_eq_true k1
       by_cases k2 : 0 < (s j).2
       rotate_left
       · have k2b : decide (0 < (s j).2) = false := decide_eq_false k2
         have HC := am (overI_step hoj (crossB_false (fun q => k2 q.2.1)))
         gi_wp2
         exact ⟨⟨j + 1, by simp, by omega, HC.out, blk_alloc hbx _, blk_alloc hA _, below_alloc hB _⟩, by simp [intOf]; omega⟩
       have k2b : decide (0 < (s j).2) = true := decide_eq_true k2
       by_cases k3 : (s j).1 ≤ (s i).2
       rotate_left
       · have k3b : decide ((s j).1 ≤ (s i).2) = false := decide_eq_false k3
         have HC := am (overI_step hoj (crossB_false (fun q => k3 q.2.2.1)))
         gi_wp2
         exact ⟨⟨j + 1, by simp, by omega, HC.out, blk_alloc hbx _, blk_alloc hA _, below_alloc hB _⟩, by simp [intOf]; omega⟩
       have k3b : decide ((s j).1 ≤ (s i).2) = true := decide_eq_true k3
       by_cases k4 : (s i).1 ≤ (s j).2
       rotate_left
       · have k4b : decide ((s i).1 ≤ (s j).2) = false := decide_eq_false k4
         have HC := am (overI_step hoj (crossB_false (fun q => k4 q.2.2.2)))
         gi_wp2
         exact ⟨⟨j + 1, by simp, by omega, HC.out, blk_alloc hbx _, blk_alloc hA _, below_alloc hB _⟩, by simp [intOf]; omega⟩
       have k4b : decide ((s i).1 ≤ (s j).2) = true := decide_eq_true k4
       have hx : V = false := by rw [← HV.out, overN_of (overI_of (show crossB (s i) (s j) = true from decide_eq_true ⟨k1, k2, k3, k4⟩) i cj) 4 ci]; rfl
       have HX := am hx
       clear hx
       gi_wp2
       go_ret
       exact ⟨by rw [HX.out]; rfl, below_alloc hB _⟩
   obtain rfl : i = 4 := by omega
   generalize newestN s 4 = m at HV ⊢
   gi_wp2
   gi_loopw [62, 9] (fun v62 v9 wr => ∃ i : Nat, v62 = .int .i64 (i : Int) ∧ v9 = .int .i64 ((partN l0 i : Nat) : Int) ∧ i ≤ 4 ∧ badN l0 s m i = false ∧ SpansBox wr g s ∧ Below w.heap.size w wr) (fun v62 _ _ => 4 - (intOf v62).toNat)
   case atStart => exact ⟨0, rfl, rfl, by omega, rfl, hbx, hB⟩
   case round =>
    clear hbx hB
    obtain ⟨i, rfl, rfl, hi, hbad, hbx, hB⟩ := hrel
    have hple := partN_le l0 i
    by_cases ci : i < 4
    rotate_left
    · obtain rfl : i = 4 := by omega
      gi_wp2
      go_ret
      exact ⟨by rw [← HV.out, hov, hbad, Bool.not_false, Bool.true_and, Bool.true_and]; exact congrArg (fun b => Ending.returned (Value.bool b)) (decide_eq_decide.2 (by omega : ((partN l0 4 : Nat) : Int) ≤ 1 ↔ partN l0 4 ≤ 1)), hB⟩
    have cib : decide ((i : Int) < 4) = true := decide_eq_true (by omega)
    have p1 : 0 ≤ (i : Int) := by omega
    have q1 : (i : Int) < 4 := by omega
    obtain ⟨h1, h2⟩ := hbx.at_ i ci
    have hglt := blk_lt hbx
    obtain ⟨ad1, A1, c1, e1, hx1_0, hx1_1, hl1, hi1⟩ := at_T73 hr0 (i : Int) p1 (by omega)
    cases e1
    replace hx1_0 := (hB.cell (World.block_lt_of_cell? w _ hx1_0)).trans hx1_0
    replace hx1_1 := (hB.cell (World.block_lt_of_cell? w _ hx1_1)).trans hx1_1
    have hlm1 := Kd.C_max hi1
    simp only [Int.toNat_natCast] at hx1_0 hx1_1
    obtain ⟨kb, hkb⟩ := partlyUsed_ok (rd_T73 l0 (i : Int)) hlm1
    have hst1 : partN l0 (i + 1) = partN l0 i + (if partB (rd_T73 l0 (i : Int)) = true then 1 else 0) := rfl
    have hst2 : badN l0 s m (i + 1) = (badN l0 s m i || (partB (rd_T73 l0 (i : Int)) && decide ((s i).2 > 0 ∧ (s i).2 < m))) := rfl
    have hbo := fun n => badN_of (l := l0) (s := s) (m := m) (i := i) (h2 := n)
    have hpu : ∀ W, Below w.heap.size w W → CallsIn Fence.wide 2 Try.prog 51 #[.agg #[.slice A1 (rd_T73 l0 (i : Int)).f0.length c1, .int .i64 (rd_T73 l0 (i : Int)).f1]] W fun e w' => e = .returned (.bool (partB (rd_T73 l0 (i : Int)))) ∧ Below W.heap.size W w' := fun W hb => callsIn_wide.2 (impl_partlyUsed.calls kb _ _ _ _ _ W (Kd.C_below hi1 hb) hl1 hkb)
    clear hkb hi1
    generalize rd_T73 l0 (i : Int) = bl at hx1_0 hx1_1 hl1 hlm1 hst1 hst2 hbo hpu
    have hA := blk_new wr (.cells #[.slice A1 bl.f0.length c1, .int .i64 bl.f1] 73)
    have hbx2 := blk_alloc hbx (.cells #[.slice A1 bl.f0.length c1, .int .i64 bl.f1] 73)
    have hB2 := below_alloc hB (.cells #[.slice A1 bl.f0.length c1, .int .i64 bl.f1] 73)
    cases hpb : partB bl with
    | false =>
     rw [hpb] at hpu hst1 hst2
     gi_wp2_with (first | (refine ⟨trivial, ?_⟩; gi_at_call 51; refine (hpu _ hB2).mono ?_; rintro e w3 ⟨rfl, hb3⟩))
     go_roundw
     case rel =>
      (repeat apply Exists.intro)
      refine ⟨?_, rfl⟩
      exact ⟨i + 1, by simp, by rw [hst1]; simp, by omega, by rw [hst2, hbad]; rfl, blk_below hbx2 hb3, below_then hB2 hB2.size hb3⟩
     case measure => simp [intOf]; omega
    | true =>
     rw [hpb] at hpu hst1 hst2
     rw [if_pos rfl] at hst1
     by_cases k1 : 0 < (s i).2
     rotate_left
     · have k1b : decide (0 < (s i).2) = false := decide_eq_false k1
       have HC : Aside0 (badN l0 s m (i + 1) = false) := ⟨by rw [hst2, hbad, decide_eq_false (fun q => k1 q.1)]; rfl⟩
       gi_wp2_with (first | (refine ⟨trivial, ?_⟩; gi_at_call 51; refine (hpu _ hB2).mono ?_; rintro e w3 ⟨rfl, hb3⟩; have hbx3 := SpansBox.at_ (blk_below hbx2 hb3) i ci; have h5 := hbx3.2))
       go_roundw
       case rel =>
        (repeat apply Exists.intro)
        refine ⟨?_, rfl⟩
        exact ⟨i + 1, by simp, by rw [hst1]; simp, by omega, HC.out, blk_below hbx2 hb3, below_then hB2 hB2.size hb3⟩
       case measure => simp [intOf]; omega
     have k1b : decide (0 < (s i).2) = true := decide_eq_true k1
     by_cases k2 : (s i).2 < m
     · have k2b : decide ((s i).2 < m) = true := decide_eq_true k2
       have hx : V = false := by rw [← HV.out, hbo ⟨k1, k2⟩ hpb 4 ci, Bool.not_true, Bool.false_and, Bool.and_false]
       have HX := am hx
       clear hx
       gi_wp2_with (first | (refine ⟨trivial, ?_⟩; gi_at_call 51; refine (hpu _ hB2).mono ?_; rintro e w3 ⟨rfl, hb3⟩; have hbx3 := SpansBox.at_ (blk_below hbx2 hb3) i ci; have h5 := hbx3.2))
       go_ret
       exact ⟨by rw [HX.out]; rfl, below_then hB2 hB2.size hb3⟩
     have k2b : decide ((s i).2 < m) = false := decide_eq_false k2
     have HC : Aside0 (badN l0 s m (i + 1) = false) := ⟨by rw [hst2, hbad, decide_eq_false (fun q => k2 q.2)]; rfl⟩
     gi_wp2_with (first | (refine ⟨trivial, ?_⟩; gi_at_call 51; refine (hpu _ hB2).mono ?_; rintro e w3 ⟨rfl, hb3⟩; have hbx3 := SpansBox.at_ (blk_below hbx2 hb3) i ci; have h5 := hbx3.2))
     go_roundw
     case rel =>
      (repeat apply Exists.intro)
      refine ⟨?_, rfl⟩
      exact ⟨i + 1, by simp, by rw [hst1]; simp, by omega, HC.out, blk_below hbx2 hb3, below_then hB2 hB2.size hb3⟩
     case measure => simp [intOf]; omega
open Go.Proofs.YtbhchamohldehaaW
attribute [local go_sem] Oper.semAt_some
theorem flash_fourR {l : List S73} (h : flashOkB l = true) : l.length = 4 := by
 unfold flashOkB at h
 rw [Bool.and_eq_true, decide_eq_true_eq] at h
 omega
abbrev RecMap := Int → Option R4
def recOf (r : S36) : R4 := (r.f0, r.f1, r.f2, r.f3)
def mapStep (M : RecMap) (p : S69) : RecMap := if p.f0 = 1 ∧ p.f1.f1 > ((M p.f1.f2).getD (0, 0, 0, 0)).2.1 then putM M p.f1.f2 (recOf p.f1) else M
def lastMap (l : List S73) : RecMap := (pagesL l).foldl mapStep (fun _ => none)
theorem okPage_wf {p : S69} (h : pageB p = true) (h1 : p.f0 = 1) : (Lit.int .i64 p.f1.f2).wf = true := by
 unfold pageB at h
 rw [if_pos h1] at h
 simp only [recOkB, decide_eq_true_eq] at h
 exact WalkArith.wf_i64 ⟨by omega, by omega⟩
theorem okPagesB : ∀ (ps : List S69) (S S' : List Int), pagesB ps S = some S' → ∀ p ∈ ps, pageB p = true
 | [], _, _, _, _, h => by cases h
 | p :: ps, S, S', h, q, hq => by
  rw [pagesB] at h
  by_cases hp : pageB p = true
  rotate_left
  · rw [if_neg hp] at h; cases h
  rw [if_pos hp] at h
  rcases List.mem_cons.1 hq with rfl | hq
  · exact hp
  · by_cases h1 : p.f0 = 1
    rotate_left
    · rw [if_neg h1] at h; exact okPagesB ps _ _ h q hq
    rw [if_pos h1] at h
    by_cases hm : p.f1.f1 ∈ S
    · rw [if_pos hm] at h; cases h
    rw [if_neg hm] at h; exact okPagesB ps _ _ h q hq
theorem okSpotsB (i : Nat) : ∀ (j : Nat) (ps : List S69) (x : Spot), x ∈ spotsB i j ps → x.2.2 ∈ ps
 | _, [], _, h => by cases h
 | j, p :: ps, x, h => by
  rw [spotsB] at h
  rcases List.mem_cons.1 h with rfl | h
  · simp
  · exact List.mem_cons_of_mem _ (okSpotsB i (j + 1) ps x h)
theorem okSpotsF : ∀ (i : Nat) (l : List S73) (S : List Int), blocksB l S = true → ∀ x ∈ spotsF i l, pageB x.2.2 = true
 | _, [], _, _, _, h => by cases h
 | i, b :: bs, S, h, x, hx => by
  rw [blocksB, Bool.and_eq_true] at h
  cases he : pagesB b.f0 S with
  | none => rw [he] at h; exact absurd h.2 (by simp)
  | some S' =>
   rw [he] at h
   rw [spotsF] at hx
   rcases List.mem_append.1 hx with hx | hx
   · exact okPagesB _ _ _ he _ (okSpotsB i 0 _ x hx)
   · exact okSpotsF (i + 1) bs S' h.2 x hx
theorem okSpots {l : List S73} (h : flashOkB l = true) : ∀ x ∈ spotsF 0 l, pageB x.2.2 = true := by
 unfold flashOkB at h
 rw [Bool.and_eq_true] at h
 exact okSpotsF 0 l [] h.2
theorem spotsB_len (i : Nat) : ∀ (j : Nat) (ps : List S69), (spotsB i j ps).length = ps.length
 | _, [] => rfl
 | j, p :: ps => by rw [spotsB, List.length_cons, List.length_cons, spotsB_len i (j + 1) ps]
theorem spotsF_len : ∀ (i : Nat) (l : List S73) (S : List Int), blocksB l S = true → (spotsF i l).length = 4 * l.length
 | _, [], _, _ => rfl
 | i, b :: bs, S, h => by
  rw [blocksB, Bool.and_eq_true] at h
  have hb : b.f0.length = 4 := by
   have := h.1
   unfold blockB at this
   rw [Bool.and_eq_true, decide_eq_true_eq] at this
   omega
  cases he : pagesB b.f0 S with
  | none => rw [he] at h; exact absurd h.2 (by simp)
  | some S' =>
   rw [he] at h
   rw [spotsF, List.length_append, spotsB_len, spotsF_len (i + 1) bs S' h.2, List.length_cons]
   omega
theorem spots_len {l : List S73} (h : flashOkB l = true) : (spotsF 0 l).length = 16 := by
 have hl := flash_fourR h
 unfold flashOkB at h
 rw [Bool.and_eq_true] at h
 rw [spotsF_len 0 l [] h.2, hl]
abbrev OkPage := {x : Spot // pageB x.2.2 = true}
def lastMapOf (pre : List OkPage) : RecMap := pre.foldl (fun m x => mapStep m x.1.2.2) (fun _ => none)
theorem lastMapOf_snoc (pre : List OkPage) (x : OkPage) : lastMapOf (pre ++ [x]) = mapStep (lastMapOf pre) x.1.2.2 := by simp [lastMapOf]
theorem lastMapOf_all {ys : List OkPage} {l0 : List S73} (h : ys.map (·.1) = spotsF 0 l0) : lastMapOf ys = lastMap l0 := by
 unfold lastMapOf lastMap pagesL
 rw [← h, List.foldl_map, List.foldl_map]
theorem RecsIs_own {P : Program} {K : TypeId} {Bq b : Nat} (hb : Bq < b) {β : Type} (f : β → RecMap) (g : β → Nat) : OwnFrom b (fun (s : β) W => ∃ n, n ≤ g s ∧ RecsIs P K W Bq n (f s)) := fun s X Y row hs hg hr => by
 obtain ⟨n, hn, h⟩ := hs
 exact ⟨n, hn, h.kept hg (fun e => by have := (hr _ e.symm).1; omega)⟩
theorem field_seq (a b c d : Value) (W : World) : (Instr.field 36 (.agg #[a, b, c, d]) 1).run Try.prog W = .ok b W := by
 have hu := Try.underlying36
 unfold Instr.field
 simp [run_underlying hu]
 go_simp
 rfl
theorem lastRecords_any (A0 : Option Addr) (c0 : Nat) (l0 : List (S73)) (w : World) (hr0 : Kd.C k73 w A0 l0.length l0) (hf : flashOkB l0 = true) :
 Calls Try.prog 24 #[.slice A0 l0.length c0] w fun e w' => ∃ B n, e = .returned (.map (some B)) ∧ RecsIs Try.prog 3 w' B n (lastMap l0) ∧ w.heap.size ≤ B ∧ Below w.heap.size w w' := by
 refine (callsIn_wide (n := 3)).1 ?_
 have hmm := @run_makeMap Try.prog
 have hlen := spots_len hf
 refine callsIn_of_wp_marks Try.func24 rfl trivial ?_ rfl
 simp only [Try.ntmps24, List.size_toArray, List.length_cons, List.length_nil, Nat.reduceAdd, Nat.reduceSub, Array.replicate_succ, Array.replicate_zero, List.push_toArray, List.append_toArray, List.nil_append, List.cons_append]
 gi_wp2_with (first | (refine ⟨trivial, ?_⟩; gi_at_call 33; refine (eachPage_in Fence.wide 2 trivial rfl _ _ _ _).mono ?_; rintro e w2 ⟨rfl, rfl⟩))
 have bM : RecsIs Try.prog 3 (((w.alloc (.map #[] 0)).alloc (.cells #[.map (some w.heap.size)] 51)).alloc (.cells #[.slice A0 l0.length c0] 23)) w.heap.size 0 (fun _ => none) := ((RecsIs.made w).alloc _).alloc _
 have bV : Boxed (((w.alloc (.map #[] 0)).alloc (.cells #[.map (some w.heap.size)] 51)).alloc (.cells #[.slice A0 l0.length c0] 23)) (w.heap.size + 1) 51 (.map (some w.heap.size)) := by
  have := blk_alloc (blk_new (w.alloc (.map #[] 0)) (.cells #[.map (some w.heap.size)] 51)) (.cells #[.slice A0 l0.length c0] 23)
  rw [World.size_alloc] at this
  exact this
 have bN : Boxed (((w.alloc (.map #[] 0)).alloc (.cells #[.map (some w.heap.size)] 51)).alloc (.cells #[.slice A0 l0.length c0] 23)) (w.heap.size + 1 + 1) 23 (.slice A0 l0.length c0) := by
  have := blk_new ((w.alloc (.map #[] 0)).alloc (.cells #[.map (some w.heap.size)] 51)) (.cells #[.slice A0 l0.length c0] 23)
  rw [World.size_alloc, World.size_alloc] at this
  exact this
 have hB0 : Below w.heap.size w (((w.alloc (.map #[] 0)).alloc (.cells #[.map (some w.heap.size)] 51)).alloc (.cells #[.slice A0 l0.length c0] 23)) := below_alloc (below_alloc (below_alloc (Below.refl _ w) _) _) _
 have hsz : (((w.alloc (.map #[] 0)).alloc (.cells #[.map (some w.heap.size)] 51)).alloc (.cells #[.slice A0 l0.length c0] 23)).heap.size = w.heap.size + 3 := by simp [World.size_alloc]
 generalize hW0 : ((w.alloc (.map #[] 0)).alloc (.cells #[.map (some w.heap.size)] 51)).alloc (.cells #[.slice A0 l0.length c0] 23) = W0 at *
 refine wpIn_rangeFunc_ownH (F := Fence.wide) rfl (by decide) (gf := 54) (lb := #[.pointer (some ⟨w.heap.size + 1 + 1, 0, none⟩)]) rfl trivial (enters_of Try.func54 (by kernel_rfl) rfl)
  (eachPage_stops Fence.wide 2 trivial rfl (by decide) (fun x => pageB x.2.2 = true) (w.heap.size + 1 + 1) A0 c0 l0 w _ hr0 (okSpots hf) hB0 bN.cell) belowK_t (belowK_b hB0.size) (Below.refl _ _) (fun _ => rfl)
  (fun pre W => (∃ n, n ≤ pre.length ∧ RecsIs Try.prog 3 W w.heap.size n (lastMapOf pre)) ∧ Boxed W (w.heap.size + 1) 51 (.map (some w.heap.size)) ∧ Below w.heap.size w W) (fun _ _ _ => False)
  (OwnFrom.and (RecsIs_own (by omega) _ _) (OwnFrom.and (Own.from (boxed_own _ _ (fun _ => _)) _) (ownFrom_below (Nat.le_refl _) hB0.size))) (fun _ _ _ _ _ hs _ _ => hs)
  ⟨⟨0, Nat.le_refl _, bM⟩, bV, hB0⟩
  (fun x a' W => ∃ Bx, w.heap.size + 1 < Bx ∧ PageBox W Bx x.1.2.2 ∧ a' = { tmps := #[.slice A0 l0.length c0, undef, .map none, .pointer (some ⟨w.heap.size + 1, 0, none⟩), undef, .pointer (some ⟨Bx, 0, none⟩), .map (some w.heap.size), .slice A0 l0.length c0, .func (.func 54) #[] #[.pointer (some ⟨w.heap.size + 1 + 1, 0, none⟩)], .agg #[.int .i64 (x.1.1 : Int), .int .i64 (x.1.2.1 : Int)], .agg #[.int .i64 x.1.2.2.f0, .int .i64 x.1.2.2.f1.f0, .int .i64 x.1.2.2.f1.f1, .int .i64 x.1.2.2.f1.f2, .int .i64 x.1.2.2.f1.f3], undef, undef, undef, undef, undef, undef, undef, undef, undef, undef, undef, undef, undef, undef, undef, undef, undef, undef, undef, undef, undef, undef], defers := [] })
  (fun x a' s X Y row hs hg hr => by obtain ⟨Bx, h1, h2, h3⟩ := hs; exact ⟨Bx, h1, PageBox.own Bx _ _ () X Y row h2 hg hr, h3⟩) ?assign ?body ?done ?stop
 case assign =>
  rintro l pre x W K ⟨⟨n, hn, hm⟩, hbv, hB⟩ hK
  gi_wp2
  exact hK _ _ ((KeepsOthers.alloc _ _).from _) ((Below.refl _ W).alloc hB.size _) ⟨⟨n, hn, hm.alloc _⟩, hbv.alloc _, hB.alloc hB.size _⟩ ⟨W.heap.size, hbv.lt, blk_new W _, rfl⟩
 case body =>
  rintro l pre x a' W hl ⟨r, hr⟩ ⟨⟨n, hn, hm⟩, hbv, hB⟩ ⟨Bx, hBx, bX, rfl⟩ hlt
  obtain ⟨hc0_, hc1_, hc2_, hc3_, hc4_⟩ := bX.cells
  have hcv := hbv.cell
  have hsn := lastMapOf_snoc pre x
  by_cases hs1 : x.1.2.2.f0 = 1
  rotate_left
  · have hs2 : (x.1.2.2.f0 == 1) = false := by simp [hs1]
    unfold mapStep at hsn
    rw [if_neg (fun h => hs1 h.1)] at hsn
    gi_wp2
    exact ⟨KeepsFrom.refl _ _, Below.refl _ _, ⟨n, by rw [List.length_append]; omega, by rw [hsn]; exact hm⟩, hbv, hB⟩
  have hs2 : (x.1.2.2.f0 == 1) = true := by simp [hs1]
  have hwf := okPage_wf x.2 hs1
  have hlk : (Instr.lookup 51 (.map (some w.heap.size)) (.int .i64 x.1.2.2.f1.f2) false).run Try.prog W = .ok (recVal ((lastMapOf pre x.1.2.2.f1.f2).getD (0, 0, 0, 0))) W := hm.look Try.underlying3 Try.underlying51 (by go_simp; rfl) hwf
  unfold recVal at hlk
  unfold mapStep at hsn
  generalize (lastMapOf pre x.1.2.2.f1.f2).getD (0, 0, 0, 0) = q at hlk hsn
  have hfd := field_seq (.int .i64 q.1) (.int .i64 q.2.1) (.int .i64 q.2.2.1) (.int .i64 q.2.2.2)
  by_cases hv : q.2.1 < x.1.2.2.f1.f1
  rotate_left
  · have hv2 : decide (q.2.1 < x.1.2.2.f1.f1) = false := decide_eq_false hv
    rw [if_neg (fun h => hv h.2)] at hsn
    have HSN := am hsn
    clear hsn
    gi_wp2
    exact ⟨KeepsFrom.refl _ _, Below.refl _ _, ⟨n, by rw [List.length_append]; omega, by rw [HSN.out]; exact hm⟩, hbv, hB⟩
  have hv2 : decide (q.2.1 < x.1.2.2.f1.f1) = true := decide_eq_true hv
  rw [if_pos ⟨hs1, hv⟩] at hsn
  obtain ⟨w1, hrun, hm1, hg1⟩ := hm.put (E := 36) (T := 51) Try.underlying3 Try.underlying51 (by simp only [maxLen]; omega) hwf (recOf x.1.2.2.f1)
  unfold recVal recOf at hrun
  have OK1 := am (KeepsFrom.of_grownBy (B := w.heap.size + 3) hg1 (fun j e => by cases e; omega))
  have OK2 := am ((Below.refl w.heap.size W).grown hg1 hB.size (fun j e => by cases e; exact Nat.le_refl _))
  have OK3 := am (hbv.kept hg1 (by intro e; injection e with e; omega))
  have OK4 := am (hB.grown hg1 hB.size (fun j e => by cases e; exact Nat.le_refl _))
  have OK5 := am hm1
  have HSN := am hsn
  clear hm1 hg1 hsn
  gi_wp2
  exact ⟨OK1.out, OK2.out, ⟨n + 1, by rw [List.length_append]; simp; omega, by rw [HSN.out]; exact OK5.out⟩, OK3.out, OK4.out⟩
 case done =>
  rintro D ys W hD hys ⟨⟨n, hn, hm⟩, hbv, hB⟩ hK
  rw [lastMapOf_all hys] at hm
  have hcv := hbv.cell
  gi_wp2
  refine ⟨by simp, .inl ⟨_, _, rfl, run_takeDeferred hK, ?_⟩⟩
  have hm2 := hm.kept (grownBy_putObj' W D (.deferred none)) (fun e => by injection e with e; omega)
  exact ⟨_, results_tmp rfl _ _ _, w.heap.size, n, rfl, hm2, Nat.le_refl _, hB.trans (belowK_b (w := w) (Nat.le_refl _) W D _ _ (by have := hB0.size; omega) hK rfl rfl)⟩
 case stop =>
  rintro D c pre W _ _ h _
  exact h.elim
open Go.Proofs.YtbhchamohldehaaW
attribute [local go_sem] Oper.semAt_some
theorem isDirty_any (a b c d : Int) (w : World) : CallsIn Fence.wide 2 Try.prog 17 #[.agg #[.int .i64 a, .int .i64 b, .int .i64 c, .int .i64 d]] w fun e w' => e = .returned (.bool (a == 1)) ∧ w' = w.alloc (.cells #[.int .i64 a, .int .i64 b, .int .i64 c, .int .i64 d] 36) := by
 have hu := Try.underlying36
 refine callsIn_of_wp Try.func17 rfl trivial ?_ rfl
 simp only [Try.ntmps17, List.size_toArray, List.length_cons, List.length_nil, Nat.reduceAdd, Nat.reduceSub, Array.replicate_succ, Array.replicate_zero, List.push_toArray, List.append_toArray, List.nil_append, List.cons_append]
 gi_wp2
 go_ret
 exact ⟨rfl, rfl⟩
def okAt (M : RecMap) (d : Int) (i : Nat) : Bool := valB d && (match M ((i : Int) + 1) with
 | none => true
 | some r => decide (r.1 = 1 ∨ r.2.2.2 = d))
def diskN (M : RecMap) (l1 : List Int) : Nat → Bool
 | 0 => true
 | i + 1 => diskN M l1 i && okAt M (rd l1 (i : Int)) i
theorem diskN_no {M : RecMap} {l1 : List Int} {i : Nat} (h : okAt M (rd l1 (i : Int)) i = false) : ∀ n, i < n → diskN M l1 n = false
 | 0, hn => by omega
 | n + 1, hn => by
  rw [diskN]
  by_cases e : i = n
  · subst e; rw [h, Bool.and_false]
  rw [diskN_no h n (by omega), Bool.false_and]
def storeOkB (l0 : List S73) (l1 : List Int) : Bool := decide ((l1.length : Int) = 6) && (orderI l0 && diskN (lastMap l0) l1 6)
def impl_StoreOk.f (l0_0 : List (S73)) (l0_1 : List Int) : Option (Bool) := some (storeOkB l0_0 l0_1)
theorem order_flash {l : List S73} (h : orderI l = true) : flashOkB l = true := by
 unfold orderI at h
 rw [Bool.and_eq_true] at h
 exact h.1
theorem impl_StoreOk.calls (A0_0 : Option Addr) (c0_0 : Nat) (l0_0 : List (S73)) (A0_1 : Option Addr) (c0_1 : Nat) (l0_1 : List Int) (r : Bool) (w : World) (hr0_0 : Kd.C k73 w A0_0 l0_0.length l0_0) (hc0_0 : l0_0.length ≤ c0_0) (hr0_1 : Kd.C (Kd.int .i64) w A0_1 l0_1.length l0_1) (hc0_1 : l0_1.length ≤ c0_1) (h : impl_StoreOk.f l0_0 l0_1 = some r) :
 Calls Try.prog 15 #[.agg #[.slice A0_0 l0_0.length c0_0, .slice A0_1 l0_1.length c0_1]] w fun e w' => e = .returned (.bool r) ∧ Below w.heap.size w w' := by
 obtain rfl := Option.some.inj h
 clear h
 refine (callsIn_wide (n := 3)).1 ?_
 have hu := Try.underlying26
 have hu2 := Try.underlying36
 have hor : ∀ W, Below w.heap.size w W → CallsIn Fence.wide 2 Try.prog 30 #[.slice A0_0 l0_0.length c0_0] W fun e w' => e = .returned (.bool (orderI l0_0)) ∧ Below W.heap.size W w' := fun W hb => callsIn_wide.2 (impl_FindOrder.calls A0_0 c0_0 l0_0 _ W (Kd.C_below hr0_0 hb) hc0_0 rfl)
 have hbox := blk_new w (.cells #[.slice A0_0 l0_0.length c0_0, .slice A0_1 l0_1.length c0_1] 26)
 have hB1 := below_alloc (Below.refl _ w) (.cells #[.slice A0_0 l0_0.length c0_0, .slice A0_1 l0_1.length c0_1] 26)
 unfold storeOkB
 by_cases c6 : (l0_1.length : Int) = 6
 rotate_left
 · have c6b : ((l0_1.length : Int) != 6) = true := by simp [c6]
   rw [decide_eq_false c6, Bool.false_and]
   refine callsIn_of_wp Try.func15 rfl trivial ?_ rfl
   simp only [Try.ntmps15, List.size_toArray, List.length_cons, List.length_nil, Nat.reduceAdd, Nat.reduceSub, Array.replicate_succ, Array.replicate_zero, List.push_toArray, List.append_toArray, List.nil_append, List.cons_append]
   gi_wp2_with (first | (refine And.intro (show Fence.wide.fn 30 from trivial) ?_))
   go_ret
   exact ⟨rfl, hB1⟩
 have c6b : ((l0_1.length : Int) != 6) = false := by simp [c6]
 rw [decide_eq_true c6, Bool.true_and]
 cases ho : orderI l0_0 with
 | false =>
  rw [ho] at hor
  refine callsIn_of_wp Try.func15 rfl trivial ?_ rfl
  simp only [Try.ntmps15, List.size_toArray, List.length_cons, List.length_nil, Nat.reduceAdd, Nat.reduceSub, Array.replicate_succ, Array.replicate_zero, List.push_toArray, List.append_toArray, List.nil_append, List.cons_append]
  gi_wp2_with (first | (refine ⟨trivial, ?_⟩; gi_at_call 30; refine (hor _ hB1).mono ?_; rintro e w1 ⟨rfl, hb⟩))
  go_ret
  exact ⟨rfl, below_then hB1 hB1.size hb⟩
 | true =>
  rw [ho] at hor
  have hf := order_flash ho
  have hl : l0_1.length = 6 := by omega
  have hlr : ∀ W, Below w.heap.size w W → CallsIn Fence.wide 2 Try.prog 24 #[.slice A0_0 l0_0.length c0_0] W fun e w' => ∃ B n, e = .returned (.map (some B)) ∧ RecsIs Try.prog 3 w' B n (lastMap l0_0) ∧ W.heap.size ≤ B ∧ Below W.heap.size W w' := fun W hb => callsIn_wide.2 (lastRecords_any A0_0 c0_0 l0_0 W (Kd.C_below hr0_0 hb) hf)
  generalize lastMap l0_0 = M at hlr ⊢
  rw [Bool.true_and]
  obtain ⟨V, hV⟩ : ∃ V : Bool, diskN M l0_1 6 = V := ⟨_, rfl⟩
  rw [hV]
  have HV := am hV
  clear hV
  rw [hl] at hbox hB1 ⊢
  refine callsIn_of_wp Try.func15 rfl trivial ?_ rfl
  simp only [Try.ntmps15, List.size_toArray, List.length_cons, List.length_nil, Nat.reduceAdd, Nat.reduceSub, Array.replicate_succ, Array.replicate_zero, List.push_toArray, List.append_toArray, List.nil_append, List.cons_append]
  gi_wp2_with (first | (refine ⟨trivial, ?_⟩; gi_at_call 30; refine (hor _ hB1).mono ?_; rintro e w1 ⟨rfl, hb⟩; have hbox1 := blk_below hbox hb; have hB2 := below_then hB1 hB1.size hb; have hq0 : w1.cell? ⟨w.heap.size, 0, none⟩ = some (.slice A0_0 l0_0.length c0_0) := (blk_cell hbox1 0).trans rfl) | (refine ⟨trivial, ?_⟩; gi_at_call 24; refine (hlr _ hB2).mono ?_; rintro e w2 ⟨B, n, rfl, hm, hBq, hb2⟩; have hB3 := below_then hB2 hB2.size hb2; have hbox2 := blk_below hbox1 hb2; have hq1 : w2.cell? ⟨w.heap.size, 1, none⟩ = some (.slice A0_1 6 c0_1) := (blk_cell hbox2 1).trans rfl))
  clear hor hlr
  gi_loopw [25] (fun v25 wr => ∃ i : Nat, v25 = .int .i64 (i : Int) ∧ i ≤ 6 ∧ Aside0 (diskN M l0_1 i = true) ∧ Aside0 (RecsIs Try.prog 3 wr B n M) ∧ Aside0 (Below w.heap.size w wr)) (fun v25 _ => 6 - (intOf v25).toNat)
  case atStart => exact ⟨0, rfl, by omega, ⟨rfl⟩, ⟨hm⟩, ⟨hB3⟩⟩
  case round =>
   clear hm hB3 hB2 hB1 hbox hbox1 hbox2 hq0 hq1
   obtain ⟨i, rfl, hi, hd, hm, hB⟩ := hrel
   by_cases ci : i < 6
   rotate_left
   · obtain rfl : i = 6 := by omega
     gi_wp2
     go_ret
     exact ⟨by rw [← HV.out, hd.out]; rfl, hB.out⟩
   have cib : decide ((i : Int) < 6) = true := decide_eq_true (by omega)
   have p1 : 0 ≤ (i : Int) := by omega
   have q1 : (i : Int) < 6 := by omega
   obtain ⟨ad1, e1, hx1⟩ := Kd.at_int hr0_1 (i : Int) p1 (by omega)
   cases e1
   replace hx1 := (hB.out.cell (World.block_lt_of_cell? w _ hx1)).trans hx1
   simp only [Int.toNat_natCast] at hx1
   have hno := fun h => diskN_no (M := M) (l1 := l0_1) (i := i) h 6 ci
   have hst : diskN M l0_1 (i + 1) = (diskN M l0_1 i && okAt M (rd l0_1 (i : Int)) i) := rfl
   rw [hd.out, Bool.true_and] at hst
   have hva : ∀ W, CallsIn Fence.wide 2 Try.prog 31 #[.int .i64 (rd l0_1 (i : Int))] W fun e w' => e = .returned (.bool (valB (rd l0_1 (i : Int)))) ∧ W = w' := fun W => callsIn_wide.2 (valOk_any _ W)
   generalize rd l0_1 (i : Int) = d at hx1 hno hst hva
   have hwf : (Lit.int .i64 ((i : Int) + 1)).wf = true := WalkArith.wf_i64 ⟨by omega, by omega⟩
   have hlk := hm.out.look_ok (T := 51) (E := 36) Try.underlying3 Try.underlying51 (by go_simp; rfl) hwf
   unfold okAt at hno hst
   cases hv : valB d with
   | false =>
    rw [hv] at hva hno
    have hx : V = false := by rw [← HV.out, hno (by rw [Bool.false_and])]
    have HX := am hx
    clear hx hlk hno hst hwf
    gi_wp2_with (first | (refine ⟨trivial, ?_⟩; gi_at_call 31; refine (hva _).mono ?_; rintro e w3 ⟨rfl, rfl⟩))
    go_ret
    exact ⟨by rw [HX.out]; rfl, hB.out⟩
   | true =>
    rw [hv, Bool.true_and] at hno hst
    rw [hv] at hva
    cases hM : M ((i : Int) + 1) with
    | none =>
     rw [hM] at hlk hst
     have HST := am hst
     simp only [Option.getD_none, Option.isSome_none, recVal] at hlk
     clear hst hno hwf
     gi_wp2_with (first | (refine ⟨trivial, ?_⟩; gi_at_call 31; refine (hva _).mono ?_; rintro e w3 ⟨rfl, rfl⟩))
     refine ⟨fun _ h => (by cases h), ?_⟩
     gi_wp2
     exact ⟨⟨i + 1, by simp, by omega, HST, ⟨hm.out.alloc _⟩, ⟨below_alloc hB.out _⟩⟩, by simp [intOf]; omega⟩
    | some q =>
     obtain ⟨qa, qb, qc, qd⟩ := q
     rw [hM] at hlk hst hno
     simp only [Option.getD_some, Option.isSome_some, recVal] at hlk
     dsimp only at hst hno
     have hdi := isDirty_any qa qb qc qd
     by_cases k1 : qa = 1
     · have k1b : (qa == 1) = true := by simp [k1]
       have HST : Aside0 (diskN M l0_1 (i + 1) = true) := ⟨by rw [hst, decide_eq_true (Or.inl k1)]⟩
       rw [k1b] at hdi
       subst k1
       clear hst hno hwf
       gi_wp2_with (first | (refine ⟨trivial, ?_⟩; gi_at_call 31; refine (hva _).mono ?_; rintro e w3 ⟨rfl, rfl⟩) | (refine ⟨trivial, ?_⟩; gi_at_call 17; refine (hdi _).mono ?_; rintro e w3 ⟨rfl, rfl⟩))
       exact ⟨⟨i + 1, by simp, by omega, HST, ⟨(hm.out.alloc _).alloc _⟩, ⟨below_alloc (below_alloc hB.out _) _⟩⟩, by simp [intOf]; omega⟩
     have k1b : (qa == 1) = false := by simp [k1]
     rw [k1b] at hdi
     by_cases k2 : qd = d
     rotate_left
     · have k2b : (qd != d) = true := by simp [k2]
       have hx : V = false := by rw [← HV.out, hno (decide_eq_false (fun h => h.elim k1 k2))]
       have HX := am hx
       clear hx hst hno hwf
       gi_wp2_with (first | (refine ⟨trivial, ?_⟩; gi_at_call 31; refine (hva _).mono ?_; rintro e w3 ⟨rfl, rfl⟩) | (refine ⟨trivial, ?_⟩; gi_at_call 17; refine (hdi _).mono ?_; rintro e w3 ⟨rfl, rfl⟩))
       go_ret
       exact ⟨by rw [HX.out]; rfl, below_alloc (below_alloc hB.out _) _⟩
     have k2b : (qd != d) = false := by simp [k2]
     have HST : Aside0 (diskN M l0_1 (i + 1) = true) := ⟨by rw [hst, decide_eq_true (Or.inr k2)]⟩
     subst k2
     clear hst hno hwf
     gi_wp2_with (first | (refine ⟨trivial, ?_⟩; gi_at_call 31; refine (hva _).mono ?_; rintro e w3 ⟨rfl, rfl⟩) | (refine ⟨trivial, ?_⟩; gi_at_call 17; refine (hdi _).mono ?_; rintro e w3 ⟨rfl, rfl⟩))
     exact ⟨⟨i + 1, by simp, by omega, HST, ⟨(hm.out.alloc _).alloc _⟩, ⟨below_alloc (below_alloc hB.out _) _⟩⟩, by simp [intOf]; omega⟩
end Go.Proofs.Ytbhchamohldehaa.P4
