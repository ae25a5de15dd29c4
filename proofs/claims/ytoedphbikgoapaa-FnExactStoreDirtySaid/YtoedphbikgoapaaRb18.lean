-- printed by wip/pp/pp.py
import Derived.Test.YtoedphbikgoapaaRb0
import Derived.Test.YtoedphbikgoapaaRb5
namespace Go.Proofs.Ytoedphbikgoapaa.Rb
open Go.RowKit Go.Proofs.YtoedphbikgoapaaW.PrintWords Go.Proofs.YtoedphbikgoapaaW.PrintLast Go.Proofs.YtoedphbikgoapaaW.PrintMore
attribute [local go_sem] max2_int min2_int max_two min_two max_three min_three max_four min_four   -- for this text's walks alone
set_option linter.unusedVariables false
set_option linter.unusedSimpArgs false

-- ALONE
attribute [local go_sem] Oper.semAt_some
theorem uponIn_wide_round {l n : Nat} {P : Program} {o : Oper} {a : Act} {K : Act → World → Prop} {Q : Exit → Act → World → Prop} {r : Result Next} (h : o.upon P a K Q r) : o.uponIn (Fence.wide.inRound l) n P a K Q r := by
  cases r with
  | ok x w' =>
    cases x with
    | value v => exact h
    | skip => exact h
    | defer d => exact h
    | enter f args => exact ⟨fun h => by simp [Fence.inRound, Fence.wide] at h, CallsIn.inRound l (callsIn_wide.2 h)⟩
    | row r args => exact ⟨fun h => by simp [Fence.inRound, Fence.wide] at h, fun c cs _ => let ⟨v, w2, q, s⟩ := h c cs; ⟨v, w2, q, stepsIn_wide.2 s⟩⟩
    | _ => exact h.elim
  | halt x w' =>
    cases x with
    | panic v => exact h
    | _ => exact h.elim
theorem wpOpIn_wide_round {l n : Nat} {P : Program} {ops : Array Oper} {i : Nat} {a : Act} {w : World} {K : Act → World → Prop} {Q : Exit → Act → World → Prop} (hd : ∀ o, ops[i]? = some o → ∀ c, o.op ≠ .defer c) (hQ : ¬ LetsOut Q)
    (h : wpOp P ops Q i K a w) : wpOpIn (Fence.wide.inRound l) n P ops Q i K a w := by
  unfold wpOp at h
  unfold wpOpIn
  cases ho : ops[i]? with
  | none => rw [ho] at h; exact h
  | some o =>
    simp only [ho] at h ⊢
    by_cases hw : Region.wanted o (yielded ops a.tmps) = true
    rotate_left
    · simp only [hw] at h ⊢
      exact ⟨fun f _ => trivial, h⟩
    simp only [hw, if_true] at h ⊢
    refine ⟨fun f _ => trivial, ?_⟩
    rw [Oper.semAt_plain (Fence.wide.inRound l) _ o (hd o ho)]
    exact uponIn_wide_round (h.resolve_right (fun h => hQ h.2))
theorem wpAnyIn_wide_round {l n : Nat} {P : Program} {ops : Array Oper} {md : Region.Mode} {Q : Exit → Act → World → Prop} (hd : ∀ (i : Nat) (o : Oper), ops[i]? = some o → ∀ c, o.op ≠ .defer c) (hQ : ¬ LetsOut Q) :
    ∀ (fuel : Nat) (listed : Array Bool) (a : Act) (w : World), wpAny P md ops Q fuel listed a w → wpAnyIn (Fence.wide.inRound l) n P md ops Q fuel listed a w
  | 0, _, _, _, h => h
  | fuel + 1, _, _, _, h => ⟨h.1, fun i hi => wpOpIn_mono (fun a' w' h' => wpAnyIn_wide_round hd hQ fuel _ a' w' h') (wpOpIn_wide_round (hd i) hQ (h.2 i hi))⟩
theorem region_in_round {l n id : Nat} {P : Program} {ops : Array Oper} {Q : Exit → Act → World → Prop} {a : Act} {w : World} (hm : P.follows .mixedOrders = true) (hd : ∀ (i : Nat) (o : Oper), ops[i]? = some o → ∀ c, o.op ≠ .defer c) (hQ : ¬ LetsOut Q)
    (h : wpAny P .any ops Q ops.size (Array.replicate ops.size false) a w.drew) : (Code.region id ops true).wpIn (Fence.wide.inRound l) n P Q a w :=
  wpIn_region_any hm (wpAnyIn_wide_round hd hQ _ _ _ _ h)
def noDefer (ops : Array Oper) : Bool := ops.all fun o => match o.op with
  | .defer _ => false
  | _ => true
theorem noDefer_spec {ops : Array Oper} (h : noDefer ops = true) : ∀ (i : Nat) (o : Oper), ops[i]? = some o → ∀ c, o.op ≠ .defer c := fun i o ho c hc => by
  have h1 := Array.all_eq_true_iff_forall_mem.1 h o (Array.mem_of_getElem? ho)
  rw [hc] at h1
  simp at h1
theorem start_round {l nn id n : Nat} {P : Program} {ops : Array Oper} {Q : Exit → Act → World → Prop} {S : World → Prop} {ds : List Nat} {a : Act} {w : World} (lst : Array Bool) (hm : P.follows .mixedOrders = true) (hn : ops.size = n) (hl : Array.replicate n false = lst)
    (hd : noDefer ops = true) (hQ : ¬ LetsOut Q) (h : wpAnyLast P .any ops Q S ds n lst a w.drew) : (Code.region id ops true).wpIn (Fence.wide.inRound l) nn P Q a w := by
  subst hn
  subst hl
  exact region_in_round hm (noDefer_spec hd) hQ (wpAny_of_last _ _ _ _ h)
abbrev Spans := Nat → Int × Int
def stepSpan (s : Int × Int) (p : S71) : Int × Int := if p.f0 = 1 then (if s.1 = 0 ∨ p.f1.f1 < s.1 then p.f1.f1 else s.1, mx s.2 p.f1.f1) else s
def spansStep (s : Spans) (x : Spot) : Spans := fun j => if j = x.1 then stepSpan (s j) x.2.2 else s j
def spansF (l : List S65) : Spans := (spotsF 0 l).foldl spansStep (fun _ => (0, 0))
def SpansBox (W : World) (g : Nat) (s : Spans) : Prop := W.heap[g]? = some (.cells #[.int .i64 (s 0).1, .int .i64 (s 0).2, .int .i64 (s 1).1, .int .i64 (s 1).2, .int .i64 (s 2).1, .int .i64 (s 2).2, .int .i64 (s 3).1, .int .i64 (s 3).2] 124 (0, 0))
theorem spansStep_lo {W : World} {g : Nat} {s : Spans} (h : SpansBox W g s) (i : Nat) (hi : i < 4) (a : Int) : SpansBox (W.setCell ⟨g, i * 2, none⟩ (.int .i64 a)) g (fun j => if j = i then (a, (s j).2) else s j) := by
  have := blk_set h (i * 2) (.int .i64 a)
  unfold SpansBox
  rw [this]
  obtain rfl | rfl | rfl | rfl : i = 0 ∨ i = 1 ∨ i = 2 ∨ i = 3 := by omega
  all_goals simp
theorem spansStep_hi {W : World} {g : Nat} {s : Spans} (h : SpansBox W g s) (i : Nat) (hi : i < 4) (a : Int) : SpansBox (W.setCell ⟨g, i * 2 + 1, none⟩ (.int .i64 a)) g (fun j => if j = i then ((s j).1, a) else s j) := by
  have := blk_set h (i * 2 + 1) (.int .i64 a)
  unfold SpansBox
  rw [this]
  obtain rfl | rfl | rfl | rfl : i = 0 ∨ i = 1 ∨ i = 2 ∨ i = 3 := by omega
  all_goals simp
theorem SpansBox.at_ {W : World} {g : Nat} {s : Spans} (h : SpansBox W g s) (i : Nat) (hi : i < 4) : W.cell? ⟨g, i * 2, none⟩ = some (.int .i64 (s i).1) ∧ W.cell? ⟨g, i * 2 + 1, none⟩ = some (.int .i64 (s i).2) := by
  rw [blk_cell h (i * 2), blk_cell h (i * 2 + 1)]
  obtain rfl | rfl | rfl | rfl : i = 0 ∨ i = 1 ∨ i = 2 ∨ i = 3 := by omega
  all_goals exact ⟨rfl, rfl⟩
theorem SpansBox.frozen {W : World} {g : Nat} {s : Spans} (h : SpansBox W g s) (i : Nat) : W.frozen? ⟨g, i, none⟩ = false := blk_frozen h i
theorem SpansBox.own (g : Nat) {β : Type} (f : β → Spans) : Own (fun s W => SpansBox W g (f s)) := fun s X Y row hs hg hrow => (hg.block g (Array.getElem?_eq_some_iff.1 hs).1 (fun e => by obtain ⟨o, ho, hc⟩ := hrow g e.symm; rw [show X.heap[g]? = _ from hs] at ho; cases ho; cases hc)).trans hs
theorem spotsB_lt (i : Nat) : ∀ (j : Nat) (ps : List S71) (x : Spot), x ∈ spotsB i j ps → x.1 = i
  | _, [], _, h => by cases h
  | j, p :: ps, x, h => by
    rw [spotsB] at h
    rcases List.mem_cons.1 h with rfl | h
    · rfl
    · exact spotsB_lt i (j + 1) ps x h
theorem spotsF_lt : ∀ (i : Nat) (l : List S65) (x : Spot), x ∈ spotsF i l → x.1 < i + l.length
  | _, [], _, h => by cases h
  | i, b :: bs, x, h => by
    rw [spotsF] at h
    rw [List.length_cons]
    rcases List.mem_append.1 h with h | h
    · have := spotsB_lt i 0 _ x h
      omega
    · have := spotsF_lt (i + 1) bs x h
      omega
abbrev SpotIn := {x : Spot // x.1 < 4}
def spansOfL (pre : List SpotIn) : Spans := pre.foldl (fun s x => spansStep s x.1) (fun _ => (0, 0))
theorem spansOfL_snoc (pre : List SpotIn) (x : SpotIn) : spansOfL (pre ++ [x]) = spansStep (spansOfL pre) x.1 := by simp [spansOfL]
theorem spansOfL_all {ys : List SpotIn} {l0 : List S65} (h : ys.map (·.1) = spotsF 0 l0) : spansOfL ys = spansF l0 := by
  unfold spansOfL spansF
  rw [← h, List.foldl_map]
theorem make_spans (W : World) : (Instr.makeSlice 121 (.int .i64 4) (.int .i64 4)).run Try.prog W = .ok (.slice (some ⟨W.heap.size, 0, none⟩) 4 4) (W.alloc (.cells #[.int .i64 0, .int .i64 0, .int .i64 0, .int .i64 0, .int .i64 0, .int .i64 0, .int .i64 0, .int .i64 0] 124)) := by
  have hinfo : (Try.prog.info? 124).map (fun i => (i.zero, i.size, i.bytes)) = some (some (.agg #[.int .i64 0, .int .i64 0]), 2, 16) := by kernel_rfl
  obtain ⟨i0, hi, hzz⟩ := Option.map_eq_some_iff.1 hinfo
  simp only [Prod.mk.injEq] at hzz
  obtain ⟨hz0, hz1, hz2⟩ := hzz
  have hr := run_make (P := Try.prog) W 121 124 i0 _ Try.underlying121 hi hz0 .i64 .i64 4 4 (by decide) (by decide) (by rw [hz2]; decide) (by decide)
  have h8 : Array.range (Int.toNat 4 * 2) = #[0, 1, 2, 3, 4, 5, 6, 7] := by decide
  rw [hz1] at hr
  unfold madeCells at hr
  have hc : (Value.agg #[Value.int IntKind.i64 0, Value.int IntKind.i64 0]).cells = #[Value.int IntKind.i64 0, Value.int IntKind.i64 0] := by simp [Value.cells]
  rw [h8, hc] at hr
  simpa using hr
set_option maxRecDepth 100000 in
set_option maxHeartbeats 4000000 in
theorem spansOf_any (A0 : Option Addr) (c0 : Nat) (l0 : List (S65)) (w : World) (hr0 : Kd.C k65 w A0 l0.length l0) (hl : l0.length = 4) :
    Calls Try.prog 95 #[.slice A0 4 c0] w fun e w' => ∃ g, e = .returned (.slice (some ⟨g, 0, none⟩) 4 4) ∧ SpansBox w' g (spansF l0) ∧ w.heap.size ≤ g ∧ Below w.heap.size w w' := by
  refine (callsIn_wide (n := 3)).1 ?_
  have hmk := make_spans
  refine callsIn_of_wp_marks Try.func95 rfl trivial ?_ rfl
  simp only [Try.ntmps95, List.size_toArray, List.length_cons, List.length_nil, Nat.reduceAdd, Nat.reduceSub, Array.replicate_succ, Array.replicate_zero, List.push_toArray, List.append_toArray, List.nil_append, List.cons_append]
  gi_wp2_with (first | (refine ⟨trivial, ?_⟩; gi_at_call 83; refine (eachPage_in Fence.wide 2 trivial rfl _ _ _ _).mono ?_; rintro e w2 ⟨rfl, rfl⟩))
  have bS : SpansBox (((w.alloc (.cells #[.int .i64 0, .int .i64 0, .int .i64 0, .int .i64 0, .int .i64 0, .int .i64 0, .int .i64 0, .int .i64 0] 124)).alloc (.cells #[.slice (some ⟨w.heap.size, 0, none⟩) 4 4] 121)).alloc (.cells #[.slice A0 4 c0] 26)) w.heap.size (fun _ => (0, 0)) := blk_alloc (blk_alloc (blk_new w _) _) _
  have bV : Boxed (((w.alloc (.cells #[.int .i64 0, .int .i64 0, .int .i64 0, .int .i64 0, .int .i64 0, .int .i64 0, .int .i64 0, .int .i64 0] 124)).alloc (.cells #[.slice (some ⟨w.heap.size, 0, none⟩) 4 4] 121)).alloc (.cells #[.slice A0 4 c0] 26)) (w.heap.size + 1) 121 (.slice (some ⟨w.heap.size, 0, none⟩) 4 4) := by
    have := blk_alloc (blk_new (w.alloc (.cells #[.int .i64 0, .int .i64 0, .int .i64 0, .int .i64 0, .int .i64 0, .int .i64 0, .int .i64 0, .int .i64 0] 124)) (.cells #[.slice (some ⟨w.heap.size, 0, none⟩) 4 4] 121)) (.cells #[.slice A0 4 c0] 26)
    rw [World.size_alloc] at this
    exact this
  have bN : Boxed (((w.alloc (.cells #[.int .i64 0, .int .i64 0, .int .i64 0, .int .i64 0, .int .i64 0, .int .i64 0, .int .i64 0, .int .i64 0] 124)).alloc (.cells #[.slice (some ⟨w.heap.size, 0, none⟩) 4 4] 121)).alloc (.cells #[.slice A0 4 c0] 26)) (w.heap.size + 1 + 1) 26 (.slice A0 l0.length c0) := by
    have := blk_new ((w.alloc (.cells #[.int .i64 0, .int .i64 0, .int .i64 0, .int .i64 0, .int .i64 0, .int .i64 0, .int .i64 0, .int .i64 0] 124)).alloc (.cells #[.slice (some ⟨w.heap.size, 0, none⟩) 4 4] 121)) (.cells #[.slice A0 4 c0] 26)
    rw [World.size_alloc, World.size_alloc] at this
    rw [hl]
    exact this
  have hB0 : Below w.heap.size w (((w.alloc (.cells #[.int .i64 0, .int .i64 0, .int .i64 0, .int .i64 0, .int .i64 0, .int .i64 0, .int .i64 0, .int .i64 0] 124)).alloc (.cells #[.slice (some ⟨w.heap.size, 0, none⟩) 4 4] 121)).alloc (.cells #[.slice A0 4 c0] 26)) := below_alloc (below_alloc (below_alloc (Below.refl _ w) _) _) _
  have hN : ∀ x ∈ spotsF 0 l0, x.1 < 4 := fun x hx => by
    have := spotsF_lt 0 l0 x hx
    omega
  generalize hW0 : (((w.alloc (.cells #[.int .i64 0, .int .i64 0, .int .i64 0, .int .i64 0, .int .i64 0, .int .i64 0, .int .i64 0, .int .i64 0] 124)).alloc (.cells #[.slice (some ⟨w.heap.size, 0, none⟩) 4 4] 121)).alloc (.cells #[.slice A0 4 c0] 26)) = W0 at *
  refine wpIn_rangeFunc_ownH (F := Fence.wide) rfl (by decide) (gf := 97) (lb := #[.pointer (some ⟨w.heap.size + 1 + 1, 0, none⟩)]) rfl trivial (enters_of Try.func97 (by kernel_rfl) rfl)
    (eachPage_stops Fence.wide 2 trivial rfl (by decide) (fun x => x.1 < 4) (w.heap.size + 1 + 1) A0 c0 l0 w _ hr0 hN hB0 bN.cell) belowK_t (belowK_b hB0.size) (Below.refl _ _) (fun _ => rfl)
    (fun pre W => SpansBox W w.heap.size (spansOfL pre) ∧ Boxed W (w.heap.size + 1) 121 (.slice (some ⟨w.heap.size, 0, none⟩) 4 4) ∧ Below w.heap.size w W) (fun _ _ _ => False)
    (OwnFrom.and (Own.from (SpansBox.own _ _) _) (OwnFrom.and (Own.from (boxed_own _ _ (fun _ => _)) _) (ownFrom_below (Nat.le_refl _) hB0.size))) (fun _ _ _ _ _ hs _ _ => hs)
    ⟨bS, bV, hB0⟩
    (fun x a' W => ∃ Bs Bx, w.heap.size + 1 < Bs ∧ w.heap.size + 1 < Bx ∧ W.heap[Bs]? = some (.cells #[.int .i64 (x.1.1 : Int), .int .i64 (x.1.2.1 : Int)] 103 (0, 0)) ∧ PageBox W Bx x.1.2.2 ∧ a' = { tmps := #[.slice A0 4 c0, undef, .slice none 0 0, .pointer (some ⟨w.heap.size + 1, 0, none⟩), .pointer (some ⟨Bs, 0, none⟩), .pointer (some ⟨Bx, 0, none⟩), undef, .slice A0 4 c0, .int .i64 4, .slice (some ⟨w.heap.size, 0, none⟩) 4 4, .slice A0 4 c0, .func (.func 97) #[] #[.pointer (some ⟨w.heap.size + 1 + 1, 0, none⟩)], .agg #[.int .i64 (x.1.1 : Int), .int .i64 (x.1.2.1 : Int)], .agg #[.int .i64 x.1.2.2.f0, .int .i64 x.1.2.2.f1.f0, .int .i64 x.1.2.2.f1.f1, .int .i64 x.1.2.2.f1.f2, .int .i64 x.1.2.2.f1.f3], undef, undef, undef, undef, undef, undef, undef, undef, undef, undef, undef, undef, undef, undef, undef, undef, undef, undef, undef, undef, undef, undef, undef, undef, undef, undef, undef, undef, undef, undef, undef, undef, undef, undef, undef, undef, undef, undef, undef, undef], defers := [] })
    (fun x a' s X Y row hs hg hr => by
      obtain ⟨Bs, Bx, h1, h2, h3, h4, h5⟩ := hs
      exact ⟨Bs, Bx, h1, h2, (hg.block Bs (blk_lt h3) (fun e => by obtain ⟨B0, o, ho, hc⟩ := hr Bs e.symm; rw [h3] at ho; cases ho; cases hc)).trans h3, PageBox.own Bx _ _ () X Y row h4 hg hr, h5⟩) ?assign ?body ?done ?stop
  case assign =>
    rintro l pre x W K ⟨hbx, hbv, hB⟩ hK
    gi_wp2
    exact hK _ _ (((KeepsOthers.alloc _ _).trans (KeepsOthers.alloc _ _)).from _) (((Below.refl _ W).alloc hB.size _).alloc (by have := hB.size; simp; omega) _) ⟨blk_alloc (blk_alloc hbx _) _, (hbv.alloc _).alloc _, (hB.alloc hB.size _).alloc (hB.alloc hB.size _).size _⟩
      ⟨W.heap.size, W.heap.size + 1, hbv.lt, by have := hbv.lt; omega, blk_alloc (blk_new W _) _, by have := blk_new (W.alloc (.cells #[.int .i64 (x.1.1 : Int), .int .i64 (x.1.2.1 : Int)] 103)) (.cells #[.int .i64 x.1.2.2.f0, .int .i64 x.1.2.2.f1.f0, .int .i64 x.1.2.2.f1.f1, .int .i64 x.1.2.2.f1.f2, .int .i64 x.1.2.2.f1.f3] 71); rw [World.size_alloc] at this; exact this, rfl⟩
  case body =>
    rintro l pre x a' W hl_ ⟨r, hr⟩ ⟨hbx, hbv, hB⟩ ⟨Bs, Bx, hBs, hBx, bs, bX, rfl⟩ hlt
    obtain ⟨hc0_, hc1_, hc2_, hc3_, hc4_⟩ := bX.cells
    have hcs0 : W.cell? ⟨Bs, 0, none⟩ = some (.int .i64 (x.1.1 : Int)) := (blk_cell bs 0).trans rfl
    have hcv := hbv.cell
    have hi4 := x.2
    obtain ⟨hlo, hhi⟩ := hbx.at_ x.1.1 hi4
    have hf0 := hbx.frozen (x.1.1 * 2)
    have hf1 := hbx.frozen (x.1.1 * 2 + 1)
    have hsn := spansOfL_snoc pre x
    by_cases hs1 : x.1.2.2.f0 = 1
    rotate_left
    · have hs2 : (x.1.2.2.f0 != 1) = true := by simp [hs1]
      have e : spansOfL (pre ++ [x]) = spansOfL pre := by
        rw [hsn]
        funext j
        unfold spansStep stepSpan
        rw [if_neg hs1]
        split <;> rfl
      gi_wp2
      exact ⟨KeepsFrom.refl _ _, Below.refl _ _, by rw [e]; exact hbx, hbv, hB⟩
    have hs2 : (x.1.2.2.f0 != 1) = false := by simp [hs1]
    have p1 : 0 ≤ (x.1.1 : Int) := by omega
    have q1 : (x.1.1 : Int) < 4 := by omega
    by_cases hz : (spansOfL pre x.1.1).1 = 0
    · have hz2 : ((spansOfL pre x.1.1).1 == 0) = true := by simp [hz]
      gi_wp2
      have hSt : (fun W' => W'.cell? ⟨w.heap.size, x.1.1 * 2, none⟩ = some (.int .i64 (spansOfL pre x.1.1).1) ∧ W'.cell? ⟨Bx, 2, none⟩ = some (.int .i64 x.1.2.2.f1.f1)) W.drew := ⟨hlo, hc2_⟩
      refine start_round (S := fun W' => W'.cell? ⟨w.heap.size, x.1.1 * 2, none⟩ = some (.int .i64 (spansOfL pre x.1.1).1) ∧ W'.cell? ⟨Bx, 2, none⟩ = some (.int .i64 x.1.2.2.f1.f1)) (ds := []) #[false, false, false, false, false, false, false, false, false, false, false, false, false, false, false] (by kernel_rfl) rfl rfl (by kernel_rfl) (by rintro ⟨a, w, h⟩; exact h) ?_
      refine pure_ (i := 0) (N := some 21) (v := ?_) (a' := ?_) #[true, false, false, false, false, false, false, false, false, false, false, false, false, false, false] rfl rfl (by kernel_rfl) (fun _ _ _ h => h) (Or.inl ⟨by rfl, ?_⟩) ?_ ?_
      rotate_left; (· intro w'; go_simp; with_reducible rfl); rotate_left; (· simp only [Act.put, List.setIfInBounds_toArray, List.set_cons_zero, List.set_cons_succ]; rfl)
      refine pure_ (i := 1) (N := some 22) (v := ?_) (a' := ?_) #[true, true, false, false, false, false, false, false, false, false, false, false, false, false, false] rfl rfl (by kernel_rfl) (fun _ _ _ h => h) (Or.inl ⟨by rfl, ?_⟩) ?_ ?_
      rotate_left; (· intro w'; go_simp; with_reducible rfl); rotate_left; (· simp only [Act.put, List.setIfInBounds_toArray, List.set_cons_zero, List.set_cons_succ]; rfl)
      refine pure_ (i := 2) (N := some 23) (v := ?_) (a' := ?_) #[true, true, true, false, false, false, false, false, false, false, false, false, false, false, false] rfl rfl (by kernel_rfl) (fun _ _ _ h => h) (Or.inl ⟨by rfl, ?_⟩) ?_ ?_
      rotate_left; (· intro w'; go_simp; with_reducible rfl); rotate_left; (· simp only [Act.put, List.setIfInBounds_toArray, List.set_cons_zero, List.set_cons_succ]; rfl)
      refine take_ (i := 3) (N := some 24) (v := ?_) (a' := ?_) #[true, true, true, true, false, false, false, false, false, false, false, false, false, false, false] rfl rfl (by kernel_rfl) (fun _ _ _ h => h) (Or.inl ⟨by rfl, ?_⟩) hSt ?_ ?_
      rotate_left
      · intro w' hS'
        have hL' := hS'.1
        go_simp
        with_reducible rfl
      rotate_left
      · simp only [Act.put, List.setIfInBounds_toArray, List.set_cons_zero, List.set_cons_succ]
        rfl
      refine pure_ (i := 4) (N := some 25) (v := ?_) (a' := ?_) #[true, true, true, true, true, false, false, false, false, false, false, false, false, false, false] rfl rfl (by kernel_rfl) (fun _ _ _ h => h) (Or.inl ⟨by rfl, ?_⟩) ?_ ?_
      rotate_left; (· intro w'; go_simp; with_reducible rfl); rotate_left; (· simp only [Act.put, List.setIfInBounds_toArray, List.set_cons_zero, List.set_cons_succ]; rfl)
      refine pure_ (i := 5) (N := some 26) (v := ?_) (a' := ?_) #[true, true, true, true, true, true, false, false, false, false, false, false, false, false, false] rfl rfl (by kernel_rfl) (fun _ _ _ h => h) (Or.inl ⟨by rfl, ?_⟩) ?_ ?_
      rotate_left; (· intro w'; go_simp; with_reducible rfl); rotate_left; (· simp only [Act.put, List.setIfInBounds_toArray, List.set_cons_zero, List.set_cons_succ]; rfl)
      refine pure_ (i := 6) (N := some 27) (v := undef) (a' := ?_) #[true, true, true, true, true, true, true, false, false, false, false, false, false, false, false] rfl rfl (by kernel_rfl) (fun _ _ _ h => h) (Or.inr ⟨by rfl, rfl⟩) ?_ ?_
      rotate_left
      · simp only [Act.put, List.setIfInBounds_toArray, List.set_cons_zero, List.set_cons_succ]
        rfl
      refine pure_ (i := 7) (N := some 28) (v := undef) (a' := ?_) #[true, true, true, true, true, true, true, true, false, false, false, false, false, false, false] rfl rfl (by kernel_rfl) (fun _ _ _ h => h) (Or.inr ⟨by rfl, rfl⟩) ?_ ?_
      rotate_left
      · simp only [Act.put, List.setIfInBounds_toArray, List.set_cons_zero, List.set_cons_succ]
        rfl
      refine pure_ (i := 8) (N := some 29) (v := undef) (a' := ?_) #[true, true, true, true, true, true, true, true, true, false, false, false, false, false, false] rfl rfl (by kernel_rfl) (fun _ _ _ h => h) (Or.inr ⟨by rfl, rfl⟩) ?_ ?_
      rotate_left
      · simp only [Act.put, List.setIfInBounds_toArray, List.set_cons_zero, List.set_cons_succ]
        rfl
      refine pure_ (i := 9) (N := some 30) (v := undef) (a' := ?_) #[true, true, true, true, true, true, true, true, true, true, false, false, false, false, false] rfl rfl (by kernel_rfl) (fun _ _ _ h => h) (Or.inr ⟨by rfl, rfl⟩) ?_ ?_
      rotate_left
      · simp only [Act.put, List.setIfInBounds_toArray, List.set_cons_zero, List.set_cons_succ]
        rfl
      refine pure_ (i := 10) (N := some 31) (v := undef) (a' := ?_) #[true, true, true, true, true, true, true, true, true, true, true, false, false, false, false] rfl rfl (by kernel_rfl) (fun _ _ _ h => h) (Or.inr ⟨by rfl, rfl⟩) ?_ ?_
      rotate_left
      · simp only [Act.put, List.setIfInBounds_toArray, List.set_cons_zero, List.set_cons_succ]
        rfl
      refine pure_ (i := 11) (N := some 32) (v := undef) (a' := ?_) #[true, true, true, true, true, true, true, true, true, true, true, true, false, false, false] rfl rfl (by kernel_rfl) (fun _ _ _ h => h) (Or.inr ⟨by rfl, rfl⟩) ?_ ?_
      rotate_left
      · simp only [Act.put, List.setIfInBounds_toArray, List.set_cons_zero, List.set_cons_succ]
        rfl
      refine pure_ (i := 12) (N := some 33) (v := undef) (a' := ?_) #[true, true, true, true, true, true, true, true, true, true, true, true, true, false, false] rfl rfl (by kernel_rfl) (fun _ _ _ h => h) (Or.inr ⟨by rfl, rfl⟩) ?_ ?_
      rotate_left
      · simp only [Act.put, List.setIfInBounds_toArray, List.set_cons_zero, List.set_cons_succ]
        rfl
      refine pure_ (i := 13) (N := some 34) (v := undef) (a' := ?_) #[true, true, true, true, true, true, true, true, true, true, true, true, true, true, false] rfl rfl (by kernel_rfl) (fun _ _ _ h => h) (Or.inr ⟨by rfl, rfl⟩) ?_ ?_
      rotate_left
      · simp only [Act.put, List.setIfInBounds_toArray, List.set_cons_zero, List.set_cons_succ]
        rfl
      refine pure_ (i := 14) (N := some 35) (v := ?_) (a' := ?_) #[true, true, true, true, true, true, true, true, true, true, true, true, true, true, true] rfl rfl (by kernel_rfl) (fun _ _ _ h => h) (Or.inl ⟨by rfl, ?_⟩) ?_ ?_
      rotate_left; (· intro w'; go_simp; with_reducible rfl); rotate_left; (· simp only [Act.put, List.setIfInBounds_toArray, List.set_cons_zero, List.set_cons_succ]; rfl)
      refine done_ (by kernel_rfl) ?_
      gi_wp2
      have v1 : SpansBox (W.setCell ⟨w.heap.size, x.1.1 * 2, none⟩ (.int .i64 x.1.2.2.f1.f1)).drew w.heap.size (fun j => if j = x.1.1 then (x.1.2.2.f1.f1, (spansOfL pre j).2) else spansOfL pre j) := spansStep_lo hbx x.1.1 hi4 x.1.2.2.f1.f1
      have v2 : Boxed (W.setCell ⟨w.heap.size, x.1.1 * 2, none⟩ (.int .i64 x.1.2.2.f1.f1)).drew (w.heap.size + 1) 121 (.slice (some ⟨w.heap.size, 0, none⟩) 4 4) := blk_far hbv (p := ⟨w.heap.size, x.1.1 * 2, none⟩) (by show w.heap.size + 1 ≠ w.heap.size; omega) _
      have v3 : Below w.heap.size w (W.setCell ⟨w.heap.size, x.1.1 * 2, none⟩ (.int .i64 x.1.2.2.f1.f1)).drew := below_drew (hB.setCell (p := ⟨w.heap.size, x.1.1 * 2, none⟩) (Nat.le_refl _) _)
      have v4 : Below w.heap.size W (W.setCell ⟨w.heap.size, x.1.1 * 2, none⟩ (.int .i64 x.1.2.2.f1.f1)).drew := below_drew ((Below.refl _ W).setCell (p := ⟨w.heap.size, x.1.1 * 2, none⟩) (Nat.le_refl _) _)
      have v5 : KeepsFrom W0.heap.size W (W.setCell ⟨w.heap.size, x.1.1 * 2, none⟩ (.int .i64 x.1.2.2.f1.f1)).drew := ((KeepsOthers.setCell W ⟨w.heap.size, x.1.1 * 2, none⟩ (.int .i64 x.1.2.2.f1.f1)).trans (KeepsOthers.drew _)).from _
      have v6 : PageBox (W.setCell ⟨w.heap.size, x.1.1 * 2, none⟩ (.int .i64 x.1.2.2.f1.f1)).drew Bx x.1.2.2 := blk_far bX (p := ⟨w.heap.size, x.1.1 * 2, none⟩) (by show Bx ≠ w.heap.size; omega) _
      generalize hV : (W.setCell ⟨w.heap.size, x.1.1 * 2, none⟩ (.int .i64 x.1.2.2.f1.f1)).drew = V at v1 v2 v3 v4 v5 v6 ⊢
      have hhiV : V.cell? ⟨w.heap.size, x.1.1 * 2 + 1, none⟩ = some (.int .i64 (spansOfL pre x.1.1).2) := by have := (v1.at_ x.1.1 hi4).2; simpa using this
      have hsqV := v6.cells.2.2.1
      have hfV := v1.frozen (x.1.1 * 2 + 1)
      clear hV hbx hlo hhi hf0 hf1 hc0_ hc1_ hc2_ hc3_ hc4_ hcs0 hcv hbv bs bX
      have hSt : (fun W' => W'.cell? ⟨w.heap.size, x.1.1 * 2 + 1, none⟩ = some (.int .i64 (spansOfL pre x.1.1).2) ∧ W'.cell? ⟨Bx, 2, none⟩ = some (.int .i64 x.1.2.2.f1.f1)) V.drew := ⟨hhiV, hsqV⟩
      refine start_round (S := fun W' => W'.cell? ⟨w.heap.size, x.1.1 * 2 + 1, none⟩ = some (.int .i64 (spansOfL pre x.1.1).2) ∧ W'.cell? ⟨Bx, 2, none⟩ = some (.int .i64 x.1.2.2.f1.f1)) (ds := [11]) #[false, false, false, false, false, false, false, false, false, false, false, false] (by kernel_rfl) rfl rfl (by kernel_rfl) (by rintro ⟨a, w, h⟩; exact h) ?_
      refine pure_ (i := 0) (N := some 42) (v := ?_) (a' := ?_) #[true, false, false, false, false, false, false, false, false, false, false, false] rfl rfl (by kernel_rfl) (fun _ _ _ h => h) (Or.inl ⟨by rfl, ?_⟩) ?_ ?_
      rotate_left; (· intro w'; go_simp; with_reducible rfl); rotate_left; (· simp only [Act.put, List.setIfInBounds_toArray, List.set_cons_zero, List.set_cons_succ]; rfl)
      refine pure_ (i := 1) (N := some 43) (v := ?_) (a' := ?_) #[true, true, false, false, false, false, false, false, false, false, false, false] rfl rfl (by kernel_rfl) (fun _ _ _ h => h) (Or.inl ⟨by rfl, ?_⟩) ?_ ?_
      rotate_left; (· intro w'; go_simp; with_reducible rfl); rotate_left; (· simp only [Act.put, List.setIfInBounds_toArray, List.set_cons_zero, List.set_cons_succ]; rfl)
      refine pure_ (i := 2) (N := some 44) (v := ?_) (a' := ?_) #[true, true, true, false, false, false, false, false, false, false, false, false] rfl rfl (by kernel_rfl) (fun _ _ _ h => h) (Or.inl ⟨by rfl, ?_⟩) ?_ ?_
      rotate_left; (· intro w'; go_simp; with_reducible rfl); rotate_left; (· simp only [Act.put, List.setIfInBounds_toArray, List.set_cons_zero, List.set_cons_succ]; rfl)
      refine pure_ (i := 3) (N := some 45) (v := ?_) (a' := ?_) #[true, true, true, true, false, false, false, false, false, false, false, false] rfl rfl (by kernel_rfl) (fun _ _ _ h => h) (Or.inl ⟨by rfl, ?_⟩) ?_ ?_
      rotate_left; (· intro w'; go_simp; with_reducible rfl); rotate_left; (· simp only [Act.put, List.setIfInBounds_toArray, List.set_cons_zero, List.set_cons_succ]; rfl)
      refine take_ (i := 4) (N := some 46) (v := ?_) (a' := ?_) #[true, true, true, true, true, false, false, false, false, false, false, false] rfl rfl (by kernel_rfl) (fun _ _ _ h => h) (Or.inl ⟨by rfl, ?_⟩) hSt ?_ ?_
      rotate_left
      · intro w' hS'
        have hL' := hS'.1
        go_simp
        with_reducible rfl
      rotate_left
      · simp only [Act.put, List.setIfInBounds_toArray, List.set_cons_zero, List.set_cons_succ]
        rfl
      refine pure_ (i := 5) (N := some 47) (v := ?_) (a' := ?_) #[true, true, true, true, true, true, false, false, false, false, false, false] rfl rfl (by kernel_rfl) (fun _ _ _ h => h) (Or.inl ⟨by rfl, ?_⟩) ?_ ?_
      rotate_left; (· intro w'; go_simp; with_reducible rfl); rotate_left; (· simp only [Act.put, List.setIfInBounds_toArray, List.set_cons_zero, List.set_cons_succ]; rfl)
      refine pure_ (i := 6) (N := some 48) (v := ?_) (a' := ?_) #[true, true, true, true, true, true, true, false, false, false, false, false] rfl rfl (by kernel_rfl) (fun _ _ _ h => h) (Or.inl ⟨by rfl, ?_⟩) ?_ ?_
      rotate_left; (· intro w'; go_simp; with_reducible rfl); rotate_left; (· simp only [Act.put, List.setIfInBounds_toArray, List.set_cons_zero, List.set_cons_succ]; rfl)
      refine take_ (i := 7) (N := some 49) (v := ?_) (a' := ?_) #[true, true, true, true, true, true, true, true, false, false, false, false] rfl rfl (by kernel_rfl) (fun _ _ _ h => h) (Or.inl ⟨by rfl, ?_⟩) hSt ?_ ?_
      rotate_left
      · intro w' hS'
        have hL' := hS'.2
        go_simp
        with_reducible rfl
      rotate_left
      · simp only [Act.put, List.setIfInBounds_toArray, List.set_cons_zero, List.set_cons_succ]
        rfl
      refine pure_ (i := 8) (N := some 50) (v := ?_) (a' := ?_) #[true, true, true, true, true, true, true, true, true, false, false, false] rfl rfl (by kernel_rfl) (fun _ _ _ h => h) (Or.inl ⟨by rfl, ?_⟩) ?_ ?_
      rotate_left; (· intro w'; go_simp; with_reducible rfl); rotate_left; (· simp only [Act.put, List.setIfInBounds_toArray, List.set_cons_zero, List.set_cons_succ]; rfl)
      refine pure_ (i := 9) (N := some 51) (v := ?_) (a' := ?_) #[true, true, true, true, true, true, true, true, true, true, false, false] rfl rfl (by kernel_rfl) (fun _ _ _ h => h) (Or.inl ⟨by rfl, ?_⟩) ?_ ?_
      rotate_left; (· intro w'; go_simp; with_reducible rfl); rotate_left; (· simp only [Act.put, List.setIfInBounds_toArray, List.set_cons_zero, List.set_cons_succ]; rfl)
      refine pure_ (i := 10) (N := some 52) (v := ?_) (a' := ?_) #[true, true, true, true, true, true, true, true, true, true, true, false] rfl rfl (by kernel_rfl) (fun _ _ _ h => h) (Or.inl ⟨by rfl, ?_⟩) ?_ ?_
      rotate_left; (· intro w'; go_simp; with_reducible rfl); rotate_left; (· simp only [Act.put, List.setIfInBounds_toArray, List.set_cons_zero, List.set_cons_succ]; rfl)
      refine last_ (i := 11) (N := none) #[true, true, true, true, true, true, true, true, true, true, true, true] rfl rfl (by kernel_rfl) (by decide) ?_
      intro K hK
      refine skip_ (w1 := ?_) (by rfl) rfl ?_ ?_
      rotate_left
      · go_simp
        rfl
      refine hK.out _ _ ?_
      clear hK K
      refine done_ (by kernel_rfl) ?_
      have k1 := spansStep_hi (show SpansBox V.drew w.heap.size (fun j => if j = x.1.1 then (x.1.2.2.f1.f1, (spansOfL pre j).2) else spansOfL pre j) from v1) x.1.1 hi4 (if (spansOfL pre x.1.1).2 < x.1.2.2.f1.f1 then x.1.2.2.f1.f1 else (spansOfL pre x.1.1).2)
      refine ⟨v5.trans (((KeepsOthers.drew V).trans (KeepsOthers.setCell _ _ _)).from _), v4.trans ((below_drew (Below.refl _ V)).setCell (p := ⟨w.heap.size, x.1.1 * 2 + 1, none⟩) (Nat.le_refl _) _), ?_, blk_far v2 (p := ⟨w.heap.size, x.1.1 * 2 + 1, none⟩) (by show w.heap.size + 1 ≠ w.heap.size; omega) _, (below_drew v3).setCell (p := ⟨w.heap.size, x.1.1 * 2 + 1, none⟩) (Nat.le_refl _) _⟩
      rw [hsn]
      have e : spansStep (spansOfL pre) x.1 = (fun j => if j = x.1.1 then (((fun j => if j = x.1.1 then (x.1.2.2.f1.f1, (spansOfL pre j).2) else spansOfL pre j) j).1, (if (spansOfL pre x.1.1).2 < x.1.2.2.f1.f1 then x.1.2.2.f1.f1 else (spansOfL pre x.1.1).2)) else (fun j => if j = x.1.1 then (x.1.2.2.f1.f1, (spansOfL pre j).2) else spansOfL pre j) j) := by
        funext j
        unfold spansStep stepSpan mx
        by_cases hj : j = x.1.1
        rotate_left
        · simp [hj]
        subst hj
        rw [if_pos rfl, if_pos hs1, if_pos (Or.inl hz), if_pos rfl]
        simp
      rw [e]
      exact k1
    have hz2 : ((spansOfL pre x.1.1).1 == 0) = false := by simp [hz]
    by_cases hw : x.1.2.2.f1.f1 < (spansOfL pre x.1.1).1
    rotate_left
    · have hw2 : decide (x.1.2.2.f1.f1 < (spansOfL pre x.1.1).1) = false := decide_eq_false hw
      gi_wp2
      have hSt : (fun W' => W'.cell? ⟨w.heap.size, x.1.1 * 2, none⟩ = some (.int .i64 (spansOfL pre x.1.1).1) ∧ W'.cell? ⟨Bx, 2, none⟩ = some (.int .i64 x.1.2.2.f1.f1)) W.drew := ⟨hlo, hc2_⟩
      refine start_round (S := fun W' => W'.cell? ⟨w.heap.size, x.1.1 * 2, none⟩ = some (.int .i64 (spansOfL pre x.1.1).1) ∧ W'.cell? ⟨Bx, 2, none⟩ = some (.int .i64 x.1.2.2.f1.f1)) (ds := []) #[false, false, false, false, false, false, false, false, false, false, false, false, false, false, false] (by kernel_rfl) rfl rfl (by kernel_rfl) (by rintro ⟨a, w, h⟩; exact h) ?_
      refine pure_ (i := 0) (N := some 21) (v := ?_) (a' := ?_) #[true, false, false, false, false, false, false, false, false, false, false, false, false, false, false] rfl rfl (by kernel_rfl) (fun _ _ _ h => h) (Or.inl ⟨by rfl, ?_⟩) ?_ ?_
      rotate_left; (· intro w'; go_simp; with_reducible rfl); rotate_left; (· simp only [Act.put, List.setIfInBounds_toArray, List.set_cons_zero, List.set_cons_succ]; rfl)
      refine pure_ (i := 1) (N := some 22) (v := ?_) (a' := ?_) #[true, true, false, false, false, false, false, false, false, false, false, false, false, false, false] rfl rfl (by kernel_rfl) (fun _ _ _ h => h) (Or.inl ⟨by rfl, ?_⟩) ?_ ?_
      rotate_left; (· intro w'; go_simp; with_reducible rfl); rotate_left; (· simp only [Act.put, List.setIfInBounds_toArray, List.set_cons_zero, List.set_cons_succ]; rfl)
      refine pure_ (i := 2) (N := some 23) (v := ?_) (a' := ?_) #[true, true, true, false, false, false, false, false, false, false, false, false, false, false, false] rfl rfl (by kernel_rfl) (fun _ _ _ h => h) (Or.inl ⟨by rfl, ?_⟩) ?_ ?_
      rotate_left; (· intro w'; go_simp; with_reducible rfl); rotate_left; (· simp only [Act.put, List.setIfInBounds_toArray, List.set_cons_zero, List.set_cons_succ]; rfl)
      refine take_ (i := 3) (N := some 24) (v := ?_) (a' := ?_) #[true, true, true, true, false, false, false, false, false, false, false, false, false, false, false] rfl rfl (by kernel_rfl) (fun _ _ _ h => h) (Or.inl ⟨by rfl, ?_⟩) hSt ?_ ?_
      rotate_left
      · intro w' hS'
        have hL' := hS'.1
        go_simp
        with_reducible rfl
      rotate_left
      · simp only [Act.put, List.setIfInBounds_toArray, List.set_cons_zero, List.set_cons_succ]
        rfl
      refine pure_ (i := 4) (N := some 25) (v := ?_) (a' := ?_) #[true, true, true, true, true, false, false, false, false, false, false, false, false, false, false] rfl rfl (by kernel_rfl) (fun _ _ _ h => h) (Or.inl ⟨by rfl, ?_⟩) ?_ ?_
      rotate_left; (· intro w'; go_simp; with_reducible rfl); rotate_left; (· simp only [Act.put, List.setIfInBounds_toArray, List.set_cons_zero, List.set_cons_succ]; rfl)
      refine pure_ (i := 5) (N := some 26) (v := ?_) (a' := ?_) #[true, true, true, true, true, true, false, false, false, false, false, false, false, false, false] rfl rfl (by kernel_rfl) (fun _ _ _ h => h) (Or.inl ⟨by rfl, ?_⟩) ?_ ?_
      rotate_left; (· intro w'; go_simp; with_reducible rfl); rotate_left; (· simp only [Act.put, List.setIfInBounds_toArray, List.set_cons_zero, List.set_cons_succ]; rfl)
      refine pure_ (i := 6) (N := some 27) (v := ?_) (a' := ?_) #[true, true, true, true, true, true, true, false, false, false, false, false, false, false, false] rfl rfl (by kernel_rfl) (fun _ _ _ h => h) (Or.inl ⟨by rfl, ?_⟩) ?_ ?_
      rotate_left; (· intro w'; go_simp; with_reducible rfl); rotate_left; (· simp only [Act.put, List.setIfInBounds_toArray, List.set_cons_zero, List.set_cons_succ]; rfl)
      refine pure_ (i := 7) (N := some 28) (v := ?_) (a' := ?_) #[true, true, true, true, true, true, true, true, false, false, false, false, false, false, false] rfl rfl (by kernel_rfl) (fun _ _ _ h => h) (Or.inl ⟨by rfl, ?_⟩) ?_ ?_
      rotate_left; (· intro w'; go_simp; with_reducible rfl); rotate_left; (· simp only [Act.put, List.setIfInBounds_toArray, List.set_cons_zero, List.set_cons_succ]; rfl)
      refine take_ (i := 8) (N := some 29) (v := ?_) (a' := ?_) #[true, true, true, true, true, true, true, true, true, false, false, false, false, false, false] rfl rfl (by kernel_rfl) (fun _ _ _ h => h) (Or.inl ⟨by rfl, ?_⟩) hSt ?_ ?_
      rotate_left
      · intro w' hS'
        have hL' := hS'.2
        go_simp
        with_reducible rfl
      rotate_left
      · simp only [Act.put, List.setIfInBounds_toArray, List.set_cons_zero, List.set_cons_succ]
        rfl
      refine pure_ (i := 9) (N := some 30) (v := ?_) (a' := ?_) #[true, true, true, true, true, true, true, true, true, true, false, false, false, false, false] rfl rfl (by kernel_rfl) (fun _ _ _ h => h) (Or.inl ⟨by rfl, ?_⟩) ?_ ?_
      rotate_left; (· intro w'; go_simp; with_reducible rfl); rotate_left; (· simp only [Act.put, List.setIfInBounds_toArray, List.set_cons_zero, List.set_cons_succ]; rfl)
      refine pure_ (i := 10) (N := some 31) (v := ?_) (a' := ?_) #[true, true, true, true, true, true, true, true, true, true, true, false, false, false, false] rfl rfl (by kernel_rfl) (fun _ _ _ h => h) (Or.inl ⟨by rfl, ?_⟩) ?_ ?_
      rotate_left; (· intro w'; go_simp; with_reducible rfl); rotate_left; (· simp only [Act.put, List.setIfInBounds_toArray, List.set_cons_zero, List.set_cons_succ]; rfl)
      refine pure_ (i := 11) (N := some 32) (v := ?_) (a' := ?_) #[true, true, true, true, true, true, true, true, true, true, true, true, false, false, false] rfl rfl (by kernel_rfl) (fun _ _ _ h => h) (Or.inl ⟨by rfl, ?_⟩) ?_ ?_
      rotate_left; (· intro w'; go_simp; with_reducible rfl); rotate_left; (· simp only [Act.put, List.setIfInBounds_toArray, List.set_cons_zero, List.set_cons_succ]; rfl)
      refine take_ (i := 12) (N := some 33) (v := ?_) (a' := ?_) #[true, true, true, true, true, true, true, true, true, true, true, true, true, false, false] rfl rfl (by kernel_rfl) (fun _ _ _ h => h) (Or.inl ⟨by rfl, ?_⟩) hSt ?_ ?_
      rotate_left
      · intro w' hS'
        have hL' := hS'.1
        go_simp
        with_reducible rfl
      rotate_left
      · simp only [Act.put, List.setIfInBounds_toArray, List.set_cons_zero, List.set_cons_succ]
        rfl
      refine pure_ (i := 13) (N := some 34) (v := ?_) (a' := ?_) #[true, true, true, true, true, true, true, true, true, true, true, true, true, true, false] rfl rfl (by kernel_rfl) (fun _ _ _ h => h) (Or.inl ⟨by rfl, ?_⟩) ?_ ?_
      rotate_left; (· intro w'; go_simp; with_reducible rfl); rotate_left; (· simp only [Act.put, List.setIfInBounds_toArray, List.set_cons_zero, List.set_cons_succ]; rfl)
      refine pure_ (i := 14) (N := some 35) (v := ?_) (a' := ?_) #[true, true, true, true, true, true, true, true, true, true, true, true, true, true, true] rfl rfl (by kernel_rfl) (fun _ _ _ h => h) (Or.inl ⟨by rfl, ?_⟩) ?_ ?_
      rotate_left; (· intro w'; go_simp; with_reducible rfl); rotate_left; (· simp only [Act.put, List.setIfInBounds_toArray, List.set_cons_zero, List.set_cons_succ]; rfl)
      refine done_ (by kernel_rfl) ?_
      gi_wp2
      have v1 : SpansBox W.drew w.heap.size (spansOfL pre) := hbx
      have v2 : Boxed W.drew (w.heap.size + 1) 121 (.slice (some ⟨w.heap.size, 0, none⟩) 4 4) := hbv
      have v3 : Below w.heap.size w W.drew := below_drew hB
      have v4 : Below w.heap.size W W.drew := below_drew (Below.refl _ W)
      have v5 : KeepsFrom W0.heap.size W W.drew := (KeepsOthers.drew W).from _
      have v6 : PageBox W.drew Bx x.1.2.2 := bX
      generalize hV : W.drew = V at v1 v2 v3 v4 v5 v6 ⊢
      have hhiV := (v1.at_ x.1.1 hi4).2
      have hsqV := v6.cells.2.2.1
      have hfV := v1.frozen (x.1.1 * 2 + 1)
      clear hV hbx hlo hhi hf0 hf1 hc0_ hc1_ hc2_ hc3_ hc4_ hcs0 hcv hbv bs bX
      have hSt : (fun W' => W'.cell? ⟨w.heap.size, x.1.1 * 2 + 1, none⟩ = some (.int .i64 (spansOfL pre x.1.1).2) ∧ W'.cell? ⟨Bx, 2, none⟩ = some (.int .i64 x.1.2.2.f1.f1)) V.drew := ⟨hhiV, hsqV⟩
      refine start_round (S := fun W' => W'.cell? ⟨w.heap.size, x.1.1 * 2 + 1, none⟩ = some (.int .i64 (spansOfL pre x.1.1).2) ∧ W'.cell? ⟨Bx, 2, none⟩ = some (.int .i64 x.1.2.2.f1.f1)) (ds := [11]) #[false, false, false, false, false, false, false, false, false, false, false, false] (by kernel_rfl) rfl rfl (by kernel_rfl) (by rintro ⟨a, w, h⟩; exact h) ?_
      refine pure_ (i := 0) (N := some 42) (v := ?_) (a' := ?_) #[true, false, false, false, false, false, false, false, false, false, false, false] rfl rfl (by kernel_rfl) (fun _ _ _ h => h) (Or.inl ⟨by rfl, ?_⟩) ?_ ?_
      rotate_left; (· intro w'; go_simp; with_reducible rfl); rotate_left; (· simp only [Act.put, List.setIfInBounds_toArray, List.set_cons_zero, List.set_cons_succ]; rfl)
      refine pure_ (i := 1) (N := some 43) (v := ?_) (a' := ?_) #[true, true, false, false, false, false, false, false, false, false, false, false] rfl rfl (by kernel_rfl) (fun _ _ _ h => h) (Or.inl ⟨by rfl, ?_⟩) ?_ ?_
      rotate_left; (· intro w'; go_simp; with_reducible rfl); rotate_left; (· simp only [Act.put, List.setIfInBounds_toArray, List.set_cons_zero, List.set_cons_succ]; rfl)
      refine pure_ (i := 2) (N := some 44) (v := ?_) (a' := ?_) #[true, true, true, false, false, false, false, false, false, false, false, false] rfl rfl (by kernel_rfl) (fun _ _ _ h => h) (Or.inl ⟨by rfl, ?_⟩) ?_ ?_
      rotate_left; (· intro w'; go_simp; with_reducible rfl); rotate_left; (· simp only [Act.put, List.setIfInBounds_toArray, List.set_cons_zero, List.set_cons_succ]; rfl)
      refine pure_ (i := 3) (N := some 45) (v := ?_) (a' := ?_) #[true, true, true, true, false, false, false, false, false, false, false, false] rfl rfl (by kernel_rfl) (fun _ _ _ h => h) (Or.inl ⟨by rfl, ?_⟩) ?_ ?_
      rotate_left; (· intro w'; go_simp; with_reducible rfl); rotate_left; (· simp only [Act.put, List.setIfInBounds_toArray, List.set_cons_zero, List.set_cons_succ]; rfl)
      refine take_ (i := 4) (N := some 46) (v := ?_) (a' := ?_) #[true, true, true, true, true, false, false, false, false, false, false, false] rfl rfl (by kernel_rfl) (fun _ _ _ h => h) (Or.inl ⟨by rfl, ?_⟩) hSt ?_ ?_
      rotate_left
      · intro w' hS'
        have hL' := hS'.1
        go_simp
        with_reducible rfl
      rotate_left
      · simp only [Act.put, List.setIfInBounds_toArray, List.set_cons_zero, List.set_cons_succ]
        rfl
      refine pure_ (i := 5) (N := some 47) (v := ?_) (a' := ?_) #[true, true, true, true, true, true, false, false, false, false, false, false] rfl rfl (by kernel_rfl) (fun _ _ _ h => h) (Or.inl ⟨by rfl, ?_⟩) ?_ ?_
      rotate_left; (· intro w'; go_simp; with_reducible rfl); rotate_left; (· simp only [Act.put, List.setIfInBounds_toArray, List.set_cons_zero, List.set_cons_succ]; rfl)
      refine pure_ (i := 6) (N := some 48) (v := ?_) (a' := ?_) #[true, true, true, true, true, true, true, false, false, false, false, false] rfl rfl (by kernel_rfl) (fun _ _ _ h => h) (Or.inl ⟨by rfl, ?_⟩) ?_ ?_
      rotate_left; (· intro w'; go_simp; with_reducible rfl); rotate_left; (· simp only [Act.put, List.setIfInBounds_toArray, List.set_cons_zero, List.set_cons_succ]; rfl)
      refine take_ (i := 7) (N := some 49) (v := ?_) (a' := ?_) #[true, true, true, true, true, true, true, true, false, false, false, false] rfl rfl (by kernel_rfl) (fun _ _ _ h => h) (Or.inl ⟨by rfl, ?_⟩) hSt ?_ ?_
      rotate_left
      · intro w' hS'
        have hL' := hS'.2
        go_simp
        with_reducible rfl
      rotate_left
      · simp only [Act.put, List.setIfInBounds_toArray, List.set_cons_zero, List.set_cons_succ]
        rfl
      refine pure_ (i := 8) (N := some 50) (v := ?_) (a' := ?_) #[true, true, true, true, true, true, true, true, true, false, false, false] rfl rfl (by kernel_rfl) (fun _ _ _ h => h) (Or.inl ⟨by rfl, ?_⟩) ?_ ?_
      rotate_left; (· intro w'; go_simp; with_reducible rfl); rotate_left; (· simp only [Act.put, List.setIfInBounds_toArray, List.set_cons_zero, List.set_cons_succ]; rfl)
      refine pure_ (i := 9) (N := some 51) (v := ?_) (a' := ?_) #[true, true, true, true, true, true, true, true, true, true, false, false] rfl rfl (by kernel_rfl) (fun _ _ _ h => h) (Or.inl ⟨by rfl, ?_⟩) ?_ ?_
      rotate_left; (· intro w'; go_simp; with_reducible rfl); rotate_left; (· simp only [Act.put, List.setIfInBounds_toArray, List.set_cons_zero, List.set_cons_succ]; rfl)
      refine pure_ (i := 10) (N := some 52) (v := ?_) (a' := ?_) #[true, true, true, true, true, true, true, true, true, true, true, false] rfl rfl (by kernel_rfl) (fun _ _ _ h => h) (Or.inl ⟨by rfl, ?_⟩) ?_ ?_
      rotate_left; (· intro w'; go_simp; with_reducible rfl); rotate_left; (· simp only [Act.put, List.setIfInBounds_toArray, List.set_cons_zero, List.set_cons_succ]; rfl)
      refine last_ (i := 11) (N := none) #[true, true, true, true, true, true, true, true, true, true, true, true] rfl rfl (by kernel_rfl) (by decide) ?_
      intro K hK
      refine skip_ (w1 := ?_) (by rfl) rfl ?_ ?_
      rotate_left
      · go_simp
        rfl
      refine hK.out _ _ ?_
      clear hK K
      refine done_ (by kernel_rfl) ?_
      have k1 := spansStep_hi (show SpansBox V.drew w.heap.size (spansOfL pre) from v1) x.1.1 hi4 (if (spansOfL pre x.1.1).2 < x.1.2.2.f1.f1 then x.1.2.2.f1.f1 else (spansOfL pre x.1.1).2)
      refine ⟨v5.trans (((KeepsOthers.drew V).trans (KeepsOthers.setCell _ _ _)).from _), v4.trans ((below_drew (Below.refl _ V)).setCell (p := ⟨w.heap.size, x.1.1 * 2 + 1, none⟩) (Nat.le_refl _) _), ?_, blk_far v2 (p := ⟨w.heap.size, x.1.1 * 2 + 1, none⟩) (by show w.heap.size + 1 ≠ w.heap.size; omega) _, (below_drew v3).setCell (p := ⟨w.heap.size, x.1.1 * 2 + 1, none⟩) (Nat.le_refl _) _⟩
      rw [hsn]
      have e : spansStep (spansOfL pre) x.1 = (fun j => if j = x.1.1 then (((spansOfL pre) j).1, (if (spansOfL pre x.1.1).2 < x.1.2.2.f1.f1 then x.1.2.2.f1.f1 else (spansOfL pre x.1.1).2)) else (spansOfL pre) j) := by
        funext j
        unfold spansStep stepSpan mx
        by_cases hj : j = x.1.1
        rotate_left
        · simp [hj]
        subst hj
        rw [if_pos rfl, if_pos hs1, if_neg (fun h => h.elim hz (fun h => by omega)), if_pos rfl]
      rw [e]
      exact k1
    have hw2 : decide (x.1.2.2.f1.f1 < (spansOfL pre x.1.1).1) = true := decide_eq_true hw
    gi_wp2
    have hSt : (fun W' => W'.cell? ⟨w.heap.size, x.1.1 * 2, none⟩ = some (.int .i64 (spansOfL pre x.1.1).1) ∧ W'.cell? ⟨Bx, 2, none⟩ = some (.int .i64 x.1.2.2.f1.f1)) W.drew := ⟨hlo, hc2_⟩
    refine start_round (S := fun W' => W'.cell? ⟨w.heap.size, x.1.1 * 2, none⟩ = some (.int .i64 (spansOfL pre x.1.1).1) ∧ W'.cell? ⟨Bx, 2, none⟩ = some (.int .i64 x.1.2.2.f1.f1)) (ds := []) #[false, false, false, false, false, false, false, false, false, false, false, false, false, false, false] (by kernel_rfl) rfl rfl (by kernel_rfl) (by rintro ⟨a, w, h⟩; exact h) ?_
    refine pure_ (i := 0) (N := some 21) (v := ?_) (a' := ?_) #[true, false, false, false, false, false, false, false, false, false, false, false, false, false, false] rfl rfl (by kernel_rfl) (fun _ _ _ h => h) (Or.inl ⟨by rfl, ?_⟩) ?_ ?_
    rotate_left; (· intro w'; go_simp; with_reducible rfl); rotate_left; (· simp only [Act.put, List.setIfInBounds_toArray, List.set_cons_zero, List.set_cons_succ]; rfl)
    refine pure_ (i := 1) (N := some 22) (v := ?_) (a' := ?_) #[true, true, false, false, false, false, false, false, false, false, false, false, false, false, false] rfl rfl (by kernel_rfl) (fun _ _ _ h => h) (Or.inl ⟨by rfl, ?_⟩) ?_ ?_
    rotate_left; (· intro w'; go_simp; with_reducible rfl); rotate_left; (· simp only [Act.put, List.setIfInBounds_toArray, List.set_cons_zero, List.set_cons_succ]; rfl)
    refine pure_ (i := 2) (N := some 23) (v := ?_) (a' := ?_) #[true, true, true, false, false, false, false, false, false, false, false, false, false, false, false] rfl rfl (by kernel_rfl) (fun _ _ _ h => h) (Or.inl ⟨by rfl, ?_⟩) ?_ ?_
    rotate_left; (· intro w'; go_simp; with_reducible rfl); rotate_left; (· simp only [Act.put, List.setIfInBounds_toArray, List.set_cons_zero, List.set_cons_succ]; rfl)
    refine take_ (i := 3) (N := some 24) (v := ?_) (a' := ?_) #[true, true, true, true, false, false, false, false, false, false, false, false, false, false, false] rfl rfl (by kernel_rfl) (fun _ _ _ h => h) (Or.inl ⟨by rfl, ?_⟩) hSt ?_ ?_
    rotate_left
    · intro w' hS'
      have hL' := hS'.1
      go_simp
      with_reducible rfl
    rotate_left
    · simp only [Act.put, List.setIfInBounds_toArray, List.set_cons_zero, List.set_cons_succ]
      rfl
    refine pure_ (i := 4) (N := some 25) (v := ?_) (a' := ?_) #[true, true, true, true, true, false, false, false, false, false, false, false, false, false, false] rfl rfl (by kernel_rfl) (fun _ _ _ h => h) (Or.inl ⟨by rfl, ?_⟩) ?_ ?_
    rotate_left; (· intro w'; go_simp; with_reducible rfl); rotate_left; (· simp only [Act.put, List.setIfInBounds_toArray, List.set_cons_zero, List.set_cons_succ]; rfl)
    refine pure_ (i := 5) (N := some 26) (v := ?_) (a' := ?_) #[true, true, true, true, true, true, false, false, false, false, false, false, false, false, false] rfl rfl (by kernel_rfl) (fun _ _ _ h => h) (Or.inl ⟨by rfl, ?_⟩) ?_ ?_
    rotate_left; (· intro w'; go_simp; with_reducible rfl); rotate_left; (· simp only [Act.put, List.setIfInBounds_toArray, List.set_cons_zero, List.set_cons_succ]; rfl)
    refine pure_ (i := 6) (N := some 27) (v := ?_) (a' := ?_) #[true, true, true, true, true, true, true, false, false, false, false, false, false, false, false] rfl rfl (by kernel_rfl) (fun _ _ _ h => h) (Or.inl ⟨by rfl, ?_⟩) ?_ ?_
    rotate_left; (· intro w'; go_simp; with_reducible rfl); rotate_left; (· simp only [Act.put, List.setIfInBounds_toArray, List.set_cons_zero, List.set_cons_succ]; rfl)
    refine pure_ (i := 7) (N := some 28) (v := ?_) (a' := ?_) #[true, true, true, true, true, true, true, true, false, false, false, false, false, false, false] rfl rfl (by kernel_rfl) (fun _ _ _ h => h) (Or.inl ⟨by rfl, ?_⟩) ?_ ?_
    rotate_left; (· intro w'; go_simp; with_reducible rfl); rotate_left; (· simp only [Act.put, List.setIfInBounds_toArray, List.set_cons_zero, List.set_cons_succ]; rfl)
    refine take_ (i := 8) (N := some 29) (v := ?_) (a' := ?_) #[true, true, true, true, true, true, true, true, true, false, false, false, false, false, false] rfl rfl (by kernel_rfl) (fun _ _ _ h => h) (Or.inl ⟨by rfl, ?_⟩) hSt ?_ ?_
    rotate_left
    · intro w' hS'
      have hL' := hS'.2
      go_simp
      with_reducible rfl
    rotate_left
    · simp only [Act.put, List.setIfInBounds_toArray, List.set_cons_zero, List.set_cons_succ]
      rfl
    refine pure_ (i := 9) (N := some 30) (v := ?_) (a' := ?_) #[true, true, true, true, true, true, true, true, true, true, false, false, false, false, false] rfl rfl (by kernel_rfl) (fun _ _ _ h => h) (Or.inl ⟨by rfl, ?_⟩) ?_ ?_
    rotate_left; (· intro w'; go_simp; with_reducible rfl); rotate_left; (· simp only [Act.put, List.setIfInBounds_toArray, List.set_cons_zero, List.set_cons_succ]; rfl)
    refine pure_ (i := 10) (N := some 31) (v := ?_) (a' := ?_) #[true, true, true, true, true, true, true, true, true, true, true, false, false, false, false] rfl rfl (by kernel_rfl) (fun _ _ _ h => h) (Or.inl ⟨by rfl, ?_⟩) ?_ ?_
    rotate_left; (· intro w'; go_simp; with_reducible rfl); rotate_left; (· simp only [Act.put, List.setIfInBounds_toArray, List.set_cons_zero, List.set_cons_succ]; rfl)
    refine pure_ (i := 11) (N := some 32) (v := ?_) (a' := ?_) #[true, true, true, true, true, true, true, true, true, true, true, true, false, false, false] rfl rfl (by kernel_rfl) (fun _ _ _ h => h) (Or.inl ⟨by rfl, ?_⟩) ?_ ?_
    rotate_left; (· intro w'; go_simp; with_reducible rfl); rotate_left; (· simp only [Act.put, List.setIfInBounds_toArray, List.set_cons_zero, List.set_cons_succ]; rfl)
    refine take_ (i := 12) (N := some 33) (v := ?_) (a' := ?_) #[true, true, true, true, true, true, true, true, true, true, true, true, true, false, false] rfl rfl (by kernel_rfl) (fun _ _ _ h => h) (Or.inl ⟨by rfl, ?_⟩) hSt ?_ ?_
    rotate_left
    · intro w' hS'
      have hL' := hS'.1
      go_simp
      with_reducible rfl
    rotate_left
    · simp only [Act.put, List.setIfInBounds_toArray, List.set_cons_zero, List.set_cons_succ]
      rfl
    refine pure_ (i := 13) (N := some 34) (v := ?_) (a' := ?_) #[true, true, true, true, true, true, true, true, true, true, true, true, true, true, false] rfl rfl (by kernel_rfl) (fun _ _ _ h => h) (Or.inl ⟨by rfl, ?_⟩) ?_ ?_
    rotate_left; (· intro w'; go_simp; with_reducible rfl); rotate_left; (· simp only [Act.put, List.setIfInBounds_toArray, List.set_cons_zero, List.set_cons_succ]; rfl)
    refine pure_ (i := 14) (N := some 35) (v := ?_) (a' := ?_) #[true, true, true, true, true, true, true, true, true, true, true, true, true, true, true] rfl rfl (by kernel_rfl) (fun _ _ _ h => h) (Or.inl ⟨by rfl, ?_⟩) ?_ ?_
    rotate_left; (· intro w'; go_simp; with_reducible rfl); rotate_left; (· simp only [Act.put, List.setIfInBounds_toArray, List.set_cons_zero, List.set_cons_succ]; rfl)
    refine done_ (by kernel_rfl) ?_
    gi_wp2
    have v1 : SpansBox (W.setCell ⟨w.heap.size, x.1.1 * 2, none⟩ (.int .i64 x.1.2.2.f1.f1)).drew w.heap.size (fun j => if j = x.1.1 then (x.1.2.2.f1.f1, (spansOfL pre j).2) else spansOfL pre j) := spansStep_lo hbx x.1.1 hi4 x.1.2.2.f1.f1
    have v2 : Boxed (W.setCell ⟨w.heap.size, x.1.1 * 2, none⟩ (.int .i64 x.1.2.2.f1.f1)).drew (w.heap.size + 1) 121 (.slice (some ⟨w.heap.size, 0, none⟩) 4 4) := blk_far hbv (p := ⟨w.heap.size, x.1.1 * 2, none⟩) (by show w.heap.size + 1 ≠ w.heap.size; omega) _
    have v3 : Below w.heap.size w (W.setCell ⟨w.heap.size, x.1.1 * 2, none⟩ (.int .i64 x.1.2.2.f1.f1)).drew := below_drew (hB.setCell (p := ⟨w.heap.size, x.1.1 * 2, none⟩) (Nat.le_refl _) _)
    have v4 : Below w.heap.size W (W.setCell ⟨w.heap.size, x.1.1 * 2, none⟩ (.int .i64 x.1.2.2.f1.f1)).drew := below_drew ((Below.refl _ W).setCell (p := ⟨w.heap.size, x.1.1 * 2, none⟩) (Nat.le_refl _) _)
    have v5 : KeepsFrom W0.heap.size W (W.setCell ⟨w.heap.size, x.1.1 * 2, none⟩ (.int .i64 x.1.2.2.f1.f1)).drew := ((KeepsOthers.setCell W ⟨w.heap.size, x.1.1 * 2, none⟩ (.int .i64 x.1.2.2.f1.f1)).trans (KeepsOthers.drew _)).from _
    have v6 : PageBox (W.setCell ⟨w.heap.size, x.1.1 * 2, none⟩ (.int .i64 x.1.2.2.f1.f1)).drew Bx x.1.2.2 := blk_far bX (p := ⟨w.heap.size, x.1.1 * 2, none⟩) (by show Bx ≠ w.heap.size; omega) _
    generalize hV : (W.setCell ⟨w.heap.size, x.1.1 * 2, none⟩ (.int .i64 x.1.2.2.f1.f1)).drew = V at v1 v2 v3 v4 v5 v6 ⊢
    have hhiV : V.cell? ⟨w.heap.size, x.1.1 * 2 + 1, none⟩ = some (.int .i64 (spansOfL pre x.1.1).2) := by have := (v1.at_ x.1.1 hi4).2; simpa using this
    have hsqV := v6.cells.2.2.1
    have hfV := v1.frozen (x.1.1 * 2 + 1)
    clear hV hbx hlo hhi hf0 hf1 hc0_ hc1_ hc2_ hc3_ hc4_ hcs0 hcv hbv bs bX
    have hSt : (fun W' => W'.cell? ⟨w.heap.size, x.1.1 * 2 + 1, none⟩ = some (.int .i64 (spansOfL pre x.1.1).2) ∧ W'.cell? ⟨Bx, 2, none⟩ = some (.int .i64 x.1.2.2.f1.f1)) V.drew := ⟨hhiV, hsqV⟩
    refine start_round (S := fun W' => W'.cell? ⟨w.heap.size, x.1.1 * 2 + 1, none⟩ = some (.int .i64 (spansOfL pre x.1.1).2) ∧ W'.cell? ⟨Bx, 2, none⟩ = some (.int .i64 x.1.2.2.f1.f1)) (ds := [11]) #[false, false, false, false, false, false, false, false, false, false, false, false] (by kernel_rfl) rfl rfl (by kernel_rfl) (by rintro ⟨a, w, h⟩; exact h) ?_
    refine pure_ (i := 0) (N := some 42) (v := ?_) (a' := ?_) #[true, false, false, false, false, false, false, false, false, false, false, false] rfl rfl (by kernel_rfl) (fun _ _ _ h => h) (Or.inl ⟨by rfl, ?_⟩) ?_ ?_
    rotate_left; (· intro w'; go_simp; with_reducible rfl); rotate_left; (· simp only [Act.put, List.setIfInBounds_toArray, List.set_cons_zero, List.set_cons_succ]; rfl)
    refine pure_ (i := 1) (N := some 43) (v := ?_) (a' := ?_) #[true, true, false, false, false, false, false, false, false, false, false, false] rfl rfl (by kernel_rfl) (fun _ _ _ h => h) (Or.inl ⟨by rfl, ?_⟩) ?_ ?_
    rotate_left; (· intro w'; go_simp; with_reducible rfl); rotate_left; (· simp only [Act.put, List.setIfInBounds_toArray, List.set_cons_zero, List.set_cons_succ]; rfl)
    refine pure_ (i := 2) (N := some 44) (v := ?_) (a' := ?_) #[true, true, true, false, false, false, false, false, false, false, false, false] rfl rfl (by kernel_rfl) (fun _ _ _ h => h) (Or.inl ⟨by rfl, ?_⟩) ?_ ?_
    rotate_left; (· intro w'; go_simp; with_reducible rfl); rotate_left; (· simp only [Act.put, List.setIfInBounds_toArray, List.set_cons_zero, List.set_cons_succ]; rfl)
    refine pure_ (i := 3) (N := some 45) (v := ?_) (a' := ?_) #[true, true, true, true, false, false, false, false, false, false, false, false] rfl rfl (by kernel_rfl) (fun _ _ _ h => h) (Or.inl ⟨by rfl, ?_⟩) ?_ ?_
    rotate_left; (· intro w'; go_simp; with_reducible rfl); rotate_left; (· simp only [Act.put, List.setIfInBounds_toArray, List.set_cons_zero, List.set_cons_succ]; rfl)
    refine take_ (i := 4) (N := some 46) (v := ?_) (a' := ?_) #[true, true, true, true, true, false, false, false, false, false, false, false] rfl rfl (by kernel_rfl) (fun _ _ _ h => h) (Or.inl ⟨by rfl, ?_⟩) hSt ?_ ?_
    rotate_left
    · intro w' hS'
      have hL' := hS'.1
      go_simp
      with_reducible rfl
    rotate_left
    · simp only [Act.put, List.setIfInBounds_toArray, List.set_cons_zero, List.set_cons_succ]
      rfl
    refine pure_ (i := 5) (N := some 47) (v := ?_) (a' := ?_) #[true, true, true, true, true, true, false, false, false, false, false, false] rfl rfl (by kernel_rfl) (fun _ _ _ h => h) (Or.inl ⟨by rfl, ?_⟩) ?_ ?_
    rotate_left; (· intro w'; go_simp; with_reducible rfl); rotate_left; (· simp only [Act.put, List.setIfInBounds_toArray, List.set_cons_zero, List.set_cons_succ]; rfl)
    refine pure_ (i := 6) (N := some 48) (v := ?_) (a' := ?_) #[true, true, true, true, true, true, true, false, false, false, false, false] rfl rfl (by kernel_rfl) (fun _ _ _ h => h) (Or.inl ⟨by rfl, ?_⟩) ?_ ?_
    rotate_left; (· intro w'; go_simp; with_reducible rfl); rotate_left; (· simp only [Act.put, List.setIfInBounds_toArray, List.set_cons_zero, List.set_cons_succ]; rfl)
    refine take_ (i := 7) (N := some 49) (v := ?_) (a' := ?_) #[true, true, true, true, true, true, true, true, false, false, false, false] rfl rfl (by kernel_rfl) (fun _ _ _ h => h) (Or.inl ⟨by rfl, ?_⟩) hSt ?_ ?_
    rotate_left
    · intro w' hS'
      have hL' := hS'.2
      go_simp
      with_reducible rfl
    rotate_left
    · simp only [Act.put, List.setIfInBounds_toArray, List.set_cons_zero, List.set_cons_succ]
      rfl
    refine pure_ (i := 8) (N := some 50) (v := ?_) (a' := ?_) #[true, true, true, true, true, true, true, true, true, false, false, false] rfl rfl (by kernel_rfl) (fun _ _ _ h => h) (Or.inl ⟨by rfl, ?_⟩) ?_ ?_
    rotate_left; (· intro w'; go_simp; with_reducible rfl); rotate_left; (· simp only [Act.put, List.setIfInBounds_toArray, List.set_cons_zero, List.set_cons_succ]; rfl)
    refine pure_ (i := 9) (N := some 51) (v := ?_) (a' := ?_) #[true, true, true, true, true, true, true, true, true, true, false, false] rfl rfl (by kernel_rfl) (fun _ _ _ h => h) (Or.inl ⟨by rfl, ?_⟩) ?_ ?_
    rotate_left; (· intro w'; go_simp; with_reducible rfl); rotate_left; (· simp only [Act.put, List.setIfInBounds_toArray, List.set_cons_zero, List.set_cons_succ]; rfl)
    refine pure_ (i := 10) (N := some 52) (v := ?_) (a' := ?_) #[true, true, true, true, true, true, true, true, true, true, true, false] rfl rfl (by kernel_rfl) (fun _ _ _ h => h) (Or.inl ⟨by rfl, ?_⟩) ?_ ?_
    rotate_left; (· intro w'; go_simp; with_reducible rfl); rotate_left; (· simp only [Act.put, List.setIfInBounds_toArray, List.set_cons_zero, List.set_cons_succ]; rfl)
    refine last_ (i := 11) (N := none) #[true, true, true, true, true, true, true, true, true, true, true, true] rfl rfl (by kernel_rfl) (by decide) ?_
    intro K hK
    refine skip_ (w1 := ?_) (by rfl) rfl ?_ ?_
    rotate_left
    · go_simp
      rfl
    refine hK.out _ _ ?_
    clear hK K
    refine done_ (by kernel_rfl) ?_
    have k1 := spansStep_hi (show SpansBox V.drew w.heap.size (fun j => if j = x.1.1 then (x.1.2.2.f1.f1, (spansOfL pre j).2) else spansOfL pre j) from v1) x.1.1 hi4 (if (spansOfL pre x.1.1).2 < x.1.2.2.f1.f1 then x.1.2.2.f1.f1 else (spansOfL pre x.1.1).2)
    refine ⟨v5.trans (((KeepsOthers.drew V).trans (KeepsOthers.setCell _ _ _)).from _), v4.trans ((below_drew (Below.refl _ V)).setCell (p := ⟨w.heap.size, x.1.1 * 2 + 1, none⟩) (Nat.le_refl _) _), ?_, blk_far v2 (p := ⟨w.heap.size, x.1.1 * 2 + 1, none⟩) (by show w.heap.size + 1 ≠ w.heap.size; omega) _, (below_drew v3).setCell (p := ⟨w.heap.size, x.1.1 * 2 + 1, none⟩) (Nat.le_refl _) _⟩
    rw [hsn]
    have e : spansStep (spansOfL pre) x.1 = (fun j => if j = x.1.1 then (((fun j => if j = x.1.1 then (x.1.2.2.f1.f1, (spansOfL pre j).2) else spansOfL pre j) j).1, (if (spansOfL pre x.1.1).2 < x.1.2.2.f1.f1 then x.1.2.2.f1.f1 else (spansOfL pre x.1.1).2)) else (fun j => if j = x.1.1 then (x.1.2.2.f1.f1, (spansOfL pre j).2) else spansOfL pre j) j) := by
      funext j
      unfold spansStep stepSpan mx
      by_cases hj : j = x.1.1
      rotate_left
      · simp [hj]
      subst hj
      rw [if_pos rfl, if_pos hs1, if_pos (Or.inr hw), if_pos rfl]
      simp
    rw [e]
    exact k1
  case done =>
    rintro D ys W hD hys ⟨hbx, hbv, hB⟩ hK
    rw [spansOfL_all hys] at hbx
    have hcv := hbv.cell
    gi_wp2
    refine ⟨by simp, .inl ⟨_, _, rfl, run_takeDeferred hK, ?_⟩⟩
    have hbq := SpansBox.own (β := Unit) _ (fun _ => spansF l0) () _ _ _ hbx (grownBy_putObj' _ D (.deferred none)) (fun r e => by cases e; exact ⟨_, hK, rfl⟩)
    exact ⟨_, results_tmp rfl _ _ _, w.heap.size, rfl, hbq, Nat.le_refl _, hB.trans (belowK_b (w := w) (Nat.le_refl _) W D _ _ (by have := hB0.size; omega) hK rfl rfl)⟩
  case stop =>
    rintro D c pre W _ _ h _
    exact h.elim

end Go.Proofs.Ytoedphbikgoapaa.Rb
