-- printed by wip/pp/pp.py
import Derived.Test.YtoedphbikgoapaaRb0
import Derived.RangeFuncNested
import Derived.RangeFuncBound
import Derived.RangeFuncCalls
import Derived.RangeFuncLeaves
import Derived.Shelf.Abstract
import Derived.WalkKit
import Derived.OwnWalkIn
import Derived.TacticsInMore
import Derived.LoopNIn
import Derived.LoopIn
import Derived.IntWalk
namespace Go.Proofs.Ytoedphbikgoapaa.Rb
open Go.RowKit Go.Proofs.YtoedphbikgoapaaW.PrintWords Go.Proofs.YtoedphbikgoapaaW.PrintLast Go.Proofs.YtoedphbikgoapaaW.PrintMore
attribute [local go_sem] max2_int min2_int max_two min_two max_three min_three max_four min_four   -- for this text's walks alone
set_option linter.unusedVariables false
set_option linter.unusedSimpArgs false

-- IMPORT Derived.RangeFuncNested
-- IMPORT Derived.RangeFuncBound
-- IMPORT Derived.RangeFuncCalls
-- IMPORT Derived.RangeFuncLeaves
-- IMPORT Derived.Shelf.Abstract
-- IMPORT Derived.WalkKit
-- IMPORT Derived.OwnWalkIn
-- IMPORT Derived.TacticsInMore
-- IMPORT Derived.LoopNIn
-- IMPORT Derived.LoopIn
-- IMPORT Derived.IntWalk

attribute [local go_sem] Oper.semAt_some
abbrev Spot := Nat × Nat × S71
def spotsB (i : Nat) : Nat → List S71 → List Spot
  | _, [] => []
  | j, p :: ps => (i, j, p) :: spotsB i (j + 1) ps
def spotsF : Nat → List S65 → List Spot
  | _, [] => []
  | i, b :: bs => spotsB i 0 b.f0 ++ spotsF (i + 1) bs
def pagesL (l : List S65) : List S71 := (spotsF 0 l).map (·.2.2)
abbrev spotArgs (x : Spot) : Array Value := #[.agg #[.int .i64 (x.1 : Int), .int .i64 (x.2.1 : Int)], .agg #[.int .i64 x.2.2.f0, .int .i64 x.2.2.f1.f0, .int .i64 x.2.2.f1.f1, .int .i64 x.2.2.f1.f2, .int .i64 x.2.2.f1.f3]]
theorem drop_pg {l : List S71} {i : Nat} (h : i < l.length) : l.drop i = rd_T71 l (i : Int) :: l.drop (i + 1) := by
  rw [List.drop_eq_getElem_cons h]
  simp [rd_T71, List.getD_eq_getElem?_getD, h]
theorem drop_bl {l : List S65} {i : Nat} (h : i < l.length) : l.drop i = rd_T65 l (i : Int) :: l.drop (i + 1) := by
  rw [List.drop_eq_getElem_cons h]
  simp [rd_T65, List.getD_eq_getElem?_getD, h]
set_option maxHeartbeats 1000000 in
theorem eachPage_in (F : Fence) (n : Nat) (hF : F.fn 83) (hro : F.round = none) (A : Option Addr) (len c : Nat) (w : World) :
    CallsIn F n Try.prog 83 #[.slice A len c] w fun e w' => e = .returned (.func (.func 97) #[] #[.pointer (some ⟨w.heap.size, 0, none⟩)]) ∧ w' = w.alloc (.cells #[.slice A len c] 26) := by
  refine callsIn_of_wp Try.func83 rfl hF ?_ hro
  simp only [Try.ntmps83, List.size_toArray, List.length_cons, List.length_nil, Nat.reduceAdd, Nat.reduceSub, Array.replicate_succ, Array.replicate_zero, List.push_toArray, List.append_toArray, List.nil_append, List.cons_append]
  gi_wp2
  go_ret
  exact ⟨rfl, rfl⟩
set_option maxRecDepth 100000 in
set_option maxHeartbeats 4000000 in
theorem eachPage1_in (F : Fence) (n : Nat) (hF : F.fn 97) (hro : F.round = none) (hn : 1 ≤ n) (T : Spot → Prop) (l Bf : Nat) (A0 : Option Addr) (c0 : Nat) (l0 : List S65) (w : World)
    (hr0 : Kd.C k65 w A0 l0.length l0) (hT : ∀ x ∈ spotsF 0 l0, T x) (J Jx : List {x : Spot // T x} → World → Prop) (W : World) (hJ : AbidesFrom W.heap.size J)
    (hY : ∀ pre x W1, J pre W1 → pre.length < (spotsF 0 l0).length → YieldAt F (n - 1) Try.prog l (spotArgs x.1) W1 fun e W' =>
      (e = .returned (.bool true) ∧ J (pre ++ [x]) W' ∧ Below w.heap.size W1 W') ∨ (e = .returned (.bool false) ∧ Jx (pre ++ [x]) W'))
    (hB : Below w.heap.size w W) (hBf : W.cell? ⟨Bf, 0, none⟩ = some (.slice A0 l0.length c0)) (h0 : J [] W) :
    CallsIn F n Try.prog 97 #[.func (.yield l) #[] #[], .pointer (some ⟨Bf, 0, none⟩)] W fun e W' => (∃ v, e = .returned v) ∧
      ((∃ ys, ys.map (·.1) = spotsF 0 l0 ∧ J ys W') ∨ (∃ pre, True ∧ Jx pre W')) := by
  have hJa : ∀ s A o, J s A → J s (A.alloc o) := fun s A o h => hJ s A _ none h (World.grownBy_alloc A o none) (by simp)
  have hBa : ∀ A o, Below w.heap.size w A → Below w.heap.size w (A.alloc o) := fun A o h => h.alloc h.size o
  have hlm := Kd.C_max hr0
  refine callsIn_of_wp Try.func97 rfl hF ?_ hro
  simp only [Try.ntmps97, List.size_toArray, List.length_cons, List.length_nil, Nat.reduceAdd, Nat.reduceSub, Array.replicate_succ, Array.replicate_zero, List.push_toArray, List.append_toArray, List.nil_append, List.cons_append]
  gi_wp2
  gi_loopw [9] (fun v9 wr => ∃ (i : Nat) (pre : List {x : Spot // T x}), v9 = .int .i64 (i : Int) ∧ i ≤ l0.length ∧ pre.map (·.1) ++ spotsF i (l0.drop i) = spotsF 0 l0 ∧ J pre wr ∧ Below w.heap.size w wr)
    (fun v9 _ => l0.length - (intOf v9).toNat)
  case atStart => exact ⟨0, [], rfl, Nat.zero_le _, rfl, h0, hB⟩
  case round =>
    obtain ⟨i, pre, rfl, hi, hp, hJs, hBs⟩ := hrel
    by_cases ci : i < l0.length
    rotate_left
    · obtain rfl : i = l0.length := by omega
      rw [List.drop_eq_nil_of_le (Nat.le_refl _), spotsF, List.append_nil] at hp
      gi_wp2
      go_end0
      exact ⟨⟨_, rfl⟩, .inl ⟨_, hp, hJs⟩⟩
    have cib : decide ((i : Int) < (l0.length : Int)) = true := decide_eq_true (by omega)
    have p1 : 0 ≤ (i : Int) := by omega
    have q1 : (i : Int) < (l0.length : Int) := by omega
    obtain ⟨ad1, A1, c1, e1, hx1_0, hx1_1, hl1, hi1⟩ := at_T65 hr0 (i : Int) p1 q1
    cases e1
    replace hx1_0 := (hBs.cell (World.block_lt_of_cell? w _ hx1_0)).trans hx1_0
    replace hx1_1 := (hBs.cell (World.block_lt_of_cell? w _ hx1_1)).trans hx1_1
    have hlm1 := Kd.C_max hi1
    simp only [Int.toNat_natCast] at hx1_0 hx1_1
    rw [drop_bl ci, spotsF] at hp
    generalize hbl : rd_T65 l0 (i : Int) = bl at hx1_0 hx1_1 hl1 hi1 hlm1 hp
    have hw9 : wrap64 ((i : Int) + 1) = ((i + 1 : Nat) : Int) := by rw [IntWalk.wrap64_in _ (by omega)]; omega
    gi_wp2
    gi_loopw [17] (fun v17 w2 => ∃ (j : Nat) (pre2 : List {x : Spot // T x}), v17 = .int .i64 (j : Int) ∧ j ≤ bl.f0.length ∧ pre2.map (·.1) ++ (spotsB i j (bl.f0.drop j) ++ spotsF (i + 1) (l0.drop (i + 1))) = spotsF 0 l0 ∧ J pre2 w2 ∧ Below w.heap.size w w2)
      (fun v17 _ => bl.f0.length - (intOf v17).toNat)
    case atStart => exact ⟨0, pre, rfl, Nat.zero_le _, hp, hJa _ _ _ hJs, hBa _ _ hBs⟩
    case round =>
      clear hx1_0 hx1_1 hJs hBs hp pre
      obtain ⟨j, pre2, rfl, hj, hp, hJs, hBs⟩ := hrel
      by_cases cj : j < bl.f0.length
      rotate_left
      · obtain rfl : j = bl.f0.length := by omega
        rw [List.drop_eq_nil_of_le (Nat.le_refl _), spotsB, List.nil_append] at hp
        gi_wp2
        go_roundw
        case rel => exact ⟨i + 1, pre2, by simp, by omega, hp, hJs, hBs⟩
        case measure => simp [intOf]; omega
      have cjb : decide ((j : Int) < (bl.f0.length : Int)) = true := decide_eq_true (by omega)
      have p2 : 0 ≤ (j : Int) := by omega
      have q2 : (j : Int) < (bl.f0.length : Int) := by omega
      obtain ⟨ad2, e2, hx2_0, hx2_1, hx2_2, hx2_3, hx2_4⟩ := at_T71 hi1 (j : Int) p2 q2
      cases e2
      replace hx2_0 := (hBs.cell (World.block_lt_of_cell? w _ hx2_0)).trans hx2_0
      replace hx2_1 := (hBs.cell (World.block_lt_of_cell? w _ hx2_1)).trans hx2_1
      replace hx2_2 := (hBs.cell (World.block_lt_of_cell? w _ hx2_2)).trans hx2_2
      replace hx2_3 := (hBs.cell (World.block_lt_of_cell? w _ hx2_3)).trans hx2_3
      replace hx2_4 := (hBs.cell (World.block_lt_of_cell? w _ hx2_4)).trans hx2_4
      simp only [Int.toNat_natCast] at hx2_0 hx2_1 hx2_2 hx2_3 hx2_4
      rw [drop_pg cj, spotsB] at hp
      generalize hpg : rd_T71 bl.f0 (j : Int) = pg at hx2_0 hx2_1 hx2_2 hx2_3 hx2_4 hp
      have hw17 : wrap64 ((j : Int) + 1) = ((j + 1 : Nat) : Int) := by rw [IntWalk.wrap64_in _ (by omega)]; omega
      have hTx : T (i, j, pg) := hT _ (by rw [← hp]; simp)
      have hlen : pre2.length < (spotsF 0 l0).length := by rw [← hp]; simp
      obtain ⟨fn, tmps, assign, body, hy, hR⟩ := hY pre2 ⟨(i, j, pg), hTx⟩ (wr.alloc (.cells #[.int .i64 pg.f0, .int .i64 pg.f1.f0, .int .i64 pg.f1.f1, .int .i64 pg.f1.f2, .int .i64 pg.f1.f3] 71)) (hJa _ _ _ hJs) hlen
      dsimp only [spotArgs] at hy
      gi_wp2
      refine hR.mono ?_
      rintro e W3 (⟨rfl, hJ3, hk3⟩ | ⟨rfl, hJx3⟩)
      · gi_wp2
        go_roundw
        case rel => exact ⟨j + 1, pre2 ++ [⟨(i, j, pg), hTx⟩], by simp, by omega, by rw [← hp]; simp, hJ3, (hBa _ _ hBs).trans hk3⟩
        case measure => simp [intOf]; omega
      · gi_wp2
        refine bodyPost_ret (results_none rfl _ _ _) rfl ?_
        exact ⟨⟨_, rfl⟩, .inr ⟨_, trivial, hJx3⟩⟩
theorem eachPage_stops (F : Fence) (n : Nat) (hF : F.fn 97) (hro : F.round = none) (hn : 1 ≤ n) (T : Spot → Prop) (Bf : Nat) (A0 : Option Addr) (c0 : Nat) (l0 : List S65) (w W0 : World)
    (hr0 : Kd.C k65 w A0 l0.length l0) (hT : ∀ x ∈ spotsF 0 l0, T x) (hB : Below w.heap.size w W0) (hBf : W0.cell? ⟨Bf, 0, none⟩ = some (.slice A0 l0.length c0)) :
    SeqStopsK F n Try.prog 97 #[.pointer (some ⟨Bf, 0, none⟩)] (fun x : {x : Spot // T x} => spotArgs x.1) (Below w.heap.size) (fun ys => ys.map (·.1) = spotsF 0 l0) (fun _ => True) (spotsF 0 l0).length W0 := fun l J Jx W hW hJ _ hY h0 =>
  eachPage1_in F n hF hro hn T l Bf A0 c0 l0 w hr0 hT J Jx W hJ hY (hB.trans (hW.mono hB.size)) ((hW.cell (p := ⟨Bf, 0, none⟩) (World.block_lt_of_cell? W0 _ hBf)).trans hBf) h0
def PageBox (W : World) (B : Nat) (p : S71) : Prop := W.heap[B]? = some (.cells #[.int .i64 p.f0, .int .i64 p.f1.f0, .int .i64 p.f1.f1, .int .i64 p.f1.f2, .int .i64 p.f1.f3] 71 (0, 0))
theorem PageBox.own (B : Nat) (b : Nat) (p : S71) : OwnFrom b (fun (_ : Unit) W => PageBox W B p) := Own.from (fun s X Y row hs hg hrow => (hg.block B (Array.getElem?_eq_some_iff.1 hs).1 (fun e => by obtain ⟨o, ho, hc⟩ := hrow B e.symm; rw [show X.heap[B]? = _ from hs] at ho; cases ho; cases hc)).trans hs) _
theorem PageBox.cells {W : World} {B : Nat} {p : S71} (h : PageBox W B p) : W.cell? ⟨B, 0, none⟩ = some (.int .i64 p.f0) ∧ W.cell? ⟨B, 1, none⟩ = some (.int .i64 p.f1.f0) ∧ W.cell? ⟨B, 2, none⟩ = some (.int .i64 p.f1.f1) ∧ W.cell? ⟨B, 3, none⟩ = some (.int .i64 p.f1.f2) ∧ W.cell? ⟨B, 4, none⟩ = some (.int .i64 p.f1.f3) :=
  ⟨(blk_cell h 0).trans rfl, (blk_cell h 1).trans rfl, (blk_cell h 2).trans rfl, (blk_cell h 3).trans rfl, (blk_cell h 4).trans rfl⟩
abbrev AnyPage := {x : Spot // True}
def RecBox (W : World) (B : Nat) (r : S30) : Prop := W.heap[B]? = some (.cells #[.int .i64 r.f0, .int .i64 r.f1, .int .i64 r.f2, .int .i64 r.f3] 30 (0, 0))
abbrev set4 (W : World) (B : Nat) (r : S30) : World := (((W.setCell ⟨B, 0, none⟩ (.int .i64 r.f0)).setCell ⟨B, 1, none⟩ (.int .i64 r.f1)).setCell ⟨B, 2, none⟩ (.int .i64 r.f2)).setCell ⟨B, 3, none⟩ (.int .i64 r.f3)
theorem RecBox.own (B : Nat) {β : Type} (f : β → S30) : Own (fun s W => RecBox W B (f s)) := fun s X Y row hs hg hrow => (hg.block B (Array.getElem?_eq_some_iff.1 hs).1 (fun e => by obtain ⟨o, ho, hc⟩ := hrow B e.symm; rw [show X.heap[B]? = _ from hs] at ho; cases ho; cases hc)).trans hs
theorem RecBox.cells {W : World} {B : Nat} {r : S30} (h : RecBox W B r) : W.cell? ⟨B, 0, none⟩ = some (.int .i64 r.f0) ∧ W.cell? ⟨B, 1, none⟩ = some (.int .i64 r.f1) ∧ W.cell? ⟨B, 2, none⟩ = some (.int .i64 r.f2) ∧ W.cell? ⟨B, 3, none⟩ = some (.int .i64 r.f3) :=
  ⟨(blk_cell h 0).trans rfl, (blk_cell h 1).trans rfl, (blk_cell h 2).trans rfl, (blk_cell h 3).trans rfl⟩
theorem RecBox.frozen {W : World} {B : Nat} {r : S30} (h : RecBox W B r) (i : Nat) : W.frozen? ⟨B, i, none⟩ = false := blk_frozen h i
theorem RecBox.put {W : World} {B : Nat} {r : S30} (h : RecBox W B r) (s : S30) : RecBox (set4 W B s) B s := blk_put (blk_put (blk_put (blk_put h 0 _ rfl) 1 _ rfl) 2 _ rfl) 3 _ rfl
theorem RecBox.far {W : World} {B B' : Nat} {r : S30} (h : RecBox W B r) (hne : B ≠ B') (s : S30) : RecBox (set4 W B' s) B r := blk_far (blk_far (blk_far (blk_far h (p := ⟨B', 0, none⟩) hne _) (p := ⟨B', 1, none⟩) hne _) (p := ⟨B', 2, none⟩) hne _) (p := ⟨B', 3, none⟩) hne _
theorem Boxed.far4 {W : World} {B B' t : Nat} {v : Value} (h : Boxed W B t v) (hne : B ≠ B') (s : S30) : Boxed (set4 W B' s) B t v := blk_far (blk_far (blk_far (blk_far h (p := ⟨B', 0, none⟩) hne _) (p := ⟨B', 1, none⟩) hne _) (p := ⟨B', 2, none⟩) hne _) (p := ⟨B', 3, none⟩) hne _
theorem below_set4 {b : Nat} {w W : World} (h : Below b w W) {B : Nat} (hb : b ≤ B) (s : S30) : Below b w (set4 W B s) := (((h.setCell (p := ⟨B, 0, none⟩) hb _).setCell (p := ⟨B, 1, none⟩) hb _).setCell (p := ⟨B, 2, none⟩) hb _).setCell (p := ⟨B, 3, none⟩) hb _
theorem keeps_set4 (W : World) (B : Nat) (s : S30) : KeepsOthers W (set4 W B s) := (((KeepsOthers.setCell W _ _).trans (KeepsOthers.setCell _ _ _)).trans (KeepsOthers.setCell _ _ _)).trans (KeepsOthers.setCell _ _ _)
def freeQ : List S71 → Nat
  | [] => 0
  | p :: ps => (if p.f0 = 0 then 1 else 0) + freeQ ps

end Go.Proofs.Ytoedphbikgoapaa.Rb
