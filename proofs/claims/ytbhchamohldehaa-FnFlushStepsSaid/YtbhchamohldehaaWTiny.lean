/- Words that say the printed walks shorter still. -/
import Derived.Test.YtbhchamohldehaaWStep
import Derived.Test.YtbhchamohldehaaWTab
import Derived.Test.YtbhchamohldehaaWMore
namespace Go.Proofs.YtbhchamohldehaaW.PrintLast
open Go.RowKit Go.Proofs.YtbhchamohldehaaW.PrintWords Go.Proofs.YtbhchamohldehaaW.PrintMore
def bt (n m : Nat) : Array Bool := ((List.range n).map m.testBit).toArray
section
variable {P : Program} {ops : Array Oper} {Q : Exit → Act → World → Prop} {md : Region.Mode} {S : World → Prop} {ds : List Nat} {fuel : Nat} {l : Array Bool} {a : Act} {w : World} {oi : Oper} {v : Value} {a' : Act} {T : Bool × List (List Nat × List Nat)}
theorem qj (i N : Nat) (l' : Array Bool) (hi : ops[i]? = some oi) (hN : oi.dst = some N) (hT : rtab md ops = T) (h : wpAnyLast P md ops Q S ds fuel l' a' w)
    (hc : anyT T l.toList l'.toList i = true := by kernel_rfl) (hQ : ∀ c a w, Q (.panic c) (a.put oi.dst v) w → Q (.panic c) a w := by exact fun _ _ _ h => h)
    (hw : Region.wanted oi (yielded ops a.tmps) = true := by rfl) (hy : ∀ w', (execOp a.eval oi).run P w' = .ok (.value v) w' := by intro w'; go_simp; with_reducible rfl)
    (ha : a.put (some N) v = a' := by simp only [Act.put, List.setIfInBounds_toArray, List.set_cons_zero, List.set_cons_succ, i64_w, i32_w]; rfl) : wpAnyLast P md ops Q S ds (fuel + 1) l a w := pj_ i N l' hi hN (any_of hT hc) hQ h hw hy ha
theorem qm {B : List Nat} (i N : Nat) (l' : Array Bool) (hi : ops[i]? = some oi) (hN : oi.dst = some N) (hT : rtab md ops = T) (hB : waitsOk T.2 B = true) (hS : S w) (h : wpAnyLast P md ops Q S ds fuel l' a' w)
    (hc : takeW T B ds l.toList l'.toList i = true := by kernel_rfl) (hQ : ∀ c a w, Q (.panic c) (a.put oi.dst v) w → Q (.panic c) a w := by exact fun _ _ _ h => h)
    (hw : Region.wanted oi (yielded ops a.tmps) = true := by rfl) (hy : ∀ w', S w' → (execOp a.eval oi).run P w' = .ok (.value v) w' := by intro w' hC; (try dsimp only at hC); go_simp; with_reducible rfl)
    (ha : a.put (some N) v = a' := by simp only [Act.put, List.setIfInBounds_toArray, List.set_cons_zero, List.set_cons_succ, i64_w, i32_w]; rfl) : wpAnyLast P md ops Q S ds (fuel + 1) l a w := pm_ i N l' hi hN (take_ofW hT hB hc) hQ hS h hw hy ha
theorem qo (i : Nat) (N : Option Tmp) (l' : Array Bool) (hi : ops[i]? = some oi) (hN : oi.dst = N) (hT : rtab md ops = T)
    (h : ∀ K : Act → World → Prop, Shut (∀ a' w', S w' → (S w' → wpAnyLast P md ops Q S ds fuel l' a' w') → K a' w') → if Region.wanted oi (yielded ops a.tmps) = true then Oper.wp P oi a w K Q else K (a.put N undef) w)
    (hc : (readyT T.2 l.toList == [i] && l.toList.set i true == l'.toList) = true := by kernel_rfl) (hd : i ∉ ds := by decide) : wpAnyLast P md ops Q S ds (fuel + 1) l a w := one_ l' hi hN (one_of hT hc) hd h
theorem qv (i N : Nat) (l' : Array Bool) (hi : ops[i]? = some oi) (hN : oi.dst = some N) (hT : rtab md ops = T) (h : wpAnyLast P md ops Q S ds fuel l' a' w)
    (hc : anyT T l.toList l'.toList i = true := by kernel_rfl) (hQ : ∀ c a w, Q (.panic c) (a.put oi.dst undef) w → Q (.panic c) a w := by exact fun _ _ _ h => h)
    (hw : Region.wanted oi (yielded ops a.tmps) = false := by rfl) (ha : a.put (some N) undef = a' := by simp only [Act.put, List.setIfInBounds_toArray, List.set_cons_zero, List.set_cons_succ, i64_w, i32_w]; rfl) : wpAnyLast P md ops Q S ds (fuel + 1) l a w := pv_ i N l' hi hN (any_of hT hc) hQ h hw ha
theorem qn (N : Option Tmp) (h : wpAnyLast P md ops Q S ds fuel l a' w)
    (ha : a.put N v = a' := by simp only [Act.put, List.setIfInBounds_toArray, List.set_cons_zero, List.set_cons_succ, i64_w, i32_w]; rfl) : wpAnyLast P md ops Q S ds fuel l (a.put N v) w := norm_ ha h
theorem qs {w1 : World} {K : Act → World → Prop} (hN : oi.dst = none) (h : K a w1) (hw : Region.wanted oi (yielded ops a.tmps) = true := by rfl)
    (hrun : (execOp a.eval oi).run P w = .ok .skip w1 := by go_simp; rfl) : if Region.wanted oi (yielded ops a.tmps) = true then Oper.wp P oi a w K Q else K (a.put none undef) w := skip_ hw hN hrun h
theorem qg {N : Option Tmp} {K : Act → World → Prop} {f : FuncId} {fn : Func} {as : Array Operand} {ts : Array TypeId} (hf : P.funcs[f]? = some fn) (args : Array Value) (hN : oi.dst = N) (hop : oi.op = .call { callee := .value (.func f), args := as, argTypes := ts })
    (h : Calls P f args w fun e w' => ∃ v, e = .returned v ∧ K (a.put N v) w') (hname : (fn.name == "runtime.NumGoroutine") = false := by kernel_rfl) (hb : fn.body.isSome = true := by rfl) (hw : Region.wanted oi (yielded ops a.tmps) = true := by rfl)
    (hargs : as.map a.eval = args := by (try simp only [List.map_toArray, List.map_cons, List.map_nil]); first | done | rfl | (simp only [List.length_drop, List.length_take]; rfl)) : if Region.wanted oi (yielded ops a.tmps) = true then Oper.wp P oi a w K Q else K (a.put N undef) w := goes_ hf hname hb args hw hN hop hargs h
end
end Go.Proofs.YtbhchamohldehaaW.PrintLast
namespace Go.Proofs.YtbhchamohldehaaW.PrintWords
open Go.RowKit
section
variable {w W W' : World} {S : Nat → Prop}
def KM (w : World) (S : Nat → Prop) (g : Nat) : Prop := S g ∨ w.heap.size ≤ g
theorem ka (h : Kept w W S) (o : Obj) : Kept w (W.alloc o) S := h.alloc o
theorem ks {p : Addr} {v : Value} (h : Kept w W S) (hg : KM w S p.block) : Kept w (W.setCell p v) S := h.setCell hg _
theorem kn (h : Kept w W S) (n : Nat) : Kept w (W.drewN n) S := h.drewN n
theorem kd (h : Kept w W S) : Kept w W.drew S := h.drew
theorem kg1 {g1 : Nat} (h : Kept w W S) (e1 : S g1 ∨ w.heap.size ≤ g1) (k : Kept w W S → KM w S g1 → Kept w W' S := by intro h e1; simp (maxDischargeDepth := 40) only [ka, ks, kn, kd, h, e1]) : Kept w W' S := k h e1
theorem kg2 {g1 g2 : Nat} (h : Kept w W S) (e1 : S g1 ∨ w.heap.size ≤ g1) (e2 : S g2 ∨ w.heap.size ≤ g2) (k : Kept w W S → KM w S g1 → KM w S g2 → Kept w W' S := by intro h e1 e2; simp (maxDischargeDepth := 40) only [ka, ks, kn, kd, h, e1, e2]) : Kept w W' S := k h e1 e2
theorem kg3 {g1 g2 g3 : Nat} (h : Kept w W S) (e1 : S g1 ∨ w.heap.size ≤ g1) (e2 : S g2 ∨ w.heap.size ≤ g2) (e3 : S g3 ∨ w.heap.size ≤ g3) (k : Kept w W S → KM w S g1 → KM w S g2 → KM w S g3 → Kept w W' S := by intro h e1 e2 e3; simp (maxDischargeDepth := 40) only [ka, ks, kn, kd, h, e1, e2, e3]) : Kept w W' S := k h e1 e2 e3
theorem gw {g : Nat} (hg : g = W.heap.size) (h : Kept w W S) : w.heap.size ≤ g := hg ▸ h.1
theorem ge {g : Nat} (hg : g = W.heap.size) (h : Below w.heap.size w W) : w.heap.size ≤ g := hg ▸ below_size h
theorem nb {g g' : Nat} {o : Obj} (hg : g' = W.heap.size) (h : W.heap[g]? = some o) : g ≠ g' := hg ▸ Nat.ne_of_lt (blk_lt h)
theorem bp2 {g : Nat} {t : TypeId} {z0 z1 a b : Value} (h : W.heap[g]? = some (.cells #[z0, z1] t (0, 0))) : ((W.setCell ⟨g, 0, none⟩ a).setCell ⟨g, 1, none⟩ b).heap[g]? = some (.cells #[a, b] t (0, 0)) := blk_put (cs := #[a, z1]) (blk_put (cs := #[z0, z1]) h 0 _ rfl) 1 _ rfl
theorem bp4 {g : Nat} {t : TypeId} {z0 z1 z2 z3 a b c d : Value} (h : W.heap[g]? = some (.cells #[z0, z1, z2, z3] t (0, 0))) : ((((W.setCell ⟨g, 0, none⟩ a).setCell ⟨g, 1, none⟩ b).setCell ⟨g, 2, none⟩ c).setCell ⟨g, 3, none⟩ d).heap[g]? = some (.cells #[a, b, c, d] t (0, 0)) :=
  blk_put (cs := #[a, b, c, z3]) (blk_put (cs := #[a, b, z2, z3]) (bp2' h) 2 _ rfl) 3 _ rfl
where bp2' (h : W.heap[g]? = some (.cells #[z0, z1, z2, z3] t (0, 0))) : ((W.setCell ⟨g, 0, none⟩ a).setCell ⟨g, 1, none⟩ b).heap[g]? = some (.cells #[a, b, z2, z3] t (0, 0)) := blk_put (cs := #[a, z1, z2, z3]) (blk_put (cs := #[z0, z1, z2, z3]) h 0 _ rfl) 1 _ rfl
theorem bp5 {g : Nat} {t : TypeId} {z0 z1 z2 z3 z4 a b c d e : Value} (h : W.heap[g]? = some (.cells #[z0, z1, z2, z3, z4] t (0, 0))) : (((((W.setCell ⟨g, 0, none⟩ a).setCell ⟨g, 1, none⟩ b).setCell ⟨g, 2, none⟩ c).setCell ⟨g, 3, none⟩ d).setCell ⟨g, 4, none⟩ e).heap[g]? = some (.cells #[a, b, c, d, e] t (0, 0)) :=
  blk_put (cs := #[a, b, c, d, z4]) (blk_put (cs := #[a, b, c, z3, z4]) (blk_put (cs := #[a, b, z2, z3, z4]) (blk_put (cs := #[a, z1, z2, z3, z4]) (blk_put (cs := #[z0, z1, z2, z3, z4]) h 0 _ rfl) 1 _ rfl) 2 _ rfl) 3 _ rfl) 4 _ rfl
section
variable {b : Nat}
theorem gk {g : Nat} (hg : g = W.heap.size) (h : KeepBut w W b none) : w.heap.size ≤ g := hg ▸ h.1
theorem nl {g g' : Nat} (hg : g' = W.heap.size) (h : g < W.heap.size) : g ≠ g' := hg ▸ Nat.ne_of_lt h
theorem kba (h : KeepBut w W b none) (o : Obj) : KeepBut w (W.alloc o) b none := keep_alloc h o
theorem kbn (h : KeepBut w W b none) (n : Nat) : KeepBut w (W.drewN n) b none := keep_drewN h n
theorem kbd (h : KeepBut w W b none) : KeepBut w W.drew b none := keep_drew h
theorem kbf {p : Addr} {v : Value} (h : KeepBut w W b none) (hp : w.heap.size ≤ p.block) : KeepBut w (W.setCell p v) b none := keep_far h hp _
theorem kbs {j : Nat} {v : Value} (h : KeepBut w W b none) : KeepBut w (W.setCell ⟨b, j, none⟩ v) b none := h.set_ j v
theorem kb0 (h : KeepBut w W b none) (k : KeepBut w W b none → KeepBut w W' b none := by intro h; simp (maxDischargeDepth := 40) only [kba, kbn, kbd, kbs, h]) : KeepBut w W' b none := k h
theorem kb1 {g1 : Nat} (h : KeepBut w W b none) (e1 : w.heap.size ≤ g1) (k : KeepBut w W b none → w.heap.size ≤ g1 → KeepBut w W' b none := by intro h e1; simp (maxDischargeDepth := 40) only [kba, kbn, kbd, kbf, kbs, h, e1]) : KeepBut w W' b none := k h e1
theorem kb2 {g1 g2 : Nat} (h : KeepBut w W b none) (e1 : w.heap.size ≤ g1) (e2 : w.heap.size ≤ g2) (k : KeepBut w W b none → w.heap.size ≤ g1 → w.heap.size ≤ g2 → KeepBut w W' b none := by intro h e1 e2; simp (maxDischargeDepth := 40) only [kba, kbn, kbd, kbf, kbs, h, e1, e2]) : KeepBut w W' b none := k h e1 e2
theorem kb3 {g1 g2 g3 : Nat} (h : KeepBut w W b none) (e1 : w.heap.size ≤ g1) (e2 : w.heap.size ≤ g2) (e3 : w.heap.size ≤ g3) (k : KeepBut w W b none → w.heap.size ≤ g1 → w.heap.size ≤ g2 → w.heap.size ≤ g3 → KeepBut w W' b none := by intro h e1 e2 e3; simp (maxDischargeDepth := 40) only [kba, kbn, kbd, kbf, kbs, h, e1, e2, e3]) : KeepBut w W' b none := k h e1 e2 e3
end
section
variable {α : Type} {d : Kd α} {e base : Nat} {ok : Nat → Prop} {v : Value} {xs : List α}
theorem pv [n : Nonempty (Below W.heap.size W W')] (h : Kd.V d e W base ok v xs) : Kd.V d e W' base ok v xs := n.elim fun n => Kd.V_below h n
theorem pq [n : Nonempty (Below W.heap.size W W')] (h : d.Q e W base ok v xs) : d.Q e W' base ok v xs := n.elim fun n => Kd.Q_below h n
end
theorem ifd {p : Prop} [Decidable p] {α : Type} {x : Option α} {y : α} (h : (if p then x else none) = some y) : decide p = true ∧ x = some y := by
  by_cases hp : p
  · rw [if_pos hp] at h
    exact ⟨decide_eq_true hp, h⟩
  · rw [if_neg hp] at h
    cases h
theorem yy {α : Type} {a b : α} (e : a = b) {p q : Prop} (H : p) (k : a = b → p → q := by intro e H; first | (rw [e]; with_reducible exact H) | (have H2_ := (Option.bind_some _ _).symm.trans H; rw [e]; with_reducible exact H2_) | (have H2_ := (Option.bind_some _ _).symm.trans H; with_reducible exact H2_) | with_reducible exact H | (rw [e]; exact H) | exact H) : q := k e H
variable {g g' : Nat} {t : TypeId} {cs : Array Value} {i j m n q : Nat} {a b c d e : Value} {p1 p2 p3 p4 p5 : Option Nat}
theorem bf1 (h : W.heap[g]? = some (.cells cs t (0, 0))) (hn : g ≠ g') : (W.setCell ⟨g', i, none⟩ a).heap[g]? = some (.cells cs t (0, 0)) := blk_far (p := ⟨g', i, none⟩) h hn _
theorem bf2 (h : W.heap[g]? = some (.cells cs t (0, 0))) (hn : g ≠ g') : ((W.setCell ⟨g', i, none⟩ a).setCell ⟨g', j, none⟩ b).heap[g]? = some (.cells cs t (0, 0)) := bf1 (bf1 h hn) hn
theorem bf4 (h : W.heap[g]? = some (.cells cs t (0, 0))) (hn : g ≠ g') : ((((W.setCell ⟨g', i, none⟩ a).setCell ⟨g', j, none⟩ b).setCell ⟨g', m, none⟩ c).setCell ⟨g', n, none⟩ d).heap[g]? = some (.cells cs t (0, 0)) := bf2 (bf2 h hn) hn
theorem bf5 (h : W.heap[g]? = some (.cells cs t (0, 0))) (hn : g ≠ g') : (((((W.setCell ⟨g', i, none⟩ a).setCell ⟨g', j, none⟩ b).setCell ⟨g', m, none⟩ c).setCell ⟨g', n, none⟩ d).setCell ⟨g', q, none⟩ e).heap[g]? = some (.cells cs t (0, 0)) := bf1 (bf4 h hn) hn
end
end Go.Proofs.YtbhchamohldehaaW.PrintWords
