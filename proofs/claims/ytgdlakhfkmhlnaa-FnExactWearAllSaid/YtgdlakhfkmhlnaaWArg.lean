/- An argument that reads as data, whatever its type is built of (whole numbers, structs, slices): told by the words of the printed contracts. -/
import Derived.Test.YtgdlakhfkmhlnaaWWords
import Derived.Deep.Slices
import Derived.ChangeArms
import Derived.ChangeSame
import Derived.Lib.SmallJoins
namespace Go.Proofs.YtgdlakhfkmhlnaaW.PrintWords
open Go.RowKit Go.Deep Go.ChangeShapes Go.WideShapes
structure Rd {α : Type} (P : Program) (t : TypeId) (d : Kd α) : Prop where
  size : P.cellsOf t = d.sz
  out : ∀ {H : Type} {enc : TypeId × Value → H} {w : World} {base : Nat} {spare : Nat → Bool} {held : Bool} {fuel : Nat} {cs : List Value} {x : DataW H × List MemPlace}, DataW.trod enc P w base spare held fuel t cs = some x → ∃ a, d.K w a cs
section
variable {α β : Type} {P : Program}
theorem Rd.int {t : TypeId} {k : IntKind} (ht : P.underlying t = some (.int k)) (hc : P.cellsOf t = 1) : Rd P t (Kd.int k) := ⟨hc, fun h => by
  obtain ⟨n, rfl, _, _⟩ := DataW.trod_int ht h
  exact ⟨n, rfl⟩⟩
theorem cells_at {w : World} {base : Nat} {a : Addr} {n : Nat} {cs : List Value} (h : w.cells? base a n = some cs) : cs.length = n ∧ ∀ i u, cs[i]? = some u → w.cell? (a.add i) = some u := by
  unfold World.cells? at h
  split at h
  · have hl := mapM_some_length h
    rw [List.length_range] at hl
    refine ⟨hl, fun i u hu => ?_⟩
    have hi : i < n := by rw [← hl]; exact (List.getElem?_eq_some_iff.1 hu).1
    have := mapM_some_get h i i (by simp [hi])
    rw [this, hu]
  · cases h
theorem gather {Q : Nat → α → Prop} : ∀ {len : Nat}, (∀ i, i < len → ∃ y, Q i y) → ∃ ys : List α, ys.length = len ∧ ∀ i y, ys[i]? = some y → Q i y
  | 0, _ => ⟨[], rfl, fun i y h => by simp at h⟩
  | len + 1, hf => by
    obtain ⟨ys, hl, hys⟩ := gather (Q := Q) (len := len) (fun i hi => hf i (by omega))
    obtain ⟨y, hy⟩ := hf len (by omega)
    refine ⟨ys ++ [y], by simp [hl], fun i z hz => ?_⟩
    by_cases hi : i < ys.length
    · rw [List.getElem?_append_left hi] at hz
      exact hys i z hz
    · have hil : i = len := by
        have := (List.getElem?_eq_some_iff.1 hz).1
        simp at this
        omega
      subst hil
      have hzz : y = z := by
        rw [List.getElem?_append_right (by omega), hl] at hz
        simpa using hz
      subst hzz
      exact hy
theorem Rd.slice {t e : TypeId} {d : Kd α} (ht : P.underlying t = some (.slice e)) (hc : P.cellsOf t = 1) (h : Rd P e d) : Rd P t (Kd.slice e d) := ⟨hc, fun {H enc w base spare held fuel cs x} hx => by
  rcases open_slice ht hx with ⟨rfl, _⟩ | ⟨a, len, cap, m, n, D, Pl, rfl, _, hl, hm, hmm, _, hel⟩
  · exact ⟨[], none, 0, rfl, Nat.le_refl _, Kd.C_nil d w⟩
  · have hlm : len ≤ m := by rw [hmm]; split <;> omega
    obtain ⟨ys, hyl, hys⟩ := gather (Q := fun i y => ∃ cs : List Value, d.K w y cs ∧ w.cells? base (a.add (i * P.cellsOf e)) (P.cellsOf e) = some cs) (len := len) (fun i hi => by
      obtain ⟨cs', h1, h2⟩ := hel i (by omega)
      obtain ⟨y, hy⟩ := h.out h2
      exact ⟨y, cs', hy, h1⟩)
    refine ⟨ys, some a, cap, by rw [hyl], by omega, rfl, by simp only [maxLen] at hm; omega, fun _ => ⟨a, rfl, fun j p hj => ?_⟩⟩
    obtain ⟨cs', hK, hcs⟩ := hys j p hj
    obtain ⟨h1, h2⟩ := cells_at hcs
    exact ⟨_, by rw [h1, h.size], hK, fun i u hu => by rw [← add_add, ← h.size]; exact h2 i u hu⟩⟩
theorem take_drop2 {l : List α} {n m : Nat} (h : l.length = n + m) : (l.drop 0).take n ++ (l.drop n).take m = l := by
  rw [List.drop_zero, List.take_of_length_le (by rw [List.length_drop]; omega : (l.drop n).length ≤ m), List.take_append_drop]
theorem Rd.struct2 {t : TypeId} {f0 f1 : Field} {a : Kd α} {b : Kd β} (ht : P.underlying t = some (.struct #[f0, f1])) (hc : P.cellsOf t = a.sz + b.sz) (ha : Rd P f0.type a) (hb : Rd P f1.type b) (h0 : f0.offset = 0) (h1 : f1.offset = a.sz) : Rd P t (Kd.pair a b) := ⟨hc, fun h => by
  obtain ⟨y0, y1, n, _, hl, r0, r1⟩ := trod_struct2 ht h
  obtain ⟨x0, k0⟩ := ha.out r0
  obtain ⟨x1, k1⟩ := hb.out r1
  rw [hc] at hl
  rw [h0, ha.size] at k0
  rw [h1, hb.size] at k1
  exact ⟨(x0, x1), _, _, (take_drop2 hl).symm, k0, k1⟩⟩
theorem Rd.struct4 {γ δ : Type} {t : TypeId} {f0 f1 f2 f3 : Field} {a : Kd α} {b : Kd β} {c : Kd γ} {d : Kd δ} (ht : P.underlying t = some (.struct #[f0, f1, f2, f3])) (hc : P.cellsOf t = a.sz + (b.sz + (c.sz + d.sz)))
    (ha : Rd P f0.type a) (hb : Rd P f1.type b) (hcc : Rd P f2.type c) (hd : Rd P f3.type d) (h0 : f0.offset = 0) (h1 : f1.offset = a.sz) (h2 : f2.offset = a.sz + b.sz) (h3 : f3.offset = a.sz + b.sz + c.sz) : Rd P t (Kd.pair a (Kd.pair b (Kd.pair c d))) := ⟨hc, fun {H enc w base spare held fuel cs x} h => by
  obtain ⟨y0, y1, y2, y3, n, _, hl, r0, r1, r2, r3⟩ := Joins.trod_struct4 ht h
  obtain ⟨x0, k0⟩ := ha.out r0
  obtain ⟨x1, k1⟩ := hb.out r1
  obtain ⟨x2, k2⟩ := hcc.out r2
  obtain ⟨x3, k3⟩ := hd.out r3
  rw [hc] at hl
  rw [h0, ha.size] at k0
  rw [h1, hb.size] at k1
  rw [h2, hcc.size] at k2
  rw [h3, hd.size] at k3
  refine ⟨(x0, x1, x2, x3), _, cs.drop a.sz, ?_, k0, _, cs.drop (a.sz + b.sz), ?_, k1, _, _, ?_, k2, k3⟩
  · rw [List.drop_zero, List.take_append_drop]
  · rw [show cs.drop (a.sz + b.sz) = (cs.drop a.sz).drop b.sz by rw [List.drop_drop], List.take_append_drop]
  · rw [show cs.drop (a.sz + b.sz + c.sz) = (cs.drop (a.sz + b.sz)).drop c.sz by rw [List.drop_drop], List.take_of_length_le (l := List.drop c.sz _) (by rw [List.length_drop, List.length_drop]; omega), List.take_append_drop]⟩
theorem Rd.iso {t : TypeId} {d : Kd α} {f : β → α} (h : Rd P t d) (hf : ∀ a, ∃ b, f b = a) : Rd P t (Kd.iso d f) := ⟨h.size, fun hx => by
  obtain ⟨a, ha⟩ := h.out hx
  obtain ⟨b, rfl⟩ := hf a
  exact ⟨b, ha⟩⟩
end
end Go.Proofs.YtgdlakhfkmhlnaaW.PrintWords
