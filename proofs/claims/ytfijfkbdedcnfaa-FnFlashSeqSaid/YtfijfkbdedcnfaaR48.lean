-- printed by wip/pp/pp.py
import Derived.Test.YtfijfkbdedcnfaaR40
import Derived.Test.YtfijfkbdedcnfaaR47
import Derived.Deep.RegionHeld3
import Derived.RegionTactic
import Derived.Laws.IdiomCopy
namespace Go.Proofs.Ytfijfkbdedcnfaa.R4
open Go.RowKit Go.Proofs.YtfijfkbdedcnfaaW.PrintWords Go.Proofs.YtfijfkbdedcnfaaW.PrintLast Go.Proofs.YtfijfkbdedcnfaaW.PrintMore
attribute [local go_sem] max2_int min2_int max_two min_two max_three min_three max_four min_four
set_option linter.unusedVariables false
set_option linter.unusedSimpArgs false
theorem ite_some {α : Type} {c : Prop} [Decidable c] {x y : α} (h : (if c then some x else none) = some y) : c ∧ some x = some y := by
 by_cases hc : c
 rotate_left
 · rw [if_neg hc] at h
   cases h
 rw [if_pos hc] at h
 exact ⟨hc, h⟩
theorem cell_heap {w w' : World} {a : Addr} (h : w'.heap[a.block]? = w.heap[a.block]?) : w'.cell? a = w.cell? a := by
 unfold World.cell?
 rw [h]
def pgC (p : S30) : List Value := [.int .i64 p.f0, .int .i64 p.f1.f0, .int .i64 p.f1.f1, .int .i64 p.f1.f2, .int .i64 p.f1.f3]
structure Fl (W : World) (base hi g o : Nat) (G O C : Nat → Nat) (xs : List S33) : Prop where
 own : base ≤ g ∧ g < hi ∧ hi ≤ W.heap.size
 typ : ∃ cells, W.heap[g]? = some (.cells cells 33 (0, 0))
 at_ : ∀ i : Nat, i < xs.length → base ≤ G i ∧ G i < hi ∧ G i ≠ g ∧ (rd_T33 xs (i : Int)).f0.length ≤ C i ∧ (∃ cells, W.heap[G i]? = some (.cells cells 30 (0, 0))) ∧
  W.cell? ⟨g, o + i * 2, none⟩ = some (.slice (some ⟨G i, O i, none⟩) (rd_T33 xs (i : Int)).f0.length (C i)) ∧ W.cell? ⟨g, o + i * 2 + 1, none⟩ = some (.int .i64 (rd_T33 xs (i : Int)).f1) ∧
  ∀ j : Nat, j < (rd_T33 xs (i : Int)).f0.length → ∀ t u, (pgC (rd_T30 (rd_T33 xs (i : Int)).f0 (j : Int)))[t]? = some u → W.cell? ⟨G i, O i + j * 5 + t, none⟩ = some u
 one : ∀ i i' : Nat, i < xs.length → i' < xs.length → i ≠ i' → G i ≠ G i'
 few : xs.length ≤ 4 ∧ ∀ i : Nat, i < xs.length → (rd_T33 xs (i : Int)).f0.length ≤ 4
theorem flB_at {xs : List S33} {j : Nat} {p : S33} (h : xs[j]? = some p) : rd_T33 xs (j : Int) = p := by
 unfold rd_T33
 rw [Int.toNat_natCast, List.getD_eq_getElem?_getD, h]
 rfl
theorem flP_at {xs : List S30} {j : Nat} {p : S30} (h : xs[j]? = some p) : rd_T30 xs (j : Int) = p := by
 unfold rd_T30
 rw [Int.toNat_natCast, List.getD_eq_getElem?_getD, h]
 rfl
theorem flB_set {l : List S33} {i : Nat} (hi : i < l.length) (b : S33) (k : Nat) : rd_T33 (l.set i b) (k : Int) = if k = i then b else rd_T33 l (k : Int) := by
 unfold rd_T33
 rw [Int.toNat_natCast, List.getD_eq_getElem?_getD, List.getD_eq_getElem?_getD]
 by_cases h : k = i
 · rw [if_pos h, h, List.getElem?_set_self hi]
   rfl
 rw [if_neg h, List.getElem?_set_ne (fun e => h e.symm)]
theorem flP_set {l : List S30} {i : Nat} (hi : i < l.length) (b : S30) (k : Nat) : rd_T30 (l.set i b) (k : Int) = if k = i then b else rd_T30 l (k : Int) := by
 unfold rd_T30
 rw [Int.toNat_natCast, List.getD_eq_getElem?_getD, List.getD_eq_getElem?_getD]
 by_cases h : k = i
 · rw [if_pos h, h, List.getElem?_set_self hi]
   rfl
 rw [if_neg h, List.getElem?_set_ne (fun e => h e.symm)]
theorem flB_tail (xs : List S33) (i : Nat) : rd_T33 xs.tail (i : Int) = rd_T33 xs ((i + 1 : Nat) : Int) := by
 cases xs with
 | nil => rfl
 | cons x xs => rfl
theorem flP_tail (xs : List S30) (i : Nat) : rd_T30 xs.tail (i : Int) = rd_T30 xs ((i + 1 : Nat) : Int) := by
 cases xs with
 | nil => rfl
 | cons x xs => rfl
section
variable {W W' : World} {base hi g o : Nat} {G O C : Nat → Nat} {xs : List S33}
theorem Fl.step (h : Fl W base hi g o G O C xs) (hm : ∀ k, base ≤ k → k < hi → W'.heap[k]? = W.heap[k]?) (hs : hi ≤ W'.heap.size) : Fl W' base hi g o G O C xs where
 own := ⟨h.own.1, h.own.2.1, hs⟩
 typ := by
  obtain ⟨c, e⟩ := h.typ
  exact ⟨c, (hm g h.own.1 h.own.2.1).trans e⟩
 at_ := fun i hx => by
  obtain ⟨a1, a2, a3, a4, ⟨c, a5⟩, a6, a7, a8⟩ := h.at_ i hx
  have e1 : ∀ q : Nat, W'.cell? ⟨g, q, none⟩ = W.cell? ⟨g, q, none⟩ := fun q => cell_heap (hm g h.own.1 h.own.2.1)
  have e2 : ∀ q : Nat, W'.cell? ⟨G i, q, none⟩ = W.cell? ⟨G i, q, none⟩ := fun q => cell_heap (hm (G i) a1 a2)
  exact ⟨a1, a2, a3, a4, ⟨c, (hm (G i) a1 a2).trans a5⟩, (e1 _).trans a6, (e1 _).trans a7, fun j hj t u hu => (e2 _).trans (a8 j hj t u hu)⟩
 one := h.one
 few := h.few
theorem Fl.lower {base' : Nat} (h : Fl W base hi g o G O C xs) (hb : base' ≤ base) : Fl W base' hi g o G O C xs where
 own := ⟨Nat.le_trans hb h.own.1, h.own.2⟩
 typ := h.typ
 at_ := fun i hx => ⟨Nat.le_trans hb (h.at_ i hx).1, (h.at_ i hx).2⟩
 one := h.one
 few := h.few
theorem Fl.V (h : Fl W base hi g o G O C xs) {c b e : Nat} (hc : xs.length ≤ c) : Kd.V k33 e W b (fun k => base ≤ k) (.slice (some ⟨g, o, none⟩) xs.length c) xs := by
 refine Kd.V_mk hc (fun W' hm => ?_)
 have h' : Fl W' base hi g o G O C xs := by
  have hlt : ∀ k, base ≤ k → k < hi → W'.heap[k]? = W.heap[k]? := fun k h1 h2 => hm k h1 (Nat.lt_of_lt_of_le h2 h.own.2.2)
  -- what is told of W' at all is told of blocks below hi
  rcases Nat.lt_or_ge W'.heap.size hi with hsz | hsz
  rotate_left
  · exact h.step hlt hsz
  · exfalso
    have h1 := hlt (hi - 1) (by have := h.own; omega) (by have := h.own; omega)
    rw [Array.getElem?_eq_none (by omega), Array.getElem?_eq_getElem (by have := h.own; omega)] at h1
    cases h1
 refine ⟨rfl, by have := h.few.1; omega, fun _ => ⟨⟨g, o, none⟩, rfl, fun j p hj => ?_⟩⟩
 have hjl : j < xs.length := (List.getElem?_eq_some_iff.1 hj).1
 obtain ⟨a1, a2, a3, a4, -, a6, a7, a8⟩ := h'.at_ j hjl
 have hf := h.few.2 j hjl
 rw [flB_at hj] at a4 a6 a7 a8 hf
 refine ⟨[.slice (some ⟨G j, O j, none⟩) p.f0.length (C j), .int .i64 p.f1], rfl, ⟨[.slice (some ⟨G j, O j, none⟩) p.f0.length (C j)], [.int .i64 p.f1], rfl, ⟨some ⟨G j, O j, none⟩, C j, rfl, a4, rfl, (show p.f0.length ≤ 9223372036854775807 by omega), fun _ => ⟨⟨G j, O j, none⟩, rfl, fun i q hq => ?_⟩⟩, rfl⟩, fun i u hu => ?_⟩
 · have hil : i < p.f0.length := (List.getElem?_eq_some_iff.1 hq).1
   have h8 := a8 i hil
   rw [flP_at hq] at h8
   refine ⟨pgC q, rfl, (k30).K_of_M (k30_mkM W' 0 (fun _ => True) q), fun t u hu => ?_⟩
   have := h8 t u hu
   rw [add_at]
   rw [show O j + (i * (k30).sz + t) = O j + i * 5 + t by show O j + (i * 5 + t) = _; omega]
   exact this
 · rw [add_at]
   rw [show o + (j * (k33).sz + i) = o + j * 2 + i by show o + (j * 2 + i) = _; omega]
   match i, hu with
   | 0, hu => cases hu; exact a6
   | 1, hu => cases hu; exact a7
theorem Fl.of_S {ok : Nat → Prop} {A : Option Addr} {n c : Nat} (h : Kd.S k33 33 W base ok (.slice A n c) xs) (hl : xs.length = 4) (hp : ∀ i : Nat, i < 4 → (rd_T33 xs (i : Int)).f0.length = 4) :
 ∃ (g : Nat) (G C : Nat → Nat), A = some ⟨g, 0, none⟩ ∧ n = xs.length ∧ xs.length ≤ c ∧ Fl W base W.heap.size g 0 G (fun _ => 0) C xs := by
 obtain ⟨hn, hnc, _⟩ := Kd.S_reads' h
 obtain ⟨g, cap, hv, hb, hlt, cells, hcs⟩ := Kd.S_form h (by omega)
 have hA := (Value.slice.inj hv).1
 subst hA
 obtain ⟨f, hT⟩ := h
 have key : ∀ i : Nat, ∃ p : Nat × Nat, i < 4 → base ≤ p.1 ∧ p.1 < W.heap.size ∧ p.1 ≠ g ∧ f p.1 = i ∧ (rd_T33 xs (i : Int)).f0.length ≤ p.2 ∧ (∃ cells, W.heap[p.1]? = some (.cells cells 30 (0, 0))) ∧
  W.cell? ⟨g, 0 + i * 2, none⟩ = some (.slice (some ⟨p.1, 0, none⟩) (rd_T33 xs (i : Int)).f0.length p.2) ∧ W.cell? ⟨g, 0 + i * 2 + 1, none⟩ = some (.int .i64 (rd_T33 xs (i : Int)).f1) ∧
  ∀ j : Nat, j < (rd_T33 xs (i : Int)).f0.length → ∀ t u, (pgC (rd_T30 (rd_T33 xs (i : Int)).f0 (j : Int)))[t]? = some u → W.cell? ⟨p.1, 0 + j * 5 + t, none⟩ = some u := fun i => by
  by_cases hi : i < 4
  rotate_left
  · exact ⟨(0, 0), fun h => absurd h hi⟩
  obtain ⟨ce, hcl, hM, hcc, _⟩ := Kd.R_elem hT (z33, 0) (i : Int) (by omega) (by omega)
  have e : xs.zipIdx.getD ((i : Int)).toNat (z33, 0) = (rd_T33 xs (i : Int), i) := by
   unfold rd_T33
   rw [Int.toNat_natCast, List.getD_eq_getElem?_getD, List.getElem?_zipIdx, List.getD_eq_getElem?_getD, List.getElem?_eq_getElem (by omega), Nat.zero_add]
   rfl
  rw [e] at hM
  obtain ⟨vq, rfl, hR⟩ := k33_openM (show (k33).M W base (fun k => (ok k ∧ k ≠ g) ∧ f k = i) (rd_T33 xs (i : Int)) ce from hM)
  obtain ⟨gi, ci, rfl, hgb, hgl, cs, hcg⟩ := Kd.R_form hR (by rw [hp i hi]; omega)
  have hok := hR.1 gi rfl
  have c0 := hcc 0 _ rfl
  have c1 := hcc 1 _ rfl
  have et : ((i : Int)).toNat * (Kd.tag f k33).sz = 0 + i * 2 := by rw [Int.toNat_natCast]; show i * 2 = _; omega
  rw [et] at c0 c1
  refine ⟨(gi, ci), fun _ => ⟨hgb, hgl, hok.1.2, hok.2, (Kd.R_reads' hR).2.1, ⟨cs, hcg⟩, c0, c1, fun j hj t u hu => ?_⟩⟩
  obtain ⟨c2, h2, hM2, hcc2, _⟩ := Kd.R_elem hR z30 (j : Int) (by omega) (by omega)
  obtain rfl := k30_openM hM2
  have h3 := hcc2 t u hu
  rw [show ((j : Int)).toNat * (k30).sz + t = 0 + j * 5 + t by rw [Int.toNat_natCast]; show j * 5 + t = _; omega] at h3
  exact h3
 obtain ⟨F, hF⟩ := Classical.axiomOfChoice key
 refine ⟨g, fun i => (F i).1, fun i => (F i).2, rfl, hn, by omega, ⟨⟨hb, hlt, Nat.le_refl _⟩, ⟨cells, hcs⟩, fun i hi => ?_, fun i i' hi hi' hne e => hne ?_, ⟨by omega, fun i hi => by rw [hp i (by omega)]; omega⟩⟩⟩
 · obtain ⟨a1, a2, a3, _, a5⟩ := hF i (by omega)
   exact ⟨a1, a2, a3, a5⟩
 · have e1 := (hF i (by omega)).2.2.2.1
   have e2 := (hF i' (by omega)).2.2.2.1
   have e : (F i).1 = (F i').1 := e
   rw [← e1, e, e2]
theorem setCells_typ {g : Nat} {t : TypeId} : ∀ (vs : List Value) (o : Nat) (w : World) (cur : Array Value), w.heap[g]? = some (.cells cur t (0, 0)) → ∃ cur', (w.setCells g o vs).heap[g]? = some (.cells cur' t (0, 0))
 | [], _, _, cur, h => ⟨cur, h⟩
 | v :: r, o, w, cur, h => setCells_typ r (o + 1) (w.setCell ⟨g, o, none⟩ v) _ (blk_set h o v)
theorem Fl.page (h : Fl W base hi g o G O C xs) {i j : Nat} (hx : i < xs.length) (hj : j < (rd_T33 xs (i : Int)).f0.length) (p : S30) :
 Fl (W.setCells (G i) (O i + j * 5) (pgC p)) base hi g o G O C (xs.set i ⟨(rd_T33 xs (i : Int)).f0.set j p, (rd_T33 xs (i : Int)).f1⟩) := by
 obtain ⟨b1, b2, b3, b4, ⟨bc, b5⟩, b6, b7, b8⟩ := h.at_ i hx
 have far : ∀ k, k ≠ G i → (W.setCells (G i) (O i + j * 5) (pgC p)).heap[k]? = W.heap[k]? := fun k hk => setCells_far _ _ k hk
 have e1 : ∀ q : Nat, (W.setCells (G i) (O i + j * 5) (pgC p)).cell? ⟨g, q, none⟩ = W.cell? ⟨g, q, none⟩ := fun q => cell_heap (far g b3.symm)
 have hin := World.cell?_setCells_in (G i) (pgC p) (O i + j * 5) W (fun t ht => by
  have ht5 : t < 5 := ht
  have : ∃ u, (pgC (rd_T30 (rd_T33 xs (i : Int)).f0 (j : Int)))[t]? = some u := ⟨_, List.getElem?_eq_getElem (show t < 5 from ht5)⟩
  obtain ⟨u, hu⟩ := this
  rw [b8 j hj t u hu]
  rfl)
 refine ⟨⟨h.own.1, h.own.2.1, by rw [(setCells_same _ _ _ _).2.2.2]; exact h.own.2.2⟩, ?_, fun a ha => ?_, fun a a' ha ha' => ?_, ⟨by rw [List.length_set]; exact h.few.1, fun a ha => ?_⟩⟩
 · obtain ⟨c, e⟩ := h.typ
   exact ⟨c, (far g b3.symm).trans e⟩
 · rw [List.length_set] at ha
   rw [flB_set hx]
   by_cases hc : a = i
   rotate_left
   · rw [if_neg hc]
     obtain ⟨a1, a2, a3, a4, ⟨c, a5⟩, a6, a7, a8⟩ := h.at_ a ha
     have hne := h.one a i ha hx hc
     exact ⟨a1, a2, a3, a4, ⟨c, (far _ hne).trans a5⟩, (e1 _).trans a6, (e1 _).trans a7, fun j' hj' t u hu => (cell_heap (a := ⟨G a, O a + j' * 5 + t, none⟩) (far _ hne)).trans (a8 j' hj' t u hu)⟩
   rw [if_pos hc, hc]
   obtain ⟨c', hc'⟩ := setCells_typ (pgC p) (O i + j * 5) W bc b5
   show base ≤ G i ∧ G i < hi ∧ G i ≠ g ∧ ((rd_T33 xs (i : Int)).f0.set j p).length ≤ C i ∧ _ ∧ _ = some (Value.slice (some ⟨G i, O i, none⟩) ((rd_T33 xs (i : Int)).f0.set j p).length (C i)) ∧ _ ∧ ∀ j' : Nat, j' < ((rd_T33 xs (i : Int)).f0.set j p).length → _
   rw [List.length_set]
   refine ⟨b1, b2, b3, b4, ⟨c', hc'⟩, (e1 _).trans b6, (e1 _).trans b7, fun j' hj' t u hu => ?_⟩
   rw [flP_set hj] at hu
   have ht : t < 5 := (List.getElem?_eq_some_iff.1 hu).1
   by_cases hjj : j' = j
   · rw [if_pos hjj] at hu
     rw [hjj, hin t ht]
     rw [List.getElem?_eq_getElem (show t < (pgC p).length from ht)] at hu
     exact hu
   rw [if_neg hjj] at hu
   rw [World.cell?_setCells_out (G i) (pgC p) (O i + j * 5) W ⟨G i, O i + j' * 5 + t, none⟩ (fun _ _ => by show O i + j' * 5 + t < O i + j * 5 ∨ O i + j * 5 + 5 ≤ O i + j' * 5 + t; omega)]
   exact b8 j' hj' t u hu
 · rw [List.length_set] at ha ha'
   exact h.one a a' ha ha'
 · rw [List.length_set] at ha
   rw [flB_set hx]
   split
   · show ((rd_T33 xs (i : Int)).f0.set j p).length ≤ 4
     rw [List.length_set]
     exact h.few.2 i hx
   · exact h.few.2 a ha
theorem Fl.cutF (h : Fl W base hi g o G O C xs) : Fl W base hi g (o + 2) (fun i => G (i + 1)) (fun i => O (i + 1)) (fun i => C (i + 1)) xs.tail := by
 have hl : ∀ i : Nat, i < xs.tail.length → i + 1 < xs.length := fun i hi => by rw [List.length_tail] at hi; omega
 refine ⟨h.own, h.typ, fun i hx => ?_, fun i i' hx hx' hne => h.one (i + 1) (i' + 1) (hl i hx) (hl i' hx') (by omega), ⟨by rw [List.length_tail]; have := h.few.1; omega, fun i hx => ?_⟩⟩
 · rw [flB_tail, show o + 2 + i * 2 = o + (i + 1) * 2 by omega]
   exact h.at_ (i + 1) (hl i hx)
 · rw [flB_tail]
   exact h.few.2 (i + 1) (hl i hx)
theorem fl_cell {W : World} {g a b : Nat} (hne : a ≠ b) (v : Value) : (W.setCell ⟨g, a, none⟩ v).cell? ⟨g, b, none⟩ = W.cell? ⟨g, b, none⟩ := World.cell?_setCell_other _ _ _ _ (fun e => hne (Addr.mk.inj e).2.1)
theorem Fl.outer (h : Fl W base hi g o G O C xs) {i q : Nat} (hx : i < xs.length) (hq : q = 0 ∨ q = 1) (v : Value) (O' C' : Nat → Nat) (x : S33) (hO : ∀ k, k ≠ i → O' k = O k ∧ C' k = C k) (hlen : x.f0.length ≤ C' i ∧ x.f0.length ≤ 4)
 (h0 : (W.setCell ⟨g, o + i * 2 + q, none⟩ v).cell? ⟨g, o + i * 2, none⟩ = some (.slice (some ⟨G i, O' i, none⟩) x.f0.length (C' i))) (h1 : (W.setCell ⟨g, o + i * 2 + q, none⟩ v).cell? ⟨g, o + i * 2 + 1, none⟩ = some (.int .i64 x.f1))
 (hp : ∀ j : Nat, j < x.f0.length → ∀ t u, (pgC (rd_T30 x.f0 (j : Int)))[t]? = some u → W.cell? ⟨G i, O' i + j * 5 + t, none⟩ = some u) :
 Fl (W.setCell ⟨g, o + i * 2 + q, none⟩ v) base hi g o G O' C' (xs.set i x) := by
 have far : ∀ k, k ≠ g → (W.setCell ⟨g, o + i * 2 + q, none⟩ v).heap[k]? = W.heap[k]? := fun k hk => Below.heap_setCell W ⟨g, o + i * 2 + q, none⟩ v k hk
 refine ⟨⟨h.own.1, h.own.2.1, by simpa [World.setCell] using h.own.2.2⟩, ?_, fun a ha => ?_, fun a a' ha ha' => ?_, ⟨by rw [List.length_set]; exact h.few.1, fun a ha => ?_⟩⟩
 · obtain ⟨c, e⟩ := h.typ
   exact ⟨_, blk_set e (o + i * 2 + q) v⟩
 · rw [List.length_set] at ha
   rw [flB_set hx]
   obtain ⟨a1, a2, a3, a4, ⟨c, a5⟩, a6, a7, a8⟩ := h.at_ a ha
   have ep : ∀ z : Nat, (W.setCell ⟨g, o + i * 2 + q, none⟩ v).cell? ⟨G a, z, none⟩ = W.cell? ⟨G a, z, none⟩ := fun z => cell_heap (far (G a) a3)
   by_cases hc : a = i
   · rw [if_pos hc]
     subst hc
     exact ⟨a1, a2, a3, hlen.1, ⟨c, (far _ a3).trans a5⟩, h0, h1, fun j hj t u hu => (ep _).trans (hp j hj t u hu)⟩
   rw [if_neg hc, (hO a hc).1, (hO a hc).2]
   exact ⟨a1, a2, a3, a4, ⟨c, (far _ a3).trans a5⟩, (fl_cell (by omega) v).trans a6, (fl_cell (by omega) v).trans a7, fun j hj t u hu => (ep _).trans (a8 j hj t u hu)⟩
 · rw [List.length_set] at ha ha'
   exact h.one a a' ha ha'
 · rw [List.length_set] at ha
   rw [flB_set hx]
   split
   · exact hlen.2
   · exact h.few.2 a ha
theorem Fl.worn (h : Fl W base hi g o G O C xs) {i : Nat} (hx : i < xs.length) (x : Int) : Fl (W.setCell ⟨g, o + i * 2 + 1, none⟩ (.int .i64 x)) base hi g o G O C (xs.set i ⟨(rd_T33 xs (i : Int)).f0, x⟩) := by
 obtain ⟨b1, b2, b3, b4, b5, b6, b7, b8⟩ := h.at_ i hx
 exact h.outer hx (.inr rfl) _ O C _ (fun k _ => ⟨rfl, rfl⟩) ⟨b4, h.few.2 i hx⟩ ((fl_cell (by omega) _).trans b6) (World.cell?_setCell_same _ _ _ b7) b8
theorem Fl.cutP (h : Fl W base hi g o G O C xs) {i : Nat} (hx : i < xs.length) (hl : 1 ≤ (rd_T33 xs (i : Int)).f0.length) : Fl (W.setCell ⟨g, o + i * 2, none⟩ (.slice (some ⟨G i, O i + 5, none⟩) ((rd_T33 xs (i : Int)).f0.length - 1) (C i - 1))) base hi g o G (fun k => if k = i then O i + 5 else O k) (fun k => if k = i then C i - 1 else C k) (xs.set i ⟨(rd_T33 xs (i : Int)).f0.tail, (rd_T33 xs (i : Int)).f1⟩) := by
 obtain ⟨b1, b2, b3, b4, b5, b6, b7, b8⟩ := h.at_ i hx
 have hf := h.few.2 i hx
 refine h.outer (q := 0) hx (.inl rfl) _ (fun k => if k = i then O i + 5 else O k) (fun k => if k = i then C i - 1 else C k) _ (fun k hk => ⟨if_neg hk, if_neg hk⟩) ⟨?_, ?_⟩ ?_ ?_ (fun j hj t u hu => ?_)
 · show (rd_T33 xs (i : Int)).f0.tail.length ≤ (if i = i then C i - 1 else C i)
   rw [if_pos rfl, List.length_tail]
   omega
 · show (rd_T33 xs (i : Int)).f0.tail.length ≤ 4
   rw [List.length_tail]
   omega
 · show _ = some (Value.slice (some ⟨G i, if i = i then O i + 5 else O i, none⟩) (rd_T33 xs (i : Int)).f0.tail.length (if i = i then C i - 1 else C i))
   rw [if_pos rfl, if_pos rfl, List.length_tail]
   exact World.cell?_setCell_same _ _ _ b6
 · exact (fl_cell (by omega) _).trans b7
 · have hj : j < (rd_T33 xs (i : Int)).f0.tail.length := hj
   rw [List.length_tail] at hj
   have hu : (pgC (rd_T30 (rd_T33 xs (i : Int)).f0.tail (j : Int)))[t]? = some u := hu
   rw [flP_tail] at hu
   show W.cell? ⟨G i, (if i = i then O i + 5 else O i) + j * 5 + t, none⟩ = some u
   rw [if_pos rfl, show O i + 5 + j * 5 + t = O i + (j + 1) * 5 + t by omega]
   exact b8 (j + 1) (by omega) t u hu
end
theorem Fl.below {W W' : World} {base hi g o : Nat} {G O C : Nat → Nat} {xs : List S33} (h : Fl W base hi g o G O C xs) (hb : Below W.heap.size W W') : Fl W' base hi g o G O C xs := h.step (fun k _ h2 => hb.block k (Nat.lt_of_lt_of_le h2 h.own.2.2)) (Nat.le_trans h.own.2.2 hb.size)
theorem Fl.alloc {W : World} {base hi g o : Nat} {G O C : Nat → Nat} {xs : List S33} (h : Fl W base hi g o G O C xs) (x : Obj) : Fl (W.alloc x) base hi g o G O C xs := h.below (below_alloc (Below.refl _ _) x)
theorem Fl.keep {W W' : World} {base hi g o b : Nat} {G O C : Nat → Nat} {xs : List S33} (h : Fl W base hi g o G O C xs) (hk : KeepBut W W' b none) (hb : b < base) : Fl W' base hi g o G O C xs := h.step (fun k h1 h2 => hk.2 k (Nat.lt_of_lt_of_le h2 h.own.2.2) (by omega) (by simp)) (Nat.le_trans h.own.2.2 hk.1)
def FlAt (W : World) (base : Nat) (v : Value) (xs : List S33) : Prop := ∃ (g o hi n c : Nat) (G O C : Nat → Nat), v = .slice (some ⟨g, o, none⟩) n c ∧ n = xs.length ∧ n ≤ c ∧ Fl W base hi g o G O C xs
theorem FlAt.V {W : World} {base b e : Nat} {v : Value} {xs : List S33} (h : FlAt W base v xs) : Kd.V k33 e W b (fun k => base ≤ k) v xs := by
 obtain ⟨g, o, hi, n, c, G, O, C, rfl, rfl, hc, hF⟩ := h
 exact hF.V hc
def flFine (fl : List S33) : Bool := fl.length == 4 && fl.all (fun b => b.f0.length == 4)
theorem fl_fine {fl : List S33} (h : flFine fl = true) : fl.length = 4 ∧ ∀ i : Nat, i < 4 → (rd_T33 fl (i : Int)).f0.length = 4 := by
 unfold flFine at h
 rw [Bool.and_eq_true, beq_iff_eq, List.all_eq_true] at h
 refine ⟨h.1, fun i hi => ?_⟩
 have e := flB_at (xs := fl) (j := i) (List.getElem?_eq_getElem (by omega))
 rw [e]
 exact beq_iff_eq.1 (h.2 _ (List.getElem_mem _))
set_option maxHeartbeats 4000000 in
set_option maxRecDepth 100000 in
theorem spec_l71Flash.c4 (k g : Nat) (s0_0 : List Int) (s0_1 : Int) (ev : List S58) (fl : List S33) (dk : List Int) (p1 q p2 : Int) (w0 w : World) (hI : IsS47 w0 w g s0_0 s0_1) (hB : Below w0.heap.size w0 w)
 (h1 : spec_l71Play.f k s0_0 s0_1 = some (ev, fl, dk, p1)) (h2 : spec_l6Rd_pick.f k s0_0 p1 20 = some (q, p2)) (hfn : flFine fl = true) (n0 : q ≠ 0) (n1 : q ≠ 1) (n2 : q ≠ 2) (n3 : q ≠ 3) :
 Calls Try.prog 9 #[.pointer (some ⟨g, 0, none⟩)] w fun e w' => ∃ v0_ : Value, e = .returned v0_ ∧ FlAt w' w.heap.size v0_ fl ∧ IsS47 w0 w' g s0_0 p2 ∧ Below w0.heap.size w0 w' ∧ KeepBut w w' g none := by
 have hu28 := Try.underlying33
 have hu32 := Try.underlying30
 have hu26 := Try.underlying31
 have hu70 := Try.underlying51
 have hgl := IsS47.lt hI
 have HL0 := am hB.size
 have HFN := am (fl_fine hfn)
 clear hfn
 go_enter Try.func9, Try.ntmps9
 go_wp2_with fail
 refine (spec_l71Play.calls k g s0_0 s0_1 ev fl dk p1 w0 _ hI hB h1).mono ?_
 rintro e w1 ⟨v0, v1, v2, rfl, -, hS, hD, hI1, hB1, hK1⟩
 obtain ⟨A1, c1, rfl⟩ := Kd.S_slice hS
 obtain ⟨A2, c2, rfl⟩ := Kd.R_slice hD
 obtain ⟨gf, G, CC, rfl, -, hc4, hF⟩ := Fl.of_S hS HFN.out.1 HFN.out.2
 generalize w1.heap.size = hi at hF
 have HC4 := am hc4
 have HF := am (hF.alloc (.cells #[.slice (some ⟨gf, 0, none⟩) fl.length c1, .slice A2 dk.length c2] 51))
 have HI := am (hI1.alloc (.cells #[.slice (some ⟨gf, 0, none⟩) fl.length c1, .slice A2 dk.length c2] 51))
 have HB := am (below_alloc hB1 (.cells #[.slice (some ⟨gf, 0, none⟩) fl.length c1, .slice A2 dk.length c2] 51))
 have HK := am (keep_alloc hK1 (.cells #[.slice (some ⟨gf, 0, none⟩) fl.length c1, .slice A2 dk.length c2] 51))
 clear hS hD hI hB hI1 hB1 hK1 hF hc4
 go_wp2_with fail
 refine (spec_l6Rd_pick.calls k g s0_0 p1 20 q p2 w0 _ HI.out HB.out h2).mono ?_
 rintro e w2 ⟨rfl, hI2, hB2, hK2⟩
 replace HF := am (HF.out.keep hK2 hgl)
 replace HI := am hI2
 replace HB := am hB2
 replace HK := am (KeepBut.trans HK.out hK2 (.inl rfl))
 clear hI2 hB2 hK2
 have e0 : (q == 0) = false := beq_eq_false_iff_ne.mpr n0
 have e1 : (q == 1) = false := beq_eq_false_iff_ne.mpr n1
 have e2 : (q == 2) = false := beq_eq_false_iff_ne.mpr n2
 have e3 : (q == 3) = false := beq_eq_false_iff_ne.mpr n3
 go_wp2
 go_ret
 exact ⟨_, rfl, ⟨gf, 0, hi, _, c1, G, _, CC, rfl, rfl, HC4.out, HF.out⟩, HI.out, HB.out, HK.out⟩
theorem blk_kb {w w' : World} {g a : Nat} {o : Obj} (h : w.heap[a]? = some o) (hk : KeepBut w w' g none) (hne : a ≠ g) : w'.heap[a]? = some o := (hk.2 a (Array.getElem?_eq_some_iff.1 h).1 hne (by simp)).trans h
set_option maxHeartbeats 4000000 in
set_option maxRecDepth 100000 in
theorem spec_l71Flash.c2 (k g : Nat) (s0_0 : List Int) (s0_1 : Int) (ev : List S58) (fl : List S33) (dk : List Int) (p1 q p2 : Int) (w0 w : World) (hI : IsS47 w0 w g s0_0 s0_1) (hB : Below w0.heap.size w0 w)
 (h1 : spec_l71Play.f k s0_0 s0_1 = some (ev, fl, dk, p1)) (h2 : spec_l6Rd_pick.f k s0_0 p1 20 = some (q, p2)) (hfn : flFine fl = true) (n0 : q = 2) (hl : 1 ≤ fl.length) :
 Calls Try.prog 9 #[.pointer (some ⟨g, 0, none⟩)] w fun e w' => ∃ v0_ : Value, e = .returned v0_ ∧ FlAt w' w.heap.size v0_ fl.tail ∧ IsS47 w0 w' g s0_0 p2 ∧ Below w0.heap.size w0 w' ∧ KeepBut w w' g none := by
 have hu28 := Try.underlying33
 have hu32 := Try.underlying30
 have hu26 := Try.underlying31
 have hu70 := Try.underlying51
 have hgl := IsS47.lt hI
 have HL0 := am hB.size
 have HFN := am (fl_fine hfn)
 clear hfn
 go_enter Try.func9, Try.ntmps9
 go_wp2_with fail
 refine (spec_l71Play.calls k g s0_0 s0_1 ev fl dk p1 w0 _ hI hB h1).mono ?_
 rintro e w1 ⟨v0, v1, v2, rfl, -, hS, hD, hI1, hB1, hK1⟩
 obtain ⟨A1, c1, rfl⟩ := Kd.S_slice hS
 obtain ⟨A2, c2, rfl⟩ := Kd.R_slice hD
 obtain ⟨gf, G, CC, rfl, -, hc4, hF⟩ := Fl.of_S hS HFN.out.1 HFN.out.2
 generalize w1.heap.size = hi at hF
 have HC4 := am hc4
 have HF := am (hF.alloc (.cells #[.slice (some ⟨gf, 0, none⟩) fl.length c1, .slice A2 dk.length c2] 51))
 have HI := am (hI1.alloc (.cells #[.slice (some ⟨gf, 0, none⟩) fl.length c1, .slice A2 dk.length c2] 51))
 have HB := am (below_alloc hB1 (.cells #[.slice (some ⟨gf, 0, none⟩) fl.length c1, .slice A2 dk.length c2] 51))
 have HK := am (keep_alloc hK1 (.cells #[.slice (some ⟨gf, 0, none⟩) fl.length c1, .slice A2 dk.length c2] 51))
 clear hS hD hI hB hI1 hB1 hK1 hF hc4
 go_wp2_with fail
 refine (spec_l6Rd_pick.calls k g s0_0 p1 20 q p2 w0 _ HI.out HB.out h2).mono ?_
 rintro e w2 ⟨rfl, hI2, hB2, hK2⟩
 replace HF := am (HF.out.keep hK2 hgl)
 replace HI := am hI2
 replace HB := am hB2
 replace HK := am (KeepBut.trans HK.out hK2 (.inl rfl))
 clear hI2 hB2 hK2
 subst n0
 go_wp2
 all_goals go_ret
 · exfalso
   have h1 := HC4.out
   have h2 := HFN.out.1
   omega
 · exact ⟨_, rfl, ⟨gf, 0 + 2, hi, _, c1 - 1, _, _, _, rfl, List.length_tail.symm, by have := HC4.out; omega, HF.out.cutF⟩, HI.out, HB.out, HK.out⟩
set_option maxHeartbeats 4000000 in
set_option maxRecDepth 100000 in
theorem spec_l71Flash.c1 (k g : Nat) (s0_0 : List Int) (s0_1 : Int) (ev : List S58) (fl : List S33) (dk : List Int) (p1 q p2 : Int) (i p3 v p4 : Int) (w0 w : World) (hI : IsS47 w0 w g s0_0 s0_1) (hB : Below w0.heap.size w0 w)
 (h1 : spec_l71Play.f k s0_0 s0_1 = some (ev, fl, dk, p1)) (h2 : spec_l6Rd_pick.f k s0_0 p1 20 = some (q, p2)) (hfn : flFine fl = true) (n0 : q = 1) (h3 : spec_l6Rd_pick.f k s0_0 p2 (fl.length : Int) = some (i, p3)) (hi0 : 0 ≤ i) (hi1 : i < (fl.length : Int)) (h4 : spec_l6Rd_pick.f k s0_0 p3 3 = some (v, p4)) (hv0 : 0 ≤ v) (hv1 : v < 3) :
 Calls Try.prog 9 #[.pointer (some ⟨g, 0, none⟩)] w fun e w' => ∃ v0_ : Value, e = .returned v0_ ∧ FlAt w' w.heap.size v0_ (fl.set i.toNat (⟨(rd_T33 fl i).f0, rd [-1, 200, 201] v⟩ : S33)) ∧ IsS47 w0 w' g s0_0 p4 ∧ Below w0.heap.size w0 w' ∧ KeepBut w w' g none := by
 have hu28 := Try.underlying33
 have hu32 := Try.underlying30
 have hu26 := Try.underlying31
 have hu70 := Try.underlying51
 have hgl := IsS47.lt hI
 have HL0 := am hB.size
 have HFN := am (fl_fine hfn)
 clear hfn
 go_enter Try.func9, Try.ntmps9
 go_wp2_with fail
 refine (spec_l71Play.calls k g s0_0 s0_1 ev fl dk p1 w0 _ hI hB h1).mono ?_
 rintro e w1 ⟨v0, v1, v2, rfl, -, hS, hD, hI1, hB1, hK1⟩
 obtain ⟨A1, c1, rfl⟩ := Kd.S_slice hS
 obtain ⟨A2, c2, rfl⟩ := Kd.R_slice hD
 obtain ⟨gf, G, CC, rfl, -, hc4, hF⟩ := Fl.of_S hS HFN.out.1 HFN.out.2
 generalize w1.heap.size = hi at hF
 have HC4 := am hc4
 have HF := am (hF.alloc (.cells #[.slice (some ⟨gf, 0, none⟩) fl.length c1, .slice A2 dk.length c2] 51))
 have HI := am (hI1.alloc (.cells #[.slice (some ⟨gf, 0, none⟩) fl.length c1, .slice A2 dk.length c2] 51))
 have HB := am (below_alloc hB1 (.cells #[.slice (some ⟨gf, 0, none⟩) fl.length c1, .slice A2 dk.length c2] 51))
 have HK := am (keep_alloc hK1 (.cells #[.slice (some ⟨gf, 0, none⟩) fl.length c1, .slice A2 dk.length c2] 51))
 clear hS hD hI hB hI1 hB1 hK1 hF hc4
 go_wp2_with fail
 refine (spec_l6Rd_pick.calls k g s0_0 p1 20 q p2 w0 _ HI.out HB.out h2).mono ?_
 rintro e w2 ⟨rfl, hI2, hB2, hK2⟩
 replace HF := am (HF.out.keep hK2 hgl)
 replace HI := am hI2
 replace HB := am hB2
 replace HK := am (KeepBut.trans HK.out hK2 (.inl rfl))
 clear hI2 hB2 hK2
 subst n0
 have hgb := HF.out.own.1
 go_wp2_with fail
 refine (spec_l6Rd_pick.calls k g s0_0 p2 (fl.length : Int) i p3 w0 _ HI.out HB.out h3).mono ?_
 rintro e w3 ⟨rfl, hI2, hB2, hK2⟩
 replace HF := am (HF.out.keep hK2 hgl)
 replace HI := am hI2
 replace HB := am hB2
 replace HK := am (KeepBut.trans HK.out hK2 (.inl rfl))
 clear hI2 hB2 hK2
 go_wp2_with fail
 refine (spec_l6Rd_pick.calls k g s0_0 p3 3 v p4 w0 _ (IsS47.alloc HI.out _) (below_alloc HB.out _) h4).mono ?_
 rintro e w4 ⟨rfl, hI2, hB2, hK2⟩
 have hlt3 := IsS47.lt HI.out
 have hbx := blk_kb (blk_new w3 _) hK2 (show w3.heap.size ≠ g by omega)
 replace HF := am ((HF.out.alloc _).keep hK2 hgl)
 replace HI := am hI2
 replace HB := am hB2
 replace HK := am (KeepBut.trans (keep_alloc HK.out _) hK2 (.inl rfl))
 clear hI2 hB2 hK2 hlt3
 have hin : i.toNat < fl.length := by omega
 have hat := HF.out.at_ i.toNat hin
 rw [Int.toNat_of_nonneg hi0, Nat.zero_add] at hat
 obtain ⟨bt, hbt⟩ := HF.out.typ
 have hfz := blk_frozen hbt (i.toNat * 2 + 1)
 have hcl1 := hat.2.2.2.2.2.2.1
 have hN := fun x => HF.out.worn hin x
 simp only [Nat.zero_add, Int.toNat_of_nonneg hi0] at hN
 generalize (rd_T33 fl i).f1 = wo at hcl1
 have HN := am hN
 clear hat hbt hN
 have q0 : w4.cell? ⟨w3.heap.size, 0, none⟩ = some (.int .i64 (-1)) := (blk_cell hbx 0).trans rfl
 have q1 : w4.cell? ⟨w3.heap.size, 1, none⟩ = some (.int .i64 200) := (blk_cell hbx 1).trans rfl
 have q2 : w4.cell? ⟨w3.heap.size, 2, none⟩ = some (.int .i64 201) := (blk_cell hbx 2).trans rfl
 clear hbx
 have hib := decide_eq_true hi1
 have hiq : (i < (fl.length : Int)) = True := eq_true hi1
 have hv : v = 0 ∨ v = 1 ∨ v = 2 := by omega
 clear hv0 hv1
 have HQ : ∀ x : Int, Aside0 (IsS47 w0 (w4.setCell ⟨gf, i.toNat * 2 + 1, none⟩ (.int .i64 x)) g s0_0 p4 ∧ Below w0.heap.size w0 (w4.setCell ⟨gf, i.toNat * 2 + 1, none⟩ (.int .i64 x)) ∧ KeepBut w (w4.setCell ⟨gf, i.toNat * 2 + 1, none⟩ (.int .i64 x)) g none) := fun x => ⟨IsS47.far HI.out (show g ≠ gf by omega) _, HB.out.setCell (p := ⟨gf, i.toNat * 2 + 1, none⟩) (Nat.le_trans HL0.out hgb) _, keep_far HK.out (p := ⟨gf, i.toNat * 2 + 1, none⟩) hgb _⟩
 rcases hv with rfl | rfl | rfl
 all_goals (clear h3 h4 h1 h2 hgl hgb hin; go_wp2; go_ret)
 · exact ⟨_, rfl, ⟨gf, 0, hi, _, c1, G, _, CC, rfl, List.length_set.symm, HC4.out, HN.out (-1)⟩, (HQ (-1)).out⟩
 · exact ⟨_, rfl, ⟨gf, 0, hi, _, c1, G, _, CC, rfl, List.length_set.symm, HC4.out, HN.out 200⟩, (HQ 200).out⟩
 · exact ⟨_, rfl, ⟨gf, 0, hi, _, c1, G, _, CC, rfl, List.length_set.symm, HC4.out, HN.out 201⟩, (HQ 201).out⟩
set_option maxHeartbeats 4000000 in
set_option maxRecDepth 100000 in
theorem spec_l71Flash.c3 (k g : Nat) (s0_0 : List Int) (s0_1 : Int) (ev : List S58) (fl : List S33) (dk : List Int) (p1 q p2 : Int) (i p3 : Int) (w0 w : World) (hI : IsS47 w0 w g s0_0 s0_1) (hB : Below w0.heap.size w0 w)
 (h1 : spec_l71Play.f k s0_0 s0_1 = some (ev, fl, dk, p1)) (h2 : spec_l6Rd_pick.f k s0_0 p1 20 = some (q, p2)) (hfn : flFine fl = true) (n0 : q = 3) (h3 : spec_l6Rd_pick.f k s0_0 p2 (fl.length : Int) = some (i, p3)) (hi0 : 0 ≤ i) (hi1 : i < (fl.length : Int)) (hp : 1 ≤ (rd_T33 fl i).f0.length) :
 Calls Try.prog 9 #[.pointer (some ⟨g, 0, none⟩)] w fun e w' => ∃ v0_ : Value, e = .returned v0_ ∧ FlAt w' w.heap.size v0_ (fl.set i.toNat (⟨(rd_T33 fl i).f0.tail, (rd_T33 fl i).f1⟩ : S33)) ∧ IsS47 w0 w' g s0_0 p3 ∧ Below w0.heap.size w0 w' ∧ KeepBut w w' g none := by
 have hu28 := Try.underlying33
 have hu32 := Try.underlying30
 have hu26 := Try.underlying31
 have hu70 := Try.underlying51
 have hgl := IsS47.lt hI
 have HL0 := am hB.size
 have HFN := am (fl_fine hfn)
 clear hfn
 go_enter Try.func9, Try.ntmps9
 go_wp2_with fail
 refine (spec_l71Play.calls k g s0_0 s0_1 ev fl dk p1 w0 _ hI hB h1).mono ?_
 rintro e w1 ⟨v0, v1, v2, rfl, -, hS, hD, hI1, hB1, hK1⟩
 obtain ⟨A1, c1, rfl⟩ := Kd.S_slice hS
 obtain ⟨A2, c2, rfl⟩ := Kd.R_slice hD
 obtain ⟨gf, G, CC, rfl, -, hc4, hF⟩ := Fl.of_S hS HFN.out.1 HFN.out.2
 generalize w1.heap.size = hi at hF
 have HC4 := am hc4
 have HF := am (hF.alloc (.cells #[.slice (some ⟨gf, 0, none⟩) fl.length c1, .slice A2 dk.length c2] 51))
 have HI := am (hI1.alloc (.cells #[.slice (some ⟨gf, 0, none⟩) fl.length c1, .slice A2 dk.length c2] 51))
 have HB := am (below_alloc hB1 (.cells #[.slice (some ⟨gf, 0, none⟩) fl.length c1, .slice A2 dk.length c2] 51))
 have HK := am (keep_alloc hK1 (.cells #[.slice (some ⟨gf, 0, none⟩) fl.length c1, .slice A2 dk.length c2] 51))
 clear hS hD hI hB hI1 hB1 hK1 hF hc4
 go_wp2_with fail
 refine (spec_l6Rd_pick.calls k g s0_0 p1 20 q p2 w0 _ HI.out HB.out h2).mono ?_
 rintro e w2 ⟨rfl, hI2, hB2, hK2⟩
 replace HF := am (HF.out.keep hK2 hgl)
 replace HI := am hI2
 replace HB := am hB2
 replace HK := am (KeepBut.trans HK.out hK2 (.inl rfl))
 clear hI2 hB2 hK2
 subst n0
 have hgb := HF.out.own.1
 go_wp2_with fail
 refine (spec_l6Rd_pick.calls k g s0_0 p2 (fl.length : Int) i p3 w0 _ HI.out HB.out h3).mono ?_
 rintro e w3 ⟨rfl, hI2, hB2, hK2⟩
 replace HF := am (HF.out.keep hK2 hgl)
 replace HI := am hI2
 replace HB := am hB2
 replace HK := am (KeepBut.trans HK.out hK2 (.inl rfl))
 clear hI2 hB2 hK2
 have hin : i.toNat < fl.length := by omega
 have hat := HF.out.at_ i.toNat hin
 rw [Int.toNat_of_nonneg hi0, Nat.zero_add] at hat
 obtain ⟨bt, hbt⟩ := HF.out.typ
 have hfz := blk_frozen hbt (i.toNat * 2)
 have hc := hat.2.2.2.2.2.1
 have hl1 := hat.2.2.2.1
 have h44 : (rd_T33 fl i).f0.length = 4 := by
  have := HFN.out.2 i.toNat (by have := HFN.out.1; omega)
  rw [Int.toNat_of_nonneg hi0] at this
  exact this
 have hN := HF.out.cutP hin (by rw [Int.toNat_of_nonneg hi0]; exact hp)
 rw [Nat.zero_add, Nat.zero_add, Int.toNat_of_nonneg hi0] at hN
 have HN := am hN
 have HQ : ∀ x : Value, Aside0 (IsS47 w0 (w3.setCell ⟨gf, i.toNat * 2, none⟩ x) g s0_0 p3 ∧ Below w0.heap.size w0 (w3.setCell ⟨gf, i.toNat * 2, none⟩ x) ∧ KeepBut w (w3.setCell ⟨gf, i.toNat * 2, none⟩ x) g none) := fun x => ⟨IsS47.far HI.out (show g ≠ gf by omega) _, HB.out.setCell (p := ⟨gf, i.toNat * 2, none⟩) (Nat.le_trans HL0.out hgb) _, keep_far HK.out (p := ⟨gf, i.toNat * 2, none⟩) hgb _⟩
 have hib := decide_eq_true hi1
 have hiq : (i < (fl.length : Int)) = True := eq_true hi1
 clear hat hbt hN h3 h1 h2 hgl hgb hin
 have H44 := am h44
 generalize CC i.toNat = ci at hc hl1 HN
 generalize G i.toNat = gi at hc HN
 generalize hnn : (rd_T33 fl i).f0.length = nn at hc hl1 hp HN H44
 have HNN := am hnn
 clear hnn h44
 go_wp2
 all_goals go_ret
 · exfalso
   have h1 := H44.out
   omega
 · exact ⟨_, rfl, ⟨gf, 0, hi, _, c1, G, _, _, rfl, List.length_set.symm, HC4.out, HN.out⟩, (HQ _).out⟩
theorem keepD {w0 w W : World} {g n : Nat} {a : Addr} {v : Value} (h : W.cell? a = some v ∧ Below w0.heap.size w0 W ∧ KeepBut w W g none) : (W.drewN n).cell? a = some v ∧ Below w0.heap.size w0 (W.drewN n) ∧ KeepBut w (W.drewN n) g none := ⟨h.1, pw_below_drewN h.2.1 n, keep_drewN h.2.2 n⟩
theorem keepD1 {w0 w W : World} {g : Nat} {a : Addr} {v : Value} (h : W.cell? a = some v ∧ Below w0.heap.size w0 W ∧ KeepBut w W g none) : (W.drew).cell? a = some v ∧ Below w0.heap.size w0 (W.drew) ∧ KeepBut w (W.drew) g none := ⟨h.1, below_drew h.2.1, keep_drew h.2.2⟩
theorem keepW {w0 w W : World} {g gi : Nat} {a : Addr} {v : Value} (h : W.cell? a = some v ∧ Below w0.heap.size w0 W ∧ KeepBut w W g none) (hL : w0.heap.size ≤ w.heap.size) (hgi : w.heap.size ≤ gi) (hne : a.block ≠ gi) (a1 a2 a3 a4 a5 : Nat) (u1 u2 u3 u4 u5 : Value) :
 (((((W.setCell ⟨gi, a1, none⟩ u1).setCell ⟨gi, a2, none⟩ u2).setCell ⟨gi, a3, none⟩ u3).setCell ⟨gi, a4, none⟩ u4).setCell ⟨gi, a5, none⟩ u5).cell? a = some v ∧ Below w0.heap.size w0 (((((W.setCell ⟨gi, a1, none⟩ u1).setCell ⟨gi, a2, none⟩ u2).setCell ⟨gi, a3, none⟩ u3).setCell ⟨gi, a4, none⟩ u4).setCell ⟨gi, a5, none⟩ u5) ∧ KeepBut w (((((W.setCell ⟨gi, a1, none⟩ u1).setCell ⟨gi, a2, none⟩ u2).setCell ⟨gi, a3, none⟩ u3).setCell ⟨gi, a4, none⟩ u4).setCell ⟨gi, a5, none⟩ u5) g none := by
 have e : ∀ (k : Nat), (⟨gi, k, none⟩ : Addr) ≠ a := fun k he => hne (by rw [← he])
 have hb := Nat.le_trans hL hgi
 refine ⟨?_, ((((h.2.1.setCell (p := ⟨gi, a1, none⟩) hb _).setCell (p := ⟨gi, a2, none⟩) hb _).setCell (p := ⟨gi, a3, none⟩) hb _).setCell (p := ⟨gi, a4, none⟩) hb _).setCell (p := ⟨gi, a5, none⟩) hb _, keep_far (p := ⟨gi, a5, none⟩) (keep_far (p := ⟨gi, a4, none⟩) (keep_far (p := ⟨gi, a3, none⟩) (keep_far (p := ⟨gi, a2, none⟩) (keep_far (p := ⟨gi, a1, none⟩) h.2.2 hgi _) hgi _) hgi _) hgi _) hgi _⟩
 rw [World.cell?_setCell_other _ _ _ _ (e a5), World.cell?_setCell_other _ _ _ _ (e a4), World.cell?_setCell_other _ _ _ _ (e a3), World.cell?_setCell_other _ _ _ _ (e a2), World.cell?_setCell_other _ _ _ _ (e a1)]
 exact h.1
set_option maxHeartbeats 4000000 in
set_option maxRecDepth 100000 in
theorem spec_l71Flash.c0 (k g : Nat) (s0_0 : List Int) (s0_1 : Int) (ev : List S58) (fl : List S33) (dk : List Int) (p1 q p2 : Int) (i p3 j p4 st p5 r0 r1 r2 r3 p6 : Int) (w0 w : World) (hI : IsS47 w0 w g s0_0 s0_1) (hB : Below w0.heap.size w0 w)
 (h1 : spec_l71Play.f k s0_0 s0_1 = some (ev, fl, dk, p1)) (h2 : spec_l6Rd_pick.f k s0_0 p1 20 = some (q, p2)) (hfn : flFine fl = true) (n0 : q = 0) (h3 : spec_l6Rd_pick.f k s0_0 p2 (fl.length : Int) = some (i, p3)) (hi0 : 0 ≤ i) (hi1 : i < (fl.length : Int)) (h4 : spec_l6Rd_pick.f k s0_0 p3 4 = some (j, p4)) (hj0 : 0 ≤ j) (hj1 : j < ((rd_T33 fl i).f0.length : Int)) (h5 : spec_l6Rd_pick.f k s0_0 p4 4 = some (st, p5)) (h6 : spec_l71Rec.f k s0_0 p5 = some (r0, r1, r2, r3, p6)) :
 Calls Try.prog 9 #[.pointer (some ⟨g, 0, none⟩)] w fun e w' => ∃ v0_ : Value, e = .returned v0_ ∧ FlAt w' w.heap.size v0_ (fl.set i.toNat (⟨(rd_T33 fl i).f0.set j.toNat ⟨st, ⟨r0, r1, r2, r3⟩⟩, (rd_T33 fl i).f1⟩ : S33)) ∧ IsS47 w0 w' g s0_0 p6 ∧ Below w0.heap.size w0 w' ∧ KeepBut w w' g none := by
 have hu28 := Try.underlying33
 have hu32 := Try.underlying30
 have hu26 := Try.underlying31
 have hu70 := Try.underlying51
 have hgl := IsS47.lt hI
 have HL0 := am hB.size
 have HFN := am (fl_fine hfn)
 clear hfn
 go_enter Try.func9, Try.ntmps9
 go_wp2_with fail
 refine (spec_l71Play.calls k g s0_0 s0_1 ev fl dk p1 w0 _ hI hB h1).mono ?_
 rintro e w1 ⟨v0, v1, v2, rfl, -, hS, hD, hI1, hB1, hK1⟩
 obtain ⟨A1, c1, rfl⟩ := Kd.S_slice hS
 obtain ⟨A2, c2, rfl⟩ := Kd.R_slice hD
 obtain ⟨gf, G, CC, rfl, -, hc4, hF⟩ := Fl.of_S hS HFN.out.1 HFN.out.2
 generalize w1.heap.size = hi at hF
 have HC4 := am hc4
 have HF := am (hF.alloc (.cells #[.slice (some ⟨gf, 0, none⟩) fl.length c1, .slice A2 dk.length c2] 51))
 have HI := am (hI1.alloc (.cells #[.slice (some ⟨gf, 0, none⟩) fl.length c1, .slice A2 dk.length c2] 51))
 have HB := am (below_alloc hB1 (.cells #[.slice (some ⟨gf, 0, none⟩) fl.length c1, .slice A2 dk.length c2] 51))
 have HK := am (keep_alloc hK1 (.cells #[.slice (some ⟨gf, 0, none⟩) fl.length c1, .slice A2 dk.length c2] 51))
 clear hS hD hI hB hI1 hB1 hK1 hF hc4
 go_wp2_with fail
 refine (spec_l6Rd_pick.calls k g s0_0 p1 20 q p2 w0 _ HI.out HB.out h2).mono ?_
 rintro e w2 ⟨rfl, hI2, hB2, hK2⟩
 replace HF := am (HF.out.keep hK2 hgl)
 replace HI := am hI2
 replace HB := am hB2
 replace HK := am (KeepBut.trans HK.out hK2 (.inl rfl))
 clear hI2 hB2 hK2
 subst n0
 have hgb := HF.out.own.1
 have hin : i.toNat < fl.length := by omega
 have hat := HF.out.at_ i.toNat hin
 rw [Int.toNat_of_nonneg hi0, Nat.zero_add] at hat
 obtain ⟨bi, hcgi⟩ := hat.2.2.2.2.1
 have hgib := hat.1
 have hgigf := hat.2.2.1
 have hc := hat.2.2.2.2.2.1
 have hjn : j.toNat < (rd_T33 fl i).f0.length := by omega
 have hd := hat.2.2.2.2.2.2.2 j.toNat hjn
 rw [Nat.zero_add] at hd
 have HD := am (And.intro (hd 0 _ rfl) (And.intro (hd 1 _ rfl) (And.intro (hd 2 _ rfl) (And.intro (hd 3 _ rfl) (hd 4 _ rfl)))))
 rw [Nat.add_zero] at HD
 have HBI := am hcgi
 have HP := am (fun (W : World) (hk : KeepBut w2 W g none) => (HF.out.keep hk hgl).page hin (j := j.toNat) (by rw [Int.toNat_of_nonneg hi0]; exact hjn) (⟨st, ⟨r0, r1, r2, r3⟩⟩ : S30))
 simp only [Nat.zero_add, Int.toNat_of_nonneg hi0] at HP
 generalize hpq : (rd_T30 (rd_T33 fl i).f0 ((j.toNat : Nat) : Int)) = pq at HD
 generalize CC i.toNat = ci at hc hat
 generalize G i.toNat = gi at hc HBI HD hgib hgigf HP
 clear hpq hd hat hcgi hin hjn
 generalize hnn : (rd_T33 fl i).f0.length = nn at hc hj1
 clear hnn
 have hib := decide_eq_true hi1
 have hiq : (i < (fl.length : Int)) = True := eq_true hi1
 have hjb := decide_eq_true hj1
 have hjq : (j < (nn : Int)) = True := eq_true hj1
 have hgfg : gf ≠ g := by omega
 have hgig : gi ≠ g := by omega
 have hSS : w2.cell? ⟨gf, i.toNat * 2, none⟩ = some (.slice (some ⟨gi, 0, none⟩) nn ci) ∧ Below w0.heap.size w0 w2 ∧ KeepBut w w2 g none := ⟨hc, HB.out, HK.out⟩
 have HGI := am hgib
 have hd1 : ∀ (W : World) (n : Nat) (a : Addr), (W.drewN n).cell? a = W.cell? a := fun _ _ _ => rfl
 have hd3 : ∀ (W : World) (n : Nat) (a : Addr), (W.drewN n).frozen? a = W.frozen? a := fun _ _ _ => rfl
 clear hc hgb
 go_wp2_with fail
 go_region_held3 (fun W => W.cell? ⟨gf, i.toNat * 2, none⟩ = some (.slice (some ⟨gi, 0, none⟩) nn ci) ∧ Below w0.heap.size w0 W ∧ KeepBut w W g none)
  (first | (with_reducible assumption) | (with_reducible exact keepD hSS) | (with_reducible exact keepD1 hSS) | (with_reducible exact keepD hS3) | (with_reducible exact keepD hS4) | (with_reducible exact keepD hS5) | (with_reducible exact keepD hS6) | (with_reducible exact keepW hS6 HL0.out HGI.out hgigf.symm _ _ _ _ _ _ _ _ _ _) | (with_reducible exact keepW (keepD hS6) HL0.out HGI.out hgigf.symm _ _ _ _ _ _ _ _ _ _))
  (first
   | (go_at_call 18; have _hg := HI5.out; clear _hg; refine (spec_l71Rec.calls k g s0_0 p5 r0 r1 r2 r3 p6 w0 _ (by first | (with_reducible exact HI5.out) | (with_reducible exact IsS47.drewN HI5.out _) | (with_reducible exact IsS47.drew HI5.out)) (by first | (with_reducible exact hS5.2.1) | (with_reducible exact pw_below_drewN hS5.2.1 _) | (with_reducible exact below_drew hS5.2.1)) h6).mono ?_; rintro e w6 ⟨rfl, hI6, hB6, hq6⟩; have hK6 : KeepBut w2 w6 g none := KeepBut.trans HK5.out hq6 (.inl rfl); have HI6 := am hI6; have HK6 := am hK6; have hS6 : w6.cell? ⟨gf, i.toNat * 2, none⟩ = some (.slice (some ⟨gi, 0, none⟩) nn ci) ∧ Below w0.heap.size w0 w6 ∧ KeepBut w w6 g none := ⟨keep_cell hK6 hSS.1 hgfg, hB6, KeepBut.trans HK.out hK6 (.inl rfl)⟩; clear hI6 hq6 hB6 hK6; have K6 := HK6.out; have d0 := keep_cell K6 HD.out.1 hgig; have d1 := keep_cell K6 HD.out.2.1 hgig; have d2 := keep_cell K6 HD.out.2.2.1 hgig; have d3 := keep_cell K6 HD.out.2.2.2.1 hgig; have d4 := keep_cell K6 HD.out.2.2.2.2 hgig; have bk6 := blk_kb HBI.out K6 hgig; have f0 := blk_frozen bk6 (j.toNat * 5); have f1 := blk_frozen bk6 (j.toNat * 5 + 1); have f2 := blk_frozen bk6 (j.toNat * 5 + 2); have f3 := blk_frozen bk6 (j.toNat * 5 + 3); have f4 := blk_frozen bk6 (j.toNat * 5 + 4); clear K6 bk6)
   | (go_at_call 10; have _hg := HI4.out; clear _hg; refine (spec_l6Rd_pick.calls k g s0_0 p4 4 st p5 w0 _ (by first | (with_reducible exact HI4.out) | (with_reducible exact IsS47.drewN HI4.out _) | (with_reducible exact IsS47.drew HI4.out)) (by first | (with_reducible exact hS4.2.1) | (with_reducible exact pw_below_drewN hS4.2.1 _) | (with_reducible exact below_drew hS4.2.1)) h5).mono ?_; rintro e w5 ⟨rfl, hI5, hB5, hq5⟩; have hK5 : KeepBut w2 w5 g none := KeepBut.trans HK4.out hq5 (.inl rfl); have HI5 := am hI5; have HK5 := am hK5; have hS5 : w5.cell? ⟨gf, i.toNat * 2, none⟩ = some (.slice (some ⟨gi, 0, none⟩) nn ci) ∧ Below w0.heap.size w0 w5 ∧ KeepBut w w5 g none := ⟨keep_cell hK5 hSS.1 hgfg, hB5, KeepBut.trans HK.out hK5 (.inl rfl)⟩; clear hI5 hq5 hB5 hK5)
   | (go_at_call 10; have _hg := HI3.out; clear _hg; refine (spec_l6Rd_pick.calls k g s0_0 p3 4 j p4 w0 _ (by first | (with_reducible exact HI3.out) | (with_reducible exact IsS47.drewN HI3.out _) | (with_reducible exact IsS47.drew HI3.out)) (by first | (with_reducible exact hS3.2.1) | (with_reducible exact pw_below_drewN hS3.2.1 _) | (with_reducible exact below_drew hS3.2.1)) h4).mono ?_; rintro e w4 ⟨rfl, hI4, hB4, hq4⟩; have hK4 : KeepBut w2 w4 g none := KeepBut.trans HK3.out hq4 (.inl rfl); have HI4 := am hI4; have HK4 := am hK4; have hS4 : w4.cell? ⟨gf, i.toNat * 2, none⟩ = some (.slice (some ⟨gi, 0, none⟩) nn ci) ∧ Below w0.heap.size w0 w4 ∧ KeepBut w w4 g none := ⟨keep_cell hK4 hSS.1 hgfg, hB4, KeepBut.trans HK.out hK4 (.inl rfl)⟩; clear hI4 hq4 hB4 hK4)
   | (go_at_call 10; have _hg := HI.out; clear _hg; refine (spec_l6Rd_pick.calls k g s0_0 p2 (fl.length : Int) i p3 w0 _ (by first | (with_reducible exact HI.out) | (with_reducible exact IsS47.drewN HI.out _) | (with_reducible exact IsS47.drew HI.out)) (by first | (with_reducible exact hSS.2.1) | (with_reducible exact pw_below_drewN hSS.2.1 _) | (with_reducible exact below_drew hSS.2.1)) h3).mono ?_; rintro e w3 ⟨rfl, hI3, hB3, hq3⟩; have hK3 : KeepBut w2 w3 g none := hq3; have HI3 := am hI3; have HK3 := am hK3; have hS3 : w3.cell? ⟨gf, i.toNat * 2, none⟩ = some (.slice (some ⟨gi, 0, none⟩) nn ci) ∧ Below w0.heap.size w0 w3 ∧ KeepBut w w3 g none := ⟨keep_cell hK3 hSS.1 hgfg, hB3, KeepBut.trans HK.out hK3 (.inl rfl)⟩; clear hI3 hq3 hB3 hK3)
   | fail)
 have hS6w := (show (((((w6.setCell ⟨gi, j.toNat * 5, none⟩ (.int .i64 st)).setCell ⟨gi, j.toNat * 5 + 1, none⟩ (.int .i64 r0)).setCell ⟨gi, j.toNat * 5 + 2, none⟩ (.int .i64 r1)).setCell ⟨gi, j.toNat * 5 + 3, none⟩ (.int .i64 r2)).setCell ⟨gi, j.toNat * 5 + 4, none⟩ (.int .i64 r3)).cell? ⟨gf, i.toNat * 2, none⟩ = some (.slice (some ⟨gi, 0, none⟩) nn ci) ∧ Below w0.heap.size w0 (((((w6.setCell ⟨gi, j.toNat * 5, none⟩ (.int .i64 st)).setCell ⟨gi, j.toNat * 5 + 1, none⟩ (.int .i64 r0)).setCell ⟨gi, j.toNat * 5 + 2, none⟩ (.int .i64 r1)).setCell ⟨gi, j.toNat * 5 + 3, none⟩ (.int .i64 r2)).setCell ⟨gi, j.toNat * 5 + 4, none⟩ (.int .i64 r3)) ∧ KeepBut w (((((w6.setCell ⟨gi, j.toNat * 5, none⟩ (.int .i64 st)).setCell ⟨gi, j.toNat * 5 + 1, none⟩ (.int .i64 r0)).setCell ⟨gi, j.toNat * 5 + 2, none⟩ (.int .i64 r1)).setCell ⟨gi, j.toNat * 5 + 3, none⟩ (.int .i64 r2)).setCell ⟨gi, j.toNat * 5 + 4, none⟩ (.int .i64 r3)) g none from by with_reducible assumption)
 have hst := HP.out w6 HK6.out
 have hgne : g ≠ gi := fun h => hgig h.symm
 have hI7 := IsS47.far (p := ⟨gi, j.toNat * 5 + 4, none⟩) (IsS47.far (p := ⟨gi, j.toNat * 5 + 3, none⟩) (IsS47.far (p := ⟨gi, j.toNat * 5 + 2, none⟩) (IsS47.far (p := ⟨gi, j.toNat * 5 + 1, none⟩) (IsS47.far (p := ⟨gi, j.toNat * 5, none⟩) HI6.out hgne (.int .i64 st)) hgne (.int .i64 r0)) hgne (.int .i64 r1)) hgne (.int .i64 r2)) hgne (.int .i64 r3)
 have HR := am (And.intro hS6w (And.intro hst hI7))
 clear hS6w hst hI7 hSS hS3 hS4 hS5 hS6 d0 d1 d2 d3 d4 f0 f1 f2 f3 f4 h1 h2 h3 h4 h5 h6 hd1 hd3 HF HI HI3 HI4 HI5 HI6 HK3 HK4 HK5 HK6 HD HBI HP
 go_wp2
 go_ret
 exact ⟨_, rfl, ⟨gf, 0, hi, _, c1, _, _, _, rfl, List.length_set.symm, HC4.out, HR.out.2.1⟩, HR.out.2.2, HR.out.1.2⟩
def spec_l71Flash.g (k : Nat) (s0_0 : List Int) (fl : List S33) (q p2 : Int) : Option (List S33 × Int) :=
 if q = 0 then (spec_l6Rd_pick.f k s0_0 p2 (fl.length : Int)).bind fun b3 => (spec_l6Rd_pick.f k s0_0 b3.2 4).bind fun b4 => (spec_l6Rd_pick.f k s0_0 b4.2 4).bind fun b5 => (spec_l71Rec.f k s0_0 b5.2).bind fun b6 =>
  if 0 ≤ b3.1 ∧ b3.1 < (fl.length : Int) ∧ 0 ≤ b4.1 ∧ b4.1 < ((rd_T33 fl b3.1).f0.length : Int) then some (fl.set b3.1.toNat (⟨(rd_T33 fl b3.1).f0.set b4.1.toNat ⟨b5.1, ⟨b6.1, b6.2.1, b6.2.2.1, b6.2.2.2.1⟩⟩, (rd_T33 fl b3.1).f1⟩ : S33), b6.2.2.2.2) else none
 else if q = 1 then (spec_l6Rd_pick.f k s0_0 p2 (fl.length : Int)).bind fun b3 => (spec_l6Rd_pick.f k s0_0 b3.2 3).bind fun b4 =>
  if 0 ≤ b3.1 ∧ b3.1 < (fl.length : Int) ∧ 0 ≤ b4.1 ∧ b4.1 < 3 then some (fl.set b3.1.toNat (⟨(rd_T33 fl b3.1).f0, rd [-1, 200, 201] b4.1⟩ : S33), b4.2) else none
 else if q = 2 then (if 1 ≤ fl.length then some (fl.tail, p2) else none)
 else if q = 3 then (spec_l6Rd_pick.f k s0_0 p2 (fl.length : Int)).bind fun b3 =>
  if 0 ≤ b3.1 ∧ b3.1 < (fl.length : Int) ∧ 1 ≤ (rd_T33 fl b3.1).f0.length then some (fl.set b3.1.toNat (⟨(rd_T33 fl b3.1).f0.tail, (rd_T33 fl b3.1).f1⟩ : S33), b3.2) else none
 else some (fl, p2)
def spec_l71Flash.f (k : Nat) (s0_0 : List Int) (s0_1 : Int) : Option (List S33 × Int) :=
 (spec_l71Play.f k s0_0 s0_1).bind fun b1 => (spec_l6Rd_pick.f k s0_0 b1.2.2.2 20).bind fun b2 => if flFine b1.2.1 = true then spec_l71Flash.g k s0_0 b1.2.1 b2.1 b2.2 else none
theorem spec_l71Flash.mono : ∀ a0 a1 k, LeO (spec_l71Flash.f k a0 a1) (spec_l71Flash.f (k + 1) a0 a1) := by
 intro a0 a1 k
 unfold spec_l71Flash.f
 refine LeO.bind (spec_l71Play.mono _ _ _) (fun b1 => LeO.bind (spec_l6Rd_pick.mono _ _ _ _) (fun b2 => ?_))
 unfold spec_l71Flash.g
 with_reducible repeat' first | exact LeO.refl _ | exact spec_l6Rd_pick.mono _ _ _ _ | exact spec_l71Rec.mono _ _ _ | refine LeO.bind ?_ (fun _ => ?_) | refine LeO.ite ?_ ?_ | exact LeO.none _
theorem spec_l71Flash.callsF (k : Nat) (g : Nat) (s0_0 : List Int) (s0_1 : Int) (r1 : List (S33)) (r2 : Int) (w0 w : World) (hI : IsS47 w0 w g s0_0 s0_1) (hB : Below w0.heap.size w0 w) (h : spec_l71Flash.f k s0_0 s0_1 = some (r1, r2)) :
 Calls Try.prog 9 #[.pointer (some ⟨g, 0, none⟩)] w fun e w' => ∃ v0_ : Value, e = .returned v0_ ∧ FlAt w' w.heap.size v0_ r1 ∧ IsS47 w0 w' g s0_0 r2 ∧ Below w0.heap.size w0 w' ∧ KeepBut w w' g none := by
 unfold spec_l71Flash.f at h
 obtain ⟨⟨ev, fl, dk, p1⟩, h1, h⟩ := Option.bind_eq_some_iff.1 h
 obtain ⟨⟨q, p2⟩, h2, h⟩ := Option.bind_eq_some_iff.1 h
 replace h : (if flFine fl = true then spec_l71Flash.g k s0_0 fl q p2 else none) = some (r1, r2) := h
 by_cases hfn : flFine fl = true
 rotate_left
 · rw [if_neg hfn] at h
   cases h
 rw [if_pos hfn] at h
 unfold spec_l71Flash.g at h
 by_cases n0 : q = 0
 · rw [if_pos n0] at h
   obtain ⟨⟨i, p3⟩, h3, h⟩ := Option.bind_eq_some_iff.1 h
   obtain ⟨⟨j, p4⟩, h4, h⟩ := Option.bind_eq_some_iff.1 h
   obtain ⟨⟨st, p5⟩, h5, h⟩ := Option.bind_eq_some_iff.1 h
   obtain ⟨⟨r0, ra, rb, rc, p6⟩, h6, h⟩ := Option.bind_eq_some_iff.1 h
   obtain ⟨⟨hi0, hi1, hj0, hj1⟩, h⟩ := ite_some h
   have e := Prod.mk.inj (Option.some.inj h)
   rw [← e.1, ← e.2]
   exact spec_l71Flash.c0 k g s0_0 s0_1 ev fl dk p1 q p2 i p3 j p4 st p5 r0 ra rb rc p6 w0 w hI hB h1 h2 hfn n0 h3 hi0 hi1 h4 hj0 hj1 h5 h6
 rw [if_neg n0] at h
 by_cases n1 : q = 1
 · rw [if_pos n1] at h
   obtain ⟨⟨i, p3⟩, h3, h⟩ := Option.bind_eq_some_iff.1 h
   obtain ⟨⟨j, p4⟩, h4, h⟩ := Option.bind_eq_some_iff.1 h
   obtain ⟨⟨hi0, hi1, hj0, hj1⟩, h⟩ := ite_some h
   have e := Prod.mk.inj (Option.some.inj h)
   rw [← e.1, ← e.2]
   exact spec_l71Flash.c1 k g s0_0 s0_1 ev fl dk p1 q p2 i p3 j p4 w0 w hI hB h1 h2 hfn n1 h3 hi0 hi1 h4 hj0 hj1
 rw [if_neg n1] at h
 by_cases n2 : q = 2
 · rw [if_pos n2] at h
   obtain ⟨hl, h⟩ := ite_some h
   have e := Prod.mk.inj (Option.some.inj h)
   rw [← e.1, ← e.2]
   exact spec_l71Flash.c2 k g s0_0 s0_1 ev fl dk p1 q p2 w0 w hI hB h1 h2 hfn n2 hl
 rw [if_neg n2] at h
 by_cases n3 : q = 3
 · rw [if_pos n3] at h
   obtain ⟨⟨i, p3⟩, h3, h⟩ := Option.bind_eq_some_iff.1 h
   obtain ⟨⟨hi0, hi1, hp⟩, h⟩ := ite_some h
   have e := Prod.mk.inj (Option.some.inj h)
   rw [← e.1, ← e.2]
   exact spec_l71Flash.c3 k g s0_0 s0_1 ev fl dk p1 q p2 i p3 w0 w hI hB h1 h2 hfn n3 h3 hi0 hi1 hp
 rw [if_neg n3] at h
 have e := Prod.mk.inj (Option.some.inj h)
 rw [← e.1, ← e.2]
 exact spec_l71Flash.c4 k g s0_0 s0_1 ev fl dk p1 q p2 w0 w hI hB h1 h2 hfn n0 n1 n2 n3
theorem spec_l71Flash.calls (k : Nat) (g : Nat) (s0_0 : List Int) (s0_1 : Int) (r1 : List (S33)) (r2 : Int) (w0 w : World) (hI : IsS47 w0 w g s0_0 s0_1) (hB : Below w0.heap.size w0 w) (h : spec_l71Flash.f k s0_0 s0_1 = some (r1, r2)) :
 Calls Try.prog 9 #[.pointer (some ⟨g, 0, none⟩)] w fun e w' => ∃ v0_ : Value, e = .returned v0_ ∧ Kd.V k33 33 w' w.heap.size (fun k_ => w.heap.size ≤ k_) v0_ r1 ∧ IsS47 w0 w' g s0_0 r2 ∧ Below w0.heap.size w0 w' ∧ KeepBut w w' g none := by
 refine (spec_l71Flash.callsF k g s0_0 s0_1 r1 r2 w0 w hI hB h).mono ?_
 rintro e w' ⟨v, he, hF, hr⟩
 exact ⟨v, he, hF.V, hr⟩
def spec_DrawFlashOk.f (k : Nat) (l0 : List Int) : Option (List S33) :=
 (spec_l6Open.f l0).bind fun b0 => (spec_l71Flash.f k b0.1 b0.2).bind fun b1 => if (b1.1.length : Int) = 4 then (spec_l6Rd_pick.f k b0.1 b1.2 5).bind fun b2 =>
  if b2.1 = 0 then (if ((rd_T33 b1.1 0).f0.length : Int) = 4 then (spec_l6Rd_pick.f k b0.1 b2.2 4).bind fun b3 => (spec_l6Rd_pick.f k b0.1 b3.2 3).bind fun b4 =>
   if 0 ≤ b3.1 ∧ b3.1 < 4 then some (b1.1.set 0 ⟨(rd_T33 b1.1 0).f0.set b3.1.toNat ⟨b4.1, ⟨0, 0, 0, 0⟩⟩, (rd_T33 b1.1 0).f1⟩) else none
  else some b1.1) else some b1.1 else some b1.1
theorem spec_DrawFlashOk.mono : ∀ a0 k, LeO (spec_DrawFlashOk.f k a0) (spec_DrawFlashOk.f (k + 1) a0) := by
 intro a0 k
 unfold spec_DrawFlashOk.f
 with_reducible repeat' first | exact LeO.refl _ | exact spec_l6Rd_pick.mono _ _ _ _ | exact spec_l71Flash.mono _ _ _ | refine LeO.ite ?_ ?_ | refine LeO.bind ?_ (fun _ => ?_)
set_option maxHeartbeats 4000000 in
set_option maxRecDepth 100000 in
theorem spec_DrawFlashOk.callsF (k : Nat) (A0 : Option Addr) (c0 : Nat) (l0 : List Int) (r : List (S33)) (w : World) (hr0 : Kd.C (Kd.int .u8) w A0 l0.length l0) (hc0 : l0.length ≤ c0) (h : spec_DrawFlashOk.f k l0 = some r) :
 Calls Try.prog 4 #[.slice A0 l0.length c0] w fun e w' => ∃ v0_ : Value, e = .returned (v0_) ∧ FlAt w' w.heap.size v0_ r ∧ Below w.heap.size w w' := by
 unfold spec_DrawFlashOk.f at h
 obtain ⟨⟨s, p0⟩, h1, h⟩ := Option.bind_eq_some_iff.1 h
 obtain ⟨⟨fl, p1⟩, h2, h⟩ := Option.bind_eq_some_iff.1 h
 have hu28 := Try.underlying33
 have hu32 := Try.underlying30
 have hu26 := Try.underlying31
 have HH := am h
 clear h
 go_enter Try.func4, Try.ntmps4
 go_wp2_with fail
 refine (spec_l6Open.calls A0 c0 l0 s p0 w w (Below.refl _ _) hr0 hc0 h1).mono ?_
 rintro e w1 ⟨g, rfl, hI, hB, -⟩
 have hgl := IsS47.lt hI
 have HL0 := am hB.size
 have HG0 := am (IsS47.ge hI)
 go_wp2_with fail
 refine (spec_l71Flash.callsF k g s p0 fl p1 w w1 hI hB h2).mono ?_
 rintro e w2 ⟨v, rfl, ⟨gf, o, hi, n, c, G, O, C, rfl, rfl, hc, hF⟩, hI2, hB2, hK2⟩
 have HF := am hF
 have HC := am hc
 have HI := am hI2
 have HB := am hB2
 have HK := am hK2
 clear hI hB hF hc hI2 hB2 hK2 h1 h2 hr0 hc0
 have h := HH.out
 clear HH
 have fin : ∀ (W : World) (xs : List S33) (g' o' hi' c' : Nat) (G' O' C' : Nat → Nat), Fl W w1.heap.size hi' g' o' G' O' C' xs → xs.length ≤ c' → FlAt W w.heap.size (.slice (some ⟨g', o', none⟩) xs.length c') xs := fun W xs g' o' hi' c' G' O' C' hF hc => ⟨g', o', hi', xs.length, c', G', O', C', rfl, rfl, hc, hF.lower HL0.out⟩
 have FIN := am fin
 clear fin
 by_cases c1 : (fl.length : Int) = 4
 rotate_left
 · rw [if_neg c1] at h
   obtain rfl := Option.some.inj h
   have e1 : ((fl.length : Int) == 4) = false := beq_eq_false_iff_ne.mpr c1
   clear h c1
   go_wp2
   go_ret
   exact ⟨_, rfl, FIN.out _ _ _ _ _ _ _ _ _ HF.out HC.out, HB.out⟩
 rw [if_pos c1] at h
 obtain ⟨⟨a, p2⟩, h3, h⟩ := Option.bind_eq_some_iff.1 h
 have e1 : ((fl.length : Int) == 4) = true := beq_iff_eq.mpr c1
 have HH := am h
 clear h
 go_wp2_with fail
 refine (spec_l6Rd_pick.calls k g s p1 5 a p2 w _ HI.out HB.out h3).mono ?_
 rintro e w3 ⟨rfl, hI3, hB3, hK3⟩
 replace HF := am (HF.out.keep hK3 hgl)
 replace HI := am hI3
 replace HB := am hB3
 replace HK := am (KeepBut.trans HK.out hK3 (.inl rfl))
 clear hI3 hB3 hK3 h3
 have h := HH.out
 clear HH
 by_cases c2 : a = 0
 rotate_left
 · rw [if_neg c2] at h
   obtain rfl := Option.some.inj h
   have e2 : (a == 0) = false := beq_eq_false_iff_ne.mpr c2
   clear h c2
   go_wp2
   go_ret
   exact ⟨_, rfl, FIN.out _ _ _ _ _ _ _ _ _ HF.out HC.out, HB.out⟩
 rw [if_pos c2] at h
 subst c2
 have hin : 0 < fl.length := by omega
 have hat := HF.out.at_ 0 hin
 rw [Int.natCast_zero, Nat.zero_mul, Nat.add_zero] at hat
 have hcell := hat.2.2.2.2.2.1
 have hpos : ((0 : Int) < (fl.length : Int)) = True := eq_true (by omega)
 by_cases c3 : ((rd_T33 fl 0).f0.length : Int) = 4
 rotate_left
 · rw [if_neg c3] at h
   obtain rfl := Option.some.inj h
   have e3 : (((rd_T33 fl 0).f0.length : Int) == 4) = false := beq_eq_false_iff_ne.mpr c3
   clear h c3 hat
   generalize (rd_T33 fl 0).f0.length = nn at hcell e3
   go_wp2
   go_ret
   exact ⟨_, rfl, FIN.out _ _ _ _ _ _ _ _ _ HF.out HC.out, HB.out⟩
 rw [if_pos c3] at h
 obtain ⟨⟨j, p3⟩, h4, h⟩ := Option.bind_eq_some_iff.1 h
 obtain ⟨⟨st, p4⟩, h5, h⟩ := Option.bind_eq_some_iff.1 h
 obtain ⟨⟨hj0, hj1⟩, he⟩ := ite_some h
 have HE := am (Option.some.inj he)
 clear he h
 have e3 : (((rd_T33 fl 0).f0.length : Int) == 4) = true := beq_iff_eq.mpr c3
 have hj1' : (j : Int) < ((rd_T33 fl 0).f0.length : Int) := by
  replace hj1 : j < 4 := hj1
  omega
 have hgib := hat.1
 have hgigf := hat.2.2.1
 obtain ⟨bi, hcgi⟩ := hat.2.2.2.2.1
 have hjn : j.toNat < (rd_T33 fl 0).f0.length := by omega
 have hd := hat.2.2.2.2.2.2.2 j.toNat hjn
 have HD := am (And.intro (hd 0 _ rfl) (And.intro (hd 1 _ rfl) (And.intro (hd 2 _ rfl) (And.intro (hd 3 _ rfl) (hd 4 _ rfl)))))
 rw [Nat.add_zero] at HD
 have HBI := am hcgi
 have HP := am (fun (W : World) (hk : KeepBut w3 W g none) => (HF.out.keep hk hgl).page hin (j := j.toNat) hjn (⟨st, ⟨0, 0, 0, 0⟩⟩ : S30))
 simp only [Int.natCast_zero] at HP
 generalize hpq : (rd_T30 (rd_T33 fl 0).f0 ((j.toNat : Nat) : Int)) = pq at HD
 generalize C 0 = ci at hcell hat
 generalize hoi : O 0 = oi at hcell hat HD HP
 generalize hgi : G 0 = gi at hcell hat HBI HD hgib hgigf HP
 clear hpq hd hat hcgi hin hjn hoi hgi
 generalize hnn : (rd_T33 fl 0).f0.length = nn at hcell hj1' e3
 clear hnn c3
 have hjb := decide_eq_true hj1'
 have hjq : (j < (nn : Int)) = True := eq_true hj1'
 have hgfg : gf ≠ g := by have := HF.out.own.1; omega
 have hgig : gi ≠ g := by omega
 have hSS : w3.cell? ⟨gf, o, none⟩ = some (.slice (some ⟨gi, oi, none⟩) nn ci) ∧ Below w.heap.size w w3 ∧ KeepBut w1 w3 g none := ⟨hcell, HB.out, HK.out⟩
 have HGI := am hgib
 have hd1 : ∀ (W : World) (n : Nat) (a : Addr), (W.drewN n).cell? a = W.cell? a := fun _ _ _ => rfl
 have hd3 : ∀ (W : World) (n : Nat) (a : Addr), (W.drewN n).frozen? a = W.frozen? a := fun _ _ _ => rfl
 clear hj1
 go_wp2_with fail
 go_region_held3 (fun W => W.cell? ⟨gf, o, none⟩ = some (.slice (some ⟨gi, oi, none⟩) nn ci) ∧ Below w.heap.size w W ∧ KeepBut w1 W g none)
  (first | (with_reducible assumption) | (with_reducible exact keepD hSS) | (with_reducible exact keepD1 hSS) | (with_reducible exact keepD hS4) | (with_reducible exact keepD hS5) | (with_reducible exact keepW hS5 HL0.out HGI.out hgigf.symm _ _ _ _ _ _ _ _ _ _) | (with_reducible exact keepW (keepD hS5) HL0.out HGI.out hgigf.symm _ _ _ _ _ _ _ _ _ _))
  (first
   | (go_at_call 10; have _hg := HI4.out; clear _hg; refine (spec_l6Rd_pick.calls k g s p3 3 st p4 w _ (by first | (with_reducible exact HI4.out) | (with_reducible exact IsS47.drewN HI4.out _) | (with_reducible exact IsS47.drew HI4.out)) (by first | (with_reducible exact hS4.2.1) | (with_reducible exact pw_below_drewN hS4.2.1 _) | (with_reducible exact below_drew hS4.2.1)) h5).mono ?_; rintro e w5 ⟨rfl, hI5, hB5, hq5⟩; have hK5 : KeepBut w3 w5 g none := KeepBut.trans HK4.out hq5 (.inl rfl); have HI5 := am hI5; have HK5 := am hK5; have hS5 : w5.cell? ⟨gf, o, none⟩ = some (.slice (some ⟨gi, oi, none⟩) nn ci) ∧ Below w.heap.size w w5 ∧ KeepBut w1 w5 g none := ⟨keep_cell hK5 hSS.1 hgfg, hB5, KeepBut.trans HK.out hK5 (.inl rfl)⟩; clear hI5 hq5 hB5 hK5; have K5 := HK5.out; have d0 := keep_cell K5 HD.out.1 hgig; have d1 := keep_cell K5 HD.out.2.1 hgig; have d2 := keep_cell K5 HD.out.2.2.1 hgig; have d3 := keep_cell K5 HD.out.2.2.2.1 hgig; have d4 := keep_cell K5 HD.out.2.2.2.2 hgig; have bk5 := blk_kb HBI.out K5 hgig; have f0 := blk_frozen bk5 (oi + j.toNat * 5); have f1 := blk_frozen bk5 (oi + j.toNat * 5 + 1); have f2 := blk_frozen bk5 (oi + j.toNat * 5 + 2); have f3 := blk_frozen bk5 (oi + j.toNat * 5 + 3); have f4 := blk_frozen bk5 (oi + j.toNat * 5 + 4); clear K5 bk5)
   | (go_at_call 10; have _hg := HI.out; clear _hg; refine (spec_l6Rd_pick.calls k g s p2 4 j p3 w _ (by first | (with_reducible exact HI.out) | (with_reducible exact IsS47.drewN HI.out _) | (with_reducible exact IsS47.drew HI.out)) (by first | (with_reducible exact hSS.2.1) | (with_reducible exact pw_below_drewN hSS.2.1 _) | (with_reducible exact below_drew hSS.2.1)) h4).mono ?_; rintro e w4 ⟨rfl, hI4, hB4, hq4⟩; have hK4 : KeepBut w3 w4 g none := hq4; have HI4 := am hI4; have HK4 := am hK4; have hS4 : w4.cell? ⟨gf, o, none⟩ = some (.slice (some ⟨gi, oi, none⟩) nn ci) ∧ Below w.heap.size w w4 ∧ KeepBut w1 w4 g none := ⟨keep_cell hK4 hSS.1 hgfg, hB4, KeepBut.trans HK.out hK4 (.inl rfl)⟩; clear hI4 hq4 hB4 hK4)
   | fail)
 have hS6w := (show (((((w5.setCell ⟨gi, oi + j.toNat * 5, none⟩ (.int .i64 st)).setCell ⟨gi, oi + j.toNat * 5 + 1, none⟩ (.int .i64 0)).setCell ⟨gi, oi + j.toNat * 5 + 2, none⟩ (.int .i64 0)).setCell ⟨gi, oi + j.toNat * 5 + 3, none⟩ (.int .i64 0)).setCell ⟨gi, oi + j.toNat * 5 + 4, none⟩ (.int .i64 0)).cell? ⟨gf, o, none⟩ = some (.slice (some ⟨gi, oi, none⟩) nn ci) ∧ Below w.heap.size w (((((w5.setCell ⟨gi, oi + j.toNat * 5, none⟩ (.int .i64 st)).setCell ⟨gi, oi + j.toNat * 5 + 1, none⟩ (.int .i64 0)).setCell ⟨gi, oi + j.toNat * 5 + 2, none⟩ (.int .i64 0)).setCell ⟨gi, oi + j.toNat * 5 + 3, none⟩ (.int .i64 0)).setCell ⟨gi, oi + j.toNat * 5 + 4, none⟩ (.int .i64 0)) ∧ KeepBut w1 (((((w5.setCell ⟨gi, oi + j.toNat * 5, none⟩ (.int .i64 st)).setCell ⟨gi, oi + j.toNat * 5 + 1, none⟩ (.int .i64 0)).setCell ⟨gi, oi + j.toNat * 5 + 2, none⟩ (.int .i64 0)).setCell ⟨gi, oi + j.toNat * 5 + 3, none⟩ (.int .i64 0)).setCell ⟨gi, oi + j.toNat * 5 + 4, none⟩ (.int .i64 0)) g none from by with_reducible assumption)
 have hst := HP.out w5 HK5.out
 have HR := am (And.intro hS6w hst)
 clear hS6w hst hSS hS4 hS5 d0 d1 d2 d3 d4 f0 f1 f2 f3 f4 h4 h5 hd1 hd3 HF HI HI4 HI5 HK4 HK5 HD HBI HP
 go_wp2
 go_ret
 have hq := FIN.out _ _ _ _ _ _ _ _ _ HR.out.2 (by rw [List.length_set]; exact HC.out)
 rw [List.length_set] at hq
 rw [← HE.out]
 exact ⟨_, rfl, hq, HR.out.1.2.1⟩
theorem spec_DrawFlashOk.calls (k : Nat) (A0 : Option Addr) (c0 : Nat) (l0 : List Int) (r : List (S33)) (w : World) (hr0 : Kd.C (Kd.int .u8) w A0 l0.length l0) (hc0 : l0.length ≤ c0) (h : spec_DrawFlashOk.f k l0 = some r) :
 Calls Try.prog 4 #[.slice A0 l0.length c0] w fun e w' => ∃ v0_ : Value, e = .returned (v0_) ∧ Kd.V k33 33 w' w.heap.size (fun k_ => (w.heap.size ≤ k_)) v0_ r ∧ Below w.heap.size w w' := by
 refine (spec_DrawFlashOk.callsF k A0 c0 l0 r w hr0 hc0 h).mono ?_
 rintro e w' ⟨v, he, hF, hr⟩
 exact ⟨v, he, hF.V, hr⟩
mutual
def impl_blockShape.j0 : Nat → Bool → List (S30) → Int → Option (Bool)
 | 0, _, _, _ => none
 | k + 1, x19, x356000, x356001 => if x19 = true then (some false) else (impl_blockShape.l0 k false x356000 (x356000.length : Int) 0)
def impl_blockShape.l0 : Nat → Bool → List (S30) → Int → Int → Option (Bool)
 | 0, _, _, _, _ => none
 | k + 1, x3, x21, x22, x23 => if x23 < x22 then (if 0 ≤ x23 then (if x23 < (x21.length : Int) then (if x3 = true then (if ((rd_T30 x21 x23).f0) = 0 then (impl_blockShape.l0 k (((rd_T30 x21 x23).f0) == 0) x21 x22 (wrap64 (x23 + 1))) else (some false)) else (impl_blockShape.l0 k (((rd_T30 x21 x23).f0) == 0) x21 x22 (wrap64 (x23 + 1)))) else (none)) else (none)) else (some true)
end
def impl_blockShape.f (k : Nat) (l0_0 : List (S30)) (a0_1 : Int) : Option (Bool) := if (l0_0.length : Int) = 4 then (if a0_1 < 0 then (impl_blockShape.j0 k true l0_0 a0_1) else (impl_blockShape.j0 k (decide (a0_1 > 200)) l0_0 a0_1)) else (impl_blockShape.j0 k true l0_0 a0_1)
theorem impl_blockShape.mono_l : ∀ k, (∀ y0 y1 y2, LeO (impl_blockShape.j0 k y0 y1 y2) (impl_blockShape.j0 (k + 1) y0 y1 y2)) ∧ (∀ y0 y1 y2 y3, LeO (impl_blockShape.l0 k y0 y1 y2 y3) (impl_blockShape.l0 (k + 1) y0 y1 y2 y3))
 | 0 => ⟨fun _ _ _ r h => by simp [impl_blockShape.j0] at h, fun _ _ _ _ r h => by simp [impl_blockShape.l0] at h⟩
 | k + 1 => by
  obtain ⟨ih0, ih1⟩ := impl_blockShape.mono_l k
  refine ⟨?_, ?_⟩
  · intro y0 y1 y2
    unfold impl_blockShape.j0
    with_reducible repeat' first | exact ih0 _ _ _ | exact ih1 _ _ _ _ | exact LeO.refl _ | exact LeO.none _ | refine LeO.ite ?_ ?_ | refine LeO.bind ?_ (fun _ => ?_)
  · intro y0 y1 y2 y3
    unfold impl_blockShape.l0
    with_reducible repeat' first | exact ih0 _ _ _ | exact ih1 _ _ _ _ | exact LeO.refl _ | exact LeO.none _ | refine LeO.ite ?_ ?_ | refine LeO.bind ?_ (fun _ => ?_)
theorem impl_blockShape.mono : ∀ a0 a1 k, LeO (impl_blockShape.f k a0 a1) (impl_blockShape.f (k + 1) a0 a1) := by
 intro a0 a1 k
 obtain ⟨ih0, ih1⟩ := impl_blockShape.mono_l k
 unfold impl_blockShape.f
 with_reducible repeat' first | exact ih0 _ _ _ | exact ih1 _ _ _ _ | exact LeO.refl _ | exact LeO.none _ | refine LeO.ite ?_ ?_ | refine LeO.bind ?_ (fun _ => ?_)
set_option maxHeartbeats 8000000 in
set_option maxRecDepth 100000 in
theorem impl_blockShape.calls (k : Nat) (A0_0 : Option Addr) (c0_0 : Nat) (l0_0 : List (S30)) (a0_1 : Int) (r : Bool) (w : World) (hr0_0 : Kd.C k30 w A0_0 l0_0.length l0_0) (hc0_0 : l0_0.length ≤ c0_0) (h : impl_blockShape.f k l0_0 a0_1 = some r) :
 Calls Try.prog 11 #[.agg #[.slice A0_0 l0_0.length c0_0, .int .i64 a0_1]] w fun e w' => e = .returned (.bool r) ∧ Below w.heap.size w w' := by
 have hu33 := Try.underlying33
 have hu30 := Try.underlying30
 have HR0_0 := am hr0_0
 have HC0_0 := am hc0_0
 clear hr0_0 hc0_0
 have HB := am (Below.refl w.heap.size w)
 have H : (if (l0_0.length : Int) = 4 then (if a0_1 < 0 then (impl_blockShape.j0 k true l0_0 a0_1) else (impl_blockShape.j0 k (decide (a0_1 > 200)) l0_0 a0_1)) else (impl_blockShape.j0 k true l0_0 a0_1)) = some r := h
 clear h
 have HC2 := am H
 clear H
 go_enter Try.func11, Try.ntmps11
 go_upto_region 1 with (first | (refine bx 1 #[.slice A0_0 l0_0.length c0_0, .int .i64 a0_1] 33 rfl ?_; intro gb355 hg w3 hbox hb; have BK355 := am (hbox); have GW355 := am (ge hg (ph HB.out)); have GE355 := GW355; replace HB := am (below_step (ph HB.out) hb); clear hb hbox hg))
 (try simp only [Act.put, List.setIfInBounds_toArray, List.set_cons_zero, List.set_cons_succ])
 go_cut [19] (fun v19 wc => ∃ (kq : Nat) (x19_1 : Bool), v19 = .bool x19_1 ∧ Aside0 (impl_blockShape.j0 kq x19_1 l0_0 a0_1 = some r) ∧ Aside0 (kq ≤ k) ∧ Aside0 (wc.heap[gb355]? = some (.cells #[(.slice A0_0 l0_0.length c0_0), .int .i64 a0_1] 33 (0, 0))) ∧ Aside0 (Below w.heap.size w wc))
 case first =>
  have H := HC2.out
  clear HC2
  by_cases c4 : (l0_0.length : Int) = 4
  rotate_left
  · rw [if_neg c4] at H
    have c4b0 : ((l0_0.length : Int) == 4) = false := beq_eq_false_iff_ne.mpr c4
    have c4b1 : ((l0_0.length : Int) != 4) = true := bne_iff_ne.mpr c4
    (first | rw [c4b0] | (simp only [i64_w, i32_w]; rw [c4b0]) | skip)
    have H' := am H
    clear H
    obtain ⟨hcz8_0, hcz8_1⟩ := b2 BK355.out
    obtain ⟨hfz8_0, hfz8_1⟩ := f2 BK355.out
    go_wp2
    go_meet
    case rel => exact ⟨_, (true), rf, H', ⟨by first | omega | exact Nat.le_refl _⟩, ⟨pb BK355.out⟩, ⟨bg1 HB.out GE355.out⟩⟩
  rw [if_pos c4] at H
  have c4b0 : ((l0_0.length : Int) == 4) = true := beq_iff_eq.mpr c4
  have c4b1 : ((l0_0.length : Int) != 4) = false := bne_eq_false_iff_eq.mpr c4
  clear c4
  (first | rw [c4b0] | (simp only [i64_w, i32_w]; rw [c4b0]) | skip)
  by_cases c5 : a0_1 < 0
  · rw [if_pos c5] at H
    have c5b0 := decide_eq_true c5
    clear c5
    have H' := am H
    clear H
    obtain ⟨hcz6_0, hcz6_1⟩ := b2 BK355.out
    obtain ⟨hfz6_0, hfz6_1⟩ := f2 BK355.out
    go_wp2
    go_meet
    case rel => exact ⟨_, (true), rf, H', ⟨by first | omega | exact Nat.le_refl _⟩, ⟨pb BK355.out⟩, ⟨bg1 HB.out GE355.out⟩⟩
  rw [if_neg c5] at H
  have c5b0 := decide_eq_false c5
  clear c5
  have H' := am H
  clear H
  obtain ⟨hcz7_0, hcz7_1⟩ := b2 BK355.out
  obtain ⟨hfz7_0, hfz7_1⟩ := f2 BK355.out
  go_wp2
  go_meet
  case rel => exact ⟨_, (decide (a0_1 > 200)), rf, H', ⟨by first | omega | exact Nat.le_refl _⟩, ⟨pb BK355.out⟩, ⟨bg1 HB.out GE355.out⟩⟩
 case rest =>
  clear HC2
  obtain ⟨kq, x19_1, rfl, HA, HJ1, BK355, HB⟩ := hcut
  cases kq with
  | zero => exact absurd HA.out (by simp [impl_blockShape.j0])
  | succ kj1 =>
   have H := HA.out
   clear HA
   simp only [impl_blockShape.j0] at H
   by_cases c9 : x19_1 = true
   · subst c9
     rw [if_pos rfl] at H
     obtain rfl := Option.some.inj H
     go_wp2
     go_ret
     exact (rq (bg1 HB.out GE355.out))
   replace c9 := Bool.eq_false_iff.mpr c9
   subst c9
   rw [if_neg (show ¬ (false = true) by decide)] at H
   have H' := am H
   clear H
   obtain ⟨hcz10_0, hcz10_1⟩ := b2 BK355.out
   obtain ⟨hfz10_0, hfz10_1⟩ := f2 BK355.out
   go_wp2
   go_loopg [3, 23] kj1 (fun kq v3 v23 w' => ∃ (x3_2 : Bool) (x23_2 : Int), v3 = .bool x3_2 ∧ v23 = .int .i64 x23_2 ∧ Aside0 (impl_blockShape.l0 kq x3_2 l0_0 (l0_0.length : Int) x23_2 = some r) ∧ Aside0 (kq ≤ kj1) ∧ Aside0 (w'.heap[gb355]? = some (.cells #[(.slice A0_0 l0_0.length c0_0), .int .i64 a0_1] 33 (0, 0))) ∧ Aside0 (Below w.heap.size w w'))
   case atStart => exact ⟨(false), (0), rf, rf, H', ⟨Nat.le_refl _⟩, ⟨pb BK355.out⟩, ⟨bg1 HB.out GE355.out⟩⟩
   case round =>
    clear H'
    obtain ⟨x3_2, x23_2, rfl, rfl, HA, HK2, BK355, HB⟩ := hrel
    cases gk with
    | zero => exact absurd HA.out (by simp [impl_blockShape.l0])
    | succ k2 =>
     have H := HA.out
     clear HA
     simp only [impl_blockShape.l0] at H
     by_cases c11 : x23_2 < (l0_0.length : Int)
     rotate_left
     · rw [if_neg c11] at H
       have c11b0 := decide_eq_false c11
       clear c11
       obtain rfl := Option.some.inj H
       go_wp2
       go_ret
       exact (rq (bg1 HB.out GE355.out))
     rw [if_pos c11] at H
     have c11b0 := decide_eq_true c11
     clear c11
     obtain ⟨c12b0, H⟩ := ifd H
     obtain ⟨c13b0, H⟩ := ifd H
     by_cases c14 : x3_2 = true
     rotate_left
     · replace c14 := Bool.eq_false_iff.mpr c14
       subst c14
       rw [if_neg (show ¬ (false = true) by decide)] at H
       have H' := am H
       clear H
       have p356 : 0 ≤ (x23_2 : Int) := ofb
       have q356 : x23_2 < (l0_0.length : Int) := ofb
       obtain ⟨ad356, e356, hx356_0, hx356_1, hx356_2, hx356_3, hx356_4⟩ := at_T30 HR0_0.out x23_2 p356 q356
       cases e356
       replace hx356_0 := up HB.out hx356_0
       replace hx356_1 := up HB.out hx356_1
       replace hx356_2 := up HB.out hx356_2
       replace hx356_3 := up HB.out hx356_3
       replace hx356_4 := up HB.out hx356_4
       replace p356 := eq_true p356
       replace q356 := eq_true q356
       go_wp2_with (first | (refine bx 5 #[.int .i64 0, .int .i64 0, .int .i64 0, .int .i64 0, .int .i64 0] 30 rfl ?_; intro gb357 hg w22 hbox hb; have BK357 := am (hbox); have GW357 := am (ge hg (bg1 HB.out GE355.out)); have GE357 := GW357; replace HB := am (below_step (bg1 HB.out GE355.out) hb); have NB355_357 := am (nb hg (pb BK355.out)); have NB357_355 := am (Ne.symm NB355_357.out); replace BK355 := am (blk_below (pb BK355.out) hb); clear hb hbox hg; have hnb23 := NB357_355.out; have hnc23 := NB355_357.out; obtain ⟨hcz24_0, hcz24_1, hcz24_2, hcz24_3, hcz24_4⟩ := b5 BK357.out; obtain ⟨hfz24_0, hfz24_1, hfz24_2, hfz24_3, hfz24_4⟩ := f5 BK357.out))
       go_roundg k2
       case measure => have := HJ1.out; have := HK2.out; omega
       case rel => exact ⟨((((rd_T30 l0_0 x23_2).f0) == 0)), (wrap64 (x23_2 + 1)), rf, rf, H', ⟨by have := HJ1.out; have := HK2.out; omega⟩, ⟨bf5 (pb BK355.out) NB355_357.out⟩, ⟨bg2 HB.out GE355.out GE357.out⟩⟩
     subst c14
     rw [if_pos rfl] at H
     by_cases c15 : ((rd_T30 l0_0 x23_2).f0) = 0
     rotate_left
     · rw [if_neg c15] at H
       have c15b0 : (((rd_T30 l0_0 x23_2).f0) == 0) = false := beq_eq_false_iff_ne.mpr c15
       have c15b1 : (((rd_T30 l0_0 x23_2).f0) != 0) = true := bne_iff_ne.mpr c15
       obtain rfl := Option.some.inj H
       have p356 : 0 ≤ (x23_2 : Int) := ofb
       have q356 : x23_2 < (l0_0.length : Int) := ofb
       obtain ⟨ad356, e356, hx356_0, hx356_1, hx356_2, hx356_3, hx356_4⟩ := at_T30 HR0_0.out x23_2 p356 q356
       cases e356
       replace hx356_0 := up HB.out hx356_0
       replace hx356_1 := up HB.out hx356_1
       replace hx356_2 := up HB.out hx356_2
       replace hx356_3 := up HB.out hx356_3
       replace hx356_4 := up HB.out hx356_4
       replace p356 := eq_true p356
       replace q356 := eq_true q356
       go_wp2_with (first | (refine bx 5 #[.int .i64 0, .int .i64 0, .int .i64 0, .int .i64 0, .int .i64 0] 30 rfl ?_; intro gb357 hg w19 hbox hb; have BK357 := am (hbox); have GW357 := am (ge hg (bg1 HB.out GE355.out)); have GE357 := GW357; replace HB := am (below_step (bg1 HB.out GE355.out) hb); have NB355_357 := am (nb hg (pb BK355.out)); have NB357_355 := am (Ne.symm NB355_357.out); replace BK355 := am (blk_below (pb BK355.out) hb); clear hb hbox hg; have hnb20 := NB357_355.out; have hnc20 := NB355_357.out; obtain ⟨hcz21_0, hcz21_1, hcz21_2, hcz21_3, hcz21_4⟩ := b5 BK357.out; obtain ⟨hfz21_0, hfz21_1, hfz21_2, hfz21_3, hfz21_4⟩ := f5 BK357.out))
       go_ret
       exact (rq (bg2 HB.out GE355.out GE357.out))
     rw [if_pos c15] at H
     have c15b0 : (((rd_T30 l0_0 x23_2).f0) == 0) = true := beq_iff_eq.mpr c15
     have c15b1 : (((rd_T30 l0_0 x23_2).f0) != 0) = false := bne_eq_false_iff_eq.mpr c15
     clear c15
     have H' := am H
     clear H
     have p356 : 0 ≤ (x23_2 : Int) := ofb
     have q356 : x23_2 < (l0_0.length : Int) := ofb
     obtain ⟨ad356, e356, hx356_0, hx356_1, hx356_2, hx356_3, hx356_4⟩ := at_T30 HR0_0.out x23_2 p356 q356
     cases e356
     replace hx356_0 := up HB.out hx356_0
     replace hx356_1 := up HB.out hx356_1
     replace hx356_2 := up HB.out hx356_2
     replace hx356_3 := up HB.out hx356_3
     replace hx356_4 := up HB.out hx356_4
     replace p356 := eq_true p356
     replace q356 := eq_true q356
     go_wp2_with (first | (refine bx 5 #[.int .i64 0, .int .i64 0, .int .i64 0, .int .i64 0, .int .i64 0] 30 rfl ?_; intro gb357 hg w16 hbox hb; have BK357 := am (hbox); have GW357 := am (ge hg (bg1 HB.out GE355.out)); have GE357 := GW357; replace HB := am (below_step (bg1 HB.out GE355.out) hb); have NB355_357 := am (nb hg (pb BK355.out)); have NB357_355 := am (Ne.symm NB355_357.out); replace BK355 := am (blk_below (pb BK355.out) hb); clear hb hbox hg; have hnb17 := NB357_355.out; have hnc17 := NB355_357.out; obtain ⟨hcz18_0, hcz18_1, hcz18_2, hcz18_3, hcz18_4⟩ := b5 BK357.out; obtain ⟨hfz18_0, hfz18_1, hfz18_2, hfz18_3, hfz18_4⟩ := f5 BK357.out))
     go_roundg k2
     case measure => have := HJ1.out; have := HK2.out; omega
     case rel => exact ⟨((((rd_T30 l0_0 x23_2).f0) == 0)), (wrap64 (x23_2 + 1)), rf, rf, H', ⟨by have := HJ1.out; have := HK2.out; omega⟩, ⟨bf5 (pb BK355.out) NB355_357.out⟩, ⟨bg2 HB.out GE355.out GE357.out⟩⟩
def impl_addrOk.f (a0 : Int) : Option (Bool) := if a0 ≥ 1 then (some (decide (a0 ≤ 6))) else (some false)
set_option maxHeartbeats 8000000 in
set_option maxRecDepth 100000 in
theorem impl_addrOk.calls (a0 : Int) (r : Bool) (w : World) (h : impl_addrOk.f a0 = some r) :
 Calls Try.prog 25 #[.int .i64 a0] w fun e w' => e = .returned (.bool r) ∧ Drawn0 w w' := by
 have H : (if a0 ≥ 1 then (some (decide (a0 ≤ 6))) else (some false)) = some r := h
 clear h
 by_cases c2 : a0 ≥ 1
 · rw [if_pos c2] at H
   have c2b0 := decide_eq_true c2
   clear c2
   obtain rfl := Option.some.inj H
   go_enter Try.func25, Try.ntmps25
   go_wp2
   go_ret
   exact ⟨by first | rfl | (simp; done) | (simp [*]; done), by repeat (first | exact Drawn0.refl _ | apply Drawn0.step)⟩
 rw [if_neg c2] at H
 have c2b0 := decide_eq_false c2
 clear c2
 obtain rfl := Option.some.inj H
 go_enter Try.func25, Try.ntmps25
 go_wp2
 go_ret
 exact ⟨by first | rfl | (simp; done) | (simp [*]; done), by repeat (first | exact Drawn0.refl _ | apply Drawn0.step)⟩
def impl_valOk.f (a0 : Int) : Option (Bool) := if a0 ≥ 0 then (some (decide (a0 ≤ 9))) else (some false)
set_option maxHeartbeats 8000000 in
set_option maxRecDepth 100000 in
theorem impl_valOk.calls (a0 : Int) (r : Bool) (w : World) (h : impl_valOk.f a0 = some r) :
 Calls Try.prog 26 #[.int .i64 a0] w fun e w' => e = .returned (.bool r) ∧ Drawn0 w w' := by
 have H : (if a0 ≥ 0 then (some (decide (a0 ≤ 9))) else (some false)) = some r := h
 clear h
 by_cases c2 : a0 ≥ 0
 · rw [if_pos c2] at H
   have c2b0 := decide_eq_true c2
   clear c2
   obtain rfl := Option.some.inj H
   go_enter Try.func26, Try.ntmps26
   go_wp2
   go_ret
   exact ⟨by first | rfl | (simp; done) | (simp [*]; done), by repeat (first | exact Drawn0.refl _ | apply Drawn0.step)⟩
 rw [if_neg c2] at H
 have c2b0 := decide_eq_false c2
 clear c2
 obtain rfl := Option.some.inj H
 go_enter Try.func26, Try.ntmps26
 go_wp2
 go_ret
 exact ⟨by first | rfl | (simp; done) | (simp [*]; done), by repeat (first | exact Drawn0.refl _ | apply Drawn0.step)⟩
def recOkB (a b c d : Int) : Bool := decide ((a = 1 ∨ a = 2) ∧ 1 ≤ b ∧ b ≤ 600 ∧ 1 ≤ c ∧ c ≤ 6 ∧ 0 ≤ d ∧ d ≤ 9)
def impl_RecOk.f (a0_0 : Int) (a0_1 : Int) (a0_2 : Int) (a0_3 : Int) : Option (Bool) := some (recOkB a0_0 a0_1 a0_2 a0_3)
theorem ret_bool {a b : Bool} (h : a = b) : Ending.returned (.bool a) = .returned (.bool b) := by rw [h]
def entryV (a b c d : Int) : Value := if a = 1 then .iface 70 (.agg #[.int .i64 a, .int .i64 b, .int .i64 c, .int .i64 d]) else if a = 2 then .iface 71 (.agg #[.int .i64 a, .int .i64 b, .int .i64 c, .int .i64 d]) else .nilIface
set_option maxHeartbeats 1000000 in
set_option maxRecDepth 100000 in
theorem entryOf_any (a b c d : Int) (w : World) :
 Calls Try.prog 24 #[.agg #[.int .i64 a, .int .i64 b, .int .i64 c, .int .i64 d]] w fun e w' => e = .returned (entryV a b c d) ∧ w' = w.alloc (.cells #[.int .i64 a, .int .i64 b, .int .i64 c, .int .i64 d] 28) := by
 have hu := Try.underlying28
 have hu2 := Try.underlying62
 by_cases c1 : a = 1
 · subst c1
   go_enter Try.func24, Try.ntmps24
   go_wp2
   go_ret
   exact ⟨rfl, rfl⟩
 by_cases c2 : a = 2
 · subst c2
   go_enter Try.func24, Try.ntmps24
   go_wp2
   go_ret
   exact ⟨rfl, rfl⟩
 have b1 : (a == 1) = false := by simpa using c1
 have b2 : (a == 2) = false := by simpa using c2
 have HV := am (show entryV a b c d = .nilIface by unfold entryV; rw [if_neg c1, if_neg c2])
 clear c1 c2
 go_enter Try.func24, Try.ntmps24
 go_wp2
 go_ret
 rw [HV.out]
 exact ⟨rfl, rfl⟩
def addrB (a : Int) : Bool := decide (1 ≤ a ∧ a ≤ 6)
def valB (a : Int) : Bool := decide (0 ≤ a ∧ a ≤ 9)
theorem addrOk_any (a : Int) (w : World) : Calls Try.prog 25 #[.int .i64 a] w fun e w' => e = .returned (.bool (addrB a)) ∧ w = w' := by
 go_enter Try.func25, Try.ntmps25
 go_wp2
 all_goals (go_ret; exact ⟨ret_bool (by unfold addrB; simp; try omega), rfl⟩)
theorem valOk_any (a : Int) (w : World) : Calls Try.prog 26 #[.int .i64 a] w fun e w' => e = .returned (.bool (valB a)) ∧ w = w' := by
 go_enter Try.func26, Try.ntmps26
 go_wp2
 all_goals (go_ret; exact ⟨ret_bool (by unfold valB; simp; try omega), rfl⟩)
theorem recOk_parts (a b c d : Int) : recOkB a b c d = ((decide (a = 1) || decide (a = 2)) && (decide (1 ≤ b) && (decide (b ≤ 600) && (addrB c && valB d)))) := by
 unfold recOkB addrB valB
 rw [Bool.eq_iff_iff]
 simp only [decide_eq_true_eq, Bool.and_eq_true, Bool.or_eq_true]
 constructor <;> rintro ⟨h0, h1, h2, h3, h4⟩ <;> omega
set_option maxHeartbeats 2000000 in
set_option maxRecDepth 100000 in
theorem impl_RecOk.calls (a0_0 : Int) (a0_1 : Int) (a0_2 : Int) (a0_3 : Int) (r : Bool) (w : World) (h : impl_RecOk.f a0_0 a0_1 a0_2 a0_3 = some r) :
 Calls Try.prog 19 #[.agg #[.int .i64 a0_0, .int .i64 a0_1, .int .i64 a0_2, .int .i64 a0_3]] w fun e w' => e = .returned (.bool r) ∧ Below w.heap.size w w' := by
 obtain rfl := Option.some.inj h
 clear h
 have hu := Try.underlying28
 have hu2 := Try.underlying62
 have hb2 : ∀ A B : Obj, Below w.heap.size w ((w.alloc A).alloc B) := fun A B => ((Below.refl _ w).alloc (Nat.le_refl _) A).alloc (by simp) B
 have HE := am hb2
 clear hb2
 have HP := am (recOk_parts a0_0 a0_1 a0_2 a0_3)
 rcases (show (a0_0 = 1 ∨ a0_0 = 2) ∨ (¬ a0_0 = 1 ∧ ¬ a0_0 = 2) by omega) with (c0 | c0) | ⟨c1, c2⟩
 · subst c0
   go_enter Try.func19, Try.ntmps19
   go_wp2_with (first | (go_at_call 24; refine (entryOf_any _ _ _ _ _).mono ?_; rintro e w' ⟨rfl, rfl⟩; simp only [entryV]) | (go_at_call 25; refine (addrOk_any _ _).mono ?_; rintro e w' ⟨rfl, rfl⟩) | (go_at_call 26; refine (valOk_any _ _).mono ?_; rintro e w' ⟨rfl, rfl⟩))
   all_goals go_ret
   all_goals exact ⟨ret_bool (by rw [HP.out]; simp [*]; try (intros; omega)), HE.out _ _⟩
 · subst c0
   go_enter Try.func19, Try.ntmps19
   go_wp2_with (first | (go_at_call 24; refine (entryOf_any _ _ _ _ _).mono ?_; rintro e w' ⟨rfl, rfl⟩; simp only [entryV]) | (go_at_call 25; refine (addrOk_any _ _).mono ?_; rintro e w' ⟨rfl, rfl⟩) | (go_at_call 26; refine (valOk_any _ _).mono ?_; rintro e w' ⟨rfl, rfl⟩))
   all_goals go_ret
   all_goals exact ⟨ret_bool (by rw [HP.out]; simp [*]; try (intros; omega)), HE.out _ _⟩
 · have HV := am (show entryV a0_0 a0_1 a0_2 a0_3 = .nilIface by unfold entryV; rw [if_neg c1, if_neg c2])
   have HF := am (show recOkB a0_0 a0_1 a0_2 a0_3 = false by rw [HP.out]; simp [c1, c2])
   clear c1 c2 HP
   go_enter Try.func19, Try.ntmps19
   go_wp2_with (go_at_call 24; refine (entryOf_any _ _ _ _ _).mono ?_; rintro e w' ⟨rfl, rfl⟩; rw [HV.out])
   all_goals go_ret
   all_goals exact ⟨ret_bool (by rw [HF.out]), HE.out _ _⟩
end Go.Proofs.Ytfijfkbdedcnfaa.R4
namespace Go.Proofs.Ytfijfkbdedcnfaa.R4
open Go.RowKit Go.Proofs.YtfijfkbdedcnfaaW.PrintWords Go.Proofs.YtfijfkbdedcnfaaW.PrintLast Go.Proofs.YtfijfkbdedcnfaaW.PrintMore
attribute [local go_sem] max2_int min2_int max_two min_two max_three min_three max_four min_four
set_option linter.unusedVariables false
set_option linter.unusedSimpArgs false
attribute [local go_sem high] eqA28
def impl_pageShape.f (a0_0 : Int) (a0_1 : Int) (a0_2 : Int) (a0_3 : Int) (a0_4 : Int) : Option (Bool) := if a0_0 = 1 then ((impl_RecOk.f a0_1 a0_2 a0_3 a0_4).bind fun t359 => (some t359)) else (if a0_0 = 0 then (some (a0_1 == 0 && (a0_2 == 0 && (a0_3 == 0 && (a0_4 == 0))))) else (if a0_0 = 2 then (some (a0_1 == 0 && (a0_2 == 0 && (a0_3 == 0 && (a0_4 == 0))))) else (some false)))
set_option maxHeartbeats 8000000 in
set_option maxRecDepth 100000 in
theorem impl_pageShape.calls (a0_0 : Int) (a0_1 : Int) (a0_2 : Int) (a0_3 : Int) (a0_4 : Int) (r : Bool) (w : World) (h : impl_pageShape.f a0_0 a0_1 a0_2 a0_3 a0_4 = some r) :
 Calls Try.prog 12 #[.agg #[.int .i64 a0_0, .int .i64 a0_1, .int .i64 a0_2, .int .i64 a0_3, .int .i64 a0_4]] w fun e w' => e = .returned (.bool r) ∧ Below w.heap.size w w' := by
 have hu30 := Try.underlying30
 have hu28 := Try.underlying28
 have HB := am (Below.refl w.heap.size w)
 have H : (if a0_0 = 1 then ((impl_RecOk.f a0_1 a0_2 a0_3 a0_4).bind fun t359 => (some t359)) else (if a0_0 = 0 then (some (a0_1 == 0 && (a0_2 == 0 && (a0_3 == 0 && (a0_4 == 0))))) else (if a0_0 = 2 then (some (a0_1 == 0 && (a0_2 == 0 && (a0_3 == 0 && (a0_4 == 0))))) else (some false)))) = some r := h
 clear h
 by_cases c2 : a0_0 = 1
 · rw [if_pos c2] at H
   have c2b0 : (a0_0 == 1) = true := beq_iff_eq.mpr c2
   have c2b1 : (a0_0 != 1) = false := bne_eq_false_iff_eq.mpr c2
   clear c2
   replace H := Option.bind_eq_some_iff.mp H
   obtain ⟨t359, A30, H⟩ := H
   have A3 := am A30
   clear A30
   obtain rfl := Option.some.inj H
   go_enter Try.func12, Try.ntmps12
   go_wp2_with (first | (refine bx 1 #[.int .i64 a0_0, .int .i64 a0_1, .int .i64 a0_2, .int .i64 a0_3, .int .i64 a0_4] 30 rfl ?_; intro gb358 hg w4 hbox hb; have BK358 := am (hbox); have GW358 := am (ge hg (ph HB.out)); have GE358 := GW358; replace HB := am (below_step (ph HB.out) hb); clear hb hbox hg; obtain ⟨hcz5_0, hcz5_1, hcz5_2, hcz5_3, hcz5_4⟩ := b5 BK358.out; obtain ⟨hfz5_0, hfz5_1, hfz5_2, hfz5_3, hfz5_4⟩ := f5 BK358.out) | (refine gl 9 Try.func19 #[.agg #[.int .i64 a0_1, .int .i64 a0_2, .int .i64 a0_3, .int .i64 a0_4]] rfl ?_; (with_reducible refine (impl_RecOk.calls a0_1 a0_2 a0_3 a0_4 t359 _ A3.out).mono ?_); rintro e w6 ⟨rfl, hb⟩; refine ⟨_, rfl, ?_⟩; replace BK358 := am (blk_below (pb BK358.out) hb); replace HB := am (below_step (bg1 HB.out GE358.out) hb); clear hb))
   go_ret
   exact (rq (bg1 HB.out GE358.out))
 rw [if_neg c2] at H
 have c2b0 : (a0_0 == 1) = false := beq_eq_false_iff_ne.mpr c2
 have c2b1 : (a0_0 != 1) = true := bne_iff_ne.mpr c2
 by_cases c7 : a0_0 = 0
 · rw [if_pos c7] at H
   have c7b0 : (a0_0 == 0) = true := beq_iff_eq.mpr c7
   have c7b1 : (a0_0 != 0) = false := bne_eq_false_iff_eq.mpr c7
   clear c7
   obtain rfl := Option.some.inj H
   go_enter Try.func12, Try.ntmps12
   go_wp2_with (first | (refine bx 1 #[.int .i64 a0_0, .int .i64 a0_1, .int .i64 a0_2, .int .i64 a0_3, .int .i64 a0_4] 30 rfl ?_; intro gb358 hg w8 hbox hb; have BK358 := am (hbox); have GW358 := am (ge hg (ph HB.out)); have GE358 := GW358; replace HB := am (below_step (ph HB.out) hb); clear hb hbox hg; obtain ⟨hcz9_0, hcz9_1, hcz9_2, hcz9_3, hcz9_4⟩ := b5 BK358.out; obtain ⟨hfz9_0, hfz9_1, hfz9_2, hfz9_3, hfz9_4⟩ := f5 BK358.out))
   go_ret
   exact (rq (bg1 HB.out GE358.out))
 rw [if_neg c7] at H
 have c7b0 : (a0_0 == 0) = false := beq_eq_false_iff_ne.mpr c7
 have c7b1 : (a0_0 != 0) = true := bne_iff_ne.mpr c7
 by_cases c10 : a0_0 = 2
 rotate_left
 · rw [if_neg c10] at H
   have c10b0 : (a0_0 == 2) = false := beq_eq_false_iff_ne.mpr c10
   have c10b1 : (a0_0 != 2) = true := bne_iff_ne.mpr c10
   obtain rfl := Option.some.inj H
   go_enter Try.func12, Try.ntmps12
   go_wp2_with (first | (refine bx 1 #[.int .i64 a0_0, .int .i64 a0_1, .int .i64 a0_2, .int .i64 a0_3, .int .i64 a0_4] 30 rfl ?_; intro gb358 hg w13 hbox hb; have BK358 := am (hbox); have GW358 := am (ge hg (ph HB.out)); have GE358 := GW358; replace HB := am (below_step (ph HB.out) hb); clear hb hbox hg; obtain ⟨hcz14_0, hcz14_1, hcz14_2, hcz14_3, hcz14_4⟩ := b5 BK358.out; obtain ⟨hfz14_0, hfz14_1, hfz14_2, hfz14_3, hfz14_4⟩ := f5 BK358.out))
   go_ret
   exact (rq (bg1 HB.out GE358.out))
 rw [if_pos c10] at H
 have c10b0 : (a0_0 == 2) = true := beq_iff_eq.mpr c10
 have c10b1 : (a0_0 != 2) = false := bne_eq_false_iff_eq.mpr c10
 clear c10
 obtain rfl := Option.some.inj H
 go_enter Try.func12, Try.ntmps12
 go_wp2_with (first | (refine bx 1 #[.int .i64 a0_0, .int .i64 a0_1, .int .i64 a0_2, .int .i64 a0_3, .int .i64 a0_4] 30 rfl ?_; intro gb358 hg w11 hbox hb; have BK358 := am (hbox); have GW358 := am (ge hg (ph HB.out)); have GE358 := GW358; replace HB := am (below_step (ph HB.out) hb); clear hb hbox hg; obtain ⟨hcz12_0, hcz12_1, hcz12_2, hcz12_3, hcz12_4⟩ := b5 BK358.out; obtain ⟨hfz12_0, hfz12_1, hfz12_2, hfz12_3, hfz12_4⟩ := f5 BK358.out))
 go_ret
 exact (rq (bg1 HB.out GE358.out))
end Go.Proofs.Ytfijfkbdedcnfaa.R4
