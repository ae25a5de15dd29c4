-- printed by wip/pp/pp.py
import Derived.Test.YtbhchamohldehaaP40
import Derived.Test.YtbhchamohldehaaP43
import Derived.Test.YtbhchamohldehaaP49
import Derived.Deep.RegionHeld3
import Derived.RegionTactic
import Derived.Laws.IdiomCopy
namespace Go.Proofs.Ytbhchamohldehaa.P4
set_option maxHeartbeats 8000000
set_option maxRecDepth 100000
open Go.RowKit Go.Proofs.YtbhchamohldehaaW.PrintWords Go.Proofs.YtbhchamohldehaaW.PrintLast Go.Proofs.YtbhchamohldehaaW.PrintMore
attribute [local go_sem] max2_int min2_int max_two min_two max_three min_three max_four min_four
set_option linter.unusedVariables false
set_option linter.unusedSimpArgs false
theorem ite_some {α : Type} {c : Prop} [Decidable c] {x y : α} (h : (if c then some x else none) = some y) : c ∧ some x = some y := by
 by_cases hc : c
 rotate_left
 · rw [if_neg hc] at h
   cases h
 rw [if_pos hc] at h
 exact ⟨hc, h⟩
theorem cell_heap {w w' : World} {a : Addr} (h : w'.heap[a.block]? = w.heap[a.block]?) : w'.cell? a = w.cell? a := by
 unfold World.cell?
 rw [h]
def pgC (p : S69) : List Value := [.int .i64 p.f0, .int .i64 p.f1.f0, .int .i64 p.f1.f1, .int .i64 p.f1.f2, .int .i64 p.f1.f3]
structure Fl (W : World) (base hi g o : Nat) (G O C : Nat → Nat) (xs : List S73) : Prop where
 own : base ≤ g ∧ g < hi ∧ hi ≤ W.heap.size
 typ : ∃ cells, W.heap[g]? = some (.cells cells 73 (0, 0)) ∧ cells.size = o + C 4 * 2 ∧ C 4 ≤ maxLen
 at_ : ∀ i : Nat, i < xs.length → base ≤ G i ∧ G i < hi ∧ G i ≠ g ∧ (rd_T73 xs (i : Int)).f0.length ≤ C i ∧ (∃ cells, W.heap[G i]? = some (.cells cells 69 (0, 0)) ∧ cells.size = O i + C i * 5 ∧ C i ≤ maxLen) ∧
  W.cell? ⟨g, o + i * 2, none⟩ = some (.slice (some ⟨G i, O i, none⟩) (rd_T73 xs (i : Int)).f0.length (C i)) ∧ W.cell? ⟨g, o + i * 2 + 1, none⟩ = some (.int .i64 (rd_T73 xs (i : Int)).f1) ∧
  ∀ j : Nat, j < (rd_T73 xs (i : Int)).f0.length → ∀ t u, (pgC (rd_T69 (rd_T73 xs (i : Int)).f0 (j : Int)))[t]? = some u → W.cell? ⟨G i, O i + j * 5 + t, none⟩ = some u
 one : ∀ i i' : Nat, i < xs.length → i' < xs.length → i ≠ i' → G i ≠ G i'
 few : xs.length ≤ 4 ∧ ∀ i : Nat, i < xs.length → (rd_T73 xs (i : Int)).f0.length ≤ 4
theorem flB_at {xs : List S73} {j : Nat} {p : S73} (h : xs[j]? = some p) : rd_T73 xs (j : Int) = p := by
 unfold rd_T73
 rw [Int.toNat_natCast, List.getD_eq_getElem?_getD, h]
 rfl
theorem flP_at {xs : List S69} {j : Nat} {p : S69} (h : xs[j]? = some p) : rd_T69 xs (j : Int) = p := by
 unfold rd_T69
 rw [Int.toNat_natCast, List.getD_eq_getElem?_getD, h]
 rfl
theorem flB_set {l : List S73} {i : Nat} (hi : i < l.length) (b : S73) (k : Nat) : rd_T73 (l.set i b) (k : Int) = if k = i then b else rd_T73 l (k : Int) := by
 unfold rd_T73
 rw [Int.toNat_natCast, List.getD_eq_getElem?_getD, List.getD_eq_getElem?_getD]
 by_cases h : k = i
 · rw [if_pos h, h, List.getElem?_set_self hi]
   rfl
 rw [if_neg h, List.getElem?_set_ne (fun e => h e.symm)]
theorem flP_set {l : List S69} {i : Nat} (hi : i < l.length) (b : S69) (k : Nat) : rd_T69 (l.set i b) (k : Int) = if k = i then b else rd_T69 l (k : Int) := by
 unfold rd_T69
 rw [Int.toNat_natCast, List.getD_eq_getElem?_getD, List.getD_eq_getElem?_getD]
 by_cases h : k = i
 · rw [if_pos h, h, List.getElem?_set_self hi]
   rfl
 rw [if_neg h, List.getElem?_set_ne (fun e => h e.symm)]
theorem flB_tail (xs : List S73) (i : Nat) : rd_T73 xs.tail (i : Int) = rd_T73 xs ((i + 1 : Nat) : Int) := by
 cases xs with
 | nil => rfl
 | cons x xs => rfl
theorem flP_tail (xs : List S69) (i : Nat) : rd_T69 xs.tail (i : Int) = rd_T69 xs ((i + 1 : Nat) : Int) := by
 cases xs with
 | nil => rfl
 | cons x xs => rfl
section
variable {W W' : World} {base hi g o : Nat} {G O C : Nat → Nat} {xs : List S73}
theorem Fl.step (h : Fl W base hi g o G O C xs) (hm : ∀ k, base ≤ k → k < hi → W'.heap[k]? = W.heap[k]?) (hs : hi ≤ W'.heap.size) : Fl W' base hi g o G O C xs where
 own := ⟨h.own.1, h.own.2.1, hs⟩
 typ := by
  obtain ⟨c, e, es⟩ := h.typ
  exact ⟨c, (hm g h.own.1 h.own.2.1).trans e, es⟩
 at_ := fun i hx => by
  obtain ⟨a1, a2, a3, a4, ⟨c, a5, a9⟩, a6, a7, a8⟩ := h.at_ i hx
  have e1 : ∀ q : Nat, W'.cell? ⟨g, q, none⟩ = W.cell? ⟨g, q, none⟩ := fun q => cell_heap (hm g h.own.1 h.own.2.1)
  have e2 : ∀ q : Nat, W'.cell? ⟨G i, q, none⟩ = W.cell? ⟨G i, q, none⟩ := fun q => cell_heap (hm (G i) a1 a2)
  exact ⟨a1, a2, a3, a4, ⟨c, (hm (G i) a1 a2).trans a5, a9⟩, (e1 _).trans a6, (e1 _).trans a7, fun j hj t u hu => (e2 _).trans (a8 j hj t u hu)⟩
 one := h.one
 few := h.few
theorem Fl.lower {base' : Nat} (h : Fl W base hi g o G O C xs) (hb : base' ≤ base) : Fl W base' hi g o G O C xs where
 own := ⟨Nat.le_trans hb h.own.1, h.own.2⟩
 typ := h.typ
 at_ := fun i hx => ⟨Nat.le_trans hb (h.at_ i hx).1, (h.at_ i hx).2⟩
 one := h.one
 few := h.few
theorem Fl.V (h : Fl W base hi g o G O C xs) {c b e : Nat} (hc : xs.length ≤ c) : Kd.V k73 e W b (fun k => base ≤ k) (.slice (some ⟨g, o, none⟩) xs.length c) xs := by
 refine Kd.V_mk hc (fun W' hm => ?_)
 have h' : Fl W' base hi g o G O C xs := by
  have hlt : ∀ k, base ≤ k → k < hi → W'.heap[k]? = W.heap[k]? := fun k h1 h2 => hm k h1 (Nat.lt_of_lt_of_le h2 h.own.2.2)
  -- what is told of W' at all is told of blocks below hi
  rcases Nat.lt_or_ge W'.heap.size hi with hsz | hsz
  rotate_left
  · exact h.step hlt hsz
  · exfalso
    have h1 := hlt (hi - 1) (by have := h.own; omega) (by have := h.own; omega)
    rw [Array.getElem?_eq_none (by omega), Array.getElem?_eq_getElem (by have := h.own; omega)] at h1
    cases h1
 refine ⟨rfl, by have := h.few.1; omega, fun _ => ⟨⟨g, o, none⟩, rfl, fun j p hj => ?_⟩⟩
 have hjl : j < xs.length := (List.getElem?_eq_some_iff.1 hj).1
 obtain ⟨a1, a2, a3, a4, -, a6, a7, a8⟩ := h'.at_ j hjl
 have hf := h.few.2 j hjl
 rw [flB_at hj] at a4 a6 a7 a8 hf
 refine ⟨[.slice (some ⟨G j, O j, none⟩) p.f0.length (C j), .int .i64 p.f1], rfl, ⟨[.slice (some ⟨G j, O j, none⟩) p.f0.length (C j)], [.int .i64 p.f1], rfl, ⟨some ⟨G j, O j, none⟩, C j, rfl, a4, rfl, (show p.f0.length ≤ 9223372036854775807 by omega), fun _ => ⟨⟨G j, O j, none⟩, rfl, fun i q hq => ?_⟩⟩, rfl⟩, fun i u hu => ?_⟩
 · have hil : i < p.f0.length := (List.getElem?_eq_some_iff.1 hq).1
   have h8 := a8 i hil
   rw [flP_at hq] at h8
   refine ⟨pgC q, rfl, (k69).K_of_M (k69_mkM W' 0 (fun _ => True) q), fun t u hu => ?_⟩
   have := h8 t u hu
   rw [add_at]
   rw [show O j + (i * (k69).sz + t) = O j + i * 5 + t by show O j + (i * 5 + t) = _; omega]
   exact this
 · rw [add_at]
   rw [show o + (j * (k73).sz + i) = o + j * 2 + i by show o + (j * 2 + i) = _; omega]
   match i, hu with
   | 0, hu => cases hu; exact a6
   | 1, hu => cases hu; exact a7
theorem cell_get {W : World} {g q : Nat} {cells : Array Value} {e : Nat} {f : Nat × Nat} {u : Value} (hg : W.heap[g]? = some (.cells cells e f)) (h : W.cell? ⟨g, q, none⟩ = some u) : cells[q]? = some u := by
 unfold World.cell? at h
 rw [show W.heap[(⟨g, q, none⟩ : Addr).block]? = _ from hg] at h
 exact h
theorem R_size {α : Type} {d : Kd α} {e base : Nat} {w : World} {ok : Nat → Prop} {v : Value} {xs : List α} (h : d.R e w base ok v xs) (hp : 0 < xs.length) : ∃ g c cs, v = .slice (some ⟨g, 0, none⟩) xs.length c ∧ base ≤ g ∧ g < w.heap.size ∧ w.heap[g]? = some (.cells cs e (0, 0)) ∧ cs.size = c * d.sz ∧ c ≤ maxLen := by
 obtain ⟨inner, ho⟩ := Kd.R_own h
 rcases ho.2 with ⟨_, hn⟩ | ⟨g, c, cur, hv, hb, hg, _, hm, hs, _⟩
 · omega
 · exact ⟨g, c, cur, hv, hb, (Array.getElem?_eq_some_iff.1 hg).1, hg, hs, hm⟩
theorem R_cells {α : Type} {d : Kd α} {e g c base : Nat} {W : World} {ok : Nat → Prop} {xs : List α} {cells : Array Value} (hg : W.heap[g]? = some (.cells cells e (0, 0))) (hb : base ≤ g) (hn : xs.length ≤ c) (hm : c ≤ maxLen) (hsz : cells.size = c * d.sz) (hok : ok g)
 (h : ∀ j p, xs[j]? = some p → ∃ cs : List Value, cs.length = d.sz ∧ d.M W base (fun k => ok k ∧ some k ≠ some g) p cs ∧ ∀ t u, cs[t]? = some u → cells[j * d.sz + t]? = some u) : d.R e W base ok (.slice (some ⟨g, 0, none⟩) xs.length c) xs := by
 have hl : xs.length * d.sz ≤ cells.size := by
  rw [hsz]
  exact Nat.mul_le_mul_right _ hn
 have hlt : (cells.toList.take (xs.length * d.sz)).length = xs.length * d.sz := List.length_take_of_le (by rw [Array.length_toList]; exact hl)
 refine ⟨fun k hk => ?_, cells.toList.take (xs.length * d.sz), ⟨hlt, .inr ⟨g, c, cells, rfl, hb, hg, hn, hm, hsz, rfl⟩⟩, hlt, fun j p hj => ?_⟩
 · obtain rfl := Option.some.inj hk
   exact hok
 · obtain ⟨cs, h1, h2, h3⟩ := h j p hj
   have hjl : j < xs.length := (List.getElem?_eq_some_iff.1 hj).1
   have hle : (j + 1) * d.sz ≤ xs.length * d.sz := Nat.mul_le_mul_right _ hjl
   rw [Nat.add_mul, Nat.one_mul] at hle
   have e : ((cells.toList.take (xs.length * d.sz)).drop (j * d.sz)).take d.sz = cs := by
    refine List.ext_getElem? fun t => ?_
    rcases Nat.lt_or_ge t d.sz with ht | ht
    · rw [List.getElem?_take_of_lt ht, List.getElem?_drop, List.getElem?_take_of_lt (by omega), Array.getElem?_toList, h3 t _ (List.getElem?_eq_getElem (by omega))]
      exact (List.getElem?_eq_getElem (by omega)).symm
    · rw [List.getElem?_eq_none (by rw [List.length_take]; omega), List.getElem?_eq_none (by omega)]
   rw [e]
   exact h2
theorem Fl.of_S {ok : Nat → Prop} {A : Option Addr} {n c : Nat} (h : Kd.S k73 73 W base ok (.slice A n c) xs) (hl : xs.length = 4) (hp : ∀ i : Nat, i < 4 → (rd_T73 xs (i : Int)).f0.length = 4) :
 ∃ (g : Nat) (G C : Nat → Nat), A = some ⟨g, 0, none⟩ ∧ n = xs.length ∧ xs.length ≤ c ∧ c = C 4 ∧ Fl W base W.heap.size g 0 G (fun _ => 0) C xs := by
 obtain ⟨hn, hnc, _⟩ := Kd.S_reads' h
 obtain ⟨f, hT⟩ := h
 obtain ⟨g, cap, cells, hv, hb, hlt, hcs, hsz, hmx⟩ := R_size hT (by rw [List.length_zipIdx]; omega)
 obtain ⟨rfl, -, rfl⟩ := Value.slice.inj hv
 have key : ∀ i : Nat, ∃ p : Nat × Nat, i < 4 → base ≤ p.1 ∧ p.1 < W.heap.size ∧ p.1 ≠ g ∧ f p.1 = i ∧ (rd_T73 xs (i : Int)).f0.length ≤ p.2 ∧ (∃ cells, W.heap[p.1]? = some (.cells cells 69 (0, 0)) ∧ cells.size = 0 + p.2 * 5 ∧ p.2 ≤ maxLen) ∧
  W.cell? ⟨g, 0 + i * 2, none⟩ = some (.slice (some ⟨p.1, 0, none⟩) (rd_T73 xs (i : Int)).f0.length p.2) ∧ W.cell? ⟨g, 0 + i * 2 + 1, none⟩ = some (.int .i64 (rd_T73 xs (i : Int)).f1) ∧
  ∀ j : Nat, j < (rd_T73 xs (i : Int)).f0.length → ∀ t u, (pgC (rd_T69 (rd_T73 xs (i : Int)).f0 (j : Int)))[t]? = some u → W.cell? ⟨p.1, 0 + j * 5 + t, none⟩ = some u := fun i => by
  by_cases hi : i < 4
  rotate_left
  · exact ⟨(0, 0), fun h => absurd h hi⟩
  obtain ⟨ce, hcl, hM, hcc, _⟩ := Kd.R_elem hT (z73, 0) (i : Int) (by omega) (by omega)
  have e : xs.zipIdx.getD ((i : Int)).toNat (z73, 0) = (rd_T73 xs (i : Int), i) := by
   unfold rd_T73
   rw [Int.toNat_natCast, List.getD_eq_getElem?_getD, List.getElem?_zipIdx, List.getD_eq_getElem?_getD, List.getElem?_eq_getElem (by omega), Nat.zero_add]
   rfl
  rw [e] at hM
  obtain ⟨vq, rfl, hR⟩ := k73_openM (show (k73).M W base (fun k => (ok k ∧ k ≠ g) ∧ f k = i) (rd_T73 xs (i : Int)) ce from hM)
  obtain ⟨gi, ci, cs, rfl, hgb, hgl, hcg, hcs5, hcm⟩ := R_size hR (by rw [hp i hi]; omega)
  have hok := hR.1 gi rfl
  have c0 := hcc 0 _ rfl
  have c1 := hcc 1 _ rfl
  have et : ((i : Int)).toNat * (Kd.tag f k73).sz = 0 + i * 2 := by rw [Int.toNat_natCast]; show i * 2 = _; omega
  rw [et] at c0 c1
  refine ⟨(gi, ci), fun _ => ⟨hgb, hgl, hok.1.2, hok.2, (Kd.R_reads' hR).2.1, ⟨cs, hcg, by rw [hcs5]; show ci * 5 = _; omega, hcm⟩, c0, c1, fun j hj t u hu => ?_⟩⟩
  obtain ⟨c2, h2, hM2, hcc2, _⟩ := Kd.R_elem hR z69 (j : Int) (by omega) (by omega)
  obtain rfl := k69_openM hM2
  have h3 := hcc2 t u hu
  rw [show ((j : Int)).toNat * (k69).sz + t = 0 + j * 5 + t by rw [Int.toNat_natCast]; show j * 5 + t = _; omega] at h3
  exact h3
 obtain ⟨F, hF⟩ := Classical.axiomOfChoice key
 refine ⟨g, fun i => (F i).1, fun i => if i = 4 then c else (F i).2, rfl, hn, by omega, (if_pos rfl).symm, ⟨⟨hb, hlt, Nat.le_refl _⟩, ⟨cells, hcs, by rw [hsz]; show c * 2 = 0 + (if 4 = 4 then c else _) * 2; rw [if_pos rfl]; omega, by show (if 4 = 4 then c else _) ≤ _; rw [if_pos rfl]; exact hmx⟩, fun i hi => ?_, fun i i' hi hi' hne e => hne ?_, ⟨by omega, fun i hi => by rw [hp i (by omega)]; omega⟩⟩⟩
 · obtain ⟨a1, a2, a3, _, a5⟩ := hF i (by omega)
   rw [if_neg (by omega)]
   exact ⟨a1, a2, a3, a5⟩
 · have e1 := (hF i (by omega)).2.2.2.1
   have e2 := (hF i' (by omega)).2.2.2.1
   have e : (F i).1 = (F i').1 := e
   rw [← e1, e, e2]
theorem setCells_typ {g : Nat} {t : TypeId} : ∀ (vs : List Value) (o : Nat) (w : World) (cur : Array Value), w.heap[g]? = some (.cells cur t (0, 0)) → ∃ cur', (w.setCells g o vs).heap[g]? = some (.cells cur' t (0, 0)) ∧ cur'.size = cur.size
 | [], _, _, cur, h => ⟨cur, h, rfl⟩
 | v :: r, o, w, cur, h => by
  obtain ⟨c, h1, h2⟩ := setCells_typ r (o + 1) (w.setCell ⟨g, o, none⟩ v) _ (blk_set h o v)
  exact ⟨c, h1, h2.trans (Array.size_setIfInBounds ..)⟩
theorem Fl.page (h : Fl W base hi g o G O C xs) {i j : Nat} (hx : i < xs.length) (hj : j < (rd_T73 xs (i : Int)).f0.length) (p : S69) :
 Fl (W.setCells (G i) (O i + j * 5) (pgC p)) base hi g o G O C (xs.set i ⟨(rd_T73 xs (i : Int)).f0.set j p, (rd_T73 xs (i : Int)).f1⟩) := by
 obtain ⟨b1, b2, b3, b4, ⟨bc, b5, b9⟩, b6, b7, b8⟩ := h.at_ i hx
 have far : ∀ k, k ≠ G i → (W.setCells (G i) (O i + j * 5) (pgC p)).heap[k]? = W.heap[k]? := fun k hk => setCells_far _ _ k hk
 have e1 : ∀ q : Nat, (W.setCells (G i) (O i + j * 5) (pgC p)).cell? ⟨g, q, none⟩ = W.cell? ⟨g, q, none⟩ := fun q => cell_heap (far g b3.symm)
 have hin := World.cell?_setCells_in (G i) (pgC p) (O i + j * 5) W (fun t ht => by
  have ht5 : t < 5 := ht
  have : ∃ u, (pgC (rd_T69 (rd_T73 xs (i : Int)).f0 (j : Int)))[t]? = some u := ⟨_, List.getElem?_eq_getElem (show t < 5 from ht5)⟩
  obtain ⟨u, hu⟩ := this
  rw [b8 j hj t u hu]
  rfl)
 refine ⟨⟨h.own.1, h.own.2.1, by rw [(setCells_same _ _ _ _).2.2.2]; exact h.own.2.2⟩, ?_, fun a ha => ?_, fun a a' ha ha' => ?_, ⟨by rw [List.length_set]; exact h.few.1, fun a ha => ?_⟩⟩
 · obtain ⟨c, e, es⟩ := h.typ
   exact ⟨c, (far g b3.symm).trans e, es⟩
 · rw [List.length_set] at ha
   rw [flB_set hx]
   by_cases hc : a = i
   rotate_left
   · rw [if_neg hc]
     obtain ⟨a1, a2, a3, a4, ⟨c, a5, a9⟩, a6, a7, a8⟩ := h.at_ a ha
     have hne := h.one a i ha hx hc
     exact ⟨a1, a2, a3, a4, ⟨c, (far _ hne).trans a5, a9⟩, (e1 _).trans a6, (e1 _).trans a7, fun j' hj' t u hu => (cell_heap (a := ⟨G a, O a + j' * 5 + t, none⟩) (far _ hne)).trans (a8 j' hj' t u hu)⟩
   rw [if_pos hc, hc]
   obtain ⟨c', hc', hcz⟩ := setCells_typ (pgC p) (O i + j * 5) W bc b5
   show base ≤ G i ∧ G i < hi ∧ G i ≠ g ∧ ((rd_T73 xs (i : Int)).f0.set j p).length ≤ C i ∧ _ ∧ _ = some (Value.slice (some ⟨G i, O i, none⟩) ((rd_T73 xs (i : Int)).f0.set j p).length (C i)) ∧ _ ∧ ∀ j' : Nat, j' < ((rd_T73 xs (i : Int)).f0.set j p).length → _
   rw [List.length_set]
   refine ⟨b1, b2, b3, b4, ⟨c', hc', hcz.trans b9.1, b9.2⟩, (e1 _).trans b6, (e1 _).trans b7, fun j' hj' t u hu => ?_⟩
   rw [flP_set hj] at hu
   have ht : t < 5 := (List.getElem?_eq_some_iff.1 hu).1
   by_cases hjj : j' = j
   · rw [if_pos hjj] at hu
     rw [hjj, hin t ht]
     rw [List.getElem?_eq_getElem (show t < (pgC p).length from ht)] at hu
     exact hu
   rw [if_neg hjj] at hu
   rw [World.cell?_setCells_out (G i) (pgC p) (O i + j * 5) W ⟨G i, O i + j' * 5 + t, none⟩ (fun _ _ => by show O i + j' * 5 + t < O i + j * 5 ∨ O i + j * 5 + 5 ≤ O i + j' * 5 + t; omega)]
   exact b8 j' hj' t u hu
 · rw [List.length_set] at ha ha'
   exact h.one a a' ha ha'
 · rw [List.length_set] at ha
   rw [flB_set hx]
   split
   · show ((rd_T73 xs (i : Int)).f0.set j p).length ≤ 4
     rw [List.length_set]
     exact h.few.2 i hx
   · exact h.few.2 a ha
theorem Fl.cutF (h : Fl W base hi g o G O C xs) (h1 : 1 ≤ C 4) : Fl W base hi g (o + 2) (fun i => G (i + 1)) (fun i => O (i + 1)) (fun i => if i = 4 then C 4 - 1 else C (i + 1)) xs.tail := by
 have hl : ∀ i : Nat, i < xs.tail.length → i + 1 < xs.length := fun i hi => by rw [List.length_tail] at hi; omega
 obtain ⟨ct, t1, t2, t3⟩ := h.typ
 refine ⟨h.own, ⟨ct, t1, by show _ = o + 2 + (if 4 = 4 then C 4 - 1 else _) * 2; rw [if_pos rfl]; omega, by show (if 4 = 4 then C 4 - 1 else _) ≤ _; rw [if_pos rfl]; omega⟩, fun i hx => ?_, fun i i' hx hx' hne => h.one (i + 1) (i' + 1) (hl i hx) (hl i' hx') (by omega), ⟨by rw [List.length_tail]; have := h.few.1; omega, fun i hx => ?_⟩⟩
 · have := h.few.1
   have h5 := hl i hx
   rw [flB_tail, show o + 2 + i * 2 = o + (i + 1) * 2 by omega, if_neg (by omega)]
   exact h.at_ (i + 1) (hl i hx)
 · rw [flB_tail]
   exact h.few.2 (i + 1) (hl i hx)
theorem fl_cell {W : World} {g a b : Nat} (hne : a ≠ b) (v : Value) : (W.setCell ⟨g, a, none⟩ v).cell? ⟨g, b, none⟩ = W.cell? ⟨g, b, none⟩ := World.cell?_setCell_other _ _ _ _ (fun e => hne (Addr.mk.inj e).2.1)
theorem Fl.outer (h : Fl W base hi g o G O C xs) {i q : Nat} (hx : i < xs.length) (hq : q = 0 ∨ q = 1) (v : Value) (O' C' : Nat → Nat) (x : S73) (hO : ∀ k, k ≠ i → O' k = O k ∧ C' k = C k) (hcap : O' i + C' i * 5 = O i + C i * 5 ∧ C' i ≤ C i) (hlen : x.f0.length ≤ C' i ∧ x.f0.length ≤ 4)
 (h0 : (W.setCell ⟨g, o + i * 2 + q, none⟩ v).cell? ⟨g, o + i * 2, none⟩ = some (.slice (some ⟨G i, O' i, none⟩) x.f0.length (C' i))) (h1 : (W.setCell ⟨g, o + i * 2 + q, none⟩ v).cell? ⟨g, o + i * 2 + 1, none⟩ = some (.int .i64 x.f1))
 (hp : ∀ j : Nat, j < x.f0.length → ∀ t u, (pgC (rd_T69 x.f0 (j : Int)))[t]? = some u → W.cell? ⟨G i, O' i + j * 5 + t, none⟩ = some u) :
 Fl (W.setCell ⟨g, o + i * 2 + q, none⟩ v) base hi g o G O' C' (xs.set i x) := by
 have far : ∀ k, k ≠ g → (W.setCell ⟨g, o + i * 2 + q, none⟩ v).heap[k]? = W.heap[k]? := fun k hk => Below.heap_setCell W ⟨g, o + i * 2 + q, none⟩ v k hk
 refine ⟨⟨h.own.1, h.own.2.1, by simpa [World.setCell] using h.own.2.2⟩, ?_, fun a ha => ?_, fun a a' ha ha' => ?_, ⟨by rw [List.length_set]; exact h.few.1, fun a ha => ?_⟩⟩
 · obtain ⟨c, e, es⟩ := h.typ
   rw [(hO 4 (by have := h.few.1; omega)).2]
   exact ⟨_, blk_set e (o + i * 2 + q) v, (Array.size_setIfInBounds ..).trans es.1, es.2⟩
 · rw [List.length_set] at ha
   rw [flB_set hx]
   obtain ⟨a1, a2, a3, a4, ⟨c, a5, a9⟩, a6, a7, a8⟩ := h.at_ a ha
   have ep : ∀ z : Nat, (W.setCell ⟨g, o + i * 2 + q, none⟩ v).cell? ⟨G a, z, none⟩ = W.cell? ⟨G a, z, none⟩ := fun z => cell_heap (far (G a) a3)
   by_cases hc : a = i
   · rw [if_pos hc]
     subst hc
     exact ⟨a1, a2, a3, hlen.1, ⟨c, (far _ a3).trans a5, a9.1.trans hcap.1.symm, Nat.le_trans hcap.2 a9.2⟩, h0, h1, fun j hj t u hu => (ep _).trans (hp j hj t u hu)⟩
   rw [if_neg hc, (hO a hc).1, (hO a hc).2]
   exact ⟨a1, a2, a3, a4, ⟨c, (far _ a3).trans a5, a9⟩, (fl_cell (by omega) v).trans a6, (fl_cell (by omega) v).trans a7, fun j hj t u hu => (ep _).trans (a8 j hj t u hu)⟩
 · rw [List.length_set] at ha ha'
   exact h.one a a' ha ha'
 · rw [List.length_set] at ha
   rw [flB_set hx]
   split
   · exact hlen.2
   · exact h.few.2 a ha
theorem Fl.worn (h : Fl W base hi g o G O C xs) {i : Nat} (hx : i < xs.length) (x : Int) : Fl (W.setCell ⟨g, o + i * 2 + 1, none⟩ (.int .i64 x)) base hi g o G O C (xs.set i ⟨(rd_T73 xs (i : Int)).f0, x⟩) := by
 obtain ⟨b1, b2, b3, b4, b5, b6, b7, b8⟩ := h.at_ i hx
 exact h.outer hx (.inr rfl) _ O C _ (fun k _ => ⟨rfl, rfl⟩) ⟨rfl, Nat.le_refl _⟩ ⟨b4, h.few.2 i hx⟩ ((fl_cell (by omega) _).trans b6) (World.cell?_setCell_same _ _ _ b7) b8
theorem Fl.cutP (h : Fl W base hi g o G O C xs) {i : Nat} (hx : i < xs.length) (hl : 1 ≤ (rd_T73 xs (i : Int)).f0.length) : Fl (W.setCell ⟨g, o + i * 2, none⟩ (.slice (some ⟨G i, O i + 5, none⟩) ((rd_T73 xs (i : Int)).f0.length - 1) (C i - 1))) base hi g o G (fun k => if k = i then O i + 5 else O k) (fun k => if k = i then C i - 1 else C k) (xs.set i ⟨(rd_T73 xs (i : Int)).f0.tail, (rd_T73 xs (i : Int)).f1⟩) := by
 obtain ⟨b1, b2, b3, b4, b5, b6, b7, b8⟩ := h.at_ i hx
 have hf := h.few.2 i hx
 refine h.outer (q := 0) hx (.inl rfl) _ (fun k => if k = i then O i + 5 else O k) (fun k => if k = i then C i - 1 else C k) _ (fun k hk => ⟨if_neg hk, if_neg hk⟩) (by rw [if_pos rfl, if_pos rfl]; omega) ⟨?_, ?_⟩ ?_ ?_ (fun j hj t u hu => ?_)
 · show (rd_T73 xs (i : Int)).f0.tail.length ≤ (if i = i then C i - 1 else C i)
   rw [if_pos rfl, List.length_tail]
   omega
 · show (rd_T73 xs (i : Int)).f0.tail.length ≤ 4
   rw [List.length_tail]
   omega
 · show _ = some (Value.slice (some ⟨G i, if i = i then O i + 5 else O i, none⟩) (rd_T73 xs (i : Int)).f0.tail.length (if i = i then C i - 1 else C i))
   rw [if_pos rfl, if_pos rfl, List.length_tail]
   exact World.cell?_setCell_same _ _ _ b6
 · exact (fl_cell (by omega) _).trans b7
 · have hj : j < (rd_T73 xs (i : Int)).f0.tail.length := hj
   rw [List.length_tail] at hj
   have hu : (pgC (rd_T69 (rd_T73 xs (i : Int)).f0.tail (j : Int)))[t]? = some u := hu
   rw [flP_tail] at hu
   show W.cell? ⟨G i, (if i = i then O i + 5 else O i) + j * 5 + t, none⟩ = some u
   rw [if_pos rfl, show O i + 5 + j * 5 + t = O i + (j + 1) * 5 + t by omega]
   exact b8 (j + 1) (by omega) t u hu
end
theorem Fl.below {W W' : World} {base hi g o : Nat} {G O C : Nat → Nat} {xs : List S73} (h : Fl W base hi g o G O C xs) (hb : Below W.heap.size W W') : Fl W' base hi g o G O C xs := h.step (fun k _ h2 => hb.block k (Nat.lt_of_lt_of_le h2 h.own.2.2)) (Nat.le_trans h.own.2.2 hb.size)
theorem Fl.alloc {W : World} {base hi g o : Nat} {G O C : Nat → Nat} {xs : List S73} (h : Fl W base hi g o G O C xs) (x : Obj) : Fl (W.alloc x) base hi g o G O C xs := h.below (below_alloc (Below.refl _ _) x)
theorem Fl.keep {W W' : World} {base hi g o b : Nat} {G O C : Nat → Nat} {xs : List S73} (h : Fl W base hi g o G O C xs) (hk : KeepBut W W' b none) (hb : b < base) : Fl W' base hi g o G O C xs := h.step (fun k h1 h2 => hk.2 k (Nat.lt_of_lt_of_le h2 h.own.2.2) (by omega) (by simp)) (Nat.le_trans h.own.2.2 hk.1)
def flFine (fl : List S73) : Bool := fl.length == 4 && fl.all (fun b => b.f0.length == 4)
def FlAt (W : World) (base : Nat) (v : Value) (xs : List S73) : Prop := ∃ (g o hi n c : Nat) (G O C : Nat → Nat), v = .slice (some ⟨g, o, none⟩) n c ∧ n = xs.length ∧ n ≤ c ∧ Fl W base hi g o G O C xs ∧ c = C 4 ∧ (flFine xs = true → o = 0 ∧ ∀ i, i < 4 → O i = 0)
theorem FlAt.V {W : World} {base b e : Nat} {v : Value} {xs : List S73} (h : FlAt W base v xs) : Kd.V k73 e W b (fun k => base ≤ k) v xs := by
 obtain ⟨g, o, hi, n, c, G, O, C, rfl, rfl, hc, hF, -⟩ := h
 exact hF.V hc
theorem fl_fine {fl : List S73} (h : flFine fl = true) : fl.length = 4 ∧ ∀ i : Nat, i < 4 → (rd_T73 fl (i : Int)).f0.length = 4 := by
 unfold flFine at h
 rw [Bool.and_eq_true, beq_iff_eq, List.all_eq_true] at h
 refine ⟨h.1, fun i hi => ?_⟩
 have e := flB_at (xs := fl) (j := i) (List.getElem?_eq_getElem (by omega))
 rw [e]
 exact beq_iff_eq.1 (h.2 _ (List.getElem_mem _))
theorem spec_l71Flash.c4 (k g : Nat) (s0_0 : List Int) (s0_1 : Int) (ev : List S61) (fl : List S73) (dk : List Int) (p1 q p2 : Int) (w0 w : World) (hI : IsS56 w0 w g s0_0 s0_1) (hB : Below w0.heap.size w0 w)
 (h1 : spec_l71Play.f k s0_0 s0_1 = some (ev, fl, dk, p1)) (h2 : spec_l6Rd_pick.f k s0_0 p1 20 = some (q, p2)) (hfn : flFine fl = true) (n0 : q ≠ 0) (n1 : q ≠ 1) (n2 : q ≠ 2) (n3 : q ≠ 3) :
 Calls Try.prog 46 #[.pointer (some ⟨g, 0, none⟩)] w fun e w' => ∃ v0_ : Value, e = .returned v0_ ∧ FlAt w' w.heap.size v0_ fl ∧ IsS56 w0 w' g s0_0 p2 ∧ Below w0.heap.size w0 w' ∧ KeepBut w w' g none := by
 have hu28 := Try.underlying73
 have hu32 := Try.underlying69
 have hu26 := Try.underlying71
 have hu70 := Try.underlying26
 have hgl := IsS56.lt hI
 have HL0 := am hB.size
 have HFN := am (fl_fine hfn)
 clear hfn
 go_enter Try.func46, Try.ntmps46
 go_wp2_with fail
 refine (spec_l71Play.calls k g s0_0 s0_1 ev fl dk p1 w0 _ hI hB h1).mono ?_
 rintro e w1 ⟨v0, v1, v2, rfl, -, hS, hD, hI1, hB1, hK1⟩
 obtain ⟨A1, c1, rfl⟩ := Kd.S_slice hS
 obtain ⟨A2, c2, rfl⟩ := Kd.R_slice hD
 obtain ⟨gf, G, CC, rfl, -, hc4, hcc, hF⟩ := Fl.of_S hS HFN.out.1 HFN.out.2
 have HCC := am hcc
 generalize w1.heap.size = hi at hF
 have HC4 := am hc4
 have HF := am (hF.alloc (.cells #[.slice (some ⟨gf, 0, none⟩) fl.length c1, .slice A2 dk.length c2] 26))
 have HI := am (hI1.alloc (.cells #[.slice (some ⟨gf, 0, none⟩) fl.length c1, .slice A2 dk.length c2] 26))
 have HB := am (below_alloc hB1 (.cells #[.slice (some ⟨gf, 0, none⟩) fl.length c1, .slice A2 dk.length c2] 26))
 have HK := am (keep_alloc hK1 (.cells #[.slice (some ⟨gf, 0, none⟩) fl.length c1, .slice A2 dk.length c2] 26))
 clear hS hD hI hB hI1 hB1 hK1 hF hc4 hcc
 go_wp2_with fail
 refine (spec_l6Rd_pick.calls k g s0_0 p1 20 q p2 w0 _ HI.out HB.out h2).mono ?_
 rintro e w2 ⟨rfl, hI2, hB2, hK2⟩
 replace HF := am (HF.out.keep hK2 hgl)
 replace HI := am hI2
 replace HB := am hB2
 replace HK := am (KeepBut.trans HK.out hK2 (.inl rfl))
 clear hI2 hB2 hK2
 have e0 : (q == 0) = false := beq_eq_false_iff_ne.mpr n0
 have e1 : (q == 1) = false := beq_eq_false_iff_ne.mpr n1
 have e2 : (q == 2) = false := beq_eq_false_iff_ne.mpr n2
 have e3 : (q == 3) = false := beq_eq_false_iff_ne.mpr n3
 go_wp2
 go_ret
 exact ⟨_, rfl, ⟨gf, 0, hi, _, c1, G, _, CC, rfl, rfl, HC4.out, HF.out, HCC.out, fun _ => ⟨rfl, fun _ _ => rfl⟩⟩, HI.out, HB.out, HK.out⟩
theorem blk_kb {w w' : World} {g a : Nat} {o : Obj} (h : w.heap[a]? = some o) (hk : KeepBut w w' g none) (hne : a ≠ g) : w'.heap[a]? = some o := (hk.2 a (Array.getElem?_eq_some_iff.1 h).1 hne (by simp)).trans h
theorem spec_l71Flash.c2 (k g : Nat) (s0_0 : List Int) (s0_1 : Int) (ev : List S61) (fl : List S73) (dk : List Int) (p1 q p2 : Int) (w0 w : World) (hI : IsS56 w0 w g s0_0 s0_1) (hB : Below w0.heap.size w0 w)
 (h1 : spec_l71Play.f k s0_0 s0_1 = some (ev, fl, dk, p1)) (h2 : spec_l6Rd_pick.f k s0_0 p1 20 = some (q, p2)) (hfn : flFine fl = true) (n0 : q = 2) (hl : 1 ≤ fl.length) :
 Calls Try.prog 46 #[.pointer (some ⟨g, 0, none⟩)] w fun e w' => ∃ v0_ : Value, e = .returned v0_ ∧ FlAt w' w.heap.size v0_ fl.tail ∧ IsS56 w0 w' g s0_0 p2 ∧ Below w0.heap.size w0 w' ∧ KeepBut w w' g none := by
 have hu28 := Try.underlying73
 have hu32 := Try.underlying69
 have hu26 := Try.underlying71
 have hu70 := Try.underlying26
 have hgl := IsS56.lt hI
 have HL0 := am hB.size
 have HFN := am (fl_fine hfn)
 clear hfn
 go_enter Try.func46, Try.ntmps46
 go_wp2_with fail
 refine (spec_l71Play.calls k g s0_0 s0_1 ev fl dk p1 w0 _ hI hB h1).mono ?_
 rintro e w1 ⟨v0, v1, v2, rfl, -, hS, hD, hI1, hB1, hK1⟩
 obtain ⟨A1, c1, rfl⟩ := Kd.S_slice hS
 obtain ⟨A2, c2, rfl⟩ := Kd.R_slice hD
 obtain ⟨gf, G, CC, rfl, -, hc4, hcc, hF⟩ := Fl.of_S hS HFN.out.1 HFN.out.2
 have HCC := am hcc
 generalize w1.heap.size = hi at hF
 have HC4 := am hc4
 have HF := am (hF.alloc (.cells #[.slice (some ⟨gf, 0, none⟩) fl.length c1, .slice A2 dk.length c2] 26))
 have HI := am (hI1.alloc (.cells #[.slice (some ⟨gf, 0, none⟩) fl.length c1, .slice A2 dk.length c2] 26))
 have HB := am (below_alloc hB1 (.cells #[.slice (some ⟨gf, 0, none⟩) fl.length c1, .slice A2 dk.length c2] 26))
 have HK := am (keep_alloc hK1 (.cells #[.slice (some ⟨gf, 0, none⟩) fl.length c1, .slice A2 dk.length c2] 26))
 clear hS hD hI hB hI1 hB1 hK1 hF hc4 hcc
 go_wp2_with fail
 refine (spec_l6Rd_pick.calls k g s0_0 p1 20 q p2 w0 _ HI.out HB.out h2).mono ?_
 rintro e w2 ⟨rfl, hI2, hB2, hK2⟩
 replace HF := am (HF.out.keep hK2 hgl)
 replace HI := am hI2
 replace HB := am hB2
 replace HK := am (KeepBut.trans HK.out hK2 (.inl rfl))
 clear hI2 hB2 hK2
 subst n0
 go_wp2
 all_goals go_ret
 · exfalso
   have h1 := HC4.out
   have h2 := HFN.out.1
   omega
 · exact ⟨_, rfl, ⟨gf, 0 + 2, hi, _, c1 - 1, _, _, _, rfl, List.length_tail.symm, by have := HC4.out; omega, HF.out.cutF (by have := HC4.out; have := HCC.out; omega), by show c1 - 1 = (if 4 = 4 then CC 4 - 1 else _); rw [if_pos rfl, HCC.out], fun h => by have := (fl_fine h).1; rw [List.length_tail, HFN.out.1] at this; omega⟩, HI.out, HB.out, HK.out⟩
theorem spec_l71Flash.c1 (k g : Nat) (s0_0 : List Int) (s0_1 : Int) (ev : List S61) (fl : List S73) (dk : List Int) (p1 q p2 : Int) (i p3 v p4 : Int) (w0 w : World) (hI : IsS56 w0 w g s0_0 s0_1) (hB : Below w0.heap.size w0 w)
 (h1 : spec_l71Play.f k s0_0 s0_1 = some (ev, fl, dk, p1)) (h2 : spec_l6Rd_pick.f k s0_0 p1 20 = some (q, p2)) (hfn : flFine fl = true) (n0 : q = 1) (h3 : spec_l6Rd_pick.f k s0_0 p2 (fl.length : Int) = some (i, p3)) (hi0 : 0 ≤ i) (hi1 : i < (fl.length : Int)) (h4 : spec_l6Rd_pick.f k s0_0 p3 3 = some (v, p4)) (hv0 : 0 ≤ v) (hv1 : v < 3) :
 Calls Try.prog 46 #[.pointer (some ⟨g, 0, none⟩)] w fun e w' => ∃ v0_ : Value, e = .returned v0_ ∧ FlAt w' w.heap.size v0_ (fl.set i.toNat (⟨(rd_T73 fl i).f0, rd [-1, 200, 201] v⟩ : S73)) ∧ IsS56 w0 w' g s0_0 p4 ∧ Below w0.heap.size w0 w' ∧ KeepBut w w' g none := by
 have hu28 := Try.underlying73
 have hu32 := Try.underlying69
 have hu26 := Try.underlying71
 have hu70 := Try.underlying26
 have hgl := IsS56.lt hI
 have HL0 := am hB.size
 have HFN := am (fl_fine hfn)
 clear hfn
 go_enter Try.func46, Try.ntmps46
 go_wp2_with fail
 refine (spec_l71Play.calls k g s0_0 s0_1 ev fl dk p1 w0 _ hI hB h1).mono ?_
 rintro e w1 ⟨v0, v1, v2, rfl, -, hS, hD, hI1, hB1, hK1⟩
 obtain ⟨A1, c1, rfl⟩ := Kd.S_slice hS
 obtain ⟨A2, c2, rfl⟩ := Kd.R_slice hD
 obtain ⟨gf, G, CC, rfl, -, hc4, hcc, hF⟩ := Fl.of_S hS HFN.out.1 HFN.out.2
 have HCC := am hcc
 generalize w1.heap.size = hi at hF
 have HC4 := am hc4
 have HF := am (hF.alloc (.cells #[.slice (some ⟨gf, 0, none⟩) fl.length c1, .slice A2 dk.length c2] 26))
 have HI := am (hI1.alloc (.cells #[.slice (some ⟨gf, 0, none⟩) fl.length c1, .slice A2 dk.length c2] 26))
 have HB := am (below_alloc hB1 (.cells #[.slice (some ⟨gf, 0, none⟩) fl.length c1, .slice A2 dk.length c2] 26))
 have HK := am (keep_alloc hK1 (.cells #[.slice (some ⟨gf, 0, none⟩) fl.length c1, .slice A2 dk.length c2] 26))
 clear hS hD hI hB hI1 hB1 hK1 hF hc4 hcc
 go_wp2_with fail
 refine (spec_l6Rd_pick.calls k g s0_0 p1 20 q p2 w0 _ HI.out HB.out h2).mono ?_
 rintro e w2 ⟨rfl, hI2, hB2, hK2⟩
 replace HF := am (HF.out.keep hK2 hgl)
 replace HI := am hI2
 replace HB := am hB2
 replace HK := am (KeepBut.trans HK.out hK2 (.inl rfl))
 clear hI2 hB2 hK2
 subst n0
 have hgb := HF.out.own.1
 go_wp2_with fail
 refine (spec_l6Rd_pick.calls k g s0_0 p2 (fl.length : Int) i p3 w0 _ HI.out HB.out h3).mono ?_
 rintro e w3 ⟨rfl, hI2, hB2, hK2⟩
 replace HF := am (HF.out.keep hK2 hgl)
 replace HI := am hI2
 replace HB := am hB2
 replace HK := am (KeepBut.trans HK.out hK2 (.inl rfl))
 clear hI2 hB2 hK2
 go_wp2_with fail
 refine (spec_l6Rd_pick.calls k g s0_0 p3 3 v p4 w0 _ (IsS56.alloc HI.out _) (below_alloc HB.out _) h4).mono ?_
 rintro e w4 ⟨rfl, hI2, hB2, hK2⟩
 have hlt3 := IsS56.lt HI.out
 have hbx := blk_kb (blk_new w3 _) hK2 (show w3.heap.size ≠ g by omega)
 replace HF := am ((HF.out.alloc _).keep hK2 hgl)
 replace HI := am hI2
 replace HB := am hB2
 replace HK := am (KeepBut.trans (keep_alloc HK.out _) hK2 (.inl rfl))
 clear hI2 hB2 hK2 hlt3
 have hin : i.toNat < fl.length := by omega
 have hat := HF.out.at_ i.toNat hin
 rw [Int.toNat_of_nonneg hi0] at hat
 simp only [Nat.zero_add] at hat
 obtain ⟨bt, hbt, -⟩ := HF.out.typ
 have hfz := blk_frozen hbt (i.toNat * 2 + 1)
 have hcl1 := hat.2.2.2.2.2.2.1
 have hN := fun x => HF.out.worn hin x
 simp only [Nat.zero_add, Int.toNat_of_nonneg hi0] at hN
 generalize (rd_T73 fl i).f1 = wo at hcl1
 have HN := am hN
 clear hat hbt hN
 have q0 : w4.cell? ⟨w3.heap.size, 0, none⟩ = some (.int .i64 (-1)) := (blk_cell hbx 0).trans rfl
 have q1 : w4.cell? ⟨w3.heap.size, 1, none⟩ = some (.int .i64 200) := (blk_cell hbx 1).trans rfl
 have q2 : w4.cell? ⟨w3.heap.size, 2, none⟩ = some (.int .i64 201) := (blk_cell hbx 2).trans rfl
 clear hbx
 have hib := decide_eq_true hi1
 have hiq : (i < (fl.length : Int)) = True := eq_true hi1
 have hv : v = 0 ∨ v = 1 ∨ v = 2 := by omega
 clear hv0 hv1
 have HQ : ∀ x : Int, Aside0 (IsS56 w0 (w4.setCell ⟨gf, i.toNat * 2 + 1, none⟩ (.int .i64 x)) g s0_0 p4 ∧ Below w0.heap.size w0 (w4.setCell ⟨gf, i.toNat * 2 + 1, none⟩ (.int .i64 x)) ∧ KeepBut w (w4.setCell ⟨gf, i.toNat * 2 + 1, none⟩ (.int .i64 x)) g none) := fun x => ⟨IsS56.far HI.out (show g ≠ gf by omega) _, HB.out.setCell (p := ⟨gf, i.toNat * 2 + 1, none⟩) (Nat.le_trans HL0.out hgb) _, keep_far HK.out (p := ⟨gf, i.toNat * 2 + 1, none⟩) hgb _⟩
 rcases hv with rfl | rfl | rfl
 all_goals (clear h3 h4 h1 h2 hgl hgb hin; go_wp2; go_ret)
 · exact ⟨_, rfl, ⟨gf, 0, hi, _, c1, G, _, CC, rfl, List.length_set.symm, HC4.out, HN.out (-1), HCC.out, fun _ => ⟨rfl, fun _ _ => rfl⟩⟩, (HQ (-1)).out⟩
 · exact ⟨_, rfl, ⟨gf, 0, hi, _, c1, G, _, CC, rfl, List.length_set.symm, HC4.out, HN.out 200, HCC.out, fun _ => ⟨rfl, fun _ _ => rfl⟩⟩, (HQ 200).out⟩
 · exact ⟨_, rfl, ⟨gf, 0, hi, _, c1, G, _, CC, rfl, List.length_set.symm, HC4.out, HN.out 201, HCC.out, fun _ => ⟨rfl, fun _ _ => rfl⟩⟩, (HQ 201).out⟩
theorem spec_l71Flash.c3 (k g : Nat) (s0_0 : List Int) (s0_1 : Int) (ev : List S61) (fl : List S73) (dk : List Int) (p1 q p2 : Int) (i p3 : Int) (w0 w : World) (hI : IsS56 w0 w g s0_0 s0_1) (hB : Below w0.heap.size w0 w)
 (h1 : spec_l71Play.f k s0_0 s0_1 = some (ev, fl, dk, p1)) (h2 : spec_l6Rd_pick.f k s0_0 p1 20 = some (q, p2)) (hfn : flFine fl = true) (n0 : q = 3) (h3 : spec_l6Rd_pick.f k s0_0 p2 (fl.length : Int) = some (i, p3)) (hi0 : 0 ≤ i) (hi1 : i < (fl.length : Int)) (hp : 1 ≤ (rd_T73 fl i).f0.length) :
 Calls Try.prog 46 #[.pointer (some ⟨g, 0, none⟩)] w fun e w' => ∃ v0_ : Value, e = .returned v0_ ∧ FlAt w' w.heap.size v0_ (fl.set i.toNat (⟨(rd_T73 fl i).f0.tail, (rd_T73 fl i).f1⟩ : S73)) ∧ IsS56 w0 w' g s0_0 p3 ∧ Below w0.heap.size w0 w' ∧ KeepBut w w' g none := by
 have hu28 := Try.underlying73
 have hu32 := Try.underlying69
 have hu26 := Try.underlying71
 have hu70 := Try.underlying26
 have hgl := IsS56.lt hI
 have HL0 := am hB.size
 have HFN := am (fl_fine hfn)
 clear hfn
 go_enter Try.func46, Try.ntmps46
 go_wp2_with fail
 refine (spec_l71Play.calls k g s0_0 s0_1 ev fl dk p1 w0 _ hI hB h1).mono ?_
 rintro e w1 ⟨v0, v1, v2, rfl, -, hS, hD, hI1, hB1, hK1⟩
 obtain ⟨A1, c1, rfl⟩ := Kd.S_slice hS
 obtain ⟨A2, c2, rfl⟩ := Kd.R_slice hD
 obtain ⟨gf, G, CC, rfl, -, hc4, hcc, hF⟩ := Fl.of_S hS HFN.out.1 HFN.out.2
 have HCC := am hcc
 generalize w1.heap.size = hi at hF
 have HC4 := am hc4
 have HF := am (hF.alloc (.cells #[.slice (some ⟨gf, 0, none⟩) fl.length c1, .slice A2 dk.length c2] 26))
 have HI := am (hI1.alloc (.cells #[.slice (some ⟨gf, 0, none⟩) fl.length c1, .slice A2 dk.length c2] 26))
 have HB := am (below_alloc hB1 (.cells #[.slice (some ⟨gf, 0, none⟩) fl.length c1, .slice A2 dk.length c2] 26))
 have HK := am (keep_alloc hK1 (.cells #[.slice (some ⟨gf, 0, none⟩) fl.length c1, .slice A2 dk.length c2] 26))
 clear hS hD hI hB hI1 hB1 hK1 hF hc4 hcc
 go_wp2_with fail
 refine (spec_l6Rd_pick.calls k g s0_0 p1 20 q p2 w0 _ HI.out HB.out h2).mono ?_
 rintro e w2 ⟨rfl, hI2, hB2, hK2⟩
 replace HF := am (HF.out.keep hK2 hgl)
 replace HI := am hI2
 replace HB := am hB2
 replace HK := am (KeepBut.trans HK.out hK2 (.inl rfl))
 clear hI2 hB2 hK2
 subst n0
 have hgb := HF.out.own.1
 go_wp2_with fail
 refine (spec_l6Rd_pick.calls k g s0_0 p2 (fl.length : Int) i p3 w0 _ HI.out HB.out h3).mono ?_
 rintro e w3 ⟨rfl, hI2, hB2, hK2⟩
 replace HF := am (HF.out.keep hK2 hgl)
 replace HI := am hI2
 replace HB := am hB2
 replace HK := am (KeepBut.trans HK.out hK2 (.inl rfl))
 clear hI2 hB2 hK2
 have hin : i.toNat < fl.length := by omega
 have hat := HF.out.at_ i.toNat hin
 rw [Int.toNat_of_nonneg hi0] at hat
 simp only [Nat.zero_add] at hat
 obtain ⟨bt, hbt, -⟩ := HF.out.typ
 have hfz := blk_frozen hbt (i.toNat * 2)
 have hc := hat.2.2.2.2.2.1
 have hl1 := hat.2.2.2.1
 have h44 : (rd_T73 fl i).f0.length = 4 := by
  have := HFN.out.2 i.toNat (by have := HFN.out.1; omega)
  rw [Int.toNat_of_nonneg hi0] at this
  exact this
 have hN := HF.out.cutP hin (by rw [Int.toNat_of_nonneg hi0]; exact hp)
 rw [Nat.zero_add, Nat.zero_add, Int.toNat_of_nonneg hi0] at hN
 have HN := am hN
 have HQ : ∀ x : Value, Aside0 (IsS56 w0 (w3.setCell ⟨gf, i.toNat * 2, none⟩ x) g s0_0 p3 ∧ Below w0.heap.size w0 (w3.setCell ⟨gf, i.toNat * 2, none⟩ x) ∧ KeepBut w (w3.setCell ⟨gf, i.toNat * 2, none⟩ x) g none) := fun x => ⟨IsS56.far HI.out (show g ≠ gf by omega) _, HB.out.setCell (p := ⟨gf, i.toNat * 2, none⟩) (Nat.le_trans HL0.out hgb) _, keep_far HK.out (p := ⟨gf, i.toNat * 2, none⟩) hgb _⟩
 have hib := decide_eq_true hi1
 have hiq : (i < (fl.length : Int)) = True := eq_true hi1
 clear hat hbt hN h3 h1 h2 hgl hgb hin
 have H44 := am h44
 generalize CC i.toNat = ci at hc hl1 HN
 generalize G i.toNat = gi at hc HN
 generalize hnn : (rd_T73 fl i).f0.length = nn at hc hl1 hp HN H44
 have HNN := am hnn
 clear hnn h44
 go_wp2
 all_goals go_ret
 · exfalso
   have h1 := H44.out
   omega
 · exact ⟨_, rfl, ⟨gf, 0, hi, _, c1, G, _, _, rfl, List.length_set.symm, HC4.out, HN.out, by have h_ := HFN.out.1; have h5 : i.toNat ≠ 4 := (by omega); show c1 = (if 4 = i.toNat then _ else CC 4); rw [if_neg h5.symm]; exact HCC.out, fun h => by have h_ := HFN.out.1; have h5 := HFN.out.2 i.toNat (by omega); have h6 := (fl_fine h).2 i.toNat (by omega); rw [flB_set (by omega), if_pos rfl] at h6; rw [Int.toNat_of_nonneg hi0] at h5; have h6 : (rd_T73 fl i).f0.tail.length = 4 := h6; rw [List.length_tail, h5] at h6; omega⟩, (HQ _).out⟩
theorem keepD {w0 w W : World} {g n : Nat} {a : Addr} {v : Value} (h : W.cell? a = some v ∧ Below w0.heap.size w0 W ∧ KeepBut w W g none) : (W.drewN n).cell? a = some v ∧ Below w0.heap.size w0 (W.drewN n) ∧ KeepBut w (W.drewN n) g none := ⟨h.1, pw_below_drewN h.2.1 n, keep_drewN h.2.2 n⟩
theorem keepD1 {w0 w W : World} {g : Nat} {a : Addr} {v : Value} (h : W.cell? a = some v ∧ Below w0.heap.size w0 W ∧ KeepBut w W g none) : (W.drew).cell? a = some v ∧ Below w0.heap.size w0 (W.drew) ∧ KeepBut w (W.drew) g none := ⟨h.1, below_drew h.2.1, keep_drew h.2.2⟩
theorem keepW {w0 w W : World} {g gi : Nat} {a : Addr} {v : Value} (h : W.cell? a = some v ∧ Below w0.heap.size w0 W ∧ KeepBut w W g none) (hL : w0.heap.size ≤ w.heap.size) (hgi : w.heap.size ≤ gi) (hne : a.block ≠ gi) (a1 a2 a3 a4 a5 : Nat) (u1 u2 u3 u4 u5 : Value) :
 (((((W.setCell ⟨gi, a1, none⟩ u1).setCell ⟨gi, a2, none⟩ u2).setCell ⟨gi, a3, none⟩ u3).setCell ⟨gi, a4, none⟩ u4).setCell ⟨gi, a5, none⟩ u5).cell? a = some v ∧ Below w0.heap.size w0 (((((W.setCell ⟨gi, a1, none⟩ u1).setCell ⟨gi, a2, none⟩ u2).setCell ⟨gi, a3, none⟩ u3).setCell ⟨gi, a4, none⟩ u4).setCell ⟨gi, a5, none⟩ u5) ∧ KeepBut w (((((W.setCell ⟨gi, a1, none⟩ u1).setCell ⟨gi, a2, none⟩ u2).setCell ⟨gi, a3, none⟩ u3).setCell ⟨gi, a4, none⟩ u4).setCell ⟨gi, a5, none⟩ u5) g none := by
 have e : ∀ (k : Nat), (⟨gi, k, none⟩ : Addr) ≠ a := fun k he => hne (by rw [← he])
 have hb := Nat.le_trans hL hgi
 refine ⟨?_, ((((h.2.1.setCell (p := ⟨gi, a1, none⟩) hb _).setCell (p := ⟨gi, a2, none⟩) hb _).setCell (p := ⟨gi, a3, none⟩) hb _).setCell (p := ⟨gi, a4, none⟩) hb _).setCell (p := ⟨gi, a5, none⟩) hb _, keep_far (p := ⟨gi, a5, none⟩) (keep_far (p := ⟨gi, a4, none⟩) (keep_far (p := ⟨gi, a3, none⟩) (keep_far (p := ⟨gi, a2, none⟩) (keep_far (p := ⟨gi, a1, none⟩) h.2.2 hgi _) hgi _) hgi _) hgi _) hgi _⟩
 rw [World.cell?_setCell_other _ _ _ _ (e a5), World.cell?_setCell_other _ _ _ _ (e a4), World.cell?_setCell_other _ _ _ _ (e a3), World.cell?_setCell_other _ _ _ _ (e a2), World.cell?_setCell_other _ _ _ _ (e a1)]
 exact h.1
theorem spec_l71Flash.c0 (k g : Nat) (s0_0 : List Int) (s0_1 : Int) (ev : List S61) (fl : List S73) (dk : List Int) (p1 q p2 : Int) (i p3 j p4 st p5 r0 r1 r2 r3 p6 : Int) (w0 w : World) (hI : IsS56 w0 w g s0_0 s0_1) (hB : Below w0.heap.size w0 w)
 (h1 : spec_l71Play.f k s0_0 s0_1 = some (ev, fl, dk, p1)) (h2 : spec_l6Rd_pick.f k s0_0 p1 20 = some (q, p2)) (hfn : flFine fl = true) (n0 : q = 0) (h3 : spec_l6Rd_pick.f k s0_0 p2 (fl.length : Int) = some (i, p3)) (hi0 : 0 ≤ i) (hi1 : i < (fl.length : Int)) (h4 : spec_l6Rd_pick.f k s0_0 p3 4 = some (j, p4)) (hj0 : 0 ≤ j) (hj1 : j < ((rd_T73 fl i).f0.length : Int)) (h5 : spec_l6Rd_pick.f k s0_0 p4 4 = some (st, p5)) (h6 : spec_l71Rec.f k s0_0 p5 = some (r0, r1, r2, r3, p6)) :
 Calls Try.prog 46 #[.pointer (some ⟨g, 0, none⟩)] w fun e w' => ∃ v0_ : Value, e = .returned v0_ ∧ FlAt w' w.heap.size v0_ (fl.set i.toNat (⟨(rd_T73 fl i).f0.set j.toNat ⟨st, ⟨r0, r1, r2, r3⟩⟩, (rd_T73 fl i).f1⟩ : S73)) ∧ IsS56 w0 w' g s0_0 p6 ∧ Below w0.heap.size w0 w' ∧ KeepBut w w' g none := by
 have hu28 := Try.underlying73
 have hu32 := Try.underlying69
 have hu26 := Try.underlying71
 have hu70 := Try.underlying26
 have hgl := IsS56.lt hI
 have HL0 := am hB.size
 have HFN := am (fl_fine hfn)
 clear hfn
 go_enter Try.func46, Try.ntmps46
 go_wp2_with fail
 refine (spec_l71Play.calls k g s0_0 s0_1 ev fl dk p1 w0 _ hI hB h1).mono ?_
 rintro e w1 ⟨v0, v1, v2, rfl, -, hS, hD, hI1, hB1, hK1⟩
 obtain ⟨A1, c1, rfl⟩ := Kd.S_slice hS
 obtain ⟨A2, c2, rfl⟩ := Kd.R_slice hD
 obtain ⟨gf, G, CC, rfl, -, hc4, hcc, hF⟩ := Fl.of_S hS HFN.out.1 HFN.out.2
 have HCC := am hcc
 generalize w1.heap.size = hi at hF
 have HC4 := am hc4
 have HF := am (hF.alloc (.cells #[.slice (some ⟨gf, 0, none⟩) fl.length c1, .slice A2 dk.length c2] 26))
 have HI := am (hI1.alloc (.cells #[.slice (some ⟨gf, 0, none⟩) fl.length c1, .slice A2 dk.length c2] 26))
 have HB := am (below_alloc hB1 (.cells #[.slice (some ⟨gf, 0, none⟩) fl.length c1, .slice A2 dk.length c2] 26))
 have HK := am (keep_alloc hK1 (.cells #[.slice (some ⟨gf, 0, none⟩) fl.length c1, .slice A2 dk.length c2] 26))
 clear hS hD hI hB hI1 hB1 hK1 hF hc4 hcc
 go_wp2_with fail
 refine (spec_l6Rd_pick.calls k g s0_0 p1 20 q p2 w0 _ HI.out HB.out h2).mono ?_
 rintro e w2 ⟨rfl, hI2, hB2, hK2⟩
 replace HF := am (HF.out.keep hK2 hgl)
 replace HI := am hI2
 replace HB := am hB2
 replace HK := am (KeepBut.trans HK.out hK2 (.inl rfl))
 clear hI2 hB2 hK2
 subst n0
 have hgb := HF.out.own.1
 have hin : i.toNat < fl.length := by omega
 have hat := HF.out.at_ i.toNat hin
 rw [Int.toNat_of_nonneg hi0] at hat
 simp only [Nat.zero_add] at hat
 obtain ⟨bi, hcgi, -⟩ := hat.2.2.2.2.1
 have hgib := hat.1
 have hgigf := hat.2.2.1
 have hc := hat.2.2.2.2.2.1
 have hjn : j.toNat < (rd_T73 fl i).f0.length := by omega
 have hd := hat.2.2.2.2.2.2.2 j.toNat hjn
 try simp only [Nat.zero_add] at hd
 have HD := am (And.intro (hd 0 _ rfl) (And.intro (hd 1 _ rfl) (And.intro (hd 2 _ rfl) (And.intro (hd 3 _ rfl) (hd 4 _ rfl)))))
 rw [Nat.add_zero] at HD
 have HBI := am hcgi
 have HP := am (fun (W : World) (hk : KeepBut w2 W g none) => (HF.out.keep hk hgl).page hin (j := j.toNat) (by rw [Int.toNat_of_nonneg hi0]; exact hjn) (⟨st, ⟨r0, r1, r2, r3⟩⟩ : S69))
 simp only [Nat.zero_add, Int.toNat_of_nonneg hi0] at HP
 generalize hpq : (rd_T69 (rd_T73 fl i).f0 ((j.toNat : Nat) : Int)) = pq at HD
 generalize CC i.toNat = ci at hc hat
 generalize G i.toNat = gi at hc HBI HD hgib hgigf HP
 clear hpq hd hat hcgi hin hjn
 generalize hnn : (rd_T73 fl i).f0.length = nn at hc hj1
 clear hnn
 have hib := decide_eq_true hi1
 have hiq : (i < (fl.length : Int)) = True := eq_true hi1
 have hjb := decide_eq_true hj1
 have hjq : (j < (nn : Int)) = True := eq_true hj1
 have hgfg : gf ≠ g := by omega
 have hgig : gi ≠ g := by omega
 have hSS : w2.cell? ⟨gf, i.toNat * 2, none⟩ = some (.slice (some ⟨gi, 0, none⟩) nn ci) ∧ Below w0.heap.size w0 w2 ∧ KeepBut w w2 g none := ⟨hc, HB.out, HK.out⟩
 have HGI := am hgib
 have hd1 : ∀ (W : World) (n : Nat) (a : Addr), (W.drewN n).cell? a = W.cell? a := fun _ _ _ => rfl
 have hd3 : ∀ (W : World) (n : Nat) (a : Addr), (W.drewN n).frozen? a = W.frozen? a := fun _ _ _ => rfl
 clear hc hgb
 go_wp2_with fail
 go_region_held3 (fun W => W.cell? ⟨gf, i.toNat * 2, none⟩ = some (.slice (some ⟨gi, 0, none⟩) nn ci) ∧ Below w0.heap.size w0 W ∧ KeepBut w W g none)
  (first | (with_reducible assumption) | (with_reducible exact keepD hSS) | (with_reducible exact keepD1 hSS) | (with_reducible exact keepD hS3) | (with_reducible exact keepD hS4) | (with_reducible exact keepD hS5) | (with_reducible exact keepD hS6) | (with_reducible exact keepW hS6 HL0.out HGI.out hgigf.symm _ _ _ _ _ _ _ _ _ _) | (with_reducible exact keepW (keepD hS6) HL0.out HGI.out hgigf.symm _ _ _ _ _ _ _ _ _ _))
  (first
   | (go_at_call 64; have _hg := HI5.out; clear _hg; refine (spec_l71Rec.calls k g s0_0 p5 r0 r1 r2 r3 p6 w0 _ (by first | (with_reducible exact HI5.out) | (with_reducible exact IsS56.drewN HI5.out _) | (with_reducible exact IsS56.drew HI5.out)) (by first | (with_reducible exact hS5.2.1) | (with_reducible exact pw_below_drewN hS5.2.1 _) | (with_reducible exact below_drew hS5.2.1)) h6).mono ?_; rintro e w6 ⟨rfl, hI6, hB6, hq6⟩; have hK6 : KeepBut w2 w6 g none := KeepBut.trans HK5.out hq6 (.inl rfl); have HI6 := am hI6; have HK6 := am hK6; have hS6 : w6.cell? ⟨gf, i.toNat * 2, none⟩ = some (.slice (some ⟨gi, 0, none⟩) nn ci) ∧ Below w0.heap.size w0 w6 ∧ KeepBut w w6 g none := ⟨keep_cell hK6 hSS.1 hgfg, hB6, KeepBut.trans HK.out hK6 (.inl rfl)⟩; clear hI6 hq6 hB6 hK6; have K6 := HK6.out; have d0 := keep_cell K6 HD.out.1 hgig; have d1 := keep_cell K6 HD.out.2.1 hgig; have d2 := keep_cell K6 HD.out.2.2.1 hgig; have d3 := keep_cell K6 HD.out.2.2.2.1 hgig; have d4 := keep_cell K6 HD.out.2.2.2.2 hgig; have bk6 := blk_kb HBI.out K6 hgig; have f0 := blk_frozen bk6 (j.toNat * 5); have f1 := blk_frozen bk6 (j.toNat * 5 + 1); have f2 := blk_frozen bk6 (j.toNat * 5 + 2); have f3 := blk_frozen bk6 (j.toNat * 5 + 3); have f4 := blk_frozen bk6 (j.toNat * 5 + 4); clear K6 bk6)
   | (go_at_call 14; have _hg := HI4.out; clear _hg; refine (spec_l6Rd_pick.calls k g s0_0 p4 4 st p5 w0 _ (by first | (with_reducible exact HI4.out) | (with_reducible exact IsS56.drewN HI4.out _) | (with_reducible exact IsS56.drew HI4.out)) (by first | (with_reducible exact hS4.2.1) | (with_reducible exact pw_below_drewN hS4.2.1 _) | (with_reducible exact below_drew hS4.2.1)) h5).mono ?_; rintro e w5 ⟨rfl, hI5, hB5, hq5⟩; have hK5 : KeepBut w2 w5 g none := KeepBut.trans HK4.out hq5 (.inl rfl); have HI5 := am hI5; have HK5 := am hK5; have hS5 : w5.cell? ⟨gf, i.toNat * 2, none⟩ = some (.slice (some ⟨gi, 0, none⟩) nn ci) ∧ Below w0.heap.size w0 w5 ∧ KeepBut w w5 g none := ⟨keep_cell hK5 hSS.1 hgfg, hB5, KeepBut.trans HK.out hK5 (.inl rfl)⟩; clear hI5 hq5 hB5 hK5)
   | (go_at_call 14; have _hg := HI3.out; clear _hg; refine (spec_l6Rd_pick.calls k g s0_0 p3 4 j p4 w0 _ (by first | (with_reducible exact HI3.out) | (with_reducible exact IsS56.drewN HI3.out _) | (with_reducible exact IsS56.drew HI3.out)) (by first | (with_reducible exact hS3.2.1) | (with_reducible exact pw_below_drewN hS3.2.1 _) | (with_reducible exact below_drew hS3.2.1)) h4).mono ?_; rintro e w4 ⟨rfl, hI4, hB4, hq4⟩; have hK4 : KeepBut w2 w4 g none := KeepBut.trans HK3.out hq4 (.inl rfl); have HI4 := am hI4; have HK4 := am hK4; have hS4 : w4.cell? ⟨gf, i.toNat * 2, none⟩ = some (.slice (some ⟨gi, 0, none⟩) nn ci) ∧ Below w0.heap.size w0 w4 ∧ KeepBut w w4 g none := ⟨keep_cell hK4 hSS.1 hgfg, hB4, KeepBut.trans HK.out hK4 (.inl rfl)⟩; clear hI4 hq4 hB4 hK4)
   | (go_at_call 14; have _hg := HI.out; clear _hg; refine (spec_l6Rd_pick.calls k g s0_0 p2 (fl.length : Int) i p3 w0 _ (by first | (with_reducible exact HI.out) | (with_reducible exact IsS56.drewN HI.out _) | (with_reducible exact IsS56.drew HI.out)) (by first | (with_reducible exact hSS.2.1) | (with_reducible exact pw_below_drewN hSS.2.1 _) | (with_reducible exact below_drew hSS.2.1)) h3).mono ?_; rintro e w3 ⟨rfl, hI3, hB3, hq3⟩; have hK3 : KeepBut w2 w3 g none := hq3; have HI3 := am hI3; have HK3 := am hK3; have hS3 : w3.cell? ⟨gf, i.toNat * 2, none⟩ = some (.slice (some ⟨gi, 0, none⟩) nn ci) ∧ Below w0.heap.size w0 w3 ∧ KeepBut w w3 g none := ⟨keep_cell hK3 hSS.1 hgfg, hB3, KeepBut.trans HK.out hK3 (.inl rfl)⟩; clear hI3 hq3 hB3 hK3)
   | fail)
 have hS6w := (show (((((w6.setCell ⟨gi, j.toNat * 5, none⟩ (.int .i64 st)).setCell ⟨gi, j.toNat * 5 + 1, none⟩ (.int .i64 r0)).setCell ⟨gi, j.toNat * 5 + 2, none⟩ (.int .i64 r1)).setCell ⟨gi, j.toNat * 5 + 3, none⟩ (.int .i64 r2)).setCell ⟨gi, j.toNat * 5 + 4, none⟩ (.int .i64 r3)).cell? ⟨gf, i.toNat * 2, none⟩ = some (.slice (some ⟨gi, 0, none⟩) nn ci) ∧ Below w0.heap.size w0 (((((w6.setCell ⟨gi, j.toNat * 5, none⟩ (.int .i64 st)).setCell ⟨gi, j.toNat * 5 + 1, none⟩ (.int .i64 r0)).setCell ⟨gi, j.toNat * 5 + 2, none⟩ (.int .i64 r1)).setCell ⟨gi, j.toNat * 5 + 3, none⟩ (.int .i64 r2)).setCell ⟨gi, j.toNat * 5 + 4, none⟩ (.int .i64 r3)) ∧ KeepBut w (((((w6.setCell ⟨gi, j.toNat * 5, none⟩ (.int .i64 st)).setCell ⟨gi, j.toNat * 5 + 1, none⟩ (.int .i64 r0)).setCell ⟨gi, j.toNat * 5 + 2, none⟩ (.int .i64 r1)).setCell ⟨gi, j.toNat * 5 + 3, none⟩ (.int .i64 r2)).setCell ⟨gi, j.toNat * 5 + 4, none⟩ (.int .i64 r3)) g none from by with_reducible assumption)
 have hst := HP.out w6 HK6.out
 have hgne : g ≠ gi := fun h => hgig h.symm
 have hI7 := IsS56.far (p := ⟨gi, j.toNat * 5 + 4, none⟩) (IsS56.far (p := ⟨gi, j.toNat * 5 + 3, none⟩) (IsS56.far (p := ⟨gi, j.toNat * 5 + 2, none⟩) (IsS56.far (p := ⟨gi, j.toNat * 5 + 1, none⟩) (IsS56.far (p := ⟨gi, j.toNat * 5, none⟩) HI6.out hgne (.int .i64 st)) hgne (.int .i64 r0)) hgne (.int .i64 r1)) hgne (.int .i64 r2)) hgne (.int .i64 r3)
 have HR := am (And.intro hS6w (And.intro hst hI7))
 clear hS6w hst hI7 hSS hS3 hS4 hS5 hS6 d0 d1 d2 d3 d4 f0 f1 f2 f3 f4 h1 h2 h3 h4 h5 h6 hd1 hd3 HF HI HI3 HI4 HI5 HI6 HK3 HK4 HK5 HK6 HD HBI HP
 go_wp2
 go_ret
 exact ⟨_, rfl, ⟨gf, 0, hi, _, c1, _, _, _, rfl, List.length_set.symm, HC4.out, HR.out.2.1, HCC.out, fun _ => ⟨rfl, fun _ _ => rfl⟩⟩, HR.out.2.2, HR.out.1.2⟩
def spec_l71Flash.g (k : Nat) (s0_0 : List Int) (fl : List S73) (q p2 : Int) : Option (List S73 × Int) :=
 if q = 0 then (spec_l6Rd_pick.f k s0_0 p2 (fl.length : Int)).bind fun b3 => (spec_l6Rd_pick.f k s0_0 b3.2 4).bind fun b4 => (spec_l6Rd_pick.f k s0_0 b4.2 4).bind fun b5 => (spec_l71Rec.f k s0_0 b5.2).bind fun b6 =>
  if 0 ≤ b3.1 ∧ b3.1 < (fl.length : Int) ∧ 0 ≤ b4.1 ∧ b4.1 < ((rd_T73 fl b3.1).f0.length : Int) then some (fl.set b3.1.toNat (⟨(rd_T73 fl b3.1).f0.set b4.1.toNat ⟨b5.1, ⟨b6.1, b6.2.1, b6.2.2.1, b6.2.2.2.1⟩⟩, (rd_T73 fl b3.1).f1⟩ : S73), b6.2.2.2.2) else none
 else if q = 1 then (spec_l6Rd_pick.f k s0_0 p2 (fl.length : Int)).bind fun b3 => (spec_l6Rd_pick.f k s0_0 b3.2 3).bind fun b4 =>
  if 0 ≤ b3.1 ∧ b3.1 < (fl.length : Int) ∧ 0 ≤ b4.1 ∧ b4.1 < 3 then some (fl.set b3.1.toNat (⟨(rd_T73 fl b3.1).f0, rd [-1, 200, 201] b4.1⟩ : S73), b4.2) else none
 else if q = 2 then (if 1 ≤ fl.length then some (fl.tail, p2) else none)
 else if q = 3 then (spec_l6Rd_pick.f k s0_0 p2 (fl.length : Int)).bind fun b3 =>
  if 0 ≤ b3.1 ∧ b3.1 < (fl.length : Int) ∧ 1 ≤ (rd_T73 fl b3.1).f0.length then some (fl.set b3.1.toNat (⟨(rd_T73 fl b3.1).f0.tail, (rd_T73 fl b3.1).f1⟩ : S73), b3.2) else none
 else some (fl, p2)
def spec_l71Flash.f (k : Nat) (s0_0 : List Int) (s0_1 : Int) : Option (List S73 × Int) :=
 (spec_l71Play.f k s0_0 s0_1).bind fun b1 => (spec_l6Rd_pick.f k s0_0 b1.2.2.2 20).bind fun b2 => if flFine b1.2.1 = true then spec_l71Flash.g k s0_0 b1.2.1 b2.1 b2.2 else none
theorem spec_l71Flash.callsF (k : Nat) (g : Nat) (s0_0 : List Int) (s0_1 : Int) (r1 : List (S73)) (r2 : Int) (w0 w : World) (hI : IsS56 w0 w g s0_0 s0_1) (hB : Below w0.heap.size w0 w) (h : spec_l71Flash.f k s0_0 s0_1 = some (r1, r2)) :
 Calls Try.prog 46 #[.pointer (some ⟨g, 0, none⟩)] w fun e w' => ∃ v0_ : Value, e = .returned v0_ ∧ FlAt w' w.heap.size v0_ r1 ∧ IsS56 w0 w' g s0_0 r2 ∧ Below w0.heap.size w0 w' ∧ KeepBut w w' g none := by
 unfold spec_l71Flash.f at h
 obtain ⟨⟨ev, fl, dk, p1⟩, h1, h⟩ := Option.bind_eq_some_iff.1 h
 obtain ⟨⟨q, p2⟩, h2, h⟩ := Option.bind_eq_some_iff.1 h
 replace h : (if flFine fl = true then spec_l71Flash.g k s0_0 fl q p2 else none) = some (r1, r2) := h
 by_cases hfn : flFine fl = true
 rotate_left
 · rw [if_neg hfn] at h
   cases h
 rw [if_pos hfn] at h
 unfold spec_l71Flash.g at h
 by_cases n0 : q = 0
 · rw [if_pos n0] at h
   obtain ⟨⟨i, p3⟩, h3, h⟩ := Option.bind_eq_some_iff.1 h
   obtain ⟨⟨j, p4⟩, h4, h⟩ := Option.bind_eq_some_iff.1 h
   obtain ⟨⟨st, p5⟩, h5, h⟩ := Option.bind_eq_some_iff.1 h
   obtain ⟨⟨r0, ra, rb, rc, p6⟩, h6, h⟩ := Option.bind_eq_some_iff.1 h
   obtain ⟨⟨hi0, hi1, hj0, hj1⟩, h⟩ := ite_some h
   have e := Prod.mk.inj (Option.some.inj h)
   rw [← e.1, ← e.2]
   exact spec_l71Flash.c0 k g s0_0 s0_1 ev fl dk p1 q p2 i p3 j p4 st p5 r0 ra rb rc p6 w0 w hI hB h1 h2 hfn n0 h3 hi0 hi1 h4 hj0 hj1 h5 h6
 rw [if_neg n0] at h
 by_cases n1 : q = 1
 · rw [if_pos n1] at h
   obtain ⟨⟨i, p3⟩, h3, h⟩ := Option.bind_eq_some_iff.1 h
   obtain ⟨⟨j, p4⟩, h4, h⟩ := Option.bind_eq_some_iff.1 h
   obtain ⟨⟨hi0, hi1, hj0, hj1⟩, h⟩ := ite_some h
   have e := Prod.mk.inj (Option.some.inj h)
   rw [← e.1, ← e.2]
   exact spec_l71Flash.c1 k g s0_0 s0_1 ev fl dk p1 q p2 i p3 j p4 w0 w hI hB h1 h2 hfn n1 h3 hi0 hi1 h4 hj0 hj1
 rw [if_neg n1] at h
 by_cases n2 : q = 2
 · rw [if_pos n2] at h
   obtain ⟨hl, h⟩ := ite_some h
   have e := Prod.mk.inj (Option.some.inj h)
   rw [← e.1, ← e.2]
   exact spec_l71Flash.c2 k g s0_0 s0_1 ev fl dk p1 q p2 w0 w hI hB h1 h2 hfn n2 hl
 rw [if_neg n2] at h
 by_cases n3 : q = 3
 · rw [if_pos n3] at h
   obtain ⟨⟨i, p3⟩, h3, h⟩ := Option.bind_eq_some_iff.1 h
   obtain ⟨⟨hi0, hi1, hp⟩, h⟩ := ite_some h
   have e := Prod.mk.inj (Option.some.inj h)
   rw [← e.1, ← e.2]
   exact spec_l71Flash.c3 k g s0_0 s0_1 ev fl dk p1 q p2 i p3 w0 w hI hB h1 h2 hfn n3 h3 hi0 hi1 hp
 rw [if_neg n3] at h
 have e := Prod.mk.inj (Option.some.inj h)
 rw [← e.1, ← e.2]
 exact spec_l71Flash.c4 k g s0_0 s0_1 ev fl dk p1 q p2 w0 w hI hB h1 h2 hfn n0 n1 n2 n3
theorem Fl.stepG {W W' : World} {base hi hi' g o : Nat} {G O C : Nat → Nat} {xs : List S73} (h : Fl W base hi g o G O C xs) (hm : ∀ k, base ≤ k → k < hi → (k = g ∨ ∃ i, i < xs.length ∧ k = G i) → W'.heap[k]? = W.heap[k]?) (hs : hi' = W'.heap.size ∨ hi' = hi ∧ hi ≤ W'.heap.size) : Fl W' base hi' g o G O C xs := by
 have hg := hm g h.own.1 h.own.2.1 (.inl rfl)
 have hlt : ∀ k c t, W.heap[k]? = some (.cells c t (0, 0)) → W'.heap[k]? = W.heap[k]? → k < hi → k < hi' := fun k c t h1 h2 h3 => by
  rcases hs with rfl | ⟨rfl, _⟩
  · exact (Array.getElem?_eq_some_iff.1 (h2.trans h1)).1
  · exact h3
 obtain ⟨c, e, es⟩ := h.typ
 refine ⟨⟨h.own.1, hlt g c _ e hg h.own.2.1, by rcases hs with rfl | ⟨rfl, h2⟩ <;> omega⟩, ⟨c, hg.trans e, es⟩, fun i hx => ?_, h.one, h.few⟩
 obtain ⟨a1, a2, a3, a4, ⟨c, a5, a9⟩, a6, a7, a8⟩ := h.at_ i hx
 have hG := hm (G i) a1 a2 (.inr ⟨i, hx, rfl⟩)
 exact ⟨a1, hlt _ c _ a5 hG a2, a3, a4, ⟨c, hG.trans a5, a9⟩, (cell_heap hg).trans a6, (cell_heap hg).trans a7, fun j hj t u hu => (cell_heap hG).trans (a8 j hj t u hu)⟩
theorem Fl.away {W : World} {base hi g o : Nat} {G O C : Nat → Nat} {xs : List S73} (h : Fl W base hi g o G O C xs) {p : Addr} (hp : p.block < base ∨ hi ≤ p.block ∨ ∃ c, W.heap[p.block]? = some (.cells c 3 (0, 0))) (u : Value) : Fl (W.setCell p u) base hi g o G O C xs := by
 refine h.stepG (fun k h1 h2 h3 => Below.heap_setCell W p u k ?_) (.inr ⟨rfl, by simpa [World.setCell] using h.own.2.2⟩)
 rintro rfl
 rcases hp with hp | hp | ⟨c, hp⟩
 · omega
 · omega
 · rcases h3 with h3 | ⟨i, hi, h3⟩
   · obtain ⟨c', e, -⟩ := h.typ
     rw [← h3, hp] at e
     injection e with e
     injection e with _ e _
     exact absurd e (by decide)
   · obtain ⟨_, _, _, _, ⟨c', e, -⟩, _⟩ := h.at_ i hi
     rw [← h3, hp] at e
     injection e with e
     injection e with _ e _
     exact absurd e (by decide)
theorem FlAt.away {W : World} {base : Nat} {v : Value} {xs : List S73} (h : FlAt W base v xs) {p : Addr} (hp : p.block < base) (u : Value) : FlAt (W.setCell p u) base v xs := by
 obtain ⟨g, o, hi, n, c, G, O, C, h1, h2, h3, h4, h5⟩ := h
 exact ⟨g, o, hi, n, c, G, O, C, h1, h2, h3, h4.away (.inl hp) u, h5⟩
theorem FlAt.lower {W : World} {base base' : Nat} {v : Value} {xs : List S73} (h : FlAt W base v xs) (hb : base' ≤ base) : FlAt W base' v xs := by
 obtain ⟨g, o, hi, n, c, G, O, C, h1, h2, h3, h4, h5⟩ := h
 exact ⟨g, o, hi, n, c, G, O, C, h1, h2, h3, h4.lower hb, h5⟩
theorem FlAt.Vq {W : World} {base b e : Nat} {v u : Value} {xs : List S73} {ys : List Int} {ok : Nat → Prop} (h : FlAt W base v xs) (hq : Kd.Q (Kd.int .i64) 3 W b ok u ys) : Kd.V k73 e W b (fun k => base ≤ k ∧ some k ≠ u.ownBlock) v xs := by
 obtain ⟨g, o, hi, n, c, G, O, C, rfl, rfl, hc, h, -⟩ := h
 refine Kd.V_mk hc (fun W' hm => ?_)
 have h' : Fl W' base W'.heap.size g o G O C xs := h.stepG (fun k h1 h2 h3 => hm k ⟨h1, by
  rcases h3 with rfl | ⟨i, hi, rfl⟩
  · obtain ⟨c', e, -⟩ := h.typ
    exact Kd.Q_ne hq e (by decide)
  · obtain ⟨_, _, _, _, ⟨c', e, -⟩, _⟩ := h.at_ i hi
    exact Kd.Q_ne hq e (by decide)⟩ (Nat.lt_of_lt_of_le h2 h.own.2.2)) (.inl rfl)
 exact Kd.V_F (base := b) (e := e) (h'.V (b := b) (e := e) hc) W' (fun _ _ _ => rfl)
def wornF (fl : List S73) : Nat → List S73
 | 0 => fl
 | i + 1 => (wornF fl i).set i ⟨(rd_T73 (wornF fl i) (i : Int)).f0, 200⟩
theorem wornF_len (fl : List S73) : ∀ i, (wornF fl i).length = fl.length
 | 0 => rfl
 | i + 1 => by rw [wornF, List.length_set, wornF_len fl i]
theorem st_out {w0 w W : World} {g b2 b1 : Nat} {s : List Int} {p : Int} {v1 v2 : Value} {fl : List S73} {dk : List Int} (h0 : w0.heap.size ≤ w.heap.size) (h2 : w.heap.size ≤ b2) (hg : g < w.heap.size) (hb : b2 < b1) (hF : FlAt W b1 v1 fl) (hQ : Kd.Q (Kd.int .i64) 3 W b1 (fun k => b1 ≤ k) v2 dk) (hR : dk.length = 6 → (Kd.int .i64).R 3 W b1 (fun k => b1 ≤ k) v2 dk) (hI : IsS56 w0 W g s p) (hB : Below w0.heap.size w0 W) (hK : KeepBut w W g none) :
 (FlAt ((W.setCell ⟨b2, 0, none⟩ v1).setCell ⟨b2, 1, none⟩ v2) w.heap.size v1 fl ∧ Kd.Q (Kd.int .i64) 3 ((W.setCell ⟨b2, 0, none⟩ v1).setCell ⟨b2, 1, none⟩ v2) w.heap.size (fun k => w.heap.size ≤ k) v2 dk ∧ (dk.length = 6 → (Kd.int .i64).R 3 ((W.setCell ⟨b2, 0, none⟩ v1).setCell ⟨b2, 1, none⟩ v2) w.heap.size (fun k => w.heap.size ≤ k) v2 dk)) ∧ IsS56 w0 ((W.setCell ⟨b2, 0, none⟩ v1).setCell ⟨b2, 1, none⟩ v2) g s p ∧ Below w0.heap.size w0 ((W.setCell ⟨b2, 0, none⟩ v1).setCell ⟨b2, 1, none⟩ v2) ∧ KeepBut w ((W.setCell ⟨b2, 0, none⟩ v1).setCell ⟨b2, 1, none⟩ v2) g none := by
 have hl : w.heap.size ≤ b1 := by omega
 have hn : ∀ k, b1 ≤ k → k ≠ b2 := fun k hk => by omega
 exact ⟨⟨((hF.away (p := ⟨b2, 0, none⟩) hb v1).away (p := ⟨b2, 1, none⟩) hb v2).lower hl, Kd.Q_lower (Kd.Q_mono (Kd.Q_far (p := ⟨b2, 1, none⟩) (Kd.Q_far (p := ⟨b2, 0, none⟩) hQ hn v1) hn v2) (fun k hk => Nat.le_trans hl hk)) hl, fun h6 => Kd.R_lower (Kd.R_mono (Kd.R_far (p := ⟨b2, 1, none⟩) (Kd.R_far (p := ⟨b2, 0, none⟩) (hR h6) hn v1) hn v2) (fun k hk => Nat.le_trans hl hk)) hl⟩,
  IsS56.far (p := ⟨b2, 1, none⟩) (IsS56.far (p := ⟨b2, 0, none⟩) hI (show g ≠ b2 by omega) v1) (show g ≠ b2 by omega) v2, Below.setCell (Below.setCell hB (p := ⟨b2, 0, none⟩) (Nat.le_trans h0 h2) v1) (p := ⟨b2, 1, none⟩) (Nat.le_trans h0 h2) v2, keep_far (p := ⟨b2, 1, none⟩) (keep_far (p := ⟨b2, 0, none⟩) hK h2 v1) h2 v2⟩
structure StC (w0 w : World) (g b1 hi gf gd c1 c2 : Nat) (G CC : Nat → Nat) (fl : List S73) (dk : List Int) (a x : Int) (W : World) : Prop where
 hb : Below w0.heap.size w0 W
 hk : KeepBut w W g none
 hf : Fl W b1 hi gf 0 G (fun _ => 0) CC fl
 b2 : W.heap[w.heap.size]? = some (.cells #[.slice none 0 0, .slice none 0 0] 26)
 b4 : W.heap[hi]? = some (.cells #[.slice (some ⟨gf, 0, none⟩) fl.length c1, .slice (some ⟨gd, 0, none⟩) 6 c2] 26)
 hd : ∃ dk', (Kd.int .i64).R 3 W b1 (fun k => b1 ≤ k ∧ k < hi) (.slice (some ⟨gd, 0, none⟩) 6 c2) dk' ∧ dk'.set a.toNat x = dk.set a.toNat x
section
variable {w0 w W W' : World} {g b1 hi gf gd c1 c2 : Nat} {G CC : Nat → Nat} {fl : List S73} {dk : List Int} {a x : Int}
theorem StC.pick (h : StC w0 w g b1 hi gf gd c1 c2 G CC fl dk a x W) (hg : g < w.heap.size) (h1 : w.heap.size < b1) (hk : KeepBut W W' g none) (hb : Below w0.heap.size w0 W') : StC w0 w g b1 hi gf gd c1 c2 G CC fl dk a x W' := by
 have h3 := h.hf.own
 obtain ⟨dk', hd, he⟩ := h.hd
 exact ⟨hb, h.hk.trans hk (.inl rfl), h.hf.keep hk (by omega), blk_kb h.b2 hk (by omega), blk_kb h.b4 hk (by omega), dk', Kd.R_keep hd hk (fun k hk => by have := hk.1; omega), he⟩
theorem StC.alloc (h : StC w0 w g b1 hi gf gd c1 c2 G CC fl dk a x W) (o : Obj) : StC w0 w g b1 hi gf gd c1 c2 G CC fl dk a x (W.alloc o) := by
 obtain ⟨dk', hd, he⟩ := h.hd
 exact ⟨below_alloc h.hb o, keep_alloc h.hk o, h.hf.alloc o, blk_alloc h.b2 o, blk_alloc h.b4 o, dk', Kd.R_alloc hd o, he⟩
theorem StC.drewN (h : StC w0 w g b1 hi gf gd c1 c2 G CC fl dk a x W) (n : Nat) : StC w0 w g b1 hi gf gd c1 c2 G CC fl dk a x (W.drewN n) := by
 obtain ⟨dk', hd, he⟩ := h.hd
 exact ⟨pw_below_drewN h.hb n, keep_drewN h.hk n, h.hf.step (fun _ _ _ => rfl) h.hf.own.2.2, h.b2, h.b4, dk', Kd.R_drewN hd n, he⟩
theorem StC.drew (h : StC w0 w g b1 hi gf gd c1 c2 G CC fl dk a x W) : StC w0 w g b1 hi gf gd c1 c2 G CC fl dk a x W.drew := by
 obtain ⟨dk', hd, he⟩ := h.hd
 exact ⟨below_drew h.hb, keep_drew h.hk, h.hf.step (fun _ _ _ => rfl) h.hf.own.2.2, h.b2, h.b4, dk', Kd.R_drew hd, he⟩
theorem StC.at_ (h : StC w0 w g b1 hi gf gd c1 c2 G CC fl dk a x W) : b1 ≤ gd ∧ gd < hi ∧ ∃ c, W.heap[gd]? = some (.cells c 3 (0, 0)) := by
 obtain ⟨dk', hd, he⟩ := h.hd
 obtain ⟨hl, -, -⟩ := Kd.R_reads' hd
 obtain ⟨g', c', hv, -, -, cs, hc⟩ := Kd.R_form hd (by omega)
 obtain ⟨e1, -, -⟩ := Value.slice.inj hv
 cases e1
 have := hd.1 gd rfl
 exact ⟨this.1, this.2, cs, hc⟩
theorem StC.put (h : StC w0 w g b1 hi gf gd c1 c2 G CC fl dk a x W) (hw : w0.heap.size ≤ w.heap.size) (h1 : w.heap.size < b1) : StC w0 w g b1 hi gf gd c1 c2 G CC fl dk a x (W.setCell ⟨gd, a.toNat, none⟩ (.int .i64 x)) := by
 have h3 := h.hf.own
 obtain ⟨h4, h5, ct, hct⟩ := h.at_
 obtain ⟨dk', hd, he⟩ := h.hd
 exact ⟨Below.setCell h.hb (p := ⟨gd, a.toNat, none⟩) (show _ ≤ gd by omega) _, keep_far (p := ⟨gd, a.toNat, none⟩) h.hk (show _ ≤ gd by omega) _, h.hf.away (p := ⟨gd, a.toNat, none⟩) (.inr (.inr ⟨ct, hct⟩)) _, blk_far h.b2 (p := ⟨gd, a.toNat, none⟩) (show w.heap.size ≠ gd by omega) _, blk_far h.b4 (p := ⟨gd, a.toNat, none⟩) (show hi ≠ gd by omega) _, _, Kd.R_putn hd a x, by rw [List.set_set]; exact he⟩
theorem StC.elem (h : StC w0 w g b1 hi gf gd c1 c2 G CC fl dk a x W) (h0 : 0 ≤ a) (h6 : a < 6) : ∃ y : Int, W.cell? ⟨gd, a.toNat, none⟩ = some (.int .i64 y) ∧ W.frozen? ⟨gd, a.toNat, none⟩ = false := by
 obtain ⟨dk', hd, he⟩ := h.hd
 exact ⟨_, Kd.R_celln 0 hd a h0 h6⟩
theorem StC.cell (h : StC w0 w g b1 hi gf gd c1 c2 G CC fl dk a x W) : W.cell? ⟨hi, 1, none⟩ = some (.slice (some ⟨gd, 0, none⟩) 6 c2) ∧ StC w0 w g b1 hi gf gd c1 c2 G CC fl dk a x W := ⟨(blk_cell h.b4 1).trans rfl, h⟩
theorem StC.done (h : StC w0 w g b1 hi gf gd c1 c2 G CC fl dk a x W) (h0 : 0 ≤ a) (h6 : a < 6) (hx : W.cell? ⟨gd, a.toNat, none⟩ = some (.int .i64 x)) : (Kd.int .i64).R 3 W b1 (fun k => b1 ≤ k ∧ k < hi) (.slice (some ⟨gd, 0, none⟩) 6 c2) (dk.set a.toNat x) := by
 obtain ⟨dk', hd, he⟩ := h.hd
 obtain ⟨hl, -, -⟩ := Kd.R_reads' hd
 have h1 := (Kd.R_celln 0 hd a h0 h6).1
 rw [hx] at h1
 have h2 : x = dk'.getD a.toNat 0 := (Value.int.inj (Option.some.inj h1)).2
 rw [List.getD_eq_getElem?_getD, List.getElem?_eq_getElem (by omega), Option.getD_some] at h2
 rw [← he, h2, List.set_getElem_self]
 exact hd
end
theorem st_gen {w0 w W : World} {P : World → Prop} {g b1 hi gf gd c1 c2 : Nat} {G CC : Nat → Nat} {fl : List S73} {dk : List Int} {a x : Int} {s : List Int} {p : Int} (h : StC w0 w g b1 hi gf gd c1 c2 G CC fl dk a x W) (hI : IsS56 w0 W g s p) (hx : W.cell? ⟨gd, a.toNat, none⟩ = some (.int .i64 x)) (k : ∀ W, StC w0 w g b1 hi gf gd c1 c2 G CC fl dk a x W → IsS56 w0 W g s p → W.cell? ⟨gd, a.toNat, none⟩ = some (.int .i64 x) → P W) : P W := k W h hI hx
theorem lit_cell (W : World) {v : Int} (h0 : 0 ≤ v) (h1 : v < 4) : (W.alloc (.cells #[.int .i64 (-1), .int .i64 10, .int .i64 0, .int .i64 5] 3)).cell? ⟨W.heap.size, v.toNat, none⟩ = some (.int .i64 (rd [-1, 10, 0, 5] v)) := by
 obtain rfl | rfl | rfl | rfl : v = 0 ∨ v = 1 ∨ v = 2 ∨ v = 3 := by omega
 all_goals exact (blk_cell (blk_new W _) _).trans rfl
def spec_l71Store.g (k : Nat) (s0_0 : List Int) (fl : List S73) (dk : List Int) (q p2 : Int) : Option (List S73 × List Int × Int) :=
 if q = 0 then (spec_l6Rd_pick.f k s0_0 p2 6).bind fun b3 => (spec_l6Rd_pick.f k s0_0 b3.2 4).bind fun b4 => if 0 ≤ b3.1 ∧ b3.1 < 6 ∧ 0 ≤ b4.1 ∧ b4.1 < 4 then some (fl, dk.set b3.1.toNat (rd [-1, 10, 0, 5] b4.1), b4.2) else none
 else if q = 1 then some (fl, dk.tail, p2)
 else if q = 2 then (spec_l71Flash.f k s0_0 p2).bind fun b3 => some (b3.1, dk, b3.2)
 else if q = 3 then some (wornF fl 4, dk, p2) else some (fl, dk, p2)
def spec_l71Store.f (k : Nat) (s0_0 : List Int) (s0_1 : Int) : Option (List S73 × List Int × Int) :=
 (spec_l71Play.f k s0_0 s0_1).bind fun b1 => (spec_l6Rd_pick.f k s0_0 b1.2.2.2 30).bind fun b2 => if flFine b1.2.1 = true ∧ b1.2.2.1.length = 6 then spec_l71Store.g k s0_0 b1.2.1 b1.2.2.1 b2.1 b2.2 else none
def spec_l71Store.T4 : Bool × List (List Nat × List Nat) := (true, [([], []), ([0], [0]), ([], []), ([2], [2]), ([], []), ([], []), ([5, 3], [5]), ([4, 6], [4, 6]), ([7], [7]), ([1, 3, 0, 1, 2, 3, 4, 5, 6, 7, 8], [1, 3]), ([9, 8, 6, 0, 1, 2, 3, 4, 5, 6, 7, 8], [8, 9])])
def spec_l71Store.B4 : List Nat := [0, 1, 0, 4, 0, 0, 44, 124, 252, 511, 1023]
theorem spec_l71Store.tab4 : rtab .any (opsOf Try.f26 4) = spec_l71Store.T4 := by kernel_rfl
theorem spec_l71Store.bits4 : waitsOk spec_l71Store.T4.2 spec_l71Store.B4 = true := by kernel_rfl
theorem spec_l71Store.callsF (k g : Nat) (s0_0 : List Int) (s0_1 : Int) (r1 : List S73) (r2 : List Int) (r3 : Int) (w0 w : World) (hI : IsS56 w0 w g s0_0 s0_1) (hB : Below w0.heap.size w0 w) (h : spec_l71Store.f k s0_0 s0_1 = some (r1, r2, r3)) :
 Calls Try.prog 26 #[.pointer (some ⟨g, 0, none⟩)] w fun e w' => ∃ v0_ v1_ : Value, e = .returned (.agg #[v0_, v1_]) ∧ (FlAt w' w.heap.size v0_ r1 ∧ Kd.Q (Kd.int .i64) 3 w' w.heap.size (fun k_ => w.heap.size ≤ k_) v1_ r2 ∧ (r2.length = 6 → (Kd.int .i64).R 3 w' w.heap.size (fun k_ => w.heap.size ≤ k_) v1_ r2)) ∧ IsS56 w0 w' g s0_0 r3 ∧ Below w0.heap.size w0 w' ∧ KeepBut w w' g none := by
 unfold spec_l71Store.f at h
 obtain ⟨⟨ev, fl, dk, p1⟩, h1, h⟩ := Option.bind_eq_some_iff.1 h
 obtain ⟨⟨q, p2⟩, h2, h⟩ := Option.bind_eq_some_iff.1 h
 by_cases hfn : flFine fl = true ∧ dk.length = 6
 rotate_left
 · cases (if_neg hfn).symm.trans h
 replace h : spec_l71Store.g k s0_0 fl dk q p2 = some (r1, r2, r3) := (if_pos hfn).symm.trans h
 obtain ⟨hfn, hd6⟩ := hfn
 have HH := am h
 have hu28 := Try.underlying73
 have hu70 := Try.underlying26
 have hgl := IsS56.lt hI
 have HL0 := am hB.size
 have HFN := am (fl_fine hfn)
 have HD6 := am hd6
 clear hfn h hd6
 go_enter Try.func26, Try.ntmps26
 go_wp2_with fail
 refine (spec_l71Play.calls k g s0_0 s0_1 ev fl dk p1 w0 _ (hI.alloc _) (below_alloc hB _) h1).mono ?_
 rintro e w1 ⟨v0, v1, v2, rfl, -, hS, hD, hI1, hB1, hK1⟩
 obtain ⟨b1, hb1⟩ : ∃ b, b = (w.alloc (.cells #[.slice none 0 0, .slice none 0 0] 26)).heap.size := ⟨_, rfl⟩
 have hsz : b1 = w.heap.size + 1 := hb1.trans (Array.size_push _)
 have BK2 := am (blk_kb (blk_new w (.cells #[.slice none 0 0, .slice none 0 0] 26)) hK1 (show w.heap.size ≠ g by omega))
 have hK := KeepBut.trans (keep_alloc (KeepBut.refl w g none) (.cells #[.slice none 0 0, .slice none 0 0] 26)) hK1 (.inl rfl)
 rw [← hb1] at hS hD
 obtain ⟨A1, c1, rfl⟩ := Kd.S_slice hS
 obtain ⟨A2, c2, rfl⟩ := Kd.R_slice hD
 obtain ⟨gf, G, CC, rfl, -, hc4, hcc, hF⟩ := Fl.of_S hS HFN.out.1 HFN.out.2
 have HCC := am hcc
 obtain ⟨gd, c2', hv, hgd, hgd1, cd, hcd⟩ := Kd.R_form hD (by rw [HD6.out]; omega)
 obtain ⟨rfl, -, -⟩ := Value.slice.inj hv
 have hc6 := (Kd.R_reads' hD).2.1
 have hD := Kd.R_mono (Kd.R_bound hD) (fun k hk => (⟨hk.2.1, hk.2.2.1⟩ : b1 ≤ k ∧ k < w1.heap.size))
 rw [HD6.out] at hD hc6
 rw [HD6.out]
 generalize hhi : w1.heap.size = hi at hF hgd1 hD
 have HC4 := am (And.intro hc4 hc6)
 have HF := am (hF.alloc (.cells #[.slice (some ⟨gf, 0, none⟩) fl.length c1, .slice (some ⟨gd, 0, none⟩) 6 c2] 26))
 have HI := am (hI1.alloc (.cells #[.slice (some ⟨gf, 0, none⟩) fl.length c1, .slice (some ⟨gd, 0, none⟩) 6 c2] 26))
 have HB := am (below_alloc hB1 (.cells #[.slice (some ⟨gf, 0, none⟩) fl.length c1, .slice (some ⟨gd, 0, none⟩) 6 c2] 26))
 have HK := am (keep_alloc hK (.cells #[.slice (some ⟨gf, 0, none⟩) fl.length c1, .slice (some ⟨gd, 0, none⟩) 6 c2] 26))
 have HD := am (Kd.R_alloc hD (.cells #[.slice (some ⟨gf, 0, none⟩) fl.length c1, .slice (some ⟨gd, 0, none⟩) 6 c2] 26))
 have HCD := am (blk_alloc hcd (.cells #[.slice (some ⟨gf, 0, none⟩) fl.length c1, .slice (some ⟨gd, 0, none⟩) 6 c2] 26))
 replace BK2 := am (blk_alloc BK2.out (.cells #[.slice (some ⟨gf, 0, none⟩) fl.length c1, .slice (some ⟨gd, 0, none⟩) 6 c2] 26))
 have BK4 := am (blk_new w1 (.cells #[.slice (some ⟨gf, 0, none⟩) fl.length c1, .slice (some ⟨gd, 0, none⟩) 6 c2] 26))
 rw [hhi] at BK4
 have HS4 := am (And.intro hsz (And.intro hgd (And.intro hgd1 (show b1 ≤ hi by have := hF.own; omega))))
 clear hS hD hI hB hI1 hB1 hK1 hF hc4 hcc hK hv hcd hc6 hb1 hgd hgd1
 go_wp2_with fail
 refine (spec_l6Rd_pick.calls k g s0_0 p1 30 q p2 w0 _ HI.out HB.out h2).mono ?_
 rintro e w2 ⟨rfl, hI2, hB2, hK2⟩
 have hg1 : g < b1 := by have := HS4.out; omega
 replace HF := am (HF.out.keep hK2 hg1)
 replace HI := am hI2
 replace HB := am hB2
 replace HK := am (KeepBut.trans HK.out hK2 (.inl rfl))
 replace HD := am (Kd.R_keep HD.out hK2 (fun k hk => by have := hk.1; omega))
 replace HCD := am (blk_kb HCD.out hK2 (show gd ≠ g by have := HS4.out; omega))
 replace BK2 := am (blk_kb BK2.out hK2 (show w.heap.size ≠ g by omega))
 replace BK4 := am (blk_kb BK4.out hK2 (show hi ≠ g by have := HS4.out; omega))
 clear hI2 hB2 hK2 hhi
 have h := HH.out
 unfold spec_l71Store.g at h
 clear HH
 by_cases n0 : q = 0
 · rw [if_pos n0] at h
   obtain ⟨⟨a, p3⟩, h3, h⟩ := Option.bind_eq_some_iff.1 h
   obtain ⟨⟨v, p4⟩, h4, h⟩ := Option.bind_eq_some_iff.1 h
   obtain ⟨⟨ha0, ha1, hv0, hv1⟩, h⟩ := ite_some h
   obtain ⟨rfl, rfl, rfl⟩ : fl = r1 ∧ dk.set a.toNat (rd [-1, 10, 0, 5] v) = r2 ∧ p4 = r3 := by
    have e := Prod.mk.inj (Option.some.inj h)
    exact ⟨e.1, Prod.mk.inj e.2⟩
   subst n0
   have h1b : w.heap.size < b1 := by have := HS4.out; omega
   have hS0 : StC w0 w g b1 hi gf gd c1 c2 G CC fl dk a (rd [-1, 10, 0, 5] v) w2 := ⟨HB.out, HK.out, HF.out, BK2.out, BK4.out, dk, HD.out, rfl⟩
   have hab := decide_eq_true ha1
   have haq := eq_true ha1
   have hvb := decide_eq_true hv1
   have hvq := eq_true hv1
   have hL := fun W => lit_cell W hv0 hv1
   have HS0 := am hS0
   clear HF HD BK2 BK4 HB HK HCD h hS0 h1 h2
   go_wp2_with fail
   have hSw3 := HS0.out.drew
   have hIw3 := IsS56.drew HI.out
   refine start_ (n := 11) (S := fun W => W.cell? ⟨hi, 1, none⟩ = some (.slice (some ⟨gd, 0, none⟩) 6 c2)) (ds := [10]) (bt 11 0) (by kernel_rfl) rfl rfl hSw3.cell.1 (fun hHeld => ?_)
   refine with_tabW spec_l71Store.tab4 spec_l71Store.bits4 (fun HT_ HW_ => ?_)
   clear HS0
   generalize w2.drew = w3 at hSw3 hIw3 hHeld ⊢
   refine qj 0 15 (bt 11 1) rfl rfl HT_.out ?_
   refine qj 2 17 (bt 11 5) rfl rfl HT_.out ?_
   refine qj 5 20 (bt 11 37) rfl rfl HT_.out ?_
   refine qm 1 16 (bt 11 39) rfl rfl HT_.out HW_.out hHeld ?_
   refine join_ (σ := Nat) 4 (bt 11 127) (fun h_ => [(18, .int .i64 a), (19, .slice (some ⟨h_, 0, none⟩) 4 4), (21, .int .i64 v)]) (fun h_ W => StC w0 w g b1 hi gf gd c1 c2 G CC fl dk a (rd [-1, 10, 0, 5] v) W ∧ IsS56 w0 W g s0_0 p4 ∧ W.cell? ⟨h_, v.toNat, none⟩ = some (.int .i64 (rd [-1, 10, 0, 5] v))) ?_ ?_
   rotate_left
   · intro hCont
     refine two_ (i := 3) (j := 4) (Ni := some 18) (Nj := some 19) (bt 11 47) (bt 11 55) rfl rfl rfl rfl (two_of HT_.out (by kernel_rfl)) (by decide) (by decide) (fun K hK => ?_) (fun K hK => ?_)
     · refine qg Try.func14 #[.pointer (some ⟨g, 0, none⟩), .int .i64 6] rfl rfl ?_
       refine (spec_l6Rd_pick.calls k g s0_0 p2 6 a p3 w0 _ hIw3 (StC.hb hSw3) h3).mono ?_
       rintro e w5 ⟨rfl, hIw5, hbw5, hkw5⟩
       refine ⟨_, rfl, ?_⟩
       have hSw5 := StC.pick hSw3 hgl h1b hkw5 hbw5
       refine hK.out _ _ hSw5.cell.1 (fun hHeld => ?_)
       clear hK K
       refine qn (some 18) ?_
       refine two_ (i := 4) (j := 6) (Ni := some 19) (Nj := some 21) (bt 11 63) (bt 11 111) rfl rfl rfl rfl (two_of HT_.out (by kernel_rfl)) (by decide) (by decide) (fun K hK => ?_) (fun K hK => ?_)
       · refine value_ (w1 := w5.alloc (.cells #[.int .i64 (-1), .int .i64 10, .int .i64 0, .int .i64 5] 3)) (v := .slice (some ⟨w5.heap.size, 0, none⟩) 4 4) (by rfl) rfl ?_ ?_
         · first | (go_simp; done) | (go_simp; rfl)
         refine hK.out _ _ (StC.alloc hSw5 _).cell.1 (fun hHeld => ?_)
         clear hK K
         refine qn (some 19) ?_
         refine qo 6 (some 21) (bt 11 127) rfl rfl HT_.out fun K hK => ?_
         refine qg Try.func14 #[.pointer (some ⟨g, 0, none⟩), .int .i64 4] rfl rfl ?_
         refine (spec_l6Rd_pick.calls k g s0_0 p3 4 v p4 w0 _ (IsS56.alloc hIw5 _) (StC.hb (StC.alloc hSw5 _)) h4).mono ?_
         rintro e w6 ⟨rfl, hIw6, hbw6, hkw6⟩
         refine ⟨_, rfl, ?_⟩
         have hSw6 := StC.pick (StC.alloc hSw5 _) hgl h1b hkw6 hbw6
         refine hK.out _ _ hSw6.cell.1 (fun hHeld => ?_)
         clear hK K
         refine qn (some 21) ?_
         exact norm_ (by simp only [putAll, Act.put, List.setIfInBounds_toArray, List.set_cons_zero, List.set_cons_succ]) (hCont w5.heap.size _ ⟨hSw6, hIw6, keep_cell hkw6 (hL w5) (Nat.ne_of_gt (IsS56.lt hIw5))⟩)
       · refine qg Try.func14 #[.pointer (some ⟨g, 0, none⟩), .int .i64 4] rfl rfl ?_
         refine (spec_l6Rd_pick.calls k g s0_0 p3 4 v p4 w0 _ hIw5 (StC.hb hSw5) h4).mono ?_
         rintro e w6 ⟨rfl, hIw6, hbw6, hkw6⟩
         refine ⟨_, rfl, ?_⟩
         have hSw6 := StC.pick hSw5 hgl h1b hkw6 hbw6
         refine hK.out _ _ hSw6.cell.1 (fun hHeld => ?_)
         clear hK K
         refine qn (some 21) ?_
         refine qo 4 (some 19) (bt 11 127) rfl rfl HT_.out fun K hK => ?_
         refine value_ (w1 := w6.alloc (.cells #[.int .i64 (-1), .int .i64 10, .int .i64 0, .int .i64 5] 3)) (v := .slice (some ⟨w6.heap.size, 0, none⟩) 4 4) (by rfl) rfl ?_ ?_
         · first | (go_simp; done) | (go_simp; rfl)
         refine hK.out _ _ (StC.alloc hSw6 _).cell.1 (fun hHeld => ?_)
         clear hK K
         refine qn (some 19) ?_
         exact norm_ (by simp only [putAll, Act.put, List.setIfInBounds_toArray, List.set_cons_zero, List.set_cons_succ]) (hCont w6.heap.size _ ⟨hSw6.alloc _, hIw6.alloc _, hL w6⟩)
     · refine value_ (w1 := w3.alloc (.cells #[.int .i64 (-1), .int .i64 10, .int .i64 0, .int .i64 5] 3)) (v := .slice (some ⟨w3.heap.size, 0, none⟩) 4 4) (by rfl) rfl ?_ ?_
       · first | (go_simp; done) | (go_simp; rfl)
       refine hK.out _ _ (StC.alloc hSw3 _).cell.1 (fun hHeld => ?_)
       clear hK K
       refine qn (some 19) ?_
       refine qo 3 (some 18) (bt 11 63) rfl rfl HT_.out fun K hK => ?_
       refine qg Try.func14 #[.pointer (some ⟨g, 0, none⟩), .int .i64 6] rfl rfl ?_
       refine (spec_l6Rd_pick.calls k g s0_0 p2 6 a p3 w0 _ (IsS56.alloc hIw3 _) (StC.hb (StC.alloc hSw3 _)) h3).mono ?_
       rintro e w5 ⟨rfl, hIw5, hbw5, hkw5⟩
       refine ⟨_, rfl, ?_⟩
       have hSw5 := StC.pick (StC.alloc hSw3 _) hgl h1b hkw5 hbw5
       refine hK.out _ _ hSw5.cell.1 (fun hHeld => ?_)
       clear hK K
       refine qn (some 18) ?_
       refine qo 6 (some 21) (bt 11 127) rfl rfl HT_.out fun K hK => ?_
       refine qg Try.func14 #[.pointer (some ⟨g, 0, none⟩), .int .i64 4] rfl rfl ?_
       refine (spec_l6Rd_pick.calls k g s0_0 p3 4 v p4 w0 _ hIw5 (StC.hb hSw5) h4).mono ?_
       rintro e w6 ⟨rfl, hIw6, hbw6, hkw6⟩
       refine ⟨_, rfl, ?_⟩
       have hSw6 := StC.pick hSw5 hgl h1b hkw6 hbw6
       refine hK.out _ _ hSw6.cell.1 (fun hHeld => ?_)
       clear hK K
       refine qn (some 21) ?_
       exact norm_ (by simp only [putAll, Act.put, List.setIfInBounds_toArray, List.set_cons_zero, List.set_cons_succ]) (hCont w3.heap.size _ ⟨hSw6, hIw6, keep_cell hkw6 (keep_cell hkw5 (hL w3) (Nat.ne_of_gt (IsS56.lt hIw3))) (Nat.ne_of_gt (IsS56.lt hIw3))⟩)
   intro h_ w7 hR
   obtain ⟨hS7, hI7, hl7⟩ := hR
   obtain ⟨y, hy, hf⟩ := hS7.elem ha0 ha1
   refine norm_ (a' := ?_) ?_ ?_
   rotate_left
   · simp only [putAll, Act.put, List.setIfInBounds_toArray, List.set_cons_zero, List.set_cons_succ]
     rfl
   refine qj 7 22 (bt 11 255) rfl rfl HT_.out ?_
   refine qo 8 (some 23) (bt 11 511) rfl rfl HT_.out fun K hK => ?_
   refine value_ (w1 := w7) (v := .int .i64 (rd [-1, 10, 0, 5] v)) (by rfl) rfl ?_ ?_
   · first | (go_simp; done) | (go_simp; rfl)
   refine hK.out _ _ hS7.cell.1 (fun hHeld => ?_)
   clear hK K
   refine qn (some 23) ?_
   refine qj 9 24 (bt 11 1023) rfl rfl HT_.out ?_
   refine last_ (i := 10) (N := none) (bt 11 2047) rfl rfl (one_of HT_.out (by kernel_rfl)) (by decide) (fun K hK => ?_)
   refine qs rfl ?_
   refine hK.out _ _ ?_
   clear hK K
   refine done_ (done_of HT_.out (by kernel_rfl)) ?_
   have hgd := hS7.at_.1
   refine st_gen (s := s0_0) (p := p4) (hS7.put HL0.out h1b) (IsS56.far hI7 (show g ≠ gd by omega) _) (World.cell?_setCell_same _ _ _ hy) ?_
   clear hS7 hI7 hl7 hy hf hgd hHeld
   intro w7 hS7 hI7 hx7
   have BK2 := am hS7.b2
   have BK4 := am hS7.b4
   have HF := am hS7
   have HI := am hI7
   have HX := am hx7
   clear hS7 hI7 hx7 HT_ HW_
   have hz0 := (blk_cell BK4.out 0).trans rfl
   have hz1 := (blk_cell BK4.out 1).trans rfl
   have hy0 := (blk_cell BK2.out 0).trans rfl
   have hy1 := (blk_cell BK2.out 1).trans rfl
   have hx0 := blk_frozen BK4.out 0
   have hx1 := blk_frozen BK4.out 1
   have hw0 := blk_frozen BK2.out 0
   have hw1 := blk_frozen BK2.out 1
   have hne : hi ≠ w.heap.size := by have := HS4.out; omega
   have hne' : w.heap.size ≠ hi := hne.symm
   go_wp2
   refine bodyPost_ret (results_cell_row rfl _ _ w.heap.size 26 #[.slice (some ⟨gf, 0, none⟩) fl.length c1, .slice (some ⟨gd, 0, none⟩) 6 c2] (0, 0) _ rfl (blk_put (cs := #[.slice (some ⟨gf, 0, none⟩) fl.length c1, .slice none 0 0]) (blk_put (cs := #[.slice none 0 0, .slice none 0 0]) BK2.out 0 _ rfl) 1 _ rfl) Try.underlying26 rfl (by kernel_rfl)) rfl ?_
   exact ⟨_, _, rfl, st_out HL0.out (Nat.le_refl _) hgl h1b ⟨gf, 0, hi, _, c1, G, _, CC, rfl, rfl, HC4.out.1, HF.out.hf, HCC.out, fun _ => ⟨rfl, fun _ _ => rfl⟩⟩ (Kd.Q_mono (Kd.Q_of_R (HF.out.done ha0 ha1 HX.out)) (fun k hk => hk.1)) (fun _ => Kd.R_mono (HF.out.done ha0 ha1 HX.out) (fun k hk => hk.1)) HI.out HF.out.hb HF.out.hk⟩
 rw [if_neg n0] at h
 by_cases n1 : q = 1
 · rw [if_pos n1] at h
   obtain ⟨rfl, rfl, rfl⟩ : fl = r1 ∧ dk.tail = r2 ∧ p2 = r3 := by
    have e := Prod.mk.inj (Option.some.inj h)
    exact ⟨e.1, Prod.mk.inj e.2⟩
   have hz0 := (blk_cell BK4.out 0).trans rfl
   have hz1 := (blk_cell BK4.out 1).trans rfl
   have hy0 := (blk_cell BK2.out 0).trans rfl
   have hy1 := (blk_cell BK2.out 1).trans rfl
   have hx0 := blk_frozen BK4.out 0
   have hx1 := blk_frozen BK4.out 1
   have hw0 := blk_frozen BK2.out 0
   have hw1 := blk_frozen BK2.out 1
   have hne : hi ≠ w.heap.size := by have := HS4.out; omega
   have hne' : w.heap.size ≠ hi := hne.symm
   subst n1
   have hc6 := HC4.out.2
   have hd6 := HD6.out
   clear h h1 h2
   go_wp2
   refine bodyPost_ret (results_cell_row rfl _ _ w.heap.size 26 #[.slice (some ⟨gf, 0, none⟩) fl.length c1, .slice (some ⟨gd, 1, none⟩) 5 (c2 - 1)] (0, 0) _ rfl (blk_put (cs := #[.slice (some ⟨gf, 0, none⟩) fl.length c1, .slice none 0 0]) (blk_put (cs := #[.slice none 0 0, .slice none 0 0]) (blk_far BK2.out (p := ⟨hi, 1, none⟩) hne' _) 0 _ rfl) 1 _ rfl) Try.underlying26 rfl (by kernel_rfl)) rfl ?_
   have hq := Kd.Q_far (p := ⟨hi, 1, none⟩) (Kd.Q_drop (k := 1) (Kd.Q_of_R HD.out) (by rw [HD6.out]; decide)) (fun k hk => Nat.ne_of_lt hk.2) (.slice (some ⟨gd, 1, none⟩) 5 (c2 - 1))
   rw [if_neg (by have := HC4.out; omega), List.drop_one] at hq
   have hh := HS4.out
   exact ⟨_, _, rfl, st_out HL0.out (Nat.le_refl _) hgl (show w.heap.size < b1 by omega) ⟨gf, 0, hi, _, c1, G, _, CC, rfl, rfl, HC4.out.1, HF.out.away (p := ⟨hi, 1, none⟩) (.inr (.inl (Nat.le_refl _))) _, HCC.out, fun _ => ⟨rfl, fun _ _ => rfl⟩⟩ (Kd.Q_mono hq (fun k hk => hk.1)) (fun h => by rw [List.length_tail, HD6.out] at h; omega) (IsS56.far (p := ⟨hi, 1, none⟩) HI.out (show g ≠ hi by omega) _) (Below.setCell HB.out (p := ⟨hi, 1, none⟩) (by have := HL0.out; show _ ≤ hi; omega) _) (keep_far (p := ⟨hi, 1, none⟩) HK.out (show w.heap.size ≤ hi by omega) _)⟩
 rw [if_neg n1] at h
 by_cases n2 : q = 2
 · rw [if_pos n2] at h
   obtain ⟨⟨fl2, p3⟩, h3, h⟩ := Option.bind_eq_some_iff.1 h
   replace h : some (fl2, dk, p3) = some (r1, r2, r3) := h
   obtain ⟨rfl, rfl, rfl⟩ : fl2 = r1 ∧ dk = r2 ∧ p3 = r3 := by
    have e := Prod.mk.inj (Option.some.inj h)
    exact ⟨e.1, Prod.mk.inj e.2⟩
   subst n2
   have e0 : ((2 : Int) == 0) = false := rfl
   go_wp2_with fail
   refine (spec_l71Flash.callsF k g s0_0 p2 fl2 p3 w0 _ HI.out HB.out h3).mono ?_
   rintro e w3 ⟨v3, rfl, hF3, hI3, hB3, hK3⟩
   obtain ⟨g3, o3, hi3, n3, c3, G3, O3, C3, rfl, hn3, hc3, hF3, hz3⟩ := hF3
   have hlt4 := blk_lt BK4.out
   have hh := HS4.out
   replace HI := am hI3
   replace HB := am hB3
   replace HK := am (KeepBut.trans HK.out hK3 (.inl rfl))
   replace HD := am (Kd.R_keep HD.out hK3 (fun k hk => by have := hk.1; omega))
   replace BK2 := am (blk_kb BK2.out hK3 (show w.heap.size ≠ g by omega))
   replace BK4 := am (blk_kb BK4.out hK3 (show hi ≠ g by omega))
   have HF3 := am (And.intro hn3 (And.intro hc3 (And.intro hF3 (And.intro hz3 (And.intro hlt4 hh)))))
   clear h1 h2 h3 hI3 hB3 hK3 HF hn3 hc3 hF3 hz3 hlt4 hh
   have hz0 := (blk_cell BK4.out 0).trans rfl
   have hz1 := (blk_cell BK4.out 1).trans rfl
   have hy0 := (blk_cell BK2.out 0).trans rfl
   have hy1 := (blk_cell BK2.out 1).trans rfl
   have hx0 := blk_frozen BK4.out 0
   have hx1 := blk_frozen BK4.out 1
   have hw0 := blk_frozen BK2.out 0
   have hw1 := blk_frozen BK2.out 1
   have hne : hi ≠ w.heap.size := by have := HS4.out; omega
   have hne' : w.heap.size ≠ hi := hne.symm
   go_wp2
   refine bodyPost_ret (results_cell_row rfl _ _ w.heap.size 26 #[.slice (some ⟨g3, o3, none⟩) n3 c3, .slice (some ⟨gd, 0, none⟩) 6 c2] (0, 0) _ rfl (blk_put (cs := #[.slice (some ⟨g3, o3, none⟩) n3 c3, .slice none 0 0]) (blk_put (cs := #[.slice none 0 0, .slice none 0 0]) (blk_far BK2.out (p := ⟨hi, 0, none⟩) hne' _) 0 _ rfl) 1 _ rfl) Try.underlying26 rfl (by kernel_rfl)) rfl ?_
   obtain ⟨hn3, hc3, hF3, hz3, hlt4, hh⟩ := HF3.out
   have hb4 : b1 ≤ w2.heap.size := by omega
   exact ⟨_, _, rfl, st_out HL0.out (Nat.le_refl _) hgl (show w.heap.size < b1 by omega) ((FlAt.away (p := ⟨hi, 0, none⟩) ⟨g3, o3, hi3, n3, c3, G3, O3, C3, rfl, hn3, hc3, hF3, hz3⟩ hlt4 _).lower hb4) (Kd.Q_mono (Kd.Q_far (p := ⟨hi, 0, none⟩) (Kd.Q_of_R HD.out) (fun k hk => Nat.ne_of_lt hk.2) _) (fun k hk => hk.1)) (fun _ => Kd.R_mono (Kd.R_far (p := ⟨hi, 0, none⟩) HD.out (fun k hk => Nat.ne_of_lt hk.2) _) (fun k hk => hk.1)) (IsS56.far (p := ⟨hi, 0, none⟩) HI.out (show g ≠ hi by omega) _) (Below.setCell HB.out (p := ⟨hi, 0, none⟩) (by have := HL0.out; show _ ≤ hi; omega) _) (keep_far (p := ⟨hi, 0, none⟩) HK.out (show w.heap.size ≤ hi by omega) _)⟩
 rw [if_neg n2] at h
 by_cases n3 : q = 3
 · rw [if_pos n3] at h
   obtain ⟨rfl, rfl, rfl⟩ : wornF fl 4 = r1 ∧ dk = r2 ∧ p2 = r3 := by
    have e := Prod.mk.inj (Option.some.inj h)
    exact ⟨e.1, Prod.mk.inj e.2⟩
   subst n3
   clear h h1 h2
   go_wp2_with fail
   go_loopg [5] 5 (fun kq v5 w' => ∃ i : Nat, v5 = .int .i64 (i : Int) ∧ Aside0 (kq + i = 5) ∧ Aside0 (i ≤ 4) ∧ Aside0 (Fl w' b1 hi gf 0 G (fun _ => 0) CC (wornF fl i)) ∧ Aside0 ((Kd.int .i64).R 3 w' b1 (fun k => b1 ≤ k ∧ k < hi) (.slice (some ⟨gd, 0, none⟩) 6 c2) dk) ∧ Aside0 (w'.heap[w.heap.size]? = some (.cells #[.slice none 0 0, .slice none 0 0] 26)) ∧ Aside0 (w'.heap[hi]? = some (.cells #[.slice (some ⟨gf, 0, none⟩) fl.length c1, .slice (some ⟨gd, 0, none⟩) 6 c2] 26)) ∧ Aside0 (IsS56 w0 w' g s0_0 p2 ∧ Below w0.heap.size w0 w' ∧ KeepBut w w' g none))
   case atStart => exact ⟨0, rfl, ⟨rfl⟩, ⟨Nat.zero_le _⟩, HF, HD, BK2, BK4, ⟨HI.out, HB.out, HK.out⟩⟩
   case round =>
    clear HF HD BK2 BK4 HI HB HK HCD
    obtain ⟨i, rfl, HX, HY, HF, HD, BK2, BK4, HI⟩ := hrel
    obtain ⟨k1, rfl⟩ : ∃ k, gk = k + 1 := by
     have := HX.out
     have := HY.out
     exact ⟨gk - 1, by omega⟩
    have hz0 := (blk_cell BK4.out 0).trans rfl
    have hz1 := (blk_cell BK4.out 1).trans rfl
    have hy0 := (blk_cell BK2.out 0).trans rfl
    have hy1 := (blk_cell BK2.out 1).trans rfl
    have hx0 := blk_frozen BK4.out 0
    have hx1 := blk_frozen BK4.out 1
    have hw0 := blk_frozen BK2.out 0
    have hw1 := blk_frozen BK2.out 1
    have hne : hi ≠ w.heap.size := by have := HS4.out; omega
    have hne' : w.heap.size ≠ hi := hne.symm
    have hfl := HFN.out.1
    by_cases ci : i < 4
    rotate_left
    · have e4 := am (show i = 4 by have := HY.out; omega)
      have cic : ¬ ((i : Int) < (fl.length : Int)) := by omega
      have cib := decide_eq_false cic
      clear ci HX HY hfl
      go_wp2
      refine bodyPost_ret (results_cell_row rfl _ _ w.heap.size 26 #[.slice (some ⟨gf, 0, none⟩) fl.length c1, .slice (some ⟨gd, 0, none⟩) 6 c2] (0, 0) _ rfl (blk_put (cs := #[.slice (some ⟨gf, 0, none⟩) fl.length c1, .slice none 0 0]) (blk_put (cs := #[.slice none 0 0, .slice none 0 0]) BK2.out 0 _ rfl) 1 _ rfl) Try.underlying26 rfl (by kernel_rfl)) rfl ?_
      exact ⟨_, _, rfl, st_out HL0.out (Nat.le_refl _) hgl (show w.heap.size < b1 by have := HS4.out; omega) ⟨gf, 0, hi, _, c1, G, _, CC, rfl, (wornF_len fl 4).symm, HC4.out.1, by have h_ := HF.out; rw [e4.out] at h_; exact h_, HCC.out, fun _ => ⟨rfl, fun _ _ => rfl⟩⟩ (Kd.Q_mono (Kd.Q_of_R HD.out) (fun k hk => hk.1)) (fun _ => Kd.R_mono HD.out (fun k hk => hk.1)) HI.out.1 HI.out.2.1 HI.out.2.2⟩
    have hw14 : wrap64 ((i : Int) + 1) = ((i + 1 : Nat) : Int) := by rw [IntWalk.wrap64_in _ (by omega)]; omega
    have cib : decide ((i : Int) < (fl.length : Int)) = true := decide_eq_true (by omega)
    have cic : (i : Int) < (fl.length : Int) := by omega
    have hwl := wornF_len fl i
    obtain ⟨-, -, -, -, -, -, hfc, -⟩ := HF.out.at_ i (by omega)
    obtain ⟨ct, hct, -⟩ := HF.out.typ
    have hff := blk_frozen hct (i * 2 + 1)
    rw [Nat.zero_add] at hfc
    generalize hwo : (rd_T73 (wornF fl i) (i : Int)).f1 = wo at hfc
    have HZ := am (And.intro ci (And.intro hct (And.intro hwl hwo)))
    clear hwl hct hwo ci
    go_wp2
    go_roundg k1
    case measure => have := HX.out; omega
    case rel =>
     obtain ⟨ci, hct, hwl, hwo⟩ := HZ.out
     have hF := HF.out.worn (i := i) (by omega) 200
     rw [Nat.zero_add] at hF
     have hgf := HF.out.own
     have hh := HS4.out
     have hl0 := HL0.out
     have ne : ∀ k c t, wr.heap[k]? = some (.cells c t (0, 0)) → t ≠ 73 → k ≠ gf := fun k c t h1 h2 h3 => by
      rw [h3, hct] at h1
      injection h1 with h1
      injection h1 with _ h1 _
      exact h2 h1.symm
     exact ⟨i + 1, by first | rfl | (simp; done) | (simp [hw14]; done), ⟨by have := HX.out; omega⟩, ⟨by omega⟩, ⟨hF⟩, ⟨Kd.R_mono (Kd.R_far (p := ⟨gf, i * 2 + 1, none⟩) (Kd.R_types HD.out hct (by decide)) (fun k hk => hk.2) _) (fun k hk => hk.1)⟩, ⟨blk_far BK2.out (p := ⟨gf, i * 2 + 1, none⟩) (by show w.heap.size ≠ gf; omega) _⟩, ⟨blk_far BK4.out (p := ⟨gf, i * 2 + 1, none⟩) (ne _ _ _ BK4.out (by decide)) _⟩, ⟨IsS56.far (p := ⟨gf, i * 2 + 1, none⟩) HI.out.1 (show g ≠ gf by omega) _, Below.setCell HI.out.2.1 (p := ⟨gf, i * 2 + 1, none⟩) (show _ ≤ gf by omega) _, keep_far (p := ⟨gf, i * 2 + 1, none⟩) HI.out.2.2 (show w.heap.size ≤ gf by omega) _⟩⟩
 rw [if_neg n3] at h
 have hz0 := (blk_cell BK4.out 0).trans rfl
 have hz1 := (blk_cell BK4.out 1).trans rfl
 have hy0 := (blk_cell BK2.out 0).trans rfl
 have hy1 := (blk_cell BK2.out 1).trans rfl
 have hx0 := blk_frozen BK4.out 0
 have hx1 := blk_frozen BK4.out 1
 have hw0 := blk_frozen BK2.out 0
 have hw1 := blk_frozen BK2.out 1
 have hne : hi ≠ w.heap.size := by have := HS4.out; omega
 have hne' : w.heap.size ≠ hi := hne.symm
 have e0 : (q == 0) = false := beq_eq_false_iff_ne.mpr n0
 have e1 : (q == 1) = false := beq_eq_false_iff_ne.mpr n1
 have e2 : (q == 2) = false := beq_eq_false_iff_ne.mpr n2
 have e3 : (q == 3) = false := beq_eq_false_iff_ne.mpr n3
 obtain ⟨rfl, rfl, rfl⟩ : fl = r1 ∧ dk = r2 ∧ p2 = r3 := by
  have e := Prod.mk.inj (Option.some.inj h)
  exact ⟨e.1, Prod.mk.inj e.2⟩
 clear h h1 h2
 go_wp2
 refine bodyPost_ret (results_cell_row rfl _ _ w.heap.size 26 #[.slice (some ⟨gf, 0, none⟩) fl.length c1, .slice (some ⟨gd, 0, none⟩) 6 c2] (0, 0) _ rfl (blk_put (cs := #[.slice (some ⟨gf, 0, none⟩) fl.length c1, .slice none 0 0]) (blk_put (cs := #[.slice none 0 0, .slice none 0 0]) BK2.out 0 _ rfl) 1 _ rfl) Try.underlying26 rfl (by kernel_rfl)) rfl ?_
 exact ⟨_, _, rfl, st_out HL0.out (Nat.le_refl _) hgl (show w.heap.size < b1 by have := HS4.out; omega) ⟨gf, 0, hi, _, c1, G, _, CC, rfl, rfl, HC4.out.1, HF.out, HCC.out, fun _ => ⟨rfl, fun _ _ => rfl⟩⟩ (Kd.Q_mono (Kd.Q_of_R HD.out) (fun k hk => hk.1)) (fun _ => Kd.R_mono HD.out (fun k hk => hk.1)) HI.out HB.out HK.out⟩
end Go.Proofs.Ytbhchamohldehaa.P4
