-- printed by wip/pp/pp.py
import Derived.Test.YtfijfkbdedcnfaaR40
import Derived.Test.YtfijfkbdedcnfaaR48
import Derived.Test.YtfijfkbdedcnfaaR49
import Derived.Test.YtfijfkbdedcnfaaR410
import Derived.Deep.RegionHeld3
import Derived.RegionTactic
import Derived.Laws.IdiomCopy
namespace Go.Proofs.Ytfijfkbdedcnfaa.R4
open Go.RowKit Go.Proofs.YtfijfkbdedcnfaaW.PrintWords Go.Proofs.YtfijfkbdedcnfaaW.PrintLast Go.Proofs.YtfijfkbdedcnfaaW.PrintMore
attribute [local go_sem] max2_int min2_int max_two min_two max_three min_three max_four min_four
set_option linter.unusedVariables false
set_option linter.unusedSimpArgs false
section
variable {P : Program} {ops : Array Oper} {rest : List Oper} {od : Oper} {a : Act} {Q : Exit → Act → World → Prop} {W : World} {base hi g o : Nat} {G O C : Nat → Nat} {xs : List S33}
theorem flC (h : Fl W base hi g o G O C xs) {c : Nat} (hc : xs.length ≤ c) : Kd.C k33 W (some ⟨g, o, none⟩) xs.length xs := (Kd.V_reads' (h.V hc (b := 0) (e := 0))).2.2
theorem Fl.far (h : Fl W base hi g o G O C xs) {a : Addr} (ha : hi ≤ a.block) (v : Value) : Fl (W.setCell a v) base hi g o G O C xs := h.step (fun k _ h2 => Below.heap_setCell W a v k (by omega)) (by simpa [World.setCell] using h.own.2.2)
theorem raw_nil (W : World) (n e : Nat) : (Kd.raw n).R e (W.alloc (.cells #[] e)) W.heap.size (fun _ => True) (.slice (some ⟨W.heap.size, 0, none⟩) 0 0) [] := ⟨fun _ _ => trivial, [], World.ownsRow_lit W #[] 0 (Nat.le_refl _) (by unfold maxLen; omega) (by simp), Reps.none _ _⟩
def blC (G O C : Nat → Nat) (xs : List S33) (i : Nat) : List Value := [.slice (some ⟨G i, O i, none⟩) (rd_T33 xs (i : Int)).f0.length (C i), .int .i64 (rd_T33 xs (i : Int)).f1]
theorem fl_rows (h : Fl W base hi g o G O C xs) : ReadsRow ((Kd.raw 2).K W) 2 W (some ⟨g, o, none⟩) xs.length ((List.range xs.length).map (blC G O C xs)) := by
 refine ⟨by rw [List.length_map, List.length_range], by have := h.few.1; omega, fun _ => ⟨_, rfl, fun j p hj => ?_⟩⟩
 rw [List.getElem?_map] at hj
 obtain ⟨i, hi, rfl⟩ := Option.map_eq_some_iff.1 hj
 obtain ⟨hl, e⟩ := List.getElem?_eq_some_iff.1 hi
 rw [List.getElem_range] at e
 subst e
 rw [List.length_range] at hl
 obtain ⟨a1, a2, a3, a4, a5, a6, a7, a8⟩ := h.at_ j hl
 refine ⟨blC G O C xs j, rfl, ⟨rfl, rfl, fun u hu => ?_⟩, fun i u hu => ?_⟩
 · simp only [blC, List.mem_cons, List.not_mem_nil, or_false] at hu
   rcases hu with rfl | rfl <;> rfl
 · rw [add_at]
   show W.cell? ⟨g, o + (j * 2 + i), none⟩ = some u
   rw [← Nat.add_assoc]
   match i, hu with
   | 0, hu => cases hu; exact a6
   | 1, hu => cases hu; exact a7
theorem Fl.of_raw {W1 : World} {b : Nat} {v1 : Value} {rows : List (List Value)} {ys : List S33} {s : Nat → Nat} (h : Fl W base hi g o G O C xs) (hb : hi ≤ b) (hm : ∀ k, base ≤ k → k < hi → W1.heap[k]? = W.heap[k]?) (hR : (Kd.raw 2).R 33 W1 b (fun _ => True) v1 rows) (hl : rows.length = ys.length) (hp : 0 < ys.length) (h4 : ys.length ≤ 4)
 (hs : ∀ i, i < ys.length → s i < xs.length ∧ rows.getD i [] = blC G O C xs (s i) ∧ rd_T33 ys (i : Int) = rd_T33 xs (s i : Int)) (hone : ∀ i i', i < ys.length → i' < ys.length → i ≠ i' → s i ≠ s i') :
 ∃ gx ox cap, v1 = .slice (some ⟨gx, ox, none⟩) ys.length cap ∧ ys.length ≤ cap ∧ b ≤ gx ∧ Fl W1 base W1.heap.size gx ox (fun i => G (s i)) (fun i => O (s i)) (fun i => C (s i)) ys := by
 obtain ⟨gx, cap, hv, hbx, hlt, cells, hc⟩ := Kd.R_form hR (by omega)
 subst hv
 rw [hl]
 have hcap := (Kd.R_reads' hR).2.1
 have hW : hi ≤ W1.heap.size := by omega
 have h1 := h.step hm hW
 have ho := h.own
 refine ⟨gx, 0, cap, rfl, by omega, hbx, ⟨⟨by omega, hlt, Nat.le_refl _⟩, ⟨cells, hc⟩, fun i hi' => ?_, fun i i' h2 h3 hne => h.one _ _ (hs i h2).1 (hs i' h3).1 (hone i i' h2 h3 hne), ⟨h4, fun i hi' => ?_⟩⟩⟩
 · obtain ⟨s1, s2, s3⟩ := hs i hi'
   obtain ⟨a1, a2, a3, a4, a5, a6, a7, a8⟩ := h1.at_ (s i) s1
   obtain ⟨c, _, hM, hcc, _⟩ := Kd.R_elem hR [] (i : Int) (by omega) (by omega)
   rw [Int.toNat_natCast] at hM hcc
   obtain ⟨rfl, _, _⟩ := hM
   rw [s2] at hcc
   rw [s3]
   refine ⟨a1, by omega, by omega, a4, a5, ?_, ?_, a8⟩
   · have := hcc 0 _ rfl
     rw [Nat.add_zero] at this
     rw [Nat.zero_add]
     exact this
   · have := hcc 1 _ rfl
     rw [Nat.zero_add]
     exact this
 · rw [(hs i hi').2.2]
   exact h.few.2 _ (hs i hi').1
theorem blC_at (n i : Nat) (hi : i < n) : ((List.range n).map (blC G O C xs)).getD i [] = blC G O C xs i := by
 rw [List.getD_eq_getElem?_getD, List.getElem?_map, List.getElem?_range hi]
 rfl
theorem fl_copy (h : Fl W base hi g o G O C xs) {c : Nat} (hp : 0 < xs.length) (hgd : od.guard = none) (s x : Operand) (t : TypeId) (z : Value) (bytes : Nat)
 (ho : od.op = .call { callee := .builtin .append, args := #[s, x], argTypes := #[t, t] }) (ht : P.underlying t = some (.slice 33)) (hinfo : (P.info? 33).map (fun i => (i.zero, i.size, i.bytes)) = some (some z, 2, bytes)) (hz : z.cells.size = 2) (hb0 : 0 < bytes) (hb1 : bytes ≤ 1000)
 (hs : a.eval s = .slice (some ⟨W.heap.size, 0, none⟩) 0 0) (hx : a.eval x = .slice (some ⟨g, o, none⟩) xs.length c)
 (k : ∀ gx ox cap w1, Fl w1 base w1.heap.size gx ox G O C xs → Fl w1 base hi g o G O C xs → xs.length ≤ cap → W.heap.size ≤ gx → Below W.heap.size W w1 → wpList P ops Q rest (a.put od.dst (.slice (some ⟨gx, ox, none⟩) xs.length cap)) w1) :
 wpList P ops Q (od :: rest) a (W.alloc (.cells #[] 33)) := by
 have hA : Below W.heap.size W (W.alloc (.cells #[] 33)) := below_alloc (Below.refl _ _) _
 have hf := h.few.1
 refine Kd.R_append_rows (Kd.raw 2) (w0 := W) W.heap.size hgd s x t 33 z bytes ho ht hinfo hz (by decide) hb0 _ [] _ _ _ _ (fun _ => True) (fun _ => False) hs hx (raw_nil W 2 _) (fl_rows (h.below hA)) (fun _ _ h => h) (fun _ h => h.elim) (fun _ _ => trivial) hA (below_size hA) (Nat.le_trans (Nat.mul_le_mul (show ([] : List (List Value)).length + xs.length ≤ 4 by simpa using hf) hb1) (by decide)) (fun v1 w1 hR hB _ _ => ?_)
 rw [List.nil_append] at hR
 obtain ⟨gx, ox, cap, rfl, h1, h2, h3⟩ := h.of_raw (s := fun i => i) h.own.2.2 (fun k _ hk => hB.block k (Nat.lt_of_lt_of_le hk h.own.2.2)) hR (by rw [List.length_map, List.length_range]) hp h.few.1 (fun i hi => ⟨hi, blC_at _ _ hi, rfl⟩) (fun _ _ _ _ hne => hne)
 exact k gx ox cap w1 h3 (h.below hB) h1 h2 hB
structure Pg (W : World) (b g o c : Nat) (ps : List S30) : Prop where
 own : b ≤ g ∧ g < W.heap.size
 typ : ∃ cells, W.heap[g]? = some (.cells cells 30 (0, 0))
 len : ps.length ≤ c
 at_ : ∀ j : Nat, j < ps.length → ∀ t u, (pgC (rd_T30 ps (j : Int)))[t]? = some u → W.cell? ⟨g, o + j * 5 + t, none⟩ = some u
theorem fl_pages (h : Fl W base hi g o G O C xs) {i n : Nat} (hi' : i < xs.length) (hn : (rd_T33 xs (i : Int)).f0.length = n) (hp : 0 < n) (hgd : od.guard = none) (s x : Operand) (t : TypeId) (z : Value) (bytes : Nat)
 (ho : od.op = .call { callee := .builtin .append, args := #[s, x], argTypes := #[t, t] }) (ht : P.underlying t = some (.slice 30)) (hinfo : (P.info? 30).map (fun i => (i.zero, i.size, i.bytes)) = some (some z, 5, bytes)) (hz : z.cells.size = 5) (hb0 : 0 < bytes) (hb1 : bytes ≤ 1000)
 (hs : a.eval s = .slice (some ⟨W.heap.size, 0, none⟩) 0 0) (hx : a.eval x = .slice (some ⟨G i, O i, none⟩) n (C i))
 (k : ∀ gp op cap w1, Pg w1 W.heap.size gp op cap (rd_T33 xs (i : Int)).f0 → Below W.heap.size W w1 → wpList P ops Q rest (a.put od.dst (.slice (some ⟨gp, op, none⟩) n cap)) w1) :
 wpList P ops Q (od :: rest) a (W.alloc (.cells #[] 30)) := by
 subst hn
 have hA : Below W.heap.size W (W.alloc (.cells #[] 30)) := below_alloc (Below.refl _ _) _
 have hf := h.few.2 i hi'
 obtain ⟨a1, a2, a3, a4, a5, a6, a7, a8⟩ := (h.below hA).at_ i hi'
 have hC : Kd.C k30 (W.alloc (.cells #[] 30)) (some ⟨G i, O i, none⟩) (rd_T33 xs (i : Int)).f0.length (rd_T33 xs (i : Int)).f0 := by
  refine ⟨rfl, by omega, fun _ => ⟨_, rfl, fun j q hq => ?_⟩⟩
  have h8 := a8 j (List.getElem?_eq_some_iff.1 hq).1
  rw [flP_at hq] at h8
  refine ⟨pgC q, rfl, (k30).K_of_M (k30_mkM _ 0 (fun _ => True) q), fun t u hu => ?_⟩
  have := h8 t u hu
  rw [add_at]
  rw [show O i + (j * (k30).sz + t) = O i + j * 5 + t by show O i + (j * 5 + t) = _; omega]
  exact this
 have hnil : Kd.R k30 30 (W.alloc (.cells #[] 30)) W.heap.size (fun _ => True) (.slice (some ⟨W.heap.size, 0, none⟩) 0 0) [] := ⟨fun _ _ => trivial, [], World.ownsRow_lit W #[] 0 (Nat.le_refl _) (by unfold maxLen; omega) (by simp), Reps.none _ _⟩
 refine Kd.R_append_rows k30 (w0 := W) W.heap.size hgd s x t 30 z bytes ho ht hinfo hz (by decide) hb0 _ [] _ _ _ _ (fun _ => True) (fun _ => False) hs hx hnil hC (fun x cs hk => by rw [k30_open hk]; exact k30_mkM _ _ _ _) (fun _ h => h.elim) (fun _ _ => trivial) hA (below_size hA) (Nat.le_trans (Nat.mul_le_mul (show ([] : List S30).length + (rd_T33 xs (i : Int)).f0.length ≤ 4 by simpa using hf) hb1) (by decide)) (fun v1 w1 hR hB _ _ => ?_)
 rw [List.nil_append] at hR
 obtain ⟨gp, cap, rfl, hbp, hlt, cells, hc⟩ := Kd.R_form hR hp
 have hcap := (Kd.R_reads' hR).2.1
 refine k gp 0 cap w1 ⟨⟨hbp, hlt⟩, ⟨cells, hc⟩, hcap, fun j hj t u hu => ?_⟩ hB
 obtain ⟨c2, h2, hM2, hcc2, _⟩ := Kd.R_elem hR z30 (j : Int) (by omega) (by omega)
 obtain rfl := k30_openM hM2
 have h3 := hcc2 t u hu
 rw [show ((j : Int)).toNat * (k30).sz + t = 0 + j * 5 + t by rw [Int.toNat_natCast]; show j * 5 + t = _; omega] at h3
 exact h3
theorem Fl.renew (h : Fl W base hi g o G O C xs) {i gp op c n : Nat} (hi' : i < xs.length) (hn : (rd_T33 xs (i : Int)).f0.length = n) (hP : Pg W hi gp op c (rd_T33 xs (i : Int)).f0) :
 ∃ G' O' C' : Nat → Nat, G' i = gp ∧ O' i = op ∧ C' i = c ∧ Fl (W.setCell ⟨g, o + i * 2, none⟩ (.slice (some ⟨gp, op, none⟩) n c)) base W.heap.size g o G' O' C' xs := by
 subst hn
 refine ⟨fun k => if k = i then gp else G k, fun k => if k = i then op else O k, fun k => if k = i then c else C k, if_pos rfl, if_pos rfl, if_pos rfl, ?_⟩
 generalize hv : Value.slice (some ⟨gp, op, none⟩) (rd_T33 xs (i : Int)).f0.length c = v
 have ho := h.own
 have hpo := hP.own
 have far : ∀ k, k ≠ g → (W.setCell ⟨g, o + i * 2, none⟩ v).heap[k]? = W.heap[k]? := fun k hk => Below.heap_setCell W ⟨g, o + i * 2, none⟩ v k hk
 have hgg : gp ≠ g := by omega
 refine ⟨⟨ho.1, by omega, by simp [World.setCell]⟩, ?_, fun j hj => ?_, fun j j' hj hj' hne => ?_, h.few⟩
 · obtain ⟨cs, e⟩ := h.typ
   exact ⟨_, blk_set e (o + i * 2) v⟩
 · obtain ⟨a1, a2, a3, a4, ⟨cs, a5⟩, a6, a7, a8⟩ := h.at_ j hj
   by_cases hc : j = i
   rotate_left
   · rw [if_neg hc, if_neg hc, if_neg hc]
     exact ⟨a1, by omega, a3, a4, ⟨cs, (far _ a3).trans a5⟩, (fl_cell (by omega) _).trans a6, (fl_cell (by omega) _).trans a7, fun q hq t u hu => (cell_heap (a := ⟨G j, O j + q * 5 + t, none⟩) (far _ a3)).trans (a8 q hq t u hu)⟩
   subst hc
   rw [if_pos rfl, if_pos rfl, if_pos rfl]
   obtain ⟨cp, ep⟩ := hP.typ
   exact ⟨by omega, hpo.2, hgg, hP.len, ⟨cp, (far _ hgg).trans ep⟩, by rw [hv]; exact World.cell?_setCell_same _ _ _ a6, (fl_cell (by omega) _).trans a7, fun q hq t u hu => (cell_heap (a := ⟨gp, op + q * 5 + t, none⟩) (far gp hgg)).trans (hP.at_ q hq t u hu)⟩
 · have b1 := (h.at_ j hj).2.1
   have b2 := (h.at_ j' hj').2.1
   have := h.one j j' hj hj' hne
   show (if j = i then gp else G j) ≠ (if j' = i then gp else G j')
   by_cases c1 : j = i <;> by_cases c2 : j' = i
   · omega
   · rw [if_pos c1, if_neg c2]; omega
   · rw [if_neg c1, if_pos c2]; omega
   · rw [if_neg c1, if_neg c2]; exact this
theorem Fl.farCells (h : Fl W base hi g o G O C xs) {b : Nat} (hb : hi ≤ b) (q : Nat) (vs : List Value) : Fl (W.setCells b q vs) base hi g o G O C xs := h.step (fun k _ h2 => setCells_far _ _ k (by omega)) (by rw [(setCells_same _ _ _ _).2.2.2]; exact h.own.2.2)
theorem Fl.pageAt (h : Fl W base hi g o G O C xs) {i j gp op : Nat} (hG : G i = gp) (hO : O i = op) (hx : i < xs.length) (hj : j < (rd_T33 xs (i : Int)).f0.length) (p : S30) :
 Fl (W.setCells gp (op + j * 5) (pgC p)) base hi g o G O C (xs.set i ⟨(rd_T33 xs (i : Int)).f0.set j p, (rd_T33 xs (i : Int)).f1⟩) := by
 have := h.page hx hj p
 rw [hG, hO] at this
 exact this
theorem pg_cells (W : World) (g q : Nat) (a b c d e : Int) : W.setCells g q (pgC ⟨a, ⟨b, c, d, e⟩⟩) = ((((W.setCell ⟨g, q, none⟩ (.int .i64 a)).setCell ⟨g, q + 1, none⟩ (.int .i64 b)).setCell ⟨g, q + 2, none⟩ (.int .i64 c)).setCell ⟨g, q + 3, none⟩ (.int .i64 d)).setCell ⟨g, q + 4, none⟩ (.int .i64 e) := by
 simp only [pgC, World.setCells, Nat.add_assoc]
theorem Fl.cells (h : Fl W base hi g o G O C xs) {i j gp op : Nat} (hG : G i = gp) (hO : O i = op) (hx : i < xs.length) (hj : j < (rd_T33 xs (i : Int)).f0.length) :
 ∃ p, p = rd_T30 (rd_T33 xs (i : Int)).f0 (j : Int) ∧ (W.cell? ⟨gp, op + j * 5, none⟩ = some (.int .i64 p.f0) ∧ W.cell? ⟨gp, op + j * 5 + 1, none⟩ = some (.int .i64 p.f1.f0) ∧ W.cell? ⟨gp, op + j * 5 + 2, none⟩ = some (.int .i64 p.f1.f1) ∧ W.cell? ⟨gp, op + j * 5 + 3, none⟩ = some (.int .i64 p.f1.f2) ∧ W.cell? ⟨gp, op + j * 5 + 4, none⟩ = some (.int .i64 p.f1.f3)) ∧ ∀ q, W.frozen? ⟨gp, q, none⟩ = false := by
 subst hG hO
 obtain ⟨a1, a2, a3, a4, ⟨cs, a5⟩, a6, a7, a8⟩ := h.at_ i hx
 exact ⟨_, rfl, ⟨a8 j hj 0 _ rfl, a8 j hj 1 _ rfl, a8 j hj 2 _ rfl, a8 j hj 3 _ rfl, a8 j hj 4 _ rfl⟩, fun q => blk_frozen a5 q⟩
theorem Fl.slot (h : Fl W base hi g o G O C xs) {i n gp op c : Nat} (hn : (rd_T33 xs (i : Int)).f0.length = n) (hG : G i = gp) (hO : O i = op) (hC : C i = c) (hx : i < xs.length) :
 W.cell? ⟨g, o + i * 2, none⟩ = some (.slice (some ⟨gp, op, none⟩) n c) ∧ ∀ q, W.frozen? ⟨g, q, none⟩ = false := by
 subst hn hG hO hC
 obtain ⟨cs, ht⟩ := h.typ
 exact ⟨(h.at_ i hx).2.2.2.2.2.1, fun q => blk_frozen ht q⟩
theorem flOk_calls (h : Fl W base hi g o G O C xs) {n c : Nat} (hn : xs.length = n) (hc : n ≤ c) : Calls Try.prog 5 #[.slice (some ⟨g, o, none⟩) n c] W fun e w' => e = .returned (.bool (flashOkB xs)) ∧ Below W.heap.size W w' := by
 subst hn
 exact impl_FlashOk.calls _ _ xs _ _ (flC h hc) hc rfl
end
section
variable {P : Program} {ops : Array Oper} {rest : List Oper} {od : Oper} {a : Act} {Q : Exit → Act → World → Prop} {W : World} {base hi g o : Nat} {G O C : Nat → Nat} {xs : List S33}
def tailRows (G O C : Nat → Nat) (xs : List S33) : List (List Value) := (List.range xs.tail.length).map (blC (fun i => G (i + 1)) (fun i => O (i + 1)) (fun i => C (i + 1)) xs.tail)
theorem fl_copyT (h : Fl W base hi g o G O C xs) {c n : Nat} (hn : xs.tail.length = n) (hgd : od.guard = none) (s x : Operand) (t : TypeId) (z : Value) (bytes : Nat)
 (ho : od.op = .call { callee := .builtin .append, args := #[s, x], argTypes := #[t, t] }) (ht : P.underlying t = some (.slice 33)) (hinfo : (P.info? 33).map (fun i => (i.zero, i.size, i.bytes)) = some (some z, 2, bytes)) (hz : z.cells.size = 2) (hb0 : 0 < bytes) (hb1 : bytes ≤ 1000)
 (hs : a.eval s = .slice (some ⟨W.heap.size, 0, none⟩) 0 0) (hx : a.eval x = .slice (some ⟨g, o + 2, none⟩) n c)
 (k : ∀ v1 w1, (Kd.raw 2).R 33 w1 W.heap.size (fun _ => True) v1 (tailRows G O C xs) → Fl w1 base hi g o G O C xs → Below W.heap.size W w1 → wpList P ops Q rest (a.put od.dst v1) w1) :
 wpList P ops Q (od :: rest) a (W.alloc (.cells #[] 33)) := by
 subst hn
 have hA : Below W.heap.size W (W.alloc (.cells #[] 33)) := below_alloc (Below.refl _ _) _
 have hf := h.cutF.few.1
 refine Kd.R_append_rows (Kd.raw 2) (w0 := W) W.heap.size hgd s x t 33 z bytes ho ht hinfo hz (by decide) hb0 _ [] _ _ _ _ (fun _ => True) (fun _ => False) hs hx (raw_nil W 2 _) (fl_rows (h.below hA).cutF) (fun _ _ h => h) (fun _ h => h.elim) (fun _ _ => trivial) hA (below_size hA) (Nat.le_trans (Nat.mul_le_mul (show ([] : List (List Value)).length + xs.tail.length ≤ 4 by simpa using hf) hb1) (by decide)) (fun v1 w1 hR hB _ _ => ?_)
 rw [List.nil_append] at hR
 exact k v1 w1 hR (h.below hB) hB
theorem rd_push (i : Nat) (h4 : xs.length = 4) (hi' : i < 4) : rd_T33 (xs.tail ++ [rd_T33 xs 0]) (i : Int) = rd_T33 xs ((if i < 3 then i + 1 else 0 : Nat) : Int) := by
 have ht : xs.tail.length = 3 := by rw [List.length_tail]; omega
 by_cases hc : i < 3
 · rw [if_pos hc, ← flB_tail]
   unfold rd_T33
   rw [Int.toNat_natCast, List.getD_eq_getElem?_getD, List.getElem?_append_left (by omega), ← List.getD_eq_getElem?_getD]
 rw [if_neg hc]
 unfold rd_T33
 rw [Int.toNat_natCast, List.getD_eq_getElem?_getD, List.getElem?_append_right (by omega), show i - xs.tail.length = 0 by omega]
 rfl
theorem fl_push (h : Fl W base hi g o G O C xs) (h4 : xs.length = 4) {b : Nat} (hb : hi ≤ b) (hbw : b ≤ W.heap.size) {v1 : Value} (hR : (Kd.raw 2).R 33 W b (fun _ => True) v1 (tailRows G O C xs)) (hgd : od.guard = none) (s x : Operand) (t : TypeId) (z : Value) (bytes : Nat)
 (ho : od.op = .call { callee := .builtin .append, args := #[s, x], argTypes := #[t, t] }) (ht : P.underlying t = some (.slice 33)) (hinfo : (P.info? 33).map (fun i => (i.zero, i.size, i.bytes)) = some (some z, 2, bytes)) (hz : z.cells.size = 2) (hb0 : 0 < bytes) (hb1 : bytes ≤ 1000)
 (hs : a.eval s = v1) (hx : a.eval x = .slice (some ⟨W.heap.size, 0, none⟩) 1 1)
 (k : ∀ gy oy cy w1 G' O' C', Fl w1 base w1.heap.size gy oy G' O' C' (xs.tail ++ [rd_T33 xs 0]) → 4 ≤ cy → Below b W w1 → wpList P ops Q rest (a.put od.dst (.slice (some ⟨gy, oy, none⟩) 4 cy)) w1) :
 wpList P ops Q (od :: rest) a (W.alloc (.cells (blC G O C xs 0).toArray 33)) := by
 have ht3 : xs.tail.length = 3 := by rw [List.length_tail]; omega
 have hl : (tailRows G O C xs).length = 3 := by unfold tailRows; rw [List.length_map, List.length_range, ht3]
 refine Kd.R_append (Kd.raw 2) (w0 := W) b hgd s x t 33 z bytes ho ht hinfo hz (by decide) hb0 v1 _ (blC G O C xs 0) (blC G O C xs 0) (fun _ => True) (fun _ => False) hs hx ⟨rfl, rfl, fun u hu => ?_⟩ (fun _ h => h.elim) (fun _ _ => trivial) hR (Below.refl _ _) hbw (by rw [hl]; exact Nat.le_trans (Nat.mul_le_mul (Nat.le_refl 4) hb1) (by decide)) (fun v2 w1 hR2 hB _ _ => ?_)
 · simp only [blC, List.mem_cons, List.not_mem_nil, or_false] at hu
   rcases hu with rfl | rfl <;> rfl
 · skip
   have hs' : ∀ i, i < (xs.tail ++ [rd_T33 xs 0]).length → (if i < 3 then i + 1 else 0) < xs.length ∧ (tailRows G O C xs ++ [blC G O C xs 0]).getD i [] = blC G O C xs (if i < 3 then i + 1 else 0) ∧ rd_T33 (xs.tail ++ [rd_T33 xs 0]) (i : Int) = rd_T33 xs ((if i < 3 then i + 1 else 0 : Nat) : Int) := fun i hi' => by
    rw [List.length_append, ht3] at hi'
    have hi4 : i < 4 := hi'
    refine ⟨by rw [h4]; split <;> omega, ?_, rd_push i h4 hi4⟩
    by_cases hc : i < 3
    rotate_left
    · rw [List.getD_eq_getElem?_getD, List.getElem?_append_right (by omega), show i - (tailRows G O C xs).length = 0 by omega, if_neg hc]
      rfl
    rw [List.getD_eq_getElem?_getD, List.getElem?_append_left (by omega), ← List.getD_eq_getElem?_getD]
    unfold tailRows
    rw [blC_at _ _ (by omega), if_pos hc]
    unfold blC
    rw [flB_tail]
   have hone : ∀ i i', i < (xs.tail ++ [rd_T33 xs 0]).length → i' < (xs.tail ++ [rd_T33 xs 0]).length → i ≠ i' → (if i < 3 then i + 1 else 0) ≠ (if i' < 3 then i' + 1 else 0) := fun i i' h2 h3 hne => by
    rw [List.length_append, ht3] at h2 h3
    have h2 : i < 4 := h2
    have h3 : i' < 4 := h3
    split <;> split <;> omega
   obtain ⟨gy, oy, cy, rfl, h1, -, h3⟩ := h.of_raw (s := fun i => if i < 3 then i + 1 else 0) hb (fun k _ hk => hB.block k (Nat.lt_of_lt_of_le hk hb)) hR2 (by rw [List.length_append, List.length_append, hl, ht3]; rfl) (by rw [List.length_append]; simp) (by rw [List.length_append, ht3]; exact Nat.le_refl 4) hs' hone
   rw [List.length_append, ht3] at h1 ⊢
   exact k gy oy cy w1 _ _ _ h3 h1 hB
theorem below_alloc' {w W : World} (h : Below w.heap.size w W) (x : Obj) : Below w.heap.size w (W.alloc x) := below_step h (below_alloc (Below.refl _ _) x)
theorem pg_cellsP (W : World) (g q : Nat) (p : S30) : W.setCells g q (pgC p) = ((((W.setCell ⟨g, q, none⟩ (.int .i64 p.f0)).setCell ⟨g, q + 1, none⟩ (.int .i64 p.f1.f0)).setCell ⟨g, q + 2, none⟩ (.int .i64 p.f1.f1)).setCell ⟨g, q + 3, none⟩ (.int .i64 p.f1.f2)).setCell ⟨g, q + 4, none⟩ (.int .i64 p.f1.f3) := pg_cells W g q _ _ _ _ _
theorem Fl.drew (h : Fl W base hi g o G O C xs) : Fl W.drew base hi g o G O C xs := h.step (fun _ _ _ => rfl) h.own.2.2
theorem box4_set {W : World} {g : Nat} {t : TypeId} {a b c d a' b' c' d' : Value} (h : W.heap[g]? = some (.cells #[a, b, c, d] t (0, 0))) : ((((W.setCell ⟨g, 0, none⟩ a').setCell ⟨g, 1, none⟩ b').setCell ⟨g, 2, none⟩ c').setCell ⟨g, 3, none⟩ d').heap[g]? = some (.cells #[a', b', c', d'] t (0, 0)) := by
 have h4 := blk_set (blk_set (blk_set (blk_set h 0 a') 1 b') 2 c') 3 d'
 simpa using h4
end
def pgF (fl : List S33) (i j : Int) : S30 := rd_T30 (rd_T33 fl i).f0 j
def setF (fl : List S33) (i j : Int) (p : S30) : List S33 := fl.set i.toNat ⟨(rd_T33 fl i).f0.set j.toNat p, (rd_T33 fl i).f1⟩
theorem setF_eq {W : World} {base hi g o : Nat} {G O C : Nat → Nat} {fl : List S33} {kk ii : Int} {p : S30} (hk : ((kk.toNat : Nat) : Int) = kk) (h : Fl W base hi g o G O C (fl.set kk.toNat ⟨(rd_T33 fl ((kk.toNat : Nat) : Int)).f0.set ii.toNat p, (rd_T33 fl ((kk.toNat : Nat) : Int)).f1⟩)) : Fl W base hi g o G O C (setF fl kk ii p) := by
 rw [hk] at h
 exact h
theorem setF_len (fl : List S33) (kk ii : Int) (p : S30) : (setF fl kk ii p).length = fl.length := List.length_set
theorem fl_idx (n : Nat) (h : ¬ ((n : Int) > 1048576)) : Int.tmod (n : Int) 4 = ((n % 4 : Nat) : Int) ∧ Int.tmod (wrap64 ((n : Int) / 4)) 4 = ((n / 4 % 4 : Nat) : Int) := by
 have hw : wrap64 ((n : Int) / 4) = (n : Int) / 4 := by
  unfold wrap64
  omega
 rw [hw, Int.tmod_eq_emod_of_nonneg (by omega), Int.tmod_eq_emod_of_nonneg (by omega)]
 omega
def recN (fl : List S33) : Nat → S28
 | 0 => ⟨0, 0, 0, 0⟩
 | i + 1 => if (pgF fl (i : Int) 0).f0 = 1 then (pgF fl (i : Int) 0).f1 else recN fl i
def laws_FnFlashSeq.g (k : Nat) (fl : List S33) (n : Nat) : Option Bool :=
 if flashOkB fl = false then some true else if flFine fl = true then
  (impl_FlashClean.f k fl ((n % 4 : Nat) : Int)).bind fun c => if c = 0 then some true else if (recN fl 4).f1 = 0 then some true
   else if 1 ≤ c ∧ c ≤ 4 then some (!flashOkB (setF fl ((n % 4 : Nat) : Int) (4 - c) ⟨1, recN fl 4⟩) && flashOkB (fl.tail ++ [rd_T33 fl 0])) else none else none
def laws_FnFlashSeq.f (k : Nat) (l0 : List Int) (l1 : List Int) : Option Bool :=
 if (l0.length : Int) > 1048576 then some true else if (l1.length : Int) > 1048576 then some true else (spec_DrawFlashOk.f k l0).bind fun fl => laws_FnFlashSeq.g k fl l1.length
set_option maxHeartbeats 8000000 in
set_option maxRecDepth 100000 in
theorem laws_FnFlashSeq.calls (k : Nat) (A0 : Option Addr) (c0 : Nat) (l0 : List Int) (A1 : Option Addr) (c1 : Nat) (l1 : List Int) (r : Bool) (w : World) (hr0 : Kd.C (Kd.int .u8) w A0 l0.length l0) (hc0 : l0.length ≤ c0) (hr1 : Kd.C (Kd.int .u8) w A1 l1.length l1) (hc1 : l1.length ≤ c1) (h : laws_FnFlashSeq.f k l0 l1 = some r) :
 Calls Try.prog 3 #[.slice A0 l0.length c0, .slice A1 l1.length c1] w fun e w' => e = .returned (.bool r) ∧ Below w.heap.size w w' := by
 unfold laws_FnFlashSeq.f at h
 have HR0 := am hr0
 have HC0 := am hc0
 clear hr0 hc0 hr1 hc1
 have hu0 := Try.underlying33
 have hu1 := Try.underlying30
 have hu2 := Try.underlying31
 have hu3 := Try.underlying23
 have hu4 := Try.underlying28
 have HH := am h
 clear h
 go_enter Try.func3, Try.ntmps3
 have h := HH.out
 clear HH
 by_cases q1 : (l0.length : Int) > 1048576
 · rw [if_pos q1] at h
   obtain rfl := Option.some.inj h
   have e1 := decide_eq_true q1
   clear h q1
   go_wp2
   go_ret
   exact ⟨rfl, Below.refl _ _⟩
 rw [if_neg q1] at h
 have e1 := decide_eq_false q1
 clear q1
 by_cases q2 : (l1.length : Int) > 1048576
 · rw [if_pos q2] at h
   obtain rfl := Option.some.inj h
   have e2 := decide_eq_true q2
   clear h q2
   go_wp2
   go_ret
   exact ⟨rfl, Below.refl _ _⟩
 rw [if_neg q2] at h
 have e2 := decide_eq_false q2
 have HI := am (fl_idx l1.length q2)
 clear q2
 obtain ⟨fl, h1, h⟩ := Option.bind_eq_some_iff.1 h
 have HH := am h
 clear h
 go_wp2_with fail
 refine (spec_DrawFlashOk.callsF k A0 c0 l0 fl w HR0.out HC0.out h1).mono ?_
 rintro e w1 ⟨v, rfl, ⟨g, o, hi, n, c, G, O, C, rfl, rfl, hc, hF⟩, hB⟩
 have HF := am hF
 have HC := am hc
 have HB := am hB
 clear hF hc hB h1 HR0 HC0
 go_wp2_with fail
 refine (impl_FlashOk.calls _ _ fl (flashOkB fl) _ (flC HF.out HC.out) HC.out rfl).mono ?_
 rintro e w2 ⟨rfl, hb⟩
 replace HF := am (HF.out.below hb)
 replace HB := am (below_then HB.out HB.out.size hb)
 clear hb
 go_wp2_with fail
 refine (spec_FlashOk.calls _ _ fl (flashOkB fl) _ (flC HF.out HC.out) HC.out rfl).mono ?_
 rintro e w3 ⟨rfl, hb⟩
 replace HF := am (HF.out.below hb)
 replace HB := am (below_then HB.out HB.out.size hb)
 clear hb
 have h := HH.out
 clear HH
 unfold laws_FnFlashSeq.g at h
 by_cases hok : flashOkB fl = false
 · rw [if_pos hok] at h
   obtain rfl := Option.some.inj h
   clear h
   rw [hok]
   go_wp2_with fail
   refine (spec_FlashOk.calls _ _ fl false _ (flC HF.out HC.out) HC.out (congrArg some hok)).mono ?_
   rintro e w4 ⟨rfl, hb⟩
   replace HB := am (below_then HB.out HB.out.size hb)
   clear hb HF
   go_wp2
   go_ret
   exact ⟨rfl, HB.out⟩
 rw [if_neg hok] at h
 rw [Bool.not_eq_false] at hok
 rw [hok]
 by_cases hfn : flFine fl = true
 rotate_left
 · rw [if_neg hfn] at h
   cases h
 rw [if_pos hfn] at h
 obtain ⟨hl4, hp4⟩ := fl_fine hfn
 clear hok hfn
 obtain ⟨e3, -⟩ := HI.out
 clear HI
 have hk4 : ((l1.length % 4 : Nat) : Int) < 4 := by omega
 have hk0 : 0 ≤ ((l1.length % 4 : Nat) : Int) := Int.natCast_nonneg _
 generalize ((l1.length % 4 : Nat) : Int) = kk at *
 have hkn : kk.toNat < fl.length := by omega
 have hnn : (rd_T33 fl ((kk.toNat : Nat) : Int)).f0.length = 4 := hp4 kk.toNat (by omega)
 have hki : kk < (fl.length : Int) := by omega
 have HKC := am (show ((kk.toNat : Nat) : Int) = kk from Int.toNat_of_nonneg hk0)
 have HN0 := am (show 0 < fl.length by omega)
 have HL4 := am hl4
 have HP4 := am hp4
 clear hl4 hp4
 obtain ⟨cl, hcl, h⟩ := Option.bind_eq_some_iff.1 h
 have HH := am h
 clear h
 go_wp2_with fail
 refine (impl_FlashClean.calls k _ _ fl kk cl _ (flC HF.out HC.out) HC.out hcl).mono ?_
 rintro e w4 ⟨rfl, hb⟩
 replace HF := am (HF.out.below hb)
 replace HB := am (below_then HB.out HB.out.size hb)
 clear hb hcl
 have HGB := am HF.out.own.2.2
 have HGW := am HB.out.size
 have hbox := am (blk_new w4 (.cells #[.int .i64 0, .int .i64 0, .int .i64 0, .int .i64 0] 28))
 have HF0 := am (HF.out.alloc (.cells #[.int .i64 0, .int .i64 0, .int .i64 0, .int .i64 0] 28))
 have HB0 := am (below_alloc' HB.out (.cells #[.int .i64 0, .int .i64 0, .int .i64 0, .int .i64 0] 28))
 go_wp2_with fail
 go_loopg [10] 5 (fun kq v10 w' => ∃ (i : Nat), v10 = .int .i64 (i : Int) ∧ Aside0 (kq + i = 5) ∧ Aside0 (i ≤ 4) ∧ Aside0 (w'.heap[w4.heap.size]? = some (.cells #[.int .i64 (recN fl i).f0, .int .i64 (recN fl i).f1, .int .i64 (recN fl i).f2, .int .i64 (recN fl i).f3] 28 (0, 0))) ∧ Aside0 (Fl w' w.heap.size hi g o G O C fl) ∧ Aside0 (Below w.heap.size w w'))
 case atStart => exact ⟨0, rfl, ⟨rfl⟩, ⟨Nat.zero_le _⟩, hbox, HF0, HB0⟩
 case round =>
  clear hbox HF0 HB0 HF HB
  obtain ⟨i, rfl, HK, HI, HX, HF, HB⟩ := hrel
  obtain ⟨k1, rfl⟩ : ∃ k, gk = k + 1 := by
   have := HK.out
   have := HI.out
   exact ⟨gk - 1, by omega⟩
  by_cases ci : i < 4
  · have hw14 : wrap64 ((i : Int) + 1) = ((i + 1 : Nat) : Int) := by rw [IntWalk.wrap64_in _ (by omega)]; omega
    have cib : decide ((i : Int) < 4) = true := decide_eq_true (by omega)
    have hin : i < fl.length := by have := HL4.out; omega
    have hii : (i : Int) < (fl.length : Int) := by omega
    have hp0 : 0 < (rd_T33 fl (i : Int)).f0.length := by rw [HP4.out i ci]; omega
    obtain ⟨hfc, -⟩ := HF.out.slot (HP4.out i ci) rfl rfl rfl hin
    obtain ⟨pf, hpf, ⟨df0, df1, df2, df3, df4⟩, -⟩ := HF.out.cells rfl rfl hin hp0
    rw [Nat.zero_mul, Nat.add_zero] at df0 df1 df2 df3 df4
    replace hpf : pf = pgF fl (i : Int) 0 := hpf
    generalize G i = gi at *
    generalize O i = oi at *
    generalize C i = ci' at *
    have HIN := am ci
    clear hin hp0 ci
    by_cases c1 : pf.f0 = 1
    rotate_left
    · skip
      have hr : recN fl (i + 1) = recN fl i := by
       rw [recN, ← hpf, if_neg c1]
      have e7 : (pf.f0 == 1) = false := beq_eq_false_iff_ne.2 c1
      have HR := am hr
      clear hr c1 hpf
      go_wp2
      go_roundg k1
      case measure => have := HK.out; omega
      case rel => exact ⟨i + 1, by first | rfl | (simp; done) | (simp [hw14]; done), ⟨by have := HK.out; omega⟩, ⟨by have := HIN.out; omega⟩, ⟨by rw [HR.out]; exact HX.out⟩, HF, HB⟩
    have hr : recN fl (i + 1) = pf.f1 := by
     rw [recN, ← hpf, if_pos c1]
    rw [c1] at df0
    have HR := am hr
    have hz0 : wr.cell? ⟨w4.heap.size, 0, none⟩ = some (.int .i64 (recN fl i).f0) := (blk_cell HX.out 0).trans rfl
    have hf0 := blk_frozen HX.out 0
    have hz1 : wr.cell? ⟨w4.heap.size, 1, none⟩ = some (.int .i64 (recN fl i).f1) := (blk_cell HX.out 1).trans rfl
    have hf1 := blk_frozen HX.out 1
    have hz2 : wr.cell? ⟨w4.heap.size, 2, none⟩ = some (.int .i64 (recN fl i).f2) := (blk_cell HX.out 2).trans rfl
    have hf2 := blk_frozen HX.out 2
    have hz3 : wr.cell? ⟨w4.heap.size, 3, none⟩ = some (.int .i64 (recN fl i).f3) := (blk_cell HX.out 3).trans rfl
    have hf3 := blk_frozen HX.out 3
    clear hr c1 hpf
    go_wp2
    go_roundg k1
    case measure => have := HK.out; omega
    case rel => exact ⟨i + 1, by first | rfl | (simp; done) | (simp [hw14]; done), ⟨by have := HK.out; omega⟩, ⟨by have := HIN.out; omega⟩, ⟨by rw [HR.out]; exact box4_set HX.out⟩, ⟨(((HF.out.far (a := ⟨w4.heap.size, 0, none⟩) HGB.out _).far (a := ⟨w4.heap.size, 1, none⟩) HGB.out _).far (a := ⟨w4.heap.size, 2, none⟩) HGB.out _).far (a := ⟨w4.heap.size, 3, none⟩) HGB.out _⟩, ⟨Below.setCell (Below.setCell (Below.setCell (Below.setCell HB.out HGW.out _) HGW.out _) HGW.out _) HGW.out _⟩⟩
  obtain rfl : i = 4 := by have := HI.out; omega
  clear ci HK HI
  have hz1 : wr.cell? ⟨w4.heap.size, 1, none⟩ = some (.int .i64 (recN fl 4).f1) := (blk_cell HX.out 1).trans rfl
  have h := HH.out
  clear HH
  by_cases q5 : cl = 0
  · rw [if_pos q5] at h
    obtain rfl := Option.some.inj h
    subst q5
    clear h
    go_wp2
    go_ret
    exact ⟨rfl, HB.out⟩
  rw [if_neg q5] at h
  have e5 : (cl == 0) = false := beq_eq_false_iff_ne.2 q5
  clear q5
  by_cases q6 : (recN fl 4).f1 = 0
  · rw [if_pos q6] at h
    obtain rfl := Option.some.inj h
    rw [q6] at hz1
    clear h q6
    go_wp2
    go_ret
    exact ⟨rfl, HB.out⟩
  rw [if_neg q6] at h
  have e6 : ((recN fl 4).f1 == 0) = false := beq_eq_false_iff_ne.2 q6
  clear q6
  by_cases q7 : 1 ≤ cl ∧ cl ≤ 4
  rotate_left
  · rw [if_neg q7] at h
    cases h
  rw [if_pos q7] at h
  obtain ⟨jj, hjj⟩ : ∃ jj : Int, jj = 4 - cl := ⟨_, rfl⟩
  have hj0 : 0 ≤ jj := by omega
  have hj4 : jj < 4 := by omega
  have e8 : wrap64 (4 - cl) = jj := by rw [IntWalk.wrap64_in _ (by omega), hjj]
  rw [← hjj] at h
  have HH := am h
  have hin : jj.toNat < (rd_T33 fl ((kk.toNat : Nat) : Int)).f0.length := by omega
  clear h hjj q7
  go_wp2_with (first
   | ((with_reducible refine gate_builtin (b := .append) (xs := #[.tmp 72, .tmp 73]) rfl ?_); at_builtin; refine fl_copy HF.out HN0.out rfl (.tmp 72) (.tmp 73) 23 _ _ rfl Try.underlying23 info33 rfl (by decide) (by decide) rfl rfl ?_; intro gx1 ox1 cx1 w5 hX hF hcx hgx hb; have HGX := am (Nat.lt_of_lt_of_le (blk_lt HX.out) hgx); replace HX := am (blk_below HX.out hb); have HX1 := am hX; have HC1 := am hcx; have HG1 := am (Nat.le_trans HF.out.own.2.2 hgx); replace HF := am hF; replace HB := am (below_then HB.out HB.out.size hb); have hpc1 := ((HF.out.alloc (.cells #[] 30)).slot hnn rfl rfl rfl hkn).1; clear hX hF hcx hgx hb)
   | ((with_reducible refine gate_builtin (b := .append) (xs := #[.tmp 77, .tmp 82]) rfl ?_); at_builtin; refine fl_pages HF.out hkn hnn (by decide) rfl (.tmp 77) (.tmp 82) 31 _ _ rfl Try.underlying31 info30 rfl (by decide) (by decide) rfl rfl ?_; intro gp1 op1 cp1 w6 hP hb; have HP1 := am hP; replace HF := am (HF.out.below hb); replace HX1 := am (HX1.out.below hb); replace HX := am (blk_below HX.out hb); replace HB := am (below_then HB.out HB.out.size hb); clear hP hb hpc1; obtain ⟨hxc1, hxf⟩ := HX1.out.slot hnn rfl rfl rfl hkn; have hxf1 := hxf (ox1 + kk.toNat * 2); clear hxf)
   | ((with_reducible refine gate_store (t := 31) (p := 85) rfl ?_); refine store_event (t := 31) (p := 85) (v := ?vo_w7) (w1 := (w6.setCell ⟨gx1, ox1 + kk.toNat * 2, none⟩ (.slice (some ⟨gp1, op1, none⟩) 4 cp1))) ?hg ?ho ?hn ?hr ?_; (case ho => rfl); (case hg => rfl); (case hn => rfl); (case hr => first | (go_simp; done) | (go_simp; rfl)); intro w7 hw; have hX := HX1.out.renew hkn hnn HP1.out; rw [← hw] at hX; obtain ⟨G1, O1, C1, hG1, hO1, hC1, hX⟩ := hX; have hF := HF.out.far (a := ⟨gx1, ox1 + kk.toNat * 2, none⟩) HG1.out (.slice (some ⟨gp1, op1, none⟩) 4 cp1); rw [← hw] at hF; have hb := Below.setCell HB.out (p := ⟨gx1, ox1 + kk.toNat * 2, none⟩) HX1.out.own.1 (.slice (some ⟨gp1, op1, none⟩) 4 cp1); rw [← hw] at hb; have hx7 := (Below.heap_setCell w6 ⟨gx1, ox1 + kk.toNat * 2, none⟩ (.slice (some ⟨gp1, op1, none⟩) 4 cp1) w4.heap.size (Nat.ne_of_lt HGX.out)).trans HX.out; rw [← hw] at hx7; replace HX := am hx7; clear hx7; have HP1g := am (Nat.le_trans HG1.out (Nat.le_trans (Nat.le_of_lt HX1.out.own.2.1) HP1.out.own.1)); replace HX1 := am hX; replace HF := am hF; replace HB := am hb; clear hX hF hb hxc1 hxf1 HP1; obtain ⟨hxc1, -⟩ := HX1.out.slot hnn hG1 hO1 hC1 hkn; obtain ⟨px1, -, ⟨dx10, dx11, dx12, dx13, dx14⟩, hxf⟩ := HX1.out.cells hG1 hO1 hkn hin; have fx10 := hxf (op1 + jj.toNat * 5); have fx11 := hxf (op1 + jj.toNat * 5 + 1); have fx12 := hxf (op1 + jj.toNat * 5 + 2); have fx13 := hxf (op1 + jj.toNat * 5 + 3); have fx14 := hxf (op1 + jj.toNat * 5 + 4); clear hxf; clear hw)
   | fail)
  have hz0 := (blk_cell HX.out 0).trans rfl
  have hz1 := (blk_cell HX.out 1).trans rfl
  have hz2 := (blk_cell HX.out 2).trans rfl
  have hz3 := (blk_cell HX.out 3).trans rfl
  go_region
  obtain ⟨w8, hw⟩ : ∃ w8, w8 = ((((((w7.setCell ⟨gp1, op1 + jj.toNat * 5, none⟩ (.int .i64 1)).setCell ⟨gp1, op1 + jj.toNat * 5 + 1, none⟩ (.int .i64 (recN fl 4).f0)).setCell ⟨gp1, op1 + jj.toNat * 5 + 2, none⟩ (.int .i64 (recN fl 4).f1)).setCell ⟨gp1, op1 + jj.toNat * 5 + 3, none⟩ (.int .i64 (recN fl 4).f2)).setCell ⟨gp1, op1 + jj.toNat * 5 + 4, none⟩ (.int .i64 (recN fl 4).f3))).drew := ⟨_, rfl⟩
  rw [← hw]
  have hbp := Nat.le_trans (Nat.le_trans HF.out.own.1 (Nat.le_of_lt HF.out.own.2.1)) HP1g.out
  have hX := HX1.out.pageAt hG1 hO1 hkn hin (⟨1, recN fl 4⟩ : S30)
  have hF := HF.out.farCells (b := gp1) HP1g.out (op1 + jj.toNat * 5) (pgC (⟨1, recN fl 4⟩ : S30))
  have hb := below_drew (Below.setCell (Below.setCell (Below.setCell (Below.setCell (Below.setCell HB.out (p := ⟨gp1, op1 + jj.toNat * 5, none⟩) hbp (.int .i64 1)) (p := ⟨gp1, op1 + jj.toNat * 5 + 1, none⟩) hbp (.int .i64 (recN fl 4).f0)) (p := ⟨gp1, op1 + jj.toNat * 5 + 2, none⟩) hbp (.int .i64 (recN fl 4).f1)) (p := ⟨gp1, op1 + jj.toNat * 5 + 3, none⟩) hbp (.int .i64 (recN fl 4).f2)) (p := ⟨gp1, op1 + jj.toNat * 5 + 4, none⟩) hbp (.int .i64 (recN fl 4).f3))
  rw [pg_cellsP] at hX hF
  replace hX := hX.drew
  replace hF := hF.drew
  replace HX1 := am (show Fl w8 _ _ _ _ _ _ _ _ from by rw [hw]; exact hX)
  replace HF := am (show Fl w8 _ _ _ _ _ _ _ _ from by rw [hw]; exact hF)
  replace HB := am (show Below w.heap.size w w8 from by rw [hw]; exact hb)
  clear hX hF hb hbp hxc1 dx10 dx11 dx12 dx13 dx14 fx10 fx11 fx12 fx13 fx14 hG1 hO1 hC1 hw HX hz0 hz1 hz2 hz3 HGX HP1g
  have HW8 := am HF.out.own.2.2
  have HW8b := am HB.out.size
  have hcn : ¬ c = 1 := by have := HC.out; have := HL4.out; omega
  have hln : 1 ≤ fl.length := by have := HL4.out; omega
  go_wp2_with (first
   | ((with_reducible refine gate_builtin (b := .append) (xs := #[.tmp 96, .tmp 98]) rfl ?_); at_builtin; refine fl_copyT HF.out (n := fl.length - 1) List.length_tail rfl (.tmp 96) (.tmp 98) 23 _ _ rfl Try.underlying23 info33 rfl (by decide) (by decide) rfl rfl ?_; intro v12 w9 hR hF hb; have HR := am hR; replace HX1 := am (HX1.out.below hb); replace HF := am hF; replace HB := am (below_then HB.out HB.out.size hb); have HWX := am hb.size; clear hR hF hb)
   | fail)
  obtain ⟨a1, ha1⟩ : ∃ a1, a1 = flashOkB (setF fl kk jj ⟨1, recN fl 4⟩) := ⟨_, rfl⟩
  obtain ⟨a2, ha2⟩ : ∃ a2, a2 = flashOkB (fl.tail ++ [rd_T33 fl 0]) := ⟨_, rfl⟩
  have h := HH.out
  clear HH
  rw [← ha1, ← ha2] at h
  have HA2 := am ha2
  clear ha2
  refine (flOk_calls (xs := setF fl kk jj ⟨1, recN fl 4⟩) (setF_eq HKC.out HX1.out) (setF_len fl kk jj _) HC1.out).mono ?_
  rintro e w10 ⟨rfl, hb⟩
  replace HF := am (HF.out.below hb)
  replace HR := am (Kd.R_below HR.out hb)
  replace HB := am (below_then HB.out HB.out.size hb)
  have HW9 := am (show w8.heap.size ≤ w10.heap.size from Nat.le_trans HWX.out hb.size)
  rw [← ha1]
  clear hb HX1 ha1
  cases a1
  rotate_left
  · obtain rfl := Option.some.inj h
    clear h
    go_wp2
    go_ret
    exact ⟨rfl, HB.out⟩
  obtain rfl := Option.some.inj h
  clear h
  have hat := HF.out.at_ 0 HN0.out
  have hg0 := hat.2.2.2.2.2.1
  have hg1 := hat.2.2.2.2.2.2.1
  rw [Nat.zero_mul, Nat.add_zero] at hg0 hg1
  clear hat
  go_wp2_with (first
   | ((with_reducible refine gate_builtin (b := .append) (xs := #[.tmp 104, .tmp 108]) rfl ?_); refine gate_guard (by rfl) ?_; dsimp only; at_builtin; refine fl_push HF.out HL4.out HW8.out HW9.out HR.out rfl (.tmp 104) (.tmp 108) 23 _ _ rfl Try.underlying23 info33 rfl (by decide) (by decide) rfl rfl ?_; intro gy oy cy w11 G2 O2 C2 hY hcy hb; have HY := am hY; have HCY := am hcy; replace HB := am (below_weaken HB.out HW8b.out hb); clear hY hcy hb)
   | fail)
  refine (flOk_calls (xs := fl.tail ++ [rd_T33 fl 0]) HY.out (by have := HL4.out; rw [List.length_append, List.length_tail, List.length_singleton]; omega) HCY.out).mono ?_
  rintro e w12 ⟨rfl, hb⟩
  replace HB := am (below_then HB.out HB.out.size hb)
  rw [← HA2.out]
  clear hb HY HF HR hg0 hg1
  go_wp2
  go_ret
  exact ⟨by simp, HB.out⟩
def laws_FnFlashSeq.Pure : Prop := ∀ (l0 : List Int) (l1 : List Int), l0.length ≤ maxLen → l0.length * 1 ≤ 140737488351232 → (∀ x ∈ l0, (Lit.int .u8 x).wf = true) → l1.length ≤ maxLen → l1.length * 1 ≤ 140737488351232 → (∀ x ∈ l1, (Lit.int .u8 x).wf = true) → ∃ k, laws_FnFlashSeq.f k l0 l1 = some true
theorem laws_FnFlashSeq.walk (P : laws_FnFlashSeq.Pure) (a0 : Option Addr) (len0 cap0 : Nat) (z0 : List Int) (a1 : Option Addr) (len1 cap1 : Nat) (z1 : List Int) (w : World) (w0 : (a0 = none ∧ len0 = 0 ∧ cap0 = 0 ∧ z0 = []) ∨ ∃ x, a0 = some x ∧ len0 ≤ cap0 ∧ cap0 ≤ maxLen ∧ z0.length = cap0 ∧ (∀ i, i < z0.length → w.cell? (x.add i) = some (.int .u8 (z0.getD i 0))) ∧ ∀ n ∈ z0, (Lit.int .u8 n).wf = true) (y0 : len0 * 1 ≤ 140737488351232) (w1 : (a1 = none ∧ len1 = 0 ∧ cap1 = 0 ∧ z1 = []) ∨ ∃ x, a1 = some x ∧ len1 ≤ cap1 ∧ cap1 ≤ maxLen ∧ z1.length = cap1 ∧ (∀ i, i < z1.length → w.cell? (x.add i) = some (.int .u8 (z1.getD i 0))) ∧ ∀ n ∈ z1, (Lit.int .u8 n).wf = true) (y1 : len1 * 1 ≤ 140737488351232) :
 Calls Try.prog 3 #[.slice a0 len0 cap0, .slice a1 len1 cap1] w fun e w' => e = .returned (.bool true) ∧ Below w.heap.size w w' := by
 obtain ⟨l0, rfl, hr0, hm0, hw0, hc0⟩ := ReadsInt.ofRowC w0
 obtain ⟨l1, rfl, hr1, hm1, hw1, hc1⟩ := ReadsInt.ofRowC w1
 obtain ⟨k, h⟩ := P l0 l1 hm0 y0 hw0 hm1 y1 hw1
 refine (laws_FnFlashSeq.calls k _ _ l0 _ _ l1 true w (Kd.C_of_reads (d := (0 : Int)) (h1 := fun _ => rfl) hr0) hc0 (Kd.C_of_reads (d := (0 : Int)) (h1 := fun _ => rfl) hr1) hc1 h).mono ?_
 rintro e w' ⟨rfl, hd⟩
 exact ⟨rfl, hd⟩
end Go.Proofs.Ytfijfkbdedcnfaa.R4
