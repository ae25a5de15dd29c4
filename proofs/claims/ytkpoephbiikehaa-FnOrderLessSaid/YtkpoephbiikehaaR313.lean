-- printed by wip/pp/pp.py
import Derived.Test.YtkpoephbiikehaaR30
import Derived.Test.YtkpoephbiikehaaR38
import Derived.Test.YtkpoephbiikehaaR39
import Derived.Test.YtkpoephbiikehaaR310
import Derived.Test.YtkpoephbiikehaaR312
import Derived.Deep.RegionHeld3
import Derived.RegionTactic
import Derived.Laws.IdiomCopy
namespace Go.Proofs.Ytkpoephbiikehaa.R3
open Go.RowKit Go.Proofs.YtkpoephbiikehaaW.PrintWords Go.Proofs.YtkpoephbiikehaaW.PrintLast Go.Proofs.YtkpoephbiikehaaW.PrintMore
attribute [local go_sem] max2_int min2_int max_two min_two max_three min_three max_four min_four
set_option linter.unusedVariables false
set_option linter.unusedSimpArgs false
section
variable {P : Program} {ops : Array Oper} {rest : List Oper} {od : Oper} {a : Act} {Q : Exit → Act → World → Prop} {W : World} {base hi g o : Nat} {G O C : Nat → Nat} {xs : List S32}
theorem flC (h : Fl W base hi g o G O C xs) {c : Nat} (hc : xs.length ≤ c) : Kd.C k32 W (some ⟨g, o, none⟩) xs.length xs := (Kd.V_reads' (h.V hc (b := 0) (e := 0))).2.2
theorem Fl.far (h : Fl W base hi g o G O C xs) {a : Addr} (ha : hi ≤ a.block) (v : Value) : Fl (W.setCell a v) base hi g o G O C xs := h.step (fun k _ h2 => Below.heap_setCell W a v k (by omega)) (by simpa [World.setCell] using h.own.2.2)
theorem raw_nil (W : World) (n e : Nat) : (Kd.raw n).R e (W.alloc (.cells #[] e)) W.heap.size (fun _ => True) (.slice (some ⟨W.heap.size, 0, none⟩) 0 0) [] := ⟨fun _ _ => trivial, [], World.ownsRow_lit W #[] 0 (Nat.le_refl _) (by unfold maxLen; omega) (by simp), Reps.none _ _⟩
def blC (G O C : Nat → Nat) (xs : List S32) (i : Nat) : List Value := [.slice (some ⟨G i, O i, none⟩) (rd_T32 xs (i : Int)).f0.length (C i), .int .i64 (rd_T32 xs (i : Int)).f1]
theorem fl_rows (h : Fl W base hi g o G O C xs) : ReadsRow ((Kd.raw 2).K W) 2 W (some ⟨g, o, none⟩) xs.length ((List.range xs.length).map (blC G O C xs)) := by
 refine ⟨by rw [List.length_map, List.length_range], by have := h.few.1; omega, fun _ => ⟨_, rfl, fun j p hj => ?_⟩⟩
 rw [List.getElem?_map] at hj
 obtain ⟨i, hi, rfl⟩ := Option.map_eq_some_iff.1 hj
 obtain ⟨hl, e⟩ := List.getElem?_eq_some_iff.1 hi
 rw [List.getElem_range] at e
 subst e
 rw [List.length_range] at hl
 obtain ⟨a1, a2, a3, a4, a5, a6, a7, a8⟩ := h.at_ j hl
 refine ⟨blC G O C xs j, rfl, ⟨rfl, rfl, fun u hu => ?_⟩, fun i u hu => ?_⟩
 · simp only [blC, List.mem_cons, List.not_mem_nil, or_false] at hu
   rcases hu with rfl | rfl <;> rfl
 · rw [add_at]
   show W.cell? ⟨g, o + (j * 2 + i), none⟩ = some u
   rw [← Nat.add_assoc]
   match i, hu with
   | 0, hu => cases hu; exact a6
   | 1, hu => cases hu; exact a7
theorem Fl.of_raw {W1 : World} {b : Nat} {v1 : Value} {rows : List (List Value)} {ys : List S32} {s : Nat → Nat} (h : Fl W base hi g o G O C xs) (hb : hi ≤ b) (hm : ∀ k, base ≤ k → k < hi → W1.heap[k]? = W.heap[k]?) (hR : (Kd.raw 2).R 32 W1 b (fun _ => True) v1 rows) (hl : rows.length = ys.length) (hp : 0 < ys.length) (h4 : ys.length ≤ 4)
 (hs : ∀ i, i < ys.length → s i < xs.length ∧ rows.getD i [] = blC G O C xs (s i) ∧ rd_T32 ys (i : Int) = rd_T32 xs (s i : Int)) (hone : ∀ i i', i < ys.length → i' < ys.length → i ≠ i' → s i ≠ s i') :
 ∃ gx ox cap, v1 = .slice (some ⟨gx, ox, none⟩) ys.length cap ∧ ys.length ≤ cap ∧ b ≤ gx ∧ Fl W1 base W1.heap.size gx ox (fun i => G (s i)) (fun i => O (s i)) (fun i => C (s i)) ys := by
 obtain ⟨gx, cap, hv, hbx, hlt, cells, hc⟩ := Kd.R_form hR (by omega)
 subst hv
 rw [hl]
 have hcap := (Kd.R_reads' hR).2.1
 have hW : hi ≤ W1.heap.size := by omega
 have h1 := h.step hm hW
 have ho := h.own
 refine ⟨gx, 0, cap, rfl, by omega, hbx, ⟨⟨by omega, hlt, Nat.le_refl _⟩, ⟨cells, hc⟩, fun i hi' => ?_, fun i i' h2 h3 hne => h.one _ _ (hs i h2).1 (hs i' h3).1 (hone i i' h2 h3 hne), ⟨h4, fun i hi' => ?_⟩⟩⟩
 · obtain ⟨s1, s2, s3⟩ := hs i hi'
   obtain ⟨a1, a2, a3, a4, a5, a6, a7, a8⟩ := h1.at_ (s i) s1
   obtain ⟨c, _, hM, hcc, _⟩ := Kd.R_elem hR [] (i : Int) (by omega) (by omega)
   rw [Int.toNat_natCast] at hM hcc
   obtain ⟨rfl, _, _⟩ := hM
   rw [s2] at hcc
   rw [s3]
   refine ⟨a1, by omega, by omega, a4, a5, ?_, ?_, a8⟩
   · have := hcc 0 _ rfl
     rw [Nat.add_zero] at this
     rw [Nat.zero_add]
     exact this
   · have := hcc 1 _ rfl
     rw [Nat.zero_add]
     exact this
 · rw [(hs i hi').2.2]
   exact h.few.2 _ (hs i hi').1
theorem blC_at (n i : Nat) (hi : i < n) : ((List.range n).map (blC G O C xs)).getD i [] = blC G O C xs i := by
 rw [List.getD_eq_getElem?_getD, List.getElem?_map, List.getElem?_range hi]
 rfl
theorem fl_copy (h : Fl W base hi g o G O C xs) {c : Nat} (hp : 0 < xs.length) (hgd : od.guard = none) (s x : Operand) (t : TypeId) (z : Value) (bytes : Nat)
 (ho : od.op = .call { callee := .builtin .append, args := #[s, x], argTypes := #[t, t] }) (ht : P.underlying t = some (.slice 32)) (hinfo : (P.info? 32).map (fun i => (i.zero, i.size, i.bytes)) = some (some z, 2, bytes)) (hz : z.cells.size = 2) (hb0 : 0 < bytes) (hb1 : bytes ≤ 1000)
 (hs : a.eval s = .slice (some ⟨W.heap.size, 0, none⟩) 0 0) (hx : a.eval x = .slice (some ⟨g, o, none⟩) xs.length c)
 (k : ∀ gx ox cap w1, Fl w1 base w1.heap.size gx ox G O C xs → Fl w1 base hi g o G O C xs → xs.length ≤ cap → W.heap.size ≤ gx → Below W.heap.size W w1 → wpList P ops Q rest (a.put od.dst (.slice (some ⟨gx, ox, none⟩) xs.length cap)) w1) :
 wpList P ops Q (od :: rest) a (W.alloc (.cells #[] 32)) := by
 have hA : Below W.heap.size W (W.alloc (.cells #[] 32)) := below_alloc (Below.refl _ _) _
 have hf := h.few.1
 refine Kd.R_append_rows (Kd.raw 2) (w0 := W) W.heap.size hgd s x t 32 z bytes ho ht hinfo hz (by decide) hb0 _ [] _ _ _ _ (fun _ => True) (fun _ => False) hs hx (raw_nil W 2 _) (fl_rows (h.below hA)) (fun _ _ h => h) (fun _ h => h.elim) (fun _ _ => trivial) hA (below_size hA) (Nat.le_trans (Nat.mul_le_mul (show ([] : List (List Value)).length + xs.length ≤ 4 by simpa using hf) hb1) (by decide)) (fun v1 w1 hR hB _ _ => ?_)
 rw [List.nil_append] at hR
 obtain ⟨gx, ox, cap, rfl, h1, h2, h3⟩ := h.of_raw (s := fun i => i) h.own.2.2 (fun k _ hk => hB.block k (Nat.lt_of_lt_of_le hk h.own.2.2)) hR (by rw [List.length_map, List.length_range]) hp h.few.1 (fun i hi => ⟨hi, blC_at _ _ hi, rfl⟩) (fun _ _ _ _ hne => hne)
 exact k gx ox cap w1 h3 (h.below hB) h1 h2 hB
structure Pg (W : World) (b g o c : Nat) (ps : List S29) : Prop where
 own : b ≤ g ∧ g < W.heap.size
 typ : ∃ cells, W.heap[g]? = some (.cells cells 29 (0, 0))
 len : ps.length ≤ c
 at_ : ∀ j : Nat, j < ps.length → ∀ t u, (pgC (rd_T29 ps (j : Int)))[t]? = some u → W.cell? ⟨g, o + j * 5 + t, none⟩ = some u
theorem fl_pages (h : Fl W base hi g o G O C xs) {i n : Nat} (hi' : i < xs.length) (hn : (rd_T32 xs (i : Int)).f0.length = n) (hp : 0 < n) (hgd : od.guard = none) (s x : Operand) (t : TypeId) (z : Value) (bytes : Nat)
 (ho : od.op = .call { callee := .builtin .append, args := #[s, x], argTypes := #[t, t] }) (ht : P.underlying t = some (.slice 29)) (hinfo : (P.info? 29).map (fun i => (i.zero, i.size, i.bytes)) = some (some z, 5, bytes)) (hz : z.cells.size = 5) (hb0 : 0 < bytes) (hb1 : bytes ≤ 1000)
 (hs : a.eval s = .slice (some ⟨W.heap.size, 0, none⟩) 0 0) (hx : a.eval x = .slice (some ⟨G i, O i, none⟩) n (C i))
 (k : ∀ gp op cap w1, Pg w1 W.heap.size gp op cap (rd_T32 xs (i : Int)).f0 → Below W.heap.size W w1 → wpList P ops Q rest (a.put od.dst (.slice (some ⟨gp, op, none⟩) n cap)) w1) :
 wpList P ops Q (od :: rest) a (W.alloc (.cells #[] 29)) := by
 subst hn
 have hA : Below W.heap.size W (W.alloc (.cells #[] 29)) := below_alloc (Below.refl _ _) _
 have hf := h.few.2 i hi'
 obtain ⟨a1, a2, a3, a4, a5, a6, a7, a8⟩ := (h.below hA).at_ i hi'
 have hC : Kd.C k29 (W.alloc (.cells #[] 29)) (some ⟨G i, O i, none⟩) (rd_T32 xs (i : Int)).f0.length (rd_T32 xs (i : Int)).f0 := by
  refine ⟨rfl, by omega, fun _ => ⟨_, rfl, fun j q hq => ?_⟩⟩
  have h8 := a8 j (List.getElem?_eq_some_iff.1 hq).1
  rw [flP_at hq] at h8
  refine ⟨pgC q, rfl, (k29).K_of_M (k29_mkM _ 0 (fun _ => True) q), fun t u hu => ?_⟩
  have := h8 t u hu
  rw [add_at]
  rw [show O i + (j * (k29).sz + t) = O i + j * 5 + t by show O i + (j * 5 + t) = _; omega]
  exact this
 have hnil : Kd.R k29 29 (W.alloc (.cells #[] 29)) W.heap.size (fun _ => True) (.slice (some ⟨W.heap.size, 0, none⟩) 0 0) [] := ⟨fun _ _ => trivial, [], World.ownsRow_lit W #[] 0 (Nat.le_refl _) (by unfold maxLen; omega) (by simp), Reps.none _ _⟩
 refine Kd.R_append_rows k29 (w0 := W) W.heap.size hgd s x t 29 z bytes ho ht hinfo hz (by decide) hb0 _ [] _ _ _ _ (fun _ => True) (fun _ => False) hs hx hnil hC (fun x cs hk => by rw [k29_open hk]; exact k29_mkM _ _ _ _) (fun _ h => h.elim) (fun _ _ => trivial) hA (below_size hA) (Nat.le_trans (Nat.mul_le_mul (show ([] : List S29).length + (rd_T32 xs (i : Int)).f0.length ≤ 4 by simpa using hf) hb1) (by decide)) (fun v1 w1 hR hB _ _ => ?_)
 rw [List.nil_append] at hR
 obtain ⟨gp, cap, rfl, hbp, hlt, cells, hc⟩ := Kd.R_form hR hp
 have hcap := (Kd.R_reads' hR).2.1
 refine k gp 0 cap w1 ⟨⟨hbp, hlt⟩, ⟨cells, hc⟩, hcap, fun j hj t u hu => ?_⟩ hB
 obtain ⟨c2, h2, hM2, hcc2, _⟩ := Kd.R_elem hR z29 (j : Int) (by omega) (by omega)
 obtain rfl := k29_openM hM2
 have h3 := hcc2 t u hu
 rw [show ((j : Int)).toNat * (k29).sz + t = 0 + j * 5 + t by rw [Int.toNat_natCast]; show j * 5 + t = _; omega] at h3
 exact h3
theorem Fl.renew (h : Fl W base hi g o G O C xs) {i gp op c n : Nat} (hi' : i < xs.length) (hn : (rd_T32 xs (i : Int)).f0.length = n) (hP : Pg W hi gp op c (rd_T32 xs (i : Int)).f0) :
 ∃ G' O' C' : Nat → Nat, G' i = gp ∧ O' i = op ∧ C' i = c ∧ Fl (W.setCell ⟨g, o + i * 2, none⟩ (.slice (some ⟨gp, op, none⟩) n c)) base W.heap.size g o G' O' C' xs := by
 subst hn
 refine ⟨fun k => if k = i then gp else G k, fun k => if k = i then op else O k, fun k => if k = i then c else C k, if_pos rfl, if_pos rfl, if_pos rfl, ?_⟩
 generalize hv : Value.slice (some ⟨gp, op, none⟩) (rd_T32 xs (i : Int)).f0.length c = v
 have ho := h.own
 have hpo := hP.own
 have far : ∀ k, k ≠ g → (W.setCell ⟨g, o + i * 2, none⟩ v).heap[k]? = W.heap[k]? := fun k hk => Below.heap_setCell W ⟨g, o + i * 2, none⟩ v k hk
 have hgg : gp ≠ g := by omega
 refine ⟨⟨ho.1, by omega, by simp [World.setCell]⟩, ?_, fun j hj => ?_, fun j j' hj hj' hne => ?_, h.few⟩
 · obtain ⟨cs, e⟩ := h.typ
   exact ⟨_, blk_set e (o + i * 2) v⟩
 · obtain ⟨a1, a2, a3, a4, ⟨cs, a5⟩, a6, a7, a8⟩ := h.at_ j hj
   by_cases hc : j = i
   rotate_left
   · rw [if_neg hc, if_neg hc, if_neg hc]
     exact ⟨a1, by omega, a3, a4, ⟨cs, (far _ a3).trans a5⟩, (fl_cell (by omega) _).trans a6, (fl_cell (by omega) _).trans a7, fun q hq t u hu => (cell_heap (a := ⟨G j, O j + q * 5 + t, none⟩) (far _ a3)).trans (a8 q hq t u hu)⟩
   subst hc
   rw [if_pos rfl, if_pos rfl, if_pos rfl]
   obtain ⟨cp, ep⟩ := hP.typ
   exact ⟨by omega, hpo.2, hgg, hP.len, ⟨cp, (far _ hgg).trans ep⟩, by rw [hv]; exact World.cell?_setCell_same _ _ _ a6, (fl_cell (by omega) _).trans a7, fun q hq t u hu => (cell_heap (a := ⟨gp, op + q * 5 + t, none⟩) (far gp hgg)).trans (hP.at_ q hq t u hu)⟩
 · have b1 := (h.at_ j hj).2.1
   have b2 := (h.at_ j' hj').2.1
   have := h.one j j' hj hj' hne
   show (if j = i then gp else G j) ≠ (if j' = i then gp else G j')
   by_cases c1 : j = i <;> by_cases c2 : j' = i
   · omega
   · rw [if_pos c1, if_neg c2]; omega
   · rw [if_neg c1, if_pos c2]; omega
   · rw [if_neg c1, if_neg c2]; exact this
theorem Fl.farCells (h : Fl W base hi g o G O C xs) {b : Nat} (hb : hi ≤ b) (q : Nat) (vs : List Value) : Fl (W.setCells b q vs) base hi g o G O C xs := h.step (fun k _ h2 => setCells_far _ _ k (by omega)) (by rw [(setCells_same _ _ _ _).2.2.2]; exact h.own.2.2)
theorem Fl.pageAt (h : Fl W base hi g o G O C xs) {i j gp op : Nat} (hG : G i = gp) (hO : O i = op) (hx : i < xs.length) (hj : j < (rd_T32 xs (i : Int)).f0.length) (p : S29) :
 Fl (W.setCells gp (op + j * 5) (pgC p)) base hi g o G O C (xs.set i ⟨(rd_T32 xs (i : Int)).f0.set j p, (rd_T32 xs (i : Int)).f1⟩) := by
 have := h.page hx hj p
 rw [hG, hO] at this
 exact this
theorem pg_cells (W : World) (g q : Nat) (a b c d e : Int) : W.setCells g q (pgC ⟨a, ⟨b, c, d, e⟩⟩) = ((((W.setCell ⟨g, q, none⟩ (.int .i64 a)).setCell ⟨g, q + 1, none⟩ (.int .i64 b)).setCell ⟨g, q + 2, none⟩ (.int .i64 c)).setCell ⟨g, q + 3, none⟩ (.int .i64 d)).setCell ⟨g, q + 4, none⟩ (.int .i64 e) := by
 simp only [pgC, World.setCells, Nat.add_assoc]
theorem Fl.cells (h : Fl W base hi g o G O C xs) {i j gp op : Nat} (hG : G i = gp) (hO : O i = op) (hx : i < xs.length) (hj : j < (rd_T32 xs (i : Int)).f0.length) :
 ∃ p, p = rd_T29 (rd_T32 xs (i : Int)).f0 (j : Int) ∧ (W.cell? ⟨gp, op + j * 5, none⟩ = some (.int .i64 p.f0) ∧ W.cell? ⟨gp, op + j * 5 + 1, none⟩ = some (.int .i64 p.f1.f0) ∧ W.cell? ⟨gp, op + j * 5 + 2, none⟩ = some (.int .i64 p.f1.f1) ∧ W.cell? ⟨gp, op + j * 5 + 3, none⟩ = some (.int .i64 p.f1.f2) ∧ W.cell? ⟨gp, op + j * 5 + 4, none⟩ = some (.int .i64 p.f1.f3)) ∧ ∀ q, W.frozen? ⟨gp, q, none⟩ = false := by
 subst hG hO
 obtain ⟨a1, a2, a3, a4, ⟨cs, a5⟩, a6, a7, a8⟩ := h.at_ i hx
 exact ⟨_, rfl, ⟨a8 j hj 0 _ rfl, a8 j hj 1 _ rfl, a8 j hj 2 _ rfl, a8 j hj 3 _ rfl, a8 j hj 4 _ rfl⟩, fun q => blk_frozen a5 q⟩
theorem Fl.slot (h : Fl W base hi g o G O C xs) {i n gp op c : Nat} (hn : (rd_T32 xs (i : Int)).f0.length = n) (hG : G i = gp) (hO : O i = op) (hC : C i = c) (hx : i < xs.length) :
 W.cell? ⟨g, o + i * 2, none⟩ = some (.slice (some ⟨gp, op, none⟩) n c) ∧ ∀ q, W.frozen? ⟨g, q, none⟩ = false := by
 subst hn hG hO hC
 obtain ⟨cs, ht⟩ := h.typ
 exact ⟨(h.at_ i hx).2.2.2.2.2.1, fun q => blk_frozen ht q⟩
theorem flOk_calls (h : Fl W base hi g o G O C xs) {n c : Nat} (hn : xs.length = n) (hc : n ≤ c) : Calls Try.prog 11 #[.slice (some ⟨g, o, none⟩) n c] W fun e w' => e = .returned (.bool (flashOkB xs)) ∧ Below W.heap.size W w' := by
 subst hn
 exact impl_FlashOk.calls _ _ xs _ _ (flC h hc) hc rfl
end
def pgF (fl : List S32) (i j : Int) : S29 := rd_T29 (rd_T32 fl i).f0 j
def setF (fl : List S32) (i j : Int) (p : S29) : List S32 := fl.set i.toNat ⟨(rd_T32 fl i).f0.set j.toNat p, (rd_T32 fl i).f1⟩
theorem setF_eq {W : World} {base hi g o : Nat} {G O C : Nat → Nat} {fl : List S32} {kk ii : Int} {p : S29} (hk : ((kk.toNat : Nat) : Int) = kk) (h : Fl W base hi g o G O C (fl.set kk.toNat ⟨(rd_T32 fl ((kk.toNat : Nat) : Int)).f0.set ii.toNat p, (rd_T32 fl ((kk.toNat : Nat) : Int)).f1⟩)) : Fl W base hi g o G O C (setF fl kk ii p) := by
 rw [hk] at h
 exact h
theorem setF_len (fl : List S32) (kk ii : Int) (p : S29) : (setF fl kk ii p).length = fl.length := List.length_set
theorem fl_idx (n : Nat) (h : ¬ ((n : Int) > 1048576)) : Int.tmod (n : Int) 4 = ((n % 4 : Nat) : Int) ∧ Int.tmod (wrap64 ((n : Int) / 4)) 4 = ((n / 4 % 4 : Nat) : Int) := by
 have hw : wrap64 ((n : Int) / 4) = (n : Int) / 4 := by
  unfold wrap64
  omega
 rw [hw, Int.tmod_eq_emod_of_nonneg (by omega), Int.tmod_eq_emod_of_nonneg (by omega)]
 omega
def laws_FnOrderLess.g (k : Nat) (fl : List S32) (n : Nat) : Option Bool :=
 if orderI fl = specOrderB fl then (if orderI fl = false then some true else if flFine fl = true then
  (if (pgF fl ((n % 4 : Nat) : Int) ((n / 4 % 4 : Nat) : Int)).f0 = 1 then (impl_FlashClean.f k fl ((n % 4 : Nat) : Int)).bind fun c => if c > 0 then some true
   else some (orderI (setF fl ((n % 4 : Nat) : Int) ((n / 4 % 4 : Nat) : Int) ⟨2, ⟨0, 0, 0, 0⟩⟩)) else some true) else none) else none
def laws_FnOrderLess.f (k : Nat) (l0 : List Int) (l1 : List Int) : Option Bool :=
 if (l0.length : Int) > 1048576 then some true else if (l1.length : Int) > 1048576 then some true else (spec_DrawFindOrder.f k l0).bind fun fl => laws_FnOrderLess.g k fl l1.length
theorem flOr_calls {W : World} {base hi g o : Nat} {G O C : Nat → Nat} {xs : List S32} (h : Fl W base hi g o G O C xs) {n c : Nat} (hn : xs.length = n) (hc : n ≤ c) : Calls Try.prog 5 #[.slice (some ⟨g, o, none⟩) n c] W fun e w' => e = .returned (.bool (orderI xs)) ∧ Below W.heap.size W w' := by
 subst hn
 exact impl_FindOrder.calls _ _ xs _ _ (flC h hc) hc rfl
set_option maxHeartbeats 8000000 in
set_option maxRecDepth 100000 in
theorem laws_FnOrderLess.calls (k : Nat) (A0 : Option Addr) (c0 : Nat) (l0 : List Int) (A1 : Option Addr) (c1 : Nat) (l1 : List Int) (r : Bool) (w : World) (hr0 : Kd.C (Kd.int .u8) w A0 l0.length l0) (hc0 : l0.length ≤ c0) (hr1 : Kd.C (Kd.int .u8) w A1 l1.length l1) (hc1 : l1.length ≤ c1) (h : laws_FnOrderLess.f k l0 l1 = some r) :
 Calls Try.prog 3 #[.slice A0 l0.length c0, .slice A1 l1.length c1] w fun e w' => e = .returned (.bool r) ∧ Below w.heap.size w w' := by
 unfold laws_FnOrderLess.f at h
 have HR0 := am hr0
 have HC0 := am hc0
 clear hr0 hc0 hr1 hc1
 have hu0 := Try.underlying32
 have hu1 := Try.underlying29
 have hu2 := Try.underlying30
 have hu3 := Try.underlying23
 have HH := am h
 clear h
 go_enter Try.func3, Try.ntmps3
 have h := HH.out
 clear HH
 by_cases q1 : (l0.length : Int) > 1048576
 · rw [if_pos q1] at h
   obtain rfl := Option.some.inj h
   have e1 := decide_eq_true q1
   clear h q1
   go_wp2
   go_ret
   exact ⟨rfl, Below.refl _ _⟩
 rw [if_neg q1] at h
 have e1 := decide_eq_false q1
 clear q1
 by_cases q2 : (l1.length : Int) > 1048576
 · rw [if_pos q2] at h
   obtain rfl := Option.some.inj h
   have e2 := decide_eq_true q2
   clear h q2
   go_wp2
   go_ret
   exact ⟨rfl, Below.refl _ _⟩
 rw [if_neg q2] at h
 have e2 := decide_eq_false q2
 have HI := am (fl_idx l1.length q2)
 clear q2
 obtain ⟨fl, h1, h⟩ := Option.bind_eq_some_iff.1 h
 have HH := am h
 clear h
 go_wp2_with fail
 refine (spec_DrawFindOrder.callsF k A0 c0 l0 fl w HR0.out HC0.out h1).mono ?_
 rintro e w1 ⟨v, rfl, ⟨g, o, hi, n, c, G, O, C, rfl, rfl, hc, hF⟩, hB⟩
 have HF := am hF
 have HC := am hc
 have HB := am hB
 clear hF hc hB h1 HR0 HC0
 go_wp2_with fail
 refine (impl_FindOrder.calls _ _ fl (orderI fl) _ (flC HF.out HC.out) HC.out rfl).mono ?_
 rintro e w2 ⟨rfl, hb⟩
 replace HF := am (HF.out.below hb)
 replace HB := am (below_then HB.out HB.out.size hb)
 clear hb
 go_wp2_with fail
 refine (spec_FindOrder.calls _ _ fl (specOrderB fl) _ (flC HF.out HC.out) HC.out rfl).mono ?_
 rintro e w3 ⟨rfl, hb⟩
 replace HF := am (HF.out.below hb)
 replace HB := am (below_then HB.out HB.out.size hb)
 clear hb
 have h := HH.out
 clear HH
 unfold laws_FnOrderLess.g at h
 by_cases hsame : orderI fl = specOrderB fl
 rotate_left
 · rw [if_neg hsame] at h
   cases h
 rw [if_pos hsame] at h
 rw [← hsame]
 by_cases hok : orderI fl = false
 · rw [if_pos hok] at h
   obtain rfl := Option.some.inj h
   clear h
   rw [hok]
   go_wp2_with fail
   refine (spec_FindOrder.calls _ _ fl false _ (flC HF.out HC.out) HC.out (congrArg some (hsame.symm.trans hok))).mono ?_
   rintro e w4 ⟨rfl, hb⟩
   replace HB := am (below_then HB.out HB.out.size hb)
   clear hb HF
   go_wp2
   go_ret
   exact ⟨rfl, HB.out⟩
 rw [if_neg hok] at h
 rw [Bool.not_eq_false] at hok
 rw [hok]
 by_cases hfn : flFine fl = true
 rotate_left
 · rw [if_neg hfn] at h
   cases h
 rw [if_pos hfn] at h
 obtain ⟨hl4, hp4⟩ := fl_fine hfn
 clear hok hfn hsame
 obtain ⟨e3, e4⟩ := HI.out
 clear HI
 have hk4 : ((l1.length % 4 : Nat) : Int) < 4 := by omega
 have hi4 : ((l1.length / 4 % 4 : Nat) : Int) < 4 := by omega
 have hk0 : 0 ≤ ((l1.length % 4 : Nat) : Int) := Int.natCast_nonneg _
 have hi0 : 0 ≤ ((l1.length / 4 % 4 : Nat) : Int) := Int.natCast_nonneg _
 generalize ((l1.length % 4 : Nat) : Int) = kk at *
 generalize ((l1.length / 4 % 4 : Nat) : Int) = ii at *
 have hkn : kk.toNat < fl.length := by omega
 have hnn : (rd_T32 fl ((kk.toNat : Nat) : Int)).f0.length = 4 := hp4 kk.toNat (by omega)
 have hin : ii.toNat < (rd_T32 fl ((kk.toNat : Nat) : Int)).f0.length := by omega
 have hki : kk < (fl.length : Int) := by omega
 have hkc : ((kk.toNat : Nat) : Int) = kk := Int.toNat_of_nonneg hk0
 have hic : ((ii.toNat : Nat) : Int) = ii := Int.toNat_of_nonneg hi0
 have HN0 := am (show 0 < fl.length by omega)
 have HKC := am hkc
 have HIC := am hic
 clear hl4 hp4 hkc hic
 obtain ⟨st, hst⟩ : ∃ st, st = (pgF fl kk ii).f0 := ⟨_, rfl⟩
 rw [← hst] at h
 obtain ⟨hfc, -⟩ := HF.out.slot hnn rfl rfl rfl hkn
 obtain ⟨pf, hpf, ⟨df0, -⟩, -⟩ := HF.out.cells rfl rfl hkn hin
 rw [show pf.f0 = st from by rw [hst, hpf, HKC.out, HIC.out]; rfl] at df0
 clear hpf hst
 by_cases q5 : st = 1
 rotate_left
 · rw [if_neg q5] at h
   obtain rfl := Option.some.inj h
   have e5 : (st != 1) = true := bne_iff_ne.2 q5
   clear h q5
   go_wp2
   go_ret
   exact ⟨rfl, HB.out⟩
 rw [if_pos q5] at h
 subst q5
 obtain ⟨cl, hcl, h⟩ := Option.bind_eq_some_iff.1 h
 have HH := am h
 clear h
 go_wp2_with fail
 refine (impl_FlashClean.calls k _ _ fl kk cl _ (flC HF.out HC.out) HC.out hcl).mono ?_
 rintro e w3b ⟨rfl, hb⟩
 replace HF := am (HF.out.below hb)
 replace HB := am (below_then HB.out HB.out.size hb)
 clear hb hcl hfc df0
 have h := HH.out
 clear HH
 by_cases q6 : cl > 0
 · rw [if_pos q6] at h
   obtain rfl := Option.some.inj h
   have e6 := decide_eq_true q6
   clear h q6
   go_wp2
   go_ret
   exact ⟨rfl, HB.out⟩
 rw [if_neg q6] at h
 obtain rfl := Option.some.inj h
 have e6 := decide_eq_false q6
 clear h q6
 go_wp2_with (first
  | ((with_reducible refine gate_builtin (b := .append) (xs := #[.tmp 57, .tmp 58]) rfl ?_); at_builtin; refine fl_copy HF.out HN0.out rfl (.tmp 57) (.tmp 58) 23 _ _ rfl Try.underlying23 info32 rfl (by decide) (by decide) rfl rfl ?_; intro gx1 ox1 cx1 w4 hX hF hcx hgx hb; have HX1 := am hX; have HC1 := am hcx; have HG1 := am (Nat.le_trans HF.out.own.2.2 hgx); replace HF := am hF; replace HB := am (below_then HB.out HB.out.size hb); have hpc1 := ((HF.out.alloc (.cells #[] 29)).slot hnn rfl rfl rfl hkn).1; clear hX hF hcx hgx hb)
  | ((with_reducible refine gate_builtin (b := .append) (xs := #[.tmp 62, .tmp 67]) rfl ?_); at_builtin; refine fl_pages HF.out hkn hnn (by decide) rfl (.tmp 62) (.tmp 67) 30 _ _ rfl Try.underlying30 info29 rfl (by decide) (by decide) rfl rfl ?_; intro gp1 op1 cp1 w5 hP hb; have HP1 := am hP; replace HF := am (HF.out.below hb); replace HX1 := am (HX1.out.below hb); replace HB := am (below_then HB.out HB.out.size hb); clear hP hb hpc1; obtain ⟨hxc1, hxf⟩ := HX1.out.slot hnn rfl rfl rfl hkn; have hxf1 := hxf (ox1 + kk.toNat * 2); clear hxf)
  | ((with_reducible refine gate_store (t := 30) (p := 70) rfl ?_); refine store_event (t := 30) (p := 70) (v := ?vo_w6) (w1 := (w5.setCell ⟨gx1, ox1 + kk.toNat * 2, none⟩ (.slice (some ⟨gp1, op1, none⟩) 4 cp1))) ?hg ?ho ?hn ?hr ?_; (case ho => rfl); (case hg => rfl); (case hn => rfl); (case hr => first | (go_simp; done) | (go_simp; rfl)); intro w6 hw; have hX := HX1.out.renew hkn hnn HP1.out; rw [← hw] at hX; obtain ⟨G1, O1, C1, hG1, hO1, hC1, hX⟩ := hX; have hF := HF.out.far (a := ⟨gx1, ox1 + kk.toNat * 2, none⟩) HG1.out (.slice (some ⟨gp1, op1, none⟩) 4 cp1); rw [← hw] at hF; have hb := Below.setCell HB.out (p := ⟨gx1, ox1 + kk.toNat * 2, none⟩) HX1.out.own.1 (.slice (some ⟨gp1, op1, none⟩) 4 cp1); rw [← hw] at hb; have HP1g := am (Nat.le_trans HG1.out (Nat.le_trans (Nat.le_of_lt HX1.out.own.2.1) HP1.out.own.1)); replace HX1 := am hX; replace HF := am hF; replace HB := am hb; clear hX hF hb hxc1 hxf1 HP1; obtain ⟨hxc1, -⟩ := HX1.out.slot hnn hG1 hO1 hC1 hkn; obtain ⟨px1, -, ⟨dx10, dx11, dx12, dx13, dx14⟩, hxf⟩ := HX1.out.cells hG1 hO1 hkn hin; have fx10 := hxf (op1 + ii.toNat * 5); have fx11 := hxf (op1 + ii.toNat * 5 + 1); have fx12 := hxf (op1 + ii.toNat * 5 + 2); have fx13 := hxf (op1 + ii.toNat * 5 + 3); have fx14 := hxf (op1 + ii.toNat * 5 + 4); clear hxf; clear hw)
  | ((with_reducible refine gate_store (t := 29) (p := 78) rfl ?_); refine store_event (t := 29) (p := 78) (v := ?vo_w7) (w1 := (((((w6.setCell ⟨gp1, op1 + ii.toNat * 5, none⟩ (.int .i64 2)).setCell ⟨gp1, op1 + ii.toNat * 5 + 1, none⟩ (.int .i64 0)).setCell ⟨gp1, op1 + ii.toNat * 5 + 2, none⟩ (.int .i64 0)).setCell ⟨gp1, op1 + ii.toNat * 5 + 3, none⟩ (.int .i64 0)).setCell ⟨gp1, op1 + ii.toNat * 5 + 4, none⟩ (.int .i64 0))) ?hg ?ho ?hn ?hr ?_; (case ho => rfl); (case hg => rfl); (case hn => rfl); (case hr => first | (go_simp; done) | (go_simp; rfl)); intro w7 hw; have hbp := Nat.le_trans (Nat.le_trans HF.out.own.1 (Nat.le_of_lt HF.out.own.2.1)) HP1g.out; have hX := HX1.out.pageAt hG1 hO1 hkn hin (⟨2, ⟨0, 0, 0, 0⟩⟩ : S29); have hF := HF.out.farCells (b := gp1) HP1g.out (op1 + ii.toNat * 5) (pgC (⟨2, ⟨0, 0, 0, 0⟩⟩ : S29)); have hb := (Below.setCell (Below.setCell (Below.setCell (Below.setCell (Below.setCell HB.out (p := ⟨gp1, op1 + ii.toNat * 5, none⟩) hbp (.int .i64 2)) (p := ⟨gp1, op1 + ii.toNat * 5 + 1, none⟩) hbp (.int .i64 0)) (p := ⟨gp1, op1 + ii.toNat * 5 + 2, none⟩) hbp (.int .i64 0)) (p := ⟨gp1, op1 + ii.toNat * 5 + 3, none⟩) hbp (.int .i64 0)) (p := ⟨gp1, op1 + ii.toNat * 5 + 4, none⟩) hbp (.int .i64 0)); replace HX1 := am (show Fl w7 _ _ _ _ _ _ _ _ from by rw [pg_cells, ← hw] at hX; exact hX); replace HF := am (show Fl w7 _ _ _ _ _ _ _ _ from by rw [pg_cells, ← hw] at hF; exact hF); replace HB := am (show Below w.heap.size w w7 from by rw [hw]; exact hb); clear hX hF hb hbp hxc1 dx10 dx11 dx12 dx13 dx14 fx10 fx11 fx12 fx13 fx14 hG1 hO1 hC1; clear hw)
  | fail)
 refine (flOr_calls (xs := setF fl kk ii ⟨2, ⟨0, 0, 0, 0⟩⟩) (setF_eq HKC.out HX1.out) (setF_len fl kk ii _) HC1.out).mono ?_
 rintro e w12 ⟨rfl, hb⟩
 replace HB := am (below_then HB.out HB.out.size hb)
 clear hb HX1 HF
 go_wp2
 go_ret
 exact ⟨rfl, HB.out⟩
def laws_FnOrderLess.Pure : Prop := ∀ (l0 : List Int) (l1 : List Int), l0.length ≤ maxLen → l0.length * 1 ≤ 140737488351232 → (∀ x ∈ l0, (Lit.int .u8 x).wf = true) → l1.length ≤ maxLen → l1.length * 1 ≤ 140737488351232 → (∀ x ∈ l1, (Lit.int .u8 x).wf = true) → ∃ k, laws_FnOrderLess.f k l0 l1 = some true
theorem laws_FnOrderLess.walk (P : laws_FnOrderLess.Pure) (a0 : Option Addr) (len0 cap0 : Nat) (z0 : List Int) (a1 : Option Addr) (len1 cap1 : Nat) (z1 : List Int) (w : World) (w0 : (a0 = none ∧ len0 = 0 ∧ cap0 = 0 ∧ z0 = []) ∨ ∃ x, a0 = some x ∧ len0 ≤ cap0 ∧ cap0 ≤ maxLen ∧ z0.length = cap0 ∧ (∀ i, i < z0.length → w.cell? (x.add i) = some (.int .u8 (z0.getD i 0))) ∧ ∀ n ∈ z0, (Lit.int .u8 n).wf = true) (y0 : len0 * 1 ≤ 140737488351232) (w1 : (a1 = none ∧ len1 = 0 ∧ cap1 = 0 ∧ z1 = []) ∨ ∃ x, a1 = some x ∧ len1 ≤ cap1 ∧ cap1 ≤ maxLen ∧ z1.length = cap1 ∧ (∀ i, i < z1.length → w.cell? (x.add i) = some (.int .u8 (z1.getD i 0))) ∧ ∀ n ∈ z1, (Lit.int .u8 n).wf = true) (y1 : len1 * 1 ≤ 140737488351232) :
 Calls Try.prog 3 #[.slice a0 len0 cap0, .slice a1 len1 cap1] w fun e w' => e = .returned (.bool true) ∧ Below w.heap.size w w' := by
 obtain ⟨l0, rfl, hr0, hm0, hw0, hc0⟩ := ReadsInt.ofRowC w0
 obtain ⟨l1, rfl, hr1, hm1, hw1, hc1⟩ := ReadsInt.ofRowC w1
 obtain ⟨k, h⟩ := P l0 l1 hm0 y0 hw0 hm1 y1 hw1
 refine (laws_FnOrderLess.calls k _ _ l0 _ _ l1 true w (Kd.C_of_reads (d := (0 : Int)) (h1 := fun _ => rfl) hr0) hc0 (Kd.C_of_reads (d := (0 : Int)) (h1 := fun _ => rfl) hr1) hc1 h).mono ?_
 rintro e w' ⟨rfl, hd⟩
 exact ⟨rfl, hd⟩
end Go.Proofs.Ytkpoephbiikehaa.R3
