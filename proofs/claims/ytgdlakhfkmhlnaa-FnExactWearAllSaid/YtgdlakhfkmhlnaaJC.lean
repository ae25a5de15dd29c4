/- The worker, from its birth to its rounds. -/
import Derived.Test.YtgdlakhfkmhlnaaJB
import Derived.Conc.WgGenN2
import Derived.Conc.WgWords
import Derived.Test.YtgdlakhfkmhlnaaProg
set_option linter.unusedVariables false
set_option linter.unusedSimpArgs false
set_option linter.unusedSectionVars false
namespace Go.Proofs.YtgdlakhfkmhlnaaWear
open Go.Conc Go.ConcN Go.RowKit Go.Conc.Lib Go.ConcR.Gen Go.Proofs.Try
open Go.ConcR (KK wgBlock WgAt stA smA rd wr mk Payload Aside2 DC0)
variable [Payload]

/-- A goroutine that has been started and has not begun. -/
noncomputable def bornOf (d : Deferred) : Frame := { (default : Frame) with fn := prog.funcs.size, defers := [d], mode := .panicking [goexitEntry] }
def wearD (Wg B X V : Nat) : Deferred := { target := .fn (.func 22) #[.pointer (some ⟨Wg, 0, none⟩), .pointer (some ⟨B, 0, none⟩), .pointer (some ⟨X, 0, none⟩), .pointer (some ⟨V, 0, none⟩)], args := #[] }
noncomputable def body22 : Code := (f22.body).getD .skip
theorem step_born (Wg B X V : Nat) (w : World) : stepG prog false (G (bornOf (wearD Wg B X V)) []) w =
    .go (G ((baseD 22).at ⟨#[.pointer (some ⟨Wg, 0, none⟩), .pointer (some ⟨B, 0, none⟩), .pointer (some ⟨X, 0, none⟩), .pointer (some ⟨V, 0, none⟩), undef, undef, undef, undef, undef, undef, undef, undef], []⟩ [.code body22]) [{ bornOf (wearD Wg B X V) with defers := [] }]) w #[] := by
  have h1 : (f22.name == "runtime.NumGoroutine") = false := by kernel_rfl
  have h2 : f22.body.isNone = false := by kernel_rfl
  have h3 : f22.ntmps = 12 := by kernel_rfl
  have h4 : f22.body = some body22 := by kernel_rfl
  have h1' : ¬ f22.name = "runtime.NumGoroutine" := by simpa using h1
  simp [G, stepG, unwind, callDeferred, bornOf, wearD, invoke, callFunc, func22, h1', h2, h3, h4, GStep.after, seen_none, Frame.enter, baseD, Frame.at, Array.replicate_succ]

/-! ### a worker's own calculus: what it owns is written down; of the world no more is said than what the others leave -/
structure KW (Wg C Low : Nat) (w₀ : World) (own : List (Nat × Obj)) (w : World) : Prop where
  low : ∀ b, b < Low → b ≠ Wg → b ≠ C → w.heap[b]? = w₀.heap[b]?
  live : WgLive 63 Wg w
  pay : PayAt C 8 w
  own : ∀ p, p ∈ own → w.heap[p.1]? = some p.2
section
variable {Wg C Low i : Nat} {w₀ : World} {v : Value}
theorem KW.rely {own : List (Nat × Obj)} {w w₁ : World} (h : KW Wg C Low w₀ own w) (r : RK 63 Wg C Low 4 i (own.map Prod.fst) w w₁) : KW Wg C Low w₀ own w₁ :=
  ⟨fun b h1 h2 h3 => (r.ra.low b h1 h2 h3).trans (h.low b h1 h2 h3), r.ra.live h.live, r.pay h.pay, fun p hp => (r.ra.own p.1 (List.mem_map.2 ⟨p, hp, rfl⟩)).trans (h.own p hp)⟩
theorem KW.wg {own : List (Nat × Obj)} {w : World} (h : KW Wg C Low w₀ own w) : Wg < w.heap.size := by
  obtain ⟨_, _, hl⟩ := h.live
  exact (Array.getElem?_eq_some_iff.1 hl).1

variable (Wg C Low i w₀ v) in
def Wk (e : Nat) (own : List (Nat × Obj)) (g : Goroutine) : Prop :=
  ∀ w, KW Wg C Low w₀ own w → ∃ m, Ph prog false (RK 63 Wg C Low 4 i) (XK Wg C Low 4 i) (AtLib prog 63 Wg C 4 i v) e (own.map Prod.fst) m g w

theorem dk_refl (o : List Nat) (w : World) : DK Wg C Low 4 i o w w #[] := ⟨rfl, rfl, rfl, rfl, fun _ _ _ => rfl, id, fun _ _ _ => rfl, by simp⟩
theorem wk_step {e : Nat} {own : List (Nat × Obj)} {g : Goroutine} (hg : g.status = .running) (h : ∀ w, KW Wg C Low w₀ own w → ∃ g' w' es own', stepG prog false g w = .go g' w' es ∧ XK Wg C Low 4 i (own.map Prod.fst) (own'.map Prod.fst) w w' es ∧ KW Wg C Low w₀ own' w' ∧ (Wk Wg C Low i w₀ v) e own' g') : (Wk Wg C Low i w₀ v) (e + 1) own g := by
  intro w hw
  refine ⟨0, fun w₁ h₁ => ⟨hg, ?_⟩⟩
  obtain ⟨g', w', es, own', hs, hx, hk, hn⟩ := h w₁ (hw.rely h₁)
  obtain ⟨m, hm⟩ := hn w' hk
  exact ⟨g', w', es, own'.map Prod.fst, hs, hx, m, hm⟩
/-- A step that touches nothing. -/
theorem wk_go {e : Nat} {own : List (Nat × Obj)} {g g' : Goroutine} (hg : g.status = .running) (h : ∀ w, stepG prog false g w = .go g' w #[]) (hn : (Wk Wg C Low i w₀ v) e own g') : (Wk Wg C Low i w₀ v) (e + 1) own g :=
  wk_step hg fun w hw => ⟨g', w, #[], own, h w, .inl ⟨rfl, dk_refl _ _⟩, hw, hn⟩
/-- A step that reads. -/
theorem wk_read {e : Nat} {own : List (Nat × Obj)} {g g' : Goroutine} (hg : g.status = .running) (h : ∀ w, KW Wg C Low w₀ own w → ∃ es, stepG prog false g w = .go g' w es ∧ ∀ x ∈ es, EvK Wg C Low i (own.map Prod.fst) x) (hn : (Wk Wg C Low i w₀ v) e own g') : (Wk Wg C Low i w₀ v) (e + 1) own g :=
  wk_step hg fun w hw => let ⟨es, h1, h2⟩ := h w hw; ⟨g', w, es, own, h1, .inl ⟨rfl, ⟨rfl, rfl, rfl, rfl, fun _ _ _ => rfl, id, fun _ _ _ => rfl, h2⟩⟩, hw, hn⟩
/-- New memory. -/
theorem wk_new (hLow : Low = Wg + 1) (hC : C < Low) {e : Nat} {own : List (Nat × Obj)} {g : Goroutine} {g' : Nat → Goroutine} {x : Obj} (hg : g.status = .running) (h : ∀ w, stepG prog false g w = .go (g' w.heap.size) { w with heap := w.heap.push x } #[]) (hn : ∀ b, Low ≤ b → (∀ p, p ∈ own → p.1 ≠ b) → (Wk Wg C Low i w₀ v) e ((b, x) :: own) (g' b)) : (Wk Wg C Low i w₀ v) (e + 1) own g :=
  wk_step hg fun w hw => ⟨_, _, #[], (w.heap.size, x) :: own, h w, .inr ⟨rfl, rfl, x, rfl⟩, by
    have hwg := hw.wg
    refine ⟨fun b h1 h2 h3 => (push_old (by omega)).trans (hw.low b h1 h2 h3), live_block (push_old hwg) hw.live, pay_block (push_old (by omega)) hw.pay, fun p hp => ?_⟩
    rcases List.mem_cons.1 hp with rfl | hp
    · simp
    · have := hw.own p hp
      exact (push_old (Array.getElem?_eq_some_iff.1 this).1).trans this, hn _ (by have := hw.wg; omega) fun p hp => by
      have := (Array.getElem?_eq_some_iff.1 (hw.own p hp)).1
      omega⟩
/-- A block of its own is written. -/
theorem wk_write {e : Nat} {own own' : List (Nat × Obj)} {g g' : Goroutine} (hown : own'.map Prod.fst = own.map Prod.fst) (hge : ∀ p, p ∈ own → Low ≤ p.1) (hC : C < Low) (hW : Wg < Low) (hg : g.status = .running)
    (h : ∀ w, KW Wg C Low w₀ own w → ∃ w' es, stepG prog false g w = .go g' w' es ∧ (∀ x ∈ es, EvK Wg C Low i (own.map Prod.fst) x) ∧ w'.tape = w.tape ∧ w'.os = w.os ∧ w'.output = w.output ∧ w'.heap.size = w.heap.size ∧ (∀ b, b ∉ own.map Prod.fst → w'.heap[b]? = w.heap[b]?) ∧ ∀ p, p ∈ own' → w'.heap[p.1]? = some p.2) (hn : (Wk Wg C Low i w₀ v) e own' g') : (Wk Wg C Low i w₀ v) (e + 1) own g :=
  wk_step hg fun w hw => by
    obtain ⟨w', es, h1, h2, h3, h4, h5, h6, h7, h8⟩ := h w hw
    have nin : ∀ b, b < Low → b ∉ own.map Prod.fst := fun b hb hm => by
      obtain ⟨p, hp, rfl⟩ := List.mem_map.1 hm
      have := hge p hp; omega
    have hCb := h7 C (nin C hC)
    exact ⟨g', w', es, own', h1, .inl ⟨hown, ⟨h3, h4, h5, h6, fun b hb _ => h7 b hb, pay_block hCb, fun c _ _ => cell_of_block hCb c, h2⟩⟩,
      ⟨fun b g1 g2 g3 => (h7 b (nin b g1)).trans (hw.low b g1 g2 g3), live_block (h7 Wg (nin Wg hW)) hw.live, pay_block hCb hw.pay, h8⟩, hn⟩
end

/-! ### the memory's operations, with what they list -/
section
variable {P : Program}
theorem runT_underlying {t : TypeId} {d : TypeDesc} (h : P.underlying t = some d) (w : World) (es : Array Event) : (underlying t).runT P w es = (.ok d w, es) := by
  show Sem.runT P ((match P.underlying t with | some d => pure d | none => stuck "no such type") : Sem TypeDesc) w es = _
  rw [h]; rfl
theorem runT_sizeOf {t n : Nat} (h : ∀ w, (sizeOf t).run P w = .ok n w) (w : World) (es : Array Event) : (sizeOf t).runT P w es = (.ok n w, es) := by
  have := h w
  revert this
  show Sem.run P (Sem.bind ((match P.info? t with | some i => pure i | none => stuck "no such type") : Sem TypeInfo) fun i => pure i.size) w = _ → Sem.runT P (Sem.bind ((match P.info? t with | some i => pure i | none => stuck "no such type") : Sem TypeInfo) fun i => pure i.size) w es = _
  cases P.info? t with
  | none => intro h; cases h
  | some i => intro h; cases h; rfl
theorem runT_isAgg {t : TypeId} {fs : Array Field} (h : P.underlying t = some (.struct fs)) (w : World) (es : Array Event) : (isAgg t).runT P w es = (.ok true w, es) := by
  show Sem.runT P (Sem.bind (underlying t) _) w es = _
  rw [Sem.runT_bind', runT_underlying h]; rfl
theorem runT_notAgg {t : TypeId} {d : TypeDesc} (h : P.underlying t = some d) (hd : (match d with | .struct _ | .array _ _ => true | _ => false) = false) (w : World) (es : Array Event) : (isAgg t).runT P w es = (.ok false w, es) := by
  show Sem.runT P (Sem.bind (underlying t) _) w es = _
  rw [Sem.runT_bind', runT_underlying h]
  cases d <;> first | rfl | cases hd
theorem runT_load {w : World} {a : Addr} {x : Value} (h : w.cell? a = some x) (es : Array Event) : (load a).runT P w es = (.ok x w, es.push ⟨.cell a, false, false⟩) := by
  show Sem.runT P (.load .plain a .pure) w es = _
  rw [Sem.runT, h]; rfl
theorem runT_loadCells {w : World} {a : Addr} {c : Nat → Value} : ∀ (n k : Nat) (acc : Array Value) (es : Array Event), (∀ j, k ≤ j → j < k + n → w.cell? (a.add j) = some (c j)) →
    ∃ es', (loadCellsFrom a k n acc).runT P w es = (.ok (acc ++ ((List.range' k n).map c).toArray) w, es') ∧ ∀ e ∈ es', e ∈ es ∨ ∃ j, k ≤ j ∧ j < k + n ∧ e = ⟨.cell (a.add j), false, false⟩
  | 0, k, acc, es, _ => ⟨es, by simp only [loadCellsFrom, List.range'_zero, List.map_nil, Array.append_empty]; rfl, fun e he => .inl he⟩
  | n + 1, k, acc, es, h => by
    obtain ⟨es', h1, h2⟩ := runT_loadCells (c := c) n (k + 1) (acc.push (c k)) (es.push ⟨.cell (a.add k), false, false⟩) fun j h1 h2 => h j (by omega) (by omega)
    refine ⟨es', ?_, fun e he => ?_⟩
    · show Sem.runT P (Sem.bind (load (a.add k)) fun v => loadCellsFrom a (k + 1) n (acc.push v)) w es = _
      rw [Sem.runT_bind', runT_load (h k (Nat.le_refl _) (by omega))]
      simp only
      rw [h1, List.range'_succ, List.map_cons]
      congr 2
      simp [← Array.append_assoc]
    · rcases h2 e he with hm | ⟨j, g1, g2, g3⟩
      · rcases Array.mem_push.1 hm with hm | rfl
        · exact .inl hm
        · exact .inr ⟨k, Nat.le_refl _, by omega, rfl⟩
      · exact .inr ⟨j, by omega, by omega, g3⟩
/-- A struct's load. -/
theorem runT_loadAgg {t n : Nat} {fs : Array Field} (hu : P.underlying t = some (.struct fs)) (hs : ∀ w, (sizeOf t).run P w = .ok n w) {w : World} {a : Addr} {c : Nat → Value} (h : ∀ j, j < n → w.cell? (a.add j) = some (c j)) :
    ∃ es', (Instr.loadAt t (.pointer (some a))).runT P w #[] = (.ok (.agg ((List.range' 0 n).map c).toArray) w, es') ∧ ∀ e ∈ es', ∃ j, j < n ∧ e = ⟨.cell (a.add j), false, false⟩ := by
  obtain ⟨es', h1, h2⟩ := runT_loadCells (P := P) (c := c) n 0 #[] #[] fun j _ hj => h j (by omega)
  refine ⟨es', ?_, fun e he => ?_⟩
  · show Sem.runT P (Sem.bind (isAgg t) _) w #[] = _
    rw [Sem.runT_bind', runT_isAgg hu]
    simp only [if_true]
    show Sem.runT P (Sem.bind (sizeOf t) fun n => Sem.bind (loadCells a n) fun cs => pure (Value.agg cs)) w #[] = _
    rw [Sem.runT_bind', runT_sizeOf hs]
    simp only
    rw [Sem.runT_bind']
    have e : loadCells a n = loadCellsFrom a 0 n #[] := rfl
    rw [e, h1]
    simp only [Array.empty_append]
    rfl
  · rcases h2 e he with hm | ⟨j, _, g2, g3⟩
    · simp at hm
    · exact ⟨j, by omega, g3⟩
theorem runT_loadOne {t : TypeId} {d : TypeDesc} (hu : P.underlying t = some d) (hd : (match d with | .struct _ | .array _ _ => true | _ => false) = false) {w : World} {a : Addr} {x : Value} (h : w.cell? a = some x) :
    (Instr.loadAt t (.pointer (some a))).runT P w #[] = (.ok x w, #[⟨.cell a, false, false⟩]) := by
  show Sem.runT P (Sem.bind (isAgg t) _) w #[] = _
  rw [Sem.runT_bind', runT_notAgg hu hd]
  simp only [Bool.false_eq_true, if_false]
  exact runT_load h #[]
theorem runT_v {s : Sem Value} {w w' : World} {x : Value} {es es' : Array Event} (h : s.runT P w es = (.ok x w', es')) : (do pure (.value (← s)) : Sem Next).runT P w es = (.ok (.value x) w', es') := by
  show Sem.runT P (Sem.bind s fun x => pure (Next.value x)) w es = _
  rw [Sem.runT_bind', h]; rfl
theorem runT_u {s : Sem Unit} {w w' : World} {es es' : Array Event} (h : s.runT P w es = (.ok () w', es')) : (do s; pure .skip : Sem Next).runT P w es = (.ok .skip w', es') := by
  show Sem.runT P (Sem.bind s fun _ => pure Next.skip) w es = _
  rw [Sem.runT_bind', h]; rfl

def setFrom (cs : Array Value) (i : Nat) : List Value → Array Value
  | [] => cs
  | v :: vs => setFrom (cs.setIfInBounds i v) (i + 1) vs
theorem setFrom_size (i : Nat) : ∀ (vs : List Value) (cs : Array Value), (setFrom cs i vs).size = cs.size
  | [], _ => rfl
  | v :: vs, cs => by rw [setFrom, setFrom_size]; simp
/-- What a store leaves alone. -/
structure Kept (b : Nat) (w w' : World) : Prop where
  tape : w'.tape = w.tape
  os : w'.os = w.os
  output : w'.output = w.output
  size : w'.heap.size = w.heap.size
  block : ∀ x, x ≠ b → w'.heap[x]? = w.heap[x]?
theorem Kept.refl (b : Nat) (w : World) : Kept b w w := ⟨rfl, rfl, rfl, rfl, fun _ _ => rfl⟩
theorem Kept.trans {b : Nat} {w w' w'' : World} (h : Kept b w w') (h' : Kept b w' w'') : Kept b w w'' := ⟨h'.tape.trans h.tape, h'.os.trans h.os, h'.output.trans h.output, h'.size.trans h.size, fun x hx => (h'.block x hx).trans (h.block x hx)⟩
theorem add_none (b off j : Nat) : (⟨b, off, none⟩ : Addr).add j = ⟨b, off + j, none⟩ := by simp [Addr.add]
theorem runT_store {w : World} {b off : Nat} {cs : Array Value} {e : TypeId} {n : Int} (hb : w.heap[b]? = some (.cells cs e (0, 0))) (ho : off < cs.size) (es : Array Event) :
    (store ⟨b, off, none⟩ (.int .i64 n)).runT P w es = (.ok () (w.setCell ⟨b, off, none⟩ (.int .i64 n)), es.push ⟨.cell ⟨b, off, none⟩, true, false⟩) ∧
      (w.setCell ⟨b, off, none⟩ (.int .i64 n)).heap[b]? = some (.cells (cs.setIfInBounds off (.int .i64 n)) e (0, 0)) ∧ Kept b w (w.setCell ⟨b, off, none⟩ (.int .i64 n)) := by
  have hc : w.cell? ⟨b, off, none⟩ = some cs[off] := by simp [World.cell?, hb, ho]
  have hz : w.frozen? ⟨b, off, none⟩ = false := by simp [World.frozen?, hb]
  refine ⟨?_, ?_, ⟨rfl, rfl, rfl, by simp [World.setCell], fun x hx => ?_⟩⟩
  · show Sem.runT P (.store .plain ⟨b, off, none⟩ (.int .i64 n) (.pure ())) w es = _
    rw [Sem.runT]
    · simp only [hc, hz, Bool.false_eq_true, if_false]
      rfl
    · intro _ h; cases h
    · intro _ h; cases h
  · have hlt : b < w.heap.size := (Array.getElem?_eq_some_iff.1 hb).1
    simp only [World.setCell, Array.getElem?_modify, if_true, hb, Option.map_some]
    simp
  · simp only [World.setCell, Array.getElem?_modify, Ne.symm hx, if_false]
theorem runT_storeCells {b off : Nat} {e : TypeId} : ∀ (vs : List Value) (k : Nat) (w : World) (cs : Array Value) (es : Array Event), w.heap[b]? = some (.cells cs e (0, 0)) → off + k + vs.length ≤ cs.size → (∀ v ∈ vs, ∃ n, v = .int .i64 n) →
    ∃ w' es', (storeCells ⟨b, off, none⟩ vs k).runT P w es = (.ok () w', es') ∧ w'.heap[b]? = some (.cells (setFrom cs (off + k) vs) e (0, 0)) ∧ Kept b w w' ∧ ∀ x ∈ es', x ∈ es ∨ ∃ j, k ≤ j ∧ j < k + vs.length ∧ x = ⟨.cell ⟨b, off + j, none⟩, true, false⟩
  | [], k, w, cs, es, hb, _, _ => ⟨w, es, by simp only [storeCells]; rfl, hb, .refl b w, fun x hx => .inl hx⟩
  | v :: vs, k, w, cs, es, hb, hsz, hv => by
    obtain ⟨n, rfl⟩ := hv v List.mem_cons_self
    simp only [List.length_cons] at hsz
    obtain ⟨h1, h2, h3⟩ := runT_store (P := P) (b := b) (off := off + k) (cs := cs) (e := e) (n := n) hb (by omega) es
    obtain ⟨w', es', g1, g2, g3, g4⟩ := runT_storeCells (off := off) vs (k + 1) _ _ (es.push ⟨.cell ⟨b, off + k, none⟩, true, false⟩) h2 (by rw [Array.size_setIfInBounds]; omega) fun v hm => hv v (List.mem_cons_of_mem _ hm)
    refine ⟨w', es', ?_, g2, h3.trans g3, fun x hx => ?_⟩
    · show Sem.runT P (Sem.bind (store ((⟨b, off, none⟩ : Addr).add k) (.int .i64 n)) fun _ => storeCells ⟨b, off, none⟩ vs (k + 1)) w es = _
      rw [add_none, Sem.runT_bind', h1]
      exact g1
    · rcases g4 x hx with hm | ⟨j, q1, q2, q3⟩
      · rcases Array.mem_push.1 hm with hm | rfl
        · exact .inl hm
        · exact .inr ⟨k, Nat.le_refl _, by simp, rfl⟩
      · exact .inr ⟨j, by omega, by simp only [List.length_cons]; omega, q3⟩
theorem runT_storeAt {t n : Nat} (hs : ∀ w, (sizeOf t).run P w = .ok n w) {b off : Nat} {e : TypeId} {w : World} {cs : Array Value} {v : Value} (hb : w.heap[b]? = some (.cells cs e (0, 0))) (hn : v.cells.size = n) (hsz : off + n ≤ cs.size) (hv : ∀ x ∈ v.cells.toList, ∃ n, x = .int .i64 n) :
    ∃ w' es', (Instr.storeAt t (.pointer (some ⟨b, off, none⟩)) v).runT P w #[] = (.ok () w', es') ∧ w'.heap[b]? = some (.cells (setFrom cs off v.cells.toList) e (0, 0)) ∧ Kept b w w' ∧ ∀ x ∈ es', ∃ j, j < n ∧ x = ⟨.cell ⟨b, off + j, none⟩, true, false⟩ := by
  obtain ⟨w', es', h1, h2, h3, h4⟩ := runT_storeCells (P := P) (off := off) v.cells.toList 0 w cs #[] hb (by simp [hn]; omega) hv
  refine ⟨w', es', ?_, h2, h3, fun x hx => ?_⟩
  · show Sem.runT P (Sem.bind (sizeOf t) _) w #[] = _
    rw [Sem.runT_bind', runT_sizeOf hs]
    simp only [hn, ne_eq, not_true_eq_false, if_false]
    exact h1
  · rcases h4 x hx with hm | ⟨j, _, q2, q3⟩
    · simp at hm
    · exact ⟨j, by simp [hn] at q2; omega, q3⟩

variable {main : Bool} {b : Frame} {a : Act} {k : List Item} {cs : List Frame}
theorem act_val {ops : Array Oper} {i : Nat} {rest : List Nat} {o : Oper} {x : Value} {w w' : World} {es : Array Event} (ho : ops[i]? = some o) (hw : Region.wanted o (yielded ops a.tmps) = true) (hk : b.kind ≠ .early) (hr : (execOp a.eval o).runT P w #[] = (.ok (.value x) w', es)) :
    stepG P main (G (b.at a (.inRegion ops (i :: rest) :: k)) cs) w = .go (G (b.at (a.put o.dst x) (.inRegion ops rest :: k)) cs) w' (seen P b.fn es) := by
  rw [Sem.runT_eq] at hr
  injection hr with h1 h2
  rw [stepG_value ho hw hk h1, listed, h2]
theorem act_skip {ops : Array Oper} {i : Nat} {rest : List Nat} {o : Oper} {w w' : World} {es : Array Event} (ho : ops[i]? = some o) (hw : Region.wanted o (yielded ops a.tmps) = true) (hk : b.kind ≠ .early) (hr : (execOp a.eval o).runT P w #[] = (.ok .skip w', es)) :
    stepG P main (G (b.at a (.inRegion ops (i :: rest) :: k)) cs) w = .go (G (b.at (a.put o.dst undef) (.inRegion ops rest :: k)) cs) w' (seen P b.fn es) := by
  rw [Sem.runT_eq] at hr
  injection hr with h1 h2
  rw [stepG_none ho hw hk h1, listed, h2]
end

section
variable {Wg C Low i : Nat} {w₀ : World} {v : Value}
variable {b : Frame} {a : Act} {k : List Item} {cs : List Frame}
theorem wk_val {e : Nat} {own : List (Nat × Obj)} {ops : Array Oper} {j : Nat} {rest : List Nat} {o : Oper} (x : Value) (ho : ops[j]? = some o) (hw : Region.wanted o (yielded ops a.tmps) = true) (hk : b.kind ≠ .early)
    (hr : ∀ w, (execOp a.eval o).run prog w = .ok (.value x) w) (he : ∀ w, (execOp a.eval o).events prog w #[] = #[]) (hn : (Wk Wg C Low i w₀ v) e own (G (b.at (a.put o.dst x) (.inRegion ops rest :: k)) cs)) : (Wk Wg C Low i w₀ v) (e + 1) own (G (b.at a (.inRegion ops (j :: rest) :: k)) cs) :=
  wk_go rfl (fun w => by rw [stepG_value ho hw hk (hr w)]; unfold listed; rw [he w, seen_none]) hn
/-- A load. -/
theorem wk_load {e : Nat} {own : List (Nat × Obj)} {ops : Array Oper} {j : Nat} {rest : List Nat} {o : Oper} (x : Value) (ho : ops[j]? = some o) (hw : Region.wanted o (yielded ops a.tmps) = true) (hk : b.kind ≠ .early)
    (hr : ∀ w, KW Wg C Low w₀ own w → ∃ es, (execOp a.eval o).runT prog w #[] = (.ok (.value x) w, es) ∧ ∀ y ∈ es, EvK Wg C Low i (own.map Prod.fst) y) (hn : (Wk Wg C Low i w₀ v) e own (G (b.at (a.put o.dst x) (.inRegion ops rest :: k)) cs)) : (Wk Wg C Low i w₀ v) (e + 1) own (G (b.at a (.inRegion ops (j :: rest) :: k)) cs) :=
  wk_read rfl (fun w hkw => let ⟨es, h1, h2⟩ := hr w hkw; ⟨_, act_val ho hw hk h1, fun y hy => h2 y (Go.Conc.mem_seen hy)⟩) hn
/-- New memory, its address in a slot. -/
theorem wk_alloc (hLow : Low = Wg + 1) (hC : C < Low) {e : Nat} {own : List (Nat × Obj)} {ops : Array Oper} {j : Nat} {rest : List Nat} {o : Oper} (x : Obj) (ho : ops[j]? = some o) (hw : Region.wanted o (yielded ops a.tmps) = true) (hk : b.kind ≠ .early)
    (hr : ∀ w, (execOp a.eval o).runT prog w #[] = (.ok (.value (.pointer (some ⟨w.heap.size, 0, none⟩))) { w with heap := w.heap.push x }, #[])) (hn : ∀ n, Low ≤ n → (∀ p, p ∈ own → p.1 ≠ n) → (Wk Wg C Low i w₀ v) e ((n, x) :: own) (G (b.at (a.put o.dst (.pointer (some ⟨n, 0, none⟩))) (.inRegion ops rest :: k)) cs)) : (Wk Wg C Low i w₀ v) (e + 1) own (G (b.at a (.inRegion ops (j :: rest) :: k)) cs) :=
  wk_new (x := x) (g' := fun n => G (b.at (a.put o.dst (.pointer (some ⟨n, 0, none⟩))) (.inRegion ops rest :: k)) cs) hLow hC rfl (fun w => by rw [act_val ho hw hk (hr w), seen_none]) hn
theorem run_box {t : TypeId} (x : Value) (w : World) : (do pure (.value (← Instr.box t x)) : Sem Next).runT prog w #[] = (.ok (.value (.pointer (some ⟨w.heap.size, 0, none⟩))) { w with heap := w.heap.push (.cells x.cells t (0, 0)) }, #[]) := rfl
theorem run_alloc {P : Program} {t : TypeId} {z : Value} (hz : ∀ w, (zeroValue t).run P w = .ok z w) (w : World) : (do pure (.value (← Instr.alloc t true (.tuple #[]))) : Sem Next).runT P w #[] = (.ok (.value (.pointer (some ⟨w.heap.size, 0, none⟩))) { w with heap := w.heap.push (.cells z.cells t (0, 0)) }, #[]) := by
  have h := hz w
  have hq : (zeroValue t).runT P w #[] = (.ok z w, #[]) := by
    revert h
    show Sem.run P (Sem.bind ((match P.info? t with | some i => pure i | none => stuck "no such type") : Sem TypeInfo) fun i => (match i.zero with | some v => pure v | none => unsupported (.resourceLimit "a value of more than 2^22 cells"))) w = _ → Sem.runT P (Sem.bind ((match P.info? t with | some i => pure i | none => stuck "no such type") : Sem TypeInfo) fun i => (match i.zero with | some v => pure v | none => unsupported (.resourceLimit "a value of more than 2^22 cells"))) w #[] = _
    cases P.info? t with
    | none => intro h; cases h
    | some i =>
      show Sem.run P (match i.zero with | some v => pure v | none => unsupported (.resourceLimit "a value of more than 2^22 cells")) w = _ → Sem.runT P (match i.zero with | some v => pure v | none => unsupported (.resourceLimit "a value of more than 2^22 cells")) w #[] = _
      cases i.zero with
      | none => intro h; cases h
      | some z' => intro h; cases h; rfl
  show Sem.runT P (Sem.bind (Sem.bind (zeroValue t) _) _) w #[] = _
  rw [Sem.runT_bind', Sem.runT_bind', hq]
  rfl
/-- A private block is written whole or in part. -/
theorem wk_store {e : Nat} {own own' : List (Nat × Obj)} {ops : Array Oper} {j : Nat} {rest : List Nat} {o : Oper} {t n bb off : Nat} {ety : TypeId} {cs0 : Array Value} {x : Value} (hG : Plan Wg C Low) (ho : ops[j]? = some o) (hw : Region.wanted o (yielded ops a.tmps) = true) (hk : b.kind ≠ .early)
    (hop : execOp a.eval o = (do Instr.storeAt t (.pointer (some ⟨bb, off, none⟩)) x; pure .skip)) (hs : ∀ w, (sizeOf t).run prog w = .ok n w) (hn' : x.cells.size = n) (hsz : off + n ≤ cs0.size) (hv : ∀ y ∈ x.cells.toList, ∃ n, y = .int .i64 n)
    (hmem : (bb, Obj.cells cs0 ety (0, 0)) ∈ own) (hge : ∀ p, p ∈ own → Low ≤ p.1) (hown : own'.map Prod.fst = own.map Prod.fst) (hown2 : ∀ p, p ∈ own' → (p.1 ≠ bb ∧ p ∈ own) ∨ p = (bb, .cells (setFrom cs0 off x.cells.toList) ety (0, 0)))
    (hn : (Wk Wg C Low i w₀ v) e own' (G (b.at (a.put o.dst undef) (.inRegion ops rest :: k)) cs)) : (Wk Wg C Low i w₀ v) (e + 1) own (G (b.at a (.inRegion ops (j :: rest) :: k)) cs) :=
  wk_write (own' := own') hown hge hG.hC hG.hW rfl (fun w hkw => by
    obtain ⟨w', es, h1, h2, h3, h4⟩ := runT_storeAt (P := prog) hs (hkw.own _ hmem) hn' hsz hv
    refine ⟨w', _, act_skip ho hw hk (by rw [hop]; exact runT_u h1), fun y hy => ?_, h3.tape, h3.os, h3.output, h3.size, fun z hz => h3.block z fun e => hz (List.mem_map.2 ⟨_, hmem, e.symm⟩), fun p hp => ?_⟩
    · obtain ⟨q, _, rfl⟩ := h4 y (Go.Conc.mem_seen hy)
      exact ⟨_, true, rfl, .inl (List.mem_map.2 ⟨_, hmem, rfl⟩)⟩
    · rcases hown2 p hp with ⟨hne, hp'⟩ | rfl
      · rw [h3.block p.1 hne]; exact hkw.own p hp'
      · exact h2) hn
end
end Go.Proofs.YtgdlakhfkmhlnaaWear
namespace Go.Proofs.YtgdlakhfkmhlnaaWear
open Go.Conc Go.ConcN Go.RowKit Go.Conc.Lib Go.ConcR.Gen Go.Proofs.Try
open Go.ConcR (KK wgBlock WgAt stA smA rd wr mk Payload Aside2 DC0)
variable [Payload]

noncomputable def body24 : Code := (f24.body).getD .skip
noncomputable def loop24 : Code := match body24 with | .seq _ (.seq _ (.seq (.seq _ (.block _ (.loop c))) _)) => c | _ => .skip
noncomputable def tail24 : Code := match body24 with | .seq _ (.seq _ (.seq _ r)) => r | _ => .skip
section
variable {Wg C Low i : Nat} {w₀ : World} {v : Value}

set_option maxRecDepth 100000 in
set_option maxHeartbeats 4000000 in
theorem round0 (hG : Plan Wg C Low) (hLow : Low = Wg + 1) {PB pc b1 b2 b3 : Nat} {worn torn : Int} {st g1 g2 g3 g4 : Int} (hPB : PB < Low ∧ PB ≠ Wg ∧ PB ≠ C)
    (h0 : w₀.cell? ⟨PB, 0, none⟩ = some (.int .i64 st)) (h1 : w₀.cell? ⟨PB, 1, none⟩ = some (.int .i64 g1)) (h2 : w₀.cell? ⟨PB, 2, none⟩ = some (.int .i64 g2)) (h3 : w₀.cell? ⟨PB, 3, none⟩ = some (.int .i64 g3)) (h4 : w₀.cell? ⟨PB, 4, none⟩ = some (.int .i64 g4))
    {own : List (Nat × Obj)} {c : Frame} {cs : List Frame} {e : Nat} (hge : ∀ p, p ∈ own → Low ≤ p.1) (hb3 : (b3, Obj.cells #[.int .i64 worn, .int .i64 torn] 41 (0, 0)) ∈ own)
    (hn : ∀ (b5 : Nat) (own' : List (Nat × Obj)) (x0 x4 x5 x6 x7 x8 x9 x13 x14 x15 x16 x17 x18 x19 x20 x21 x22 x23 x24 : Value), Low ≤ b5 → own'.map Prod.fst = b5 :: own.map Prod.fst →
      (∃ torn', (b3, Obj.cells #[.int .i64 worn, .int .i64 torn'] 41 (0, 0)) ∈ own') → (∀ p, p ∈ own → p.1 ≠ b3 → p ∈ own') → (Wk Wg C Low i w₀ v) e own' (G ((base 24).at ⟨#[x0, .pointer (some ⟨b1, 0, none⟩), .pointer (some ⟨b2, 0, none⟩), .pointer (some ⟨b3, 0, none⟩), x4, x5, x6, x7, x8, x9, .slice (some ⟨PB, 0, none⟩) 4 pc, .int .i64 4, .int .i64 1, x13, x14, x15, x16, x17, x18, x19, x20, x21, x22, x23, x24], []⟩ [.code loop24, .inLoop loop24, .inBlock 0, .code tail24]) (c :: cs)))
    (x0 x4 x5 x6 x7 x8 x9 x13 x14 x15 x16 x17 x18 x19 x20 x21 x22 x23 x24 : Value) : (Wk Wg C Low i w₀ v) (e + (if st = 2 then 13 else 7) + 23) own (G ((base 24).at ⟨#[x0, .pointer (some ⟨b1, 0, none⟩), .pointer (some ⟨b2, 0, none⟩), .pointer (some ⟨b3, 0, none⟩), x4, x5, x6, x7, x8, x9, .slice (some ⟨PB, 0, none⟩) 4 pc, .int .i64 4, .int .i64 0, x13, x14, x15, x16, x17, x18, x19, x20, x21, x22, x23, x24], []⟩ [.code loop24, .inLoop loop24, .inBlock 0, .code tail24]) (c :: cs)) := by
  have lowc : ∀ (w : World) (own' : List (Nat × Obj)), KW Wg C Low w₀ own' w → ∀ off, w.cell? ⟨PB, off, none⟩ = w₀.cell? ⟨PB, off, none⟩ := fun w own' hw off => cell_of_block (hw.low PB hPB.1 hPB.2.1 hPB.2.2) off
  simp only [loop24, tail24, body24, f24, Option.getD_some] at hn ⊢
  refine wk_go rfl (fun _ => stepG_seq) ?_
  refine wk_go rfl (fun _ => stepG_region) ?_
  simp only [List.size_toArray, List.length_cons, List.length_nil, Nat.reduceAdd, Nat.zero_add, List.range, List.range.loop]
  refine wk_val (.bool true) rfl rfl (by decide) (fun w => by go_simp; try decide) (fun w => by simp [go_sem]) ?_
  walk_nrm
  refine wk_go rfl (fun _ => stepG_region_end) ?_
  refine wk_go rfl (fun _ => stepG_seq) ?_
  refine wk_go rfl (fun _ => stepG_cond (t := true) rfl) ?_
  simp only [if_true, if_false, Bool.false_eq_true, ↓reduceIte]
  refine wk_go rfl (fun _ => stepG_skip) ?_
  refine wk_go rfl (fun _ => stepG_seq) ?_
  refine wk_go rfl (fun _ => stepG_block) ?_
  refine wk_go rfl (fun _ => stepG_seq) ?_
  refine wk_go rfl (fun _ => stepG_region) ?_
  simp only [List.size_toArray, List.length_cons, List.length_nil, Nat.reduceAdd, Nat.zero_add, List.range, List.range.loop]
  refine wk_val (.pointer (some ⟨PB, 0, none⟩)) rfl rfl (by decide) (fun w => by go_simp; try decide) (fun w => by simp [go_sem]) ?_
  walk_nrm
  refine wk_load (.agg #[.int .i64 st, .int .i64 g1, .int .i64 g2, .int .i64 g3, .int .i64 g4]) rfl rfl (by decide) (fun w hw => ?_) ?_
  · obtain ⟨es, g5, g6⟩ := runT_loadAgg (P := prog) (t := 49) (n := 5) underlying49 sizeOf49 (w := w) (a := ⟨PB, 0, none⟩) (c := fun j => (#[.int .i64 st, .int .i64 g1, .int .i64 g2, .int .i64 g3, .int .i64 g4] : Array Value).getD j undef) (fun j hj => by
      rw [add_none, lowc w _ hw]
      match j, hj with
      | 0, _ => exact h0
      | 1, _ => exact h1
      | 2, _ => exact h2
      | 3, _ => exact h3
      | 4, _ => exact h4)
    refine ⟨es, runT_v g5, fun y hy => ?_⟩
    obtain ⟨j, hj, rfl⟩ := g6 y hy
    exact ⟨_, false, rfl, .inr (.inr ⟨rfl, by rw [add_none]; exact hPB⟩)⟩
  walk_nrm
  refine wk_alloc hLow hG.hC (.cells #[.int .i64 0, .int .i64 0, .int .i64 0, .int .i64 0, .int .i64 0] 49 (0, 0)) rfl rfl (by decide) (fun w => run_alloc zeroValue49 w) (fun b5 hb5 hne5 => ?_)
  walk_nrm
  refine wk_store (own' := (b5, .cells #[.int .i64 st, .int .i64 g1, .int .i64 g2, .int .i64 g3, .int .i64 g4] 49 (0, 0)) :: own) (t := 49) (n := 5) (bb := b5) (off := 0) (ety := 49) (cs0 := #[.int .i64 0, .int .i64 0, .int .i64 0, .int .i64 0, .int .i64 0]) (x := .agg #[.int .i64 st, .int .i64 g1, .int .i64 g2, .int .i64 g3, .int .i64 g4]) hG rfl rfl (by decide) rfl sizeOf49 rfl (by simp) (by simp [Value.cells]) (by simp)
    (by intro p hp; rcases List.mem_cons.1 hp with rfl | hp; exact hb5; exact hge p hp) rfl (by
      intro p hp
      rcases List.mem_cons.1 hp with rfl | hp
      · exact .inr rfl
      · exact .inl ⟨hne5 p hp, List.mem_cons_of_mem _ hp⟩) ?_
  walk_nrm
  refine wk_go rfl (fun _ => stepG_region_end) ?_
  refine wk_go rfl (fun _ => stepG_seq) ?_
  refine wk_go rfl (fun _ => stepG_region) ?_
  simp only [List.size_toArray, List.length_cons, List.length_nil, Nat.reduceAdd, Nat.zero_add, List.range, List.range.loop]
  refine wk_val (.pointer (some ⟨b5, 0, none⟩)) rfl rfl (by decide) (fun w => by go_simp; try decide) (fun w => by simp [go_sem]) ?_
  walk_nrm
  refine wk_load (.int .i64 st) rfl rfl (by decide) (fun w hw => ?_) ?_
  · exact ⟨_, runT_v (runT_loadOne underlying3 rfl (by have := hw.own _ List.mem_cons_self; simp only [World.cell?] at this ⊢; rw [this]; rfl)), fun y hy => by rw [Array.mem_singleton] at hy; subst hy; exact ⟨_, false, rfl, .inl List.mem_cons_self⟩⟩
  walk_nrm
  refine wk_val (.bool (st == 2)) rfl rfl (by decide) (fun w => by go_simp; try decide) (fun w => by simp [go_sem]) ?_
  walk_nrm
  refine wk_go rfl (fun _ => stepG_region_end) ?_
  refine wk_go rfl (fun _ => stepG_cond (t := st == 2) rfl) ?_
  by_cases hst : st = 2
  · have e2 : (st == 2) = true := by simp [hst]
    rw [e2, if_pos hst]
    simp only [if_true]
    refine wk_go rfl (fun _ => stepG_region) ?_
    simp only [List.size_toArray, List.length_cons, List.length_nil, Nat.reduceAdd, Nat.zero_add, List.range, List.range.loop]
    refine wk_val (.pointer (some ⟨b3, 1, none⟩)) rfl rfl (by decide) (fun w => by go_simp; try decide) (fun w => by simp [go_sem]) ?_
    walk_nrm
    refine wk_load (.int .i64 torn) rfl rfl (by decide) (fun w hw => ?_) ?_
    · exact ⟨_, runT_v (runT_loadOne underlying3 rfl (by have := hw.own _ (List.mem_cons_of_mem _ hb3); simp only [World.cell?] at this ⊢; rw [this]; rfl)), fun y hy => by rw [Array.mem_singleton] at hy; subst hy; exact ⟨_, false, rfl, .inl (List.mem_map.2 ⟨_, List.mem_cons_of_mem _ hb3, rfl⟩)⟩⟩
    walk_nrm
    refine wk_val (.int .i64 (IntKind.i64.wrap (torn + 1))) rfl rfl (by decide) (fun w => by go_simp; try decide) (fun w => by simp [go_sem]) ?_
    walk_nrm
    refine wk_val (.pointer (some ⟨b3, 1, none⟩)) rfl rfl (by decide) (fun w => by go_simp; try decide) (fun w => by simp [go_sem]) ?_
    walk_nrm
    have hne : ∀ p, p ∈ own → p.1 ≠ b5 := hne5
    refine wk_store (own' := (b5, .cells #[.int .i64 st, .int .i64 g1, .int .i64 g2, .int .i64 g3, .int .i64 g4] 49 (0, 0)) :: own.map (fun p => if p.1 = b3 then (b3, Obj.cells #[.int .i64 worn, .int .i64 (IntKind.i64.wrap (torn + 1))] 41 (0, 0)) else p)) (t := 3) (n := 1) (bb := b3) (off := 1) (ety := 41) (cs0 := #[.int .i64 worn, .int .i64 torn]) (x := .int .i64 (IntKind.i64.wrap (torn + 1))) hG rfl rfl (by decide) rfl sizeOf3 rfl (by simp) (by simp [Value.cells]) (List.mem_cons_of_mem _ hb3)
      (by intro p hp; rcases List.mem_cons.1 hp with rfl | hp; exact hb5; exact hge p hp) (by
        simp only [List.map_cons, List.map_map, List.cons.injEq, true_and]
        refine List.map_congr_left fun p hp => ?_
        simp only [Function.comp]
        split
        · rename_i h; exact h.symm
        · rfl) (by
        intro p hp
        rcases List.mem_cons.1 hp with rfl | hp
        · exact .inl ⟨(hne5 _ hb3).symm, List.mem_cons_self⟩
        · obtain ⟨q, hq, rfl⟩ := List.mem_map.1 hp
          split
          · exact .inr rfl
          · rename_i h; exact .inl ⟨h, List.mem_cons_of_mem _ hq⟩) ?_
    walk_nrm
    refine wk_go rfl (fun _ => stepG_region_end) ?_
    refine wk_go rfl (fun _ => stepG_inBlock) ?_
    refine wk_go rfl (fun _ => stepG_region) ?_
    simp only [List.size_toArray, List.length_cons, List.length_nil, Nat.reduceAdd, Nat.zero_add, List.range, List.range.loop]
    refine wk_val (.int .i64 1) rfl rfl (by decide) (fun w => by go_simp; try decide) (fun w => by simp [go_sem]) ?_
    walk_nrm
    refine wk_val (.int .i64 1) rfl rfl (by decide) (fun w => by go_simp; try decide) (fun w => by simp [go_sem]) ?_
    walk_nrm
    refine wk_go rfl (fun _ => stepG_region_end) ?_
    refine wk_go rfl (fun _ => stepG_inLoop) ?_
    refine hn b5 ((b5, .cells #[.int .i64 st, .int .i64 g1, .int .i64 g2, .int .i64 g3, .int .i64 g4] 49 (0, 0)) :: own.map (fun p => if p.1 = b3 then (b3, Obj.cells #[.int .i64 worn, .int .i64 (IntKind.i64.wrap (torn + 1))] 41 (0, 0)) else p)) _ _ _ _ _ _ _ _ _ _ _ _ _ _ _ _ _ _ _ hb5 ?_ ⟨_, List.mem_cons_of_mem _ (List.mem_map.2 ⟨_, hb3, if_pos rfl⟩)⟩ (fun p hp hne => List.mem_cons_of_mem _ (List.mem_map.2 ⟨p, hp, if_neg hne⟩))
    simp only [List.map_cons, List.map_map, List.cons.injEq, true_and]
    refine List.map_congr_left fun p hp => ?_
    simp only [Function.comp]
    split
    · rename_i h; exact h.symm
    · rfl
  · have e2 : (st == 2) = false := by simp [hst]
    rw [e2, if_neg hst]
    simp only [Bool.false_eq_true, if_false]
    refine wk_go rfl (fun _ => stepG_skip) ?_
    refine wk_go rfl (fun _ => stepG_inBlock) ?_
    refine wk_go rfl (fun _ => stepG_region) ?_
    simp only [List.size_toArray, List.length_cons, List.length_nil, Nat.reduceAdd, Nat.zero_add, List.range, List.range.loop]
    refine wk_val (.int .i64 1) rfl rfl (by decide) (fun w => by go_simp; try decide) (fun w => by simp [go_sem]) ?_
    walk_nrm
    refine wk_val (.int .i64 1) rfl rfl (by decide) (fun w => by go_simp; try decide) (fun w => by simp [go_sem]) ?_
    walk_nrm
    refine wk_go rfl (fun _ => stepG_region_end) ?_
    refine wk_go rfl (fun _ => stepG_inLoop) ?_
    exact hn b5 ((b5, .cells #[.int .i64 st, .int .i64 g1, .int .i64 g2, .int .i64 g3, .int .i64 g4] 49 (0, 0)) :: own) _ _ _ _ _ _ _ _ _ _ _ _ _ _ _ _ _ _ _ hb5 rfl ⟨_, List.mem_cons_of_mem _ hb3⟩ (fun p hp _ => List.mem_cons_of_mem _ hp)
set_option maxRecDepth 100000 in
set_option maxHeartbeats 4000000 in
theorem round1 (hG : Plan Wg C Low) (hLow : Low = Wg + 1) {PB pc b1 b2 b3 : Nat} {worn torn : Int} {st g1 g2 g3 g4 : Int} (hPB : PB < Low ∧ PB ≠ Wg ∧ PB ≠ C)
    (h0 : w₀.cell? ⟨PB, 5, none⟩ = some (.int .i64 st)) (h1 : w₀.cell? ⟨PB, 6, none⟩ = some (.int .i64 g1)) (h2 : w₀.cell? ⟨PB, 7, none⟩ = some (.int .i64 g2)) (h3 : w₀.cell? ⟨PB, 8, none⟩ = some (.int .i64 g3)) (h4 : w₀.cell? ⟨PB, 9, none⟩ = some (.int .i64 g4))
    {own : List (Nat × Obj)} {c : Frame} {cs : List Frame} {e : Nat} (hge : ∀ p, p ∈ own → Low ≤ p.1) (hb3 : (b3, Obj.cells #[.int .i64 worn, .int .i64 torn] 41 (0, 0)) ∈ own)
    (hn : ∀ (b5 : Nat) (own' : List (Nat × Obj)) (x0 x4 x5 x6 x7 x8 x9 x13 x14 x15 x16 x17 x18 x19 x20 x21 x22 x23 x24 : Value), Low ≤ b5 → own'.map Prod.fst = b5 :: own.map Prod.fst →
      (∃ torn', (b3, Obj.cells #[.int .i64 worn, .int .i64 torn'] 41 (0, 0)) ∈ own') → (∀ p, p ∈ own → p.1 ≠ b3 → p ∈ own') → (Wk Wg C Low i w₀ v) e own' (G ((base 24).at ⟨#[x0, .pointer (some ⟨b1, 0, none⟩), .pointer (some ⟨b2, 0, none⟩), .pointer (some ⟨b3, 0, none⟩), x4, x5, x6, x7, x8, x9, .slice (some ⟨PB, 0, none⟩) 4 pc, .int .i64 4, .int .i64 2, x13, x14, x15, x16, x17, x18, x19, x20, x21, x22, x23, x24], []⟩ [.code loop24, .inLoop loop24, .inBlock 0, .code tail24]) (c :: cs)))
    (x0 x4 x5 x6 x7 x8 x9 x13 x14 x15 x16 x17 x18 x19 x20 x21 x22 x23 x24 : Value) : (Wk Wg C Low i w₀ v) (e + (if st = 2 then 13 else 7) + 23) own (G ((base 24).at ⟨#[x0, .pointer (some ⟨b1, 0, none⟩), .pointer (some ⟨b2, 0, none⟩), .pointer (some ⟨b3, 0, none⟩), x4, x5, x6, x7, x8, x9, .slice (some ⟨PB, 0, none⟩) 4 pc, .int .i64 4, .int .i64 1, x13, x14, x15, x16, x17, x18, x19, x20, x21, x22, x23, x24], []⟩ [.code loop24, .inLoop loop24, .inBlock 0, .code tail24]) (c :: cs)) := by
  have lowc : ∀ (w : World) (own' : List (Nat × Obj)), KW Wg C Low w₀ own' w → ∀ off, w.cell? ⟨PB, off, none⟩ = w₀.cell? ⟨PB, off, none⟩ := fun w own' hw off => cell_of_block (hw.low PB hPB.1 hPB.2.1 hPB.2.2) off
  simp only [loop24, tail24, body24, f24, Option.getD_some] at hn ⊢
  refine wk_go rfl (fun _ => stepG_seq) ?_
  refine wk_go rfl (fun _ => stepG_region) ?_
  simp only [List.size_toArray, List.length_cons, List.length_nil, Nat.reduceAdd, Nat.zero_add, List.range, List.range.loop]
  refine wk_val (.bool true) rfl rfl (by decide) (fun w => by go_simp; try decide) (fun w => by simp [go_sem]) ?_
  walk_nrm
  refine wk_go rfl (fun _ => stepG_region_end) ?_
  refine wk_go rfl (fun _ => stepG_seq) ?_
  refine wk_go rfl (fun _ => stepG_cond (t := true) rfl) ?_
  simp only [if_true, if_false, Bool.false_eq_true, ↓reduceIte]
  refine wk_go rfl (fun _ => stepG_skip) ?_
  refine wk_go rfl (fun _ => stepG_seq) ?_
  refine wk_go rfl (fun _ => stepG_block) ?_
  refine wk_go rfl (fun _ => stepG_seq) ?_
  refine wk_go rfl (fun _ => stepG_region) ?_
  simp only [List.size_toArray, List.length_cons, List.length_nil, Nat.reduceAdd, Nat.zero_add, List.range, List.range.loop]
  refine wk_val (.pointer (some ⟨PB, 5, none⟩)) rfl rfl (by decide) (fun w => by go_simp; try decide) (fun w => by simp [go_sem]) ?_
  walk_nrm
  refine wk_load (.agg #[.int .i64 st, .int .i64 g1, .int .i64 g2, .int .i64 g3, .int .i64 g4]) rfl rfl (by decide) (fun w hw => ?_) ?_
  · obtain ⟨es, g5, g6⟩ := runT_loadAgg (P := prog) (t := 49) (n := 5) underlying49 sizeOf49 (w := w) (a := ⟨PB, 5, none⟩) (c := fun j => (#[.int .i64 st, .int .i64 g1, .int .i64 g2, .int .i64 g3, .int .i64 g4] : Array Value).getD j undef) (fun j hj => by
      rw [add_none, lowc w _ hw]
      match j, hj with
      | 0, _ => exact h0
      | 1, _ => exact h1
      | 2, _ => exact h2
      | 3, _ => exact h3
      | 4, _ => exact h4)
    refine ⟨es, runT_v g5, fun y hy => ?_⟩
    obtain ⟨j, hj, rfl⟩ := g6 y hy
    exact ⟨_, false, rfl, .inr (.inr ⟨rfl, by rw [add_none]; exact hPB⟩)⟩
  walk_nrm
  refine wk_alloc hLow hG.hC (.cells #[.int .i64 0, .int .i64 0, .int .i64 0, .int .i64 0, .int .i64 0] 49 (0, 0)) rfl rfl (by decide) (fun w => run_alloc zeroValue49 w) (fun b5 hb5 hne5 => ?_)
  walk_nrm
  refine wk_store (own' := (b5, .cells #[.int .i64 st, .int .i64 g1, .int .i64 g2, .int .i64 g3, .int .i64 g4] 49 (0, 0)) :: own) (t := 49) (n := 5) (bb := b5) (off := 0) (ety := 49) (cs0 := #[.int .i64 0, .int .i64 0, .int .i64 0, .int .i64 0, .int .i64 0]) (x := .agg #[.int .i64 st, .int .i64 g1, .int .i64 g2, .int .i64 g3, .int .i64 g4]) hG rfl rfl (by decide) rfl sizeOf49 rfl (by simp) (by simp [Value.cells]) (by simp)
    (by intro p hp; rcases List.mem_cons.1 hp with rfl | hp; exact hb5; exact hge p hp) rfl (by
      intro p hp
      rcases List.mem_cons.1 hp with rfl | hp
      · exact .inr rfl
      · exact .inl ⟨hne5 p hp, List.mem_cons_of_mem _ hp⟩) ?_
  walk_nrm
  refine wk_go rfl (fun _ => stepG_region_end) ?_
  refine wk_go rfl (fun _ => stepG_seq) ?_
  refine wk_go rfl (fun _ => stepG_region) ?_
  simp only [List.size_toArray, List.length_cons, List.length_nil, Nat.reduceAdd, Nat.zero_add, List.range, List.range.loop]
  refine wk_val (.pointer (some ⟨b5, 0, none⟩)) rfl rfl (by decide) (fun w => by go_simp; try decide) (fun w => by simp [go_sem]) ?_
  walk_nrm
  refine wk_load (.int .i64 st) rfl rfl (by decide) (fun w hw => ?_) ?_
  · exact ⟨_, runT_v (runT_loadOne underlying3 rfl (by have := hw.own _ List.mem_cons_self; simp only [World.cell?] at this ⊢; rw [this]; rfl)), fun y hy => by rw [Array.mem_singleton] at hy; subst hy; exact ⟨_, false, rfl, .inl List.mem_cons_self⟩⟩
  walk_nrm
  refine wk_val (.bool (st == 2)) rfl rfl (by decide) (fun w => by go_simp; try decide) (fun w => by simp [go_sem]) ?_
  walk_nrm
  refine wk_go rfl (fun _ => stepG_region_end) ?_
  refine wk_go rfl (fun _ => stepG_cond (t := st == 2) rfl) ?_
  by_cases hst : st = 2
  · have e2 : (st == 2) = true := by simp [hst]
    rw [e2, if_pos hst]
    simp only [if_true]
    refine wk_go rfl (fun _ => stepG_region) ?_
    simp only [List.size_toArray, List.length_cons, List.length_nil, Nat.reduceAdd, Nat.zero_add, List.range, List.range.loop]
    refine wk_val (.pointer (some ⟨b3, 1, none⟩)) rfl rfl (by decide) (fun w => by go_simp; try decide) (fun w => by simp [go_sem]) ?_
    walk_nrm
    refine wk_load (.int .i64 torn) rfl rfl (by decide) (fun w hw => ?_) ?_
    · exact ⟨_, runT_v (runT_loadOne underlying3 rfl (by have := hw.own _ (List.mem_cons_of_mem _ hb3); simp only [World.cell?] at this ⊢; rw [this]; rfl)), fun y hy => by rw [Array.mem_singleton] at hy; subst hy; exact ⟨_, false, rfl, .inl (List.mem_map.2 ⟨_, List.mem_cons_of_mem _ hb3, rfl⟩)⟩⟩
    walk_nrm
    refine wk_val (.int .i64 (IntKind.i64.wrap (torn + 1))) rfl rfl (by decide) (fun w => by go_simp; try decide) (fun w => by simp [go_sem]) ?_
    walk_nrm
    refine wk_val (.pointer (some ⟨b3, 1, none⟩)) rfl rfl (by decide) (fun w => by go_simp; try decide) (fun w => by simp [go_sem]) ?_
    walk_nrm
    have hne : ∀ p, p ∈ own → p.1 ≠ b5 := hne5
    refine wk_store (own' := (b5, .cells #[.int .i64 st, .int .i64 g1, .int .i64 g2, .int .i64 g3, .int .i64 g4] 49 (0, 0)) :: own.map (fun p => if p.1 = b3 then (b3, Obj.cells #[.int .i64 worn, .int .i64 (IntKind.i64.wrap (torn + 1))] 41 (0, 0)) else p)) (t := 3) (n := 1) (bb := b3) (off := 1) (ety := 41) (cs0 := #[.int .i64 worn, .int .i64 torn]) (x := .int .i64 (IntKind.i64.wrap (torn + 1))) hG rfl rfl (by decide) rfl sizeOf3 rfl (by simp) (by simp [Value.cells]) (List.mem_cons_of_mem _ hb3)
      (by intro p hp; rcases List.mem_cons.1 hp with rfl | hp; exact hb5; exact hge p hp) (by
        simp only [List.map_cons, List.map_map, List.cons.injEq, true_and]
        refine List.map_congr_left fun p hp => ?_
        simp only [Function.comp]
        split
        · rename_i h; exact h.symm
        · rfl) (by
        intro p hp
        rcases List.mem_cons.1 hp with rfl | hp
        · exact .inl ⟨(hne5 _ hb3).symm, List.mem_cons_self⟩
        · obtain ⟨q, hq, rfl⟩ := List.mem_map.1 hp
          split
          · exact .inr rfl
          · rename_i h; exact .inl ⟨h, List.mem_cons_of_mem _ hq⟩) ?_
    walk_nrm
    refine wk_go rfl (fun _ => stepG_region_end) ?_
    refine wk_go rfl (fun _ => stepG_inBlock) ?_
    refine wk_go rfl (fun _ => stepG_region) ?_
    simp only [List.size_toArray, List.length_cons, List.length_nil, Nat.reduceAdd, Nat.zero_add, List.range, List.range.loop]
    refine wk_val (.int .i64 2) rfl rfl (by decide) (fun w => by go_simp; try decide) (fun w => by simp [go_sem]) ?_
    walk_nrm
    refine wk_val (.int .i64 2) rfl rfl (by decide) (fun w => by go_simp; try decide) (fun w => by simp [go_sem]) ?_
    walk_nrm
    refine wk_go rfl (fun _ => stepG_region_end) ?_
    refine wk_go rfl (fun _ => stepG_inLoop) ?_
    refine hn b5 ((b5, .cells #[.int .i64 st, .int .i64 g1, .int .i64 g2, .int .i64 g3, .int .i64 g4] 49 (0, 0)) :: own.map (fun p => if p.1 = b3 then (b3, Obj.cells #[.int .i64 worn, .int .i64 (IntKind.i64.wrap (torn + 1))] 41 (0, 0)) else p)) _ _ _ _ _ _ _ _ _ _ _ _ _ _ _ _ _ _ _ hb5 ?_ ⟨_, List.mem_cons_of_mem _ (List.mem_map.2 ⟨_, hb3, if_pos rfl⟩)⟩ (fun p hp hne => List.mem_cons_of_mem _ (List.mem_map.2 ⟨p, hp, if_neg hne⟩))
    simp only [List.map_cons, List.map_map, List.cons.injEq, true_and]
    refine List.map_congr_left fun p hp => ?_
    simp only [Function.comp]
    split
    · rename_i h; exact h.symm
    · rfl
  · have e2 : (st == 2) = false := by simp [hst]
    rw [e2, if_neg hst]
    simp only [Bool.false_eq_true, if_false]
    refine wk_go rfl (fun _ => stepG_skip) ?_
    refine wk_go rfl (fun _ => stepG_inBlock) ?_
    refine wk_go rfl (fun _ => stepG_region) ?_
    simp only [List.size_toArray, List.length_cons, List.length_nil, Nat.reduceAdd, Nat.zero_add, List.range, List.range.loop]
    refine wk_val (.int .i64 2) rfl rfl (by decide) (fun w => by go_simp; try decide) (fun w => by simp [go_sem]) ?_
    walk_nrm
    refine wk_val (.int .i64 2) rfl rfl (by decide) (fun w => by go_simp; try decide) (fun w => by simp [go_sem]) ?_
    walk_nrm
    refine wk_go rfl (fun _ => stepG_region_end) ?_
    refine wk_go rfl (fun _ => stepG_inLoop) ?_
    exact hn b5 ((b5, .cells #[.int .i64 st, .int .i64 g1, .int .i64 g2, .int .i64 g3, .int .i64 g4] 49 (0, 0)) :: own) _ _ _ _ _ _ _ _ _ _ _ _ _ _ _ _ _ _ _ hb5 rfl ⟨_, List.mem_cons_of_mem _ hb3⟩ (fun p hp _ => List.mem_cons_of_mem _ hp)
set_option maxRecDepth 100000 in
set_option maxHeartbeats 4000000 in
theorem round2 (hG : Plan Wg C Low) (hLow : Low = Wg + 1) {PB pc b1 b2 b3 : Nat} {worn torn : Int} {st g1 g2 g3 g4 : Int} (hPB : PB < Low ∧ PB ≠ Wg ∧ PB ≠ C)
    (h0 : w₀.cell? ⟨PB, 10, none⟩ = some (.int .i64 st)) (h1 : w₀.cell? ⟨PB, 11, none⟩ = some (.int .i64 g1)) (h2 : w₀.cell? ⟨PB, 12, none⟩ = some (.int .i64 g2)) (h3 : w₀.cell? ⟨PB, 13, none⟩ = some (.int .i64 g3)) (h4 : w₀.cell? ⟨PB, 14, none⟩ = some (.int .i64 g4))
    {own : List (Nat × Obj)} {c : Frame} {cs : List Frame} {e : Nat} (hge : ∀ p, p ∈ own → Low ≤ p.1) (hb3 : (b3, Obj.cells #[.int .i64 worn, .int .i64 torn] 41 (0, 0)) ∈ own)
    (hn : ∀ (b5 : Nat) (own' : List (Nat × Obj)) (x0 x4 x5 x6 x7 x8 x9 x13 x14 x15 x16 x17 x18 x19 x20 x21 x22 x23 x24 : Value), Low ≤ b5 → own'.map Prod.fst = b5 :: own.map Prod.fst →
      (∃ torn', (b3, Obj.cells #[.int .i64 worn, .int .i64 torn'] 41 (0, 0)) ∈ own') → (∀ p, p ∈ own → p.1 ≠ b3 → p ∈ own') → (Wk Wg C Low i w₀ v) e own' (G ((base 24).at ⟨#[x0, .pointer (some ⟨b1, 0, none⟩), .pointer (some ⟨b2, 0, none⟩), .pointer (some ⟨b3, 0, none⟩), x4, x5, x6, x7, x8, x9, .slice (some ⟨PB, 0, none⟩) 4 pc, .int .i64 4, .int .i64 3, x13, x14, x15, x16, x17, x18, x19, x20, x21, x22, x23, x24], []⟩ [.code loop24, .inLoop loop24, .inBlock 0, .code tail24]) (c :: cs)))
    (x0 x4 x5 x6 x7 x8 x9 x13 x14 x15 x16 x17 x18 x19 x20 x21 x22 x23 x24 : Value) : (Wk Wg C Low i w₀ v) (e + (if st = 2 then 13 else 7) + 23) own (G ((base 24).at ⟨#[x0, .pointer (some ⟨b1, 0, none⟩), .pointer (some ⟨b2, 0, none⟩), .pointer (some ⟨b3, 0, none⟩), x4, x5, x6, x7, x8, x9, .slice (some ⟨PB, 0, none⟩) 4 pc, .int .i64 4, .int .i64 2, x13, x14, x15, x16, x17, x18, x19, x20, x21, x22, x23, x24], []⟩ [.code loop24, .inLoop loop24, .inBlock 0, .code tail24]) (c :: cs)) := by
  have lowc : ∀ (w : World) (own' : List (Nat × Obj)), KW Wg C Low w₀ own' w → ∀ off, w.cell? ⟨PB, off, none⟩ = w₀.cell? ⟨PB, off, none⟩ := fun w own' hw off => cell_of_block (hw.low PB hPB.1 hPB.2.1 hPB.2.2) off
  simp only [loop24, tail24, body24, f24, Option.getD_some] at hn ⊢
  refine wk_go rfl (fun _ => stepG_seq) ?_
  refine wk_go rfl (fun _ => stepG_region) ?_
  simp only [List.size_toArray, List.length_cons, List.length_nil, Nat.reduceAdd, Nat.zero_add, List.range, List.range.loop]
  refine wk_val (.bool true) rfl rfl (by decide) (fun w => by go_simp; try decide) (fun w => by simp [go_sem]) ?_
  walk_nrm
  refine wk_go rfl (fun _ => stepG_region_end) ?_
  refine wk_go rfl (fun _ => stepG_seq) ?_
  refine wk_go rfl (fun _ => stepG_cond (t := true) rfl) ?_
  simp only [if_true, if_false, Bool.false_eq_true, ↓reduceIte]
  refine wk_go rfl (fun _ => stepG_skip) ?_
  refine wk_go rfl (fun _ => stepG_seq) ?_
  refine wk_go rfl (fun _ => stepG_block) ?_
  refine wk_go rfl (fun _ => stepG_seq) ?_
  refine wk_go rfl (fun _ => stepG_region) ?_
  simp only [List.size_toArray, List.length_cons, List.length_nil, Nat.reduceAdd, Nat.zero_add, List.range, List.range.loop]
  refine wk_val (.pointer (some ⟨PB, 10, none⟩)) rfl rfl (by decide) (fun w => by go_simp; try decide) (fun w => by simp [go_sem]) ?_
  walk_nrm
  refine wk_load (.agg #[.int .i64 st, .int .i64 g1, .int .i64 g2, .int .i64 g3, .int .i64 g4]) rfl rfl (by decide) (fun w hw => ?_) ?_
  · obtain ⟨es, g5, g6⟩ := runT_loadAgg (P := prog) (t := 49) (n := 5) underlying49 sizeOf49 (w := w) (a := ⟨PB, 10, none⟩) (c := fun j => (#[.int .i64 st, .int .i64 g1, .int .i64 g2, .int .i64 g3, .int .i64 g4] : Array Value).getD j undef) (fun j hj => by
      rw [add_none, lowc w _ hw]
      match j, hj with
      | 0, _ => exact h0
      | 1, _ => exact h1
      | 2, _ => exact h2
      | 3, _ => exact h3
      | 4, _ => exact h4)
    refine ⟨es, runT_v g5, fun y hy => ?_⟩
    obtain ⟨j, hj, rfl⟩ := g6 y hy
    exact ⟨_, false, rfl, .inr (.inr ⟨rfl, by rw [add_none]; exact hPB⟩)⟩
  walk_nrm
  refine wk_alloc hLow hG.hC (.cells #[.int .i64 0, .int .i64 0, .int .i64 0, .int .i64 0, .int .i64 0] 49 (0, 0)) rfl rfl (by decide) (fun w => run_alloc zeroValue49 w) (fun b5 hb5 hne5 => ?_)
  walk_nrm
  refine wk_store (own' := (b5, .cells #[.int .i64 st, .int .i64 g1, .int .i64 g2, .int .i64 g3, .int .i64 g4] 49 (0, 0)) :: own) (t := 49) (n := 5) (bb := b5) (off := 0) (ety := 49) (cs0 := #[.int .i64 0, .int .i64 0, .int .i64 0, .int .i64 0, .int .i64 0]) (x := .agg #[.int .i64 st, .int .i64 g1, .int .i64 g2, .int .i64 g3, .int .i64 g4]) hG rfl rfl (by decide) rfl sizeOf49 rfl (by simp) (by simp [Value.cells]) (by simp)
    (by intro p hp; rcases List.mem_cons.1 hp with rfl | hp; exact hb5; exact hge p hp) rfl (by
      intro p hp
      rcases List.mem_cons.1 hp with rfl | hp
      · exact .inr rfl
      · exact .inl ⟨hne5 p hp, List.mem_cons_of_mem _ hp⟩) ?_
  walk_nrm
  refine wk_go rfl (fun _ => stepG_region_end) ?_
  refine wk_go rfl (fun _ => stepG_seq) ?_
  refine wk_go rfl (fun _ => stepG_region) ?_
  simp only [List.size_toArray, List.length_cons, List.length_nil, Nat.reduceAdd, Nat.zero_add, List.range, List.range.loop]
  refine wk_val (.pointer (some ⟨b5, 0, none⟩)) rfl rfl (by decide) (fun w => by go_simp; try decide) (fun w => by simp [go_sem]) ?_
  walk_nrm
  refine wk_load (.int .i64 st) rfl rfl (by decide) (fun w hw => ?_) ?_
  · exact ⟨_, runT_v (runT_loadOne underlying3 rfl (by have := hw.own _ List.mem_cons_self; simp only [World.cell?] at this ⊢; rw [this]; rfl)), fun y hy => by rw [Array.mem_singleton] at hy; subst hy; exact ⟨_, false, rfl, .inl List.mem_cons_self⟩⟩
  walk_nrm
  refine wk_val (.bool (st == 2)) rfl rfl (by decide) (fun w => by go_simp; try decide) (fun w => by simp [go_sem]) ?_
  walk_nrm
  refine wk_go rfl (fun _ => stepG_region_end) ?_
  refine wk_go rfl (fun _ => stepG_cond (t := st == 2) rfl) ?_
  by_cases hst : st = 2
  · have e2 : (st == 2) = true := by simp [hst]
    rw [e2, if_pos hst]
    simp only [if_true]
    refine wk_go rfl (fun _ => stepG_region) ?_
    simp only [List.size_toArray, List.length_cons, List.length_nil, Nat.reduceAdd, Nat.zero_add, List.range, List.range.loop]
    refine wk_val (.pointer (some ⟨b3, 1, none⟩)) rfl rfl (by decide) (fun w => by go_simp; try decide) (fun w => by simp [go_sem]) ?_
    walk_nrm
    refine wk_load (.int .i64 torn) rfl rfl (by decide) (fun w hw => ?_) ?_
    · exact ⟨_, runT_v (runT_loadOne underlying3 rfl (by have := hw.own _ (List.mem_cons_of_mem _ hb3); simp only [World.cell?] at this ⊢; rw [this]; rfl)), fun y hy => by rw [Array.mem_singleton] at hy; subst hy; exact ⟨_, false, rfl, .inl (List.mem_map.2 ⟨_, List.mem_cons_of_mem _ hb3, rfl⟩)⟩⟩
    walk_nrm
    refine wk_val (.int .i64 (IntKind.i64.wrap (torn + 1))) rfl rfl (by decide) (fun w => by go_simp; try decide) (fun w => by simp [go_sem]) ?_
    walk_nrm
    refine wk_val (.pointer (some ⟨b3, 1, none⟩)) rfl rfl (by decide) (fun w => by go_simp; try decide) (fun w => by simp [go_sem]) ?_
    walk_nrm
    have hne : ∀ p, p ∈ own → p.1 ≠ b5 := hne5
    refine wk_store (own' := (b5, .cells #[.int .i64 st, .int .i64 g1, .int .i64 g2, .int .i64 g3, .int .i64 g4] 49 (0, 0)) :: own.map (fun p => if p.1 = b3 then (b3, Obj.cells #[.int .i64 worn, .int .i64 (IntKind.i64.wrap (torn + 1))] 41 (0, 0)) else p)) (t := 3) (n := 1) (bb := b3) (off := 1) (ety := 41) (cs0 := #[.int .i64 worn, .int .i64 torn]) (x := .int .i64 (IntKind.i64.wrap (torn + 1))) hG rfl rfl (by decide) rfl sizeOf3 rfl (by simp) (by simp [Value.cells]) (List.mem_cons_of_mem _ hb3)
      (by intro p hp; rcases List.mem_cons.1 hp with rfl | hp; exact hb5; exact hge p hp) (by
        simp only [List.map_cons, List.map_map, List.cons.injEq, true_and]
        refine List.map_congr_left fun p hp => ?_
        simp only [Function.comp]
        split
        · rename_i h; exact h.symm
        · rfl) (by
        intro p hp
        rcases List.mem_cons.1 hp with rfl | hp
        · exact .inl ⟨(hne5 _ hb3).symm, List.mem_cons_self⟩
        · obtain ⟨q, hq, rfl⟩ := List.mem_map.1 hp
          split
          · exact .inr rfl
          · rename_i h; exact .inl ⟨h, List.mem_cons_of_mem _ hq⟩) ?_
    walk_nrm
    refine wk_go rfl (fun _ => stepG_region_end) ?_
    refine wk_go rfl (fun _ => stepG_inBlock) ?_
    refine wk_go rfl (fun _ => stepG_region) ?_
    simp only [List.size_toArray, List.length_cons, List.length_nil, Nat.reduceAdd, Nat.zero_add, List.range, List.range.loop]
    refine wk_val (.int .i64 3) rfl rfl (by decide) (fun w => by go_simp; try decide) (fun w => by simp [go_sem]) ?_
    walk_nrm
    refine wk_val (.int .i64 3) rfl rfl (by decide) (fun w => by go_simp; try decide) (fun w => by simp [go_sem]) ?_
    walk_nrm
    refine wk_go rfl (fun _ => stepG_region_end) ?_
    refine wk_go rfl (fun _ => stepG_inLoop) ?_
    refine hn b5 ((b5, .cells #[.int .i64 st, .int .i64 g1, .int .i64 g2, .int .i64 g3, .int .i64 g4] 49 (0, 0)) :: own.map (fun p => if p.1 = b3 then (b3, Obj.cells #[.int .i64 worn, .int .i64 (IntKind.i64.wrap (torn + 1))] 41 (0, 0)) else p)) _ _ _ _ _ _ _ _ _ _ _ _ _ _ _ _ _ _ _ hb5 ?_ ⟨_, List.mem_cons_of_mem _ (List.mem_map.2 ⟨_, hb3, if_pos rfl⟩)⟩ (fun p hp hne => List.mem_cons_of_mem _ (List.mem_map.2 ⟨p, hp, if_neg hne⟩))
    simp only [List.map_cons, List.map_map, List.cons.injEq, true_and]
    refine List.map_congr_left fun p hp => ?_
    simp only [Function.comp]
    split
    · rename_i h; exact h.symm
    · rfl
  · have e2 : (st == 2) = false := by simp [hst]
    rw [e2, if_neg hst]
    simp only [Bool.false_eq_true, if_false]
    refine wk_go rfl (fun _ => stepG_skip) ?_
    refine wk_go rfl (fun _ => stepG_inBlock) ?_
    refine wk_go rfl (fun _ => stepG_region) ?_
    simp only [List.size_toArray, List.length_cons, List.length_nil, Nat.reduceAdd, Nat.zero_add, List.range, List.range.loop]
    refine wk_val (.int .i64 3) rfl rfl (by decide) (fun w => by go_simp; try decide) (fun w => by simp [go_sem]) ?_
    walk_nrm
    refine wk_val (.int .i64 3) rfl rfl (by decide) (fun w => by go_simp; try decide) (fun w => by simp [go_sem]) ?_
    walk_nrm
    refine wk_go rfl (fun _ => stepG_region_end) ?_
    refine wk_go rfl (fun _ => stepG_inLoop) ?_
    exact hn b5 ((b5, .cells #[.int .i64 st, .int .i64 g1, .int .i64 g2, .int .i64 g3, .int .i64 g4] 49 (0, 0)) :: own) _ _ _ _ _ _ _ _ _ _ _ _ _ _ _ _ _ _ _ hb5 rfl ⟨_, List.mem_cons_of_mem _ hb3⟩ (fun p hp _ => List.mem_cons_of_mem _ hp)
set_option maxRecDepth 100000 in
set_option maxHeartbeats 4000000 in
theorem round3 (hG : Plan Wg C Low) (hLow : Low = Wg + 1) {PB pc b1 b2 b3 : Nat} {worn torn : Int} {st g1 g2 g3 g4 : Int} (hPB : PB < Low ∧ PB ≠ Wg ∧ PB ≠ C)
    (h0 : w₀.cell? ⟨PB, 15, none⟩ = some (.int .i64 st)) (h1 : w₀.cell? ⟨PB, 16, none⟩ = some (.int .i64 g1)) (h2 : w₀.cell? ⟨PB, 17, none⟩ = some (.int .i64 g2)) (h3 : w₀.cell? ⟨PB, 18, none⟩ = some (.int .i64 g3)) (h4 : w₀.cell? ⟨PB, 19, none⟩ = some (.int .i64 g4))
    {own : List (Nat × Obj)} {c : Frame} {cs : List Frame} {e : Nat} (hge : ∀ p, p ∈ own → Low ≤ p.1) (hb3 : (b3, Obj.cells #[.int .i64 worn, .int .i64 torn] 41 (0, 0)) ∈ own)
    (hn : ∀ (b5 : Nat) (own' : List (Nat × Obj)) (x0 x4 x5 x6 x7 x8 x9 x13 x14 x15 x16 x17 x18 x19 x20 x21 x22 x23 x24 : Value), Low ≤ b5 → own'.map Prod.fst = b5 :: own.map Prod.fst →
      (∃ torn', (b3, Obj.cells #[.int .i64 worn, .int .i64 torn'] 41 (0, 0)) ∈ own') → (∀ p, p ∈ own → p.1 ≠ b3 → p ∈ own') → (Wk Wg C Low i w₀ v) e own' (G ((base 24).at ⟨#[x0, .pointer (some ⟨b1, 0, none⟩), .pointer (some ⟨b2, 0, none⟩), .pointer (some ⟨b3, 0, none⟩), x4, x5, x6, x7, x8, x9, .slice (some ⟨PB, 0, none⟩) 4 pc, .int .i64 4, .int .i64 4, x13, x14, x15, x16, x17, x18, x19, x20, x21, x22, x23, x24], []⟩ [.code loop24, .inLoop loop24, .inBlock 0, .code tail24]) (c :: cs)))
    (x0 x4 x5 x6 x7 x8 x9 x13 x14 x15 x16 x17 x18 x19 x20 x21 x22 x23 x24 : Value) : (Wk Wg C Low i w₀ v) (e + (if st = 2 then 13 else 7) + 23) own (G ((base 24).at ⟨#[x0, .pointer (some ⟨b1, 0, none⟩), .pointer (some ⟨b2, 0, none⟩), .pointer (some ⟨b3, 0, none⟩), x4, x5, x6, x7, x8, x9, .slice (some ⟨PB, 0, none⟩) 4 pc, .int .i64 4, .int .i64 3, x13, x14, x15, x16, x17, x18, x19, x20, x21, x22, x23, x24], []⟩ [.code loop24, .inLoop loop24, .inBlock 0, .code tail24]) (c :: cs)) := by
  have lowc : ∀ (w : World) (own' : List (Nat × Obj)), KW Wg C Low w₀ own' w → ∀ off, w.cell? ⟨PB, off, none⟩ = w₀.cell? ⟨PB, off, none⟩ := fun w own' hw off => cell_of_block (hw.low PB hPB.1 hPB.2.1 hPB.2.2) off
  simp only [loop24, tail24, body24, f24, Option.getD_some] at hn ⊢
  refine wk_go rfl (fun _ => stepG_seq) ?_
  refine wk_go rfl (fun _ => stepG_region) ?_
  simp only [List.size_toArray, List.length_cons, List.length_nil, Nat.reduceAdd, Nat.zero_add, List.range, List.range.loop]
  refine wk_val (.bool true) rfl rfl (by decide) (fun w => by go_simp; try decide) (fun w => by simp [go_sem]) ?_
  walk_nrm
  refine wk_go rfl (fun _ => stepG_region_end) ?_
  refine wk_go rfl (fun _ => stepG_seq) ?_
  refine wk_go rfl (fun _ => stepG_cond (t := true) rfl) ?_
  simp only [if_true, if_false, Bool.false_eq_true, ↓reduceIte]
  refine wk_go rfl (fun _ => stepG_skip) ?_
  refine wk_go rfl (fun _ => stepG_seq) ?_
  refine wk_go rfl (fun _ => stepG_block) ?_
  refine wk_go rfl (fun _ => stepG_seq) ?_
  refine wk_go rfl (fun _ => stepG_region) ?_
  simp only [List.size_toArray, List.length_cons, List.length_nil, Nat.reduceAdd, Nat.zero_add, List.range, List.range.loop]
  refine wk_val (.pointer (some ⟨PB, 15, none⟩)) rfl rfl (by decide) (fun w => by go_simp; try decide) (fun w => by simp [go_sem]) ?_
  walk_nrm
  refine wk_load (.agg #[.int .i64 st, .int .i64 g1, .int .i64 g2, .int .i64 g3, .int .i64 g4]) rfl rfl (by decide) (fun w hw => ?_) ?_
  · obtain ⟨es, g5, g6⟩ := runT_loadAgg (P := prog) (t := 49) (n := 5) underlying49 sizeOf49 (w := w) (a := ⟨PB, 15, none⟩) (c := fun j => (#[.int .i64 st, .int .i64 g1, .int .i64 g2, .int .i64 g3, .int .i64 g4] : Array Value).getD j undef) (fun j hj => by
      rw [add_none, lowc w _ hw]
      match j, hj with
      | 0, _ => exact h0
      | 1, _ => exact h1
      | 2, _ => exact h2
      | 3, _ => exact h3
      | 4, _ => exact h4)
    refine ⟨es, runT_v g5, fun y hy => ?_⟩
    obtain ⟨j, hj, rfl⟩ := g6 y hy
    exact ⟨_, false, rfl, .inr (.inr ⟨rfl, by rw [add_none]; exact hPB⟩)⟩
  walk_nrm
  refine wk_alloc hLow hG.hC (.cells #[.int .i64 0, .int .i64 0, .int .i64 0, .int .i64 0, .int .i64 0] 49 (0, 0)) rfl rfl (by decide) (fun w => run_alloc zeroValue49 w) (fun b5 hb5 hne5 => ?_)
  walk_nrm
  refine wk_store (own' := (b5, .cells #[.int .i64 st, .int .i64 g1, .int .i64 g2, .int .i64 g3, .int .i64 g4] 49 (0, 0)) :: own) (t := 49) (n := 5) (bb := b5) (off := 0) (ety := 49) (cs0 := #[.int .i64 0, .int .i64 0, .int .i64 0, .int .i64 0, .int .i64 0]) (x := .agg #[.int .i64 st, .int .i64 g1, .int .i64 g2, .int .i64 g3, .int .i64 g4]) hG rfl rfl (by decide) rfl sizeOf49 rfl (by simp) (by simp [Value.cells]) (by simp)
    (by intro p hp; rcases List.mem_cons.1 hp with rfl | hp; exact hb5; exact hge p hp) rfl (by
      intro p hp
      rcases List.mem_cons.1 hp with rfl | hp
      · exact .inr rfl
      · exact .inl ⟨hne5 p hp, List.mem_cons_of_mem _ hp⟩) ?_
  walk_nrm
  refine wk_go rfl (fun _ => stepG_region_end) ?_
  refine wk_go rfl (fun _ => stepG_seq) ?_
  refine wk_go rfl (fun _ => stepG_region) ?_
  simp only [List.size_toArray, List.length_cons, List.length_nil, Nat.reduceAdd, Nat.zero_add, List.range, List.range.loop]
  refine wk_val (.pointer (some ⟨b5, 0, none⟩)) rfl rfl (by decide) (fun w => by go_simp; try decide) (fun w => by simp [go_sem]) ?_
  walk_nrm
  refine wk_load (.int .i64 st) rfl rfl (by decide) (fun w hw => ?_) ?_
  · exact ⟨_, runT_v (runT_loadOne underlying3 rfl (by have := hw.own _ List.mem_cons_self; simp only [World.cell?] at this ⊢; rw [this]; rfl)), fun y hy => by rw [Array.mem_singleton] at hy; subst hy; exact ⟨_, false, rfl, .inl List.mem_cons_self⟩⟩
  walk_nrm
  refine wk_val (.bool (st == 2)) rfl rfl (by decide) (fun w => by go_simp; try decide) (fun w => by simp [go_sem]) ?_
  walk_nrm
  refine wk_go rfl (fun _ => stepG_region_end) ?_
  refine wk_go rfl (fun _ => stepG_cond (t := st == 2) rfl) ?_
  by_cases hst : st = 2
  · have e2 : (st == 2) = true := by simp [hst]
    rw [e2, if_pos hst]
    simp only [if_true]
    refine wk_go rfl (fun _ => stepG_region) ?_
    simp only [List.size_toArray, List.length_cons, List.length_nil, Nat.reduceAdd, Nat.zero_add, List.range, List.range.loop]
    refine wk_val (.pointer (some ⟨b3, 1, none⟩)) rfl rfl (by decide) (fun w => by go_simp; try decide) (fun w => by simp [go_sem]) ?_
    walk_nrm
    refine wk_load (.int .i64 torn) rfl rfl (by decide) (fun w hw => ?_) ?_
    · exact ⟨_, runT_v (runT_loadOne underlying3 rfl (by have := hw.own _ (List.mem_cons_of_mem _ hb3); simp only [World.cell?] at this ⊢; rw [this]; rfl)), fun y hy => by rw [Array.mem_singleton] at hy; subst hy; exact ⟨_, false, rfl, .inl (List.mem_map.2 ⟨_, List.mem_cons_of_mem _ hb3, rfl⟩)⟩⟩
    walk_nrm
    refine wk_val (.int .i64 (IntKind.i64.wrap (torn + 1))) rfl rfl (by decide) (fun w => by go_simp; try decide) (fun w => by simp [go_sem]) ?_
    walk_nrm
    refine wk_val (.pointer (some ⟨b3, 1, none⟩)) rfl rfl (by decide) (fun w => by go_simp; try decide) (fun w => by simp [go_sem]) ?_
    walk_nrm
    have hne : ∀ p, p ∈ own → p.1 ≠ b5 := hne5
    refine wk_store (own' := (b5, .cells #[.int .i64 st, .int .i64 g1, .int .i64 g2, .int .i64 g3, .int .i64 g4] 49 (0, 0)) :: own.map (fun p => if p.1 = b3 then (b3, Obj.cells #[.int .i64 worn, .int .i64 (IntKind.i64.wrap (torn + 1))] 41 (0, 0)) else p)) (t := 3) (n := 1) (bb := b3) (off := 1) (ety := 41) (cs0 := #[.int .i64 worn, .int .i64 torn]) (x := .int .i64 (IntKind.i64.wrap (torn + 1))) hG rfl rfl (by decide) rfl sizeOf3 rfl (by simp) (by simp [Value.cells]) (List.mem_cons_of_mem _ hb3)
      (by intro p hp; rcases List.mem_cons.1 hp with rfl | hp; exact hb5; exact hge p hp) (by
        simp only [List.map_cons, List.map_map, List.cons.injEq, true_and]
        refine List.map_congr_left fun p hp => ?_
        simp only [Function.comp]
        split
        · rename_i h; exact h.symm
        · rfl) (by
        intro p hp
        rcases List.mem_cons.1 hp with rfl | hp
        · exact .inl ⟨(hne5 _ hb3).symm, List.mem_cons_self⟩
        · obtain ⟨q, hq, rfl⟩ := List.mem_map.1 hp
          split
          · exact .inr rfl
          · rename_i h; exact .inl ⟨h, List.mem_cons_of_mem _ hq⟩) ?_
    walk_nrm
    refine wk_go rfl (fun _ => stepG_region_end) ?_
    refine wk_go rfl (fun _ => stepG_inBlock) ?_
    refine wk_go rfl (fun _ => stepG_region) ?_
    simp only [List.size_toArray, List.length_cons, List.length_nil, Nat.reduceAdd, Nat.zero_add, List.range, List.range.loop]
    refine wk_val (.int .i64 4) rfl rfl (by decide) (fun w => by go_simp; try decide) (fun w => by simp [go_sem]) ?_
    walk_nrm
    refine wk_val (.int .i64 4) rfl rfl (by decide) (fun w => by go_simp; try decide) (fun w => by simp [go_sem]) ?_
    walk_nrm
    refine wk_go rfl (fun _ => stepG_region_end) ?_
    refine wk_go rfl (fun _ => stepG_inLoop) ?_
    refine hn b5 ((b5, .cells #[.int .i64 st, .int .i64 g1, .int .i64 g2, .int .i64 g3, .int .i64 g4] 49 (0, 0)) :: own.map (fun p => if p.1 = b3 then (b3, Obj.cells #[.int .i64 worn, .int .i64 (IntKind.i64.wrap (torn + 1))] 41 (0, 0)) else p)) _ _ _ _ _ _ _ _ _ _ _ _ _ _ _ _ _ _ _ hb5 ?_ ⟨_, List.mem_cons_of_mem _ (List.mem_map.2 ⟨_, hb3, if_pos rfl⟩)⟩ (fun p hp hne => List.mem_cons_of_mem _ (List.mem_map.2 ⟨p, hp, if_neg hne⟩))
    simp only [List.map_cons, List.map_map, List.cons.injEq, true_and]
    refine List.map_congr_left fun p hp => ?_
    simp only [Function.comp]
    split
    · rename_i h; exact h.symm
    · rfl
  · have e2 : (st == 2) = false := by simp [hst]
    rw [e2, if_neg hst]
    simp only [Bool.false_eq_true, if_false]
    refine wk_go rfl (fun _ => stepG_skip) ?_
    refine wk_go rfl (fun _ => stepG_inBlock) ?_
    refine wk_go rfl (fun _ => stepG_region) ?_
    simp only [List.size_toArray, List.length_cons, List.length_nil, Nat.reduceAdd, Nat.zero_add, List.range, List.range.loop]
    refine wk_val (.int .i64 4) rfl rfl (by decide) (fun w => by go_simp; try decide) (fun w => by simp [go_sem]) ?_
    walk_nrm
    refine wk_val (.int .i64 4) rfl rfl (by decide) (fun w => by go_simp; try decide) (fun w => by simp [go_sem]) ?_
    walk_nrm
    refine wk_go rfl (fun _ => stepG_region_end) ?_
    refine wk_go rfl (fun _ => stepG_inLoop) ?_
    exact hn b5 ((b5, .cells #[.int .i64 st, .int .i64 g1, .int .i64 g2, .int .i64 g3, .int .i64 g4] 49 (0, 0)) :: own) _ _ _ _ _ _ _ _ _ _ _ _ _ _ _ _ _ _ _ hb5 rfl ⟨_, List.mem_cons_of_mem _ hb3⟩ (fun p hp _ => List.mem_cons_of_mem _ hp)
end
end Go.Proofs.YtgdlakhfkmhlnaaWear
namespace Go.Proofs.YtgdlakhfkmhlnaaWear
open Go.Conc Go.ConcN Go.RowKit Go.Conc.Lib Go.ConcR.Gen Go.Proofs.Try
open Go.ConcR (KK wgBlock WgAt stA smA rd wr mk Payload Aside2 DC0)
variable [Payload]

section
variable {Wg C Low i : Nat} {w₀ : World} {v : Value}
theorem runT_build41 (a : Int) (w : World) : (do pure (.value (← Instr.build 41 #[(0, .int .i64 a)])) : Sem Next).runT prog w #[] = (.ok (.value (.agg #[.int .i64 a, .int .i64 0])) w, #[]) := by kernel_rfl
theorem runT_results_cell {P : Program} {fn : Func} {t : TypeId} {j : Nat} {tmps : Array Value} {ad : Addr} {x : Value} {w : World} {es : Array Event} (hr : fn.results = #[.cell j t]) (ha : tmps.getD j undef = .pointer (some ad)) (h : (Instr.loadAt t (.pointer (some ad))).runT P w #[] = (.ok x w, es)) : (results fn tmps).runT P w #[] = (.ok x w, es) := by
  have e : results fn tmps = (do let y ← loadVar t (← asAddr (tmps.getD j undef)); pure y) := by
    unfold results
    rw [hr]
    simp
  rw [e, ha]
  exact h
theorem wk_leave {e : Nat} {own : List (Nat × Obj)} {f : Frame} {c : Frame} {cs : List Frame} {fn : Func} {x : Value} (hm : f.mode = .returning) (hn : f.kind = .normal) (hd : f.defers = []) (hf : prog.funcs[f.fn]? = some fn)
    (hr : ∀ w, KW Wg C Low w₀ own w → ∃ es, (results fn f.tmps).runT prog w #[] = (.ok x w, es) ∧ ∀ y ∈ es, EvK Wg C Low i (own.map Prod.fst) y) (h : (Wk Wg C Low i w₀ v) e own (G (c.finish x) cs)) :
    (Wk Wg C Low i w₀ v) (e + 1) own (G f (c :: cs)) :=
  wk_read rfl (fun w hw => by
    obtain ⟨es, h1, h2⟩ := hr w hw
    refine ⟨seen prog f.fn es, ?_, fun y hy => h2 y (Go.Conc.mem_seen hy)⟩
    simp only [stepG, G, hm, unwind, hd, hf, h1, doReturn, hn]
    rfl) h
theorem ge_next {own own' : List (Nat × Obj)} {b : Nat} (hm : own'.map Prod.fst = b :: own.map Prod.fst) (hb : Low ≤ b) (h : ∀ p, p ∈ own → Low ≤ p.1) : ∀ p, p ∈ own' → Low ≤ p.1 := by
  intro p hp
  have : p.1 ∈ own'.map Prod.fst := List.mem_map.2 ⟨p, hp, rfl⟩
  rw [hm] at this
  rcases List.mem_cons.1 this with h' | h'
  · omega
  · obtain ⟨q, hq, e⟩ := List.mem_map.1 h'
    have := h q hq
    omega

set_option maxRecDepth 100000 in
set_option maxHeartbeats 4000000 in
theorem round4 (hG : Plan Wg C Low) {PB pc b1 b2 b3 : Nat} {worn torn : Int} {own : List (Nat × Obj)} {c : Frame} {cs : List Frame} {e : Nat} (hge : ∀ p, p ∈ own → Low ≤ p.1) (h23 : b2 ≠ b3)
    (hb2 : (b2, Obj.cells #[.int .i64 0, .int .i64 0] 41 (0, 0)) ∈ own) (hb3 : (b3, Obj.cells #[.int .i64 worn, .int .i64 torn] 41 (0, 0)) ∈ own)
    (hn : ∀ own', (∀ p, p ∈ own' → Low ≤ p.1) → (∀ p, p ∈ own → p.1 ≠ b2 → p ∈ own') → (Wk Wg C Low i w₀ v) e own' (G (c.finish (.agg #[.int .i64 worn, .int .i64 torn])) cs))
    (x0 x4 x5 x6 x7 x8 x9 x13 x14 x15 x16 x17 x18 x19 x20 x21 x22 x23 x24 : Value) : (Wk Wg C Low i w₀ v) (e + 14) own (G ((base 24).at ⟨#[x0, .pointer (some ⟨b1, 0, none⟩), .pointer (some ⟨b2, 0, none⟩), .pointer (some ⟨b3, 0, none⟩), x4, x5, x6, x7, x8, x9, .slice (some ⟨PB, 0, none⟩) 4 pc, .int .i64 4, .int .i64 4, x13, x14, x15, x16, x17, x18, x19, x20, x21, x22, x23, x24], []⟩ [.code loop24, .inLoop loop24, .inBlock 0, .code tail24]) (c :: cs)) := by
  simp only [loop24, tail24, body24, f24, Option.getD_some] at hn ⊢
  refine wk_go rfl (fun _ => stepG_seq) ?_
  refine wk_go rfl (fun _ => stepG_region) ?_
  simp only [List.size_toArray, List.length_cons, List.length_nil, Nat.reduceAdd, Nat.zero_add, List.range, List.range.loop]
  refine wk_val (.bool false) rfl rfl (by decide) (fun w => by go_simp; try decide) (fun w => by simp [go_sem]) ?_
  walk_nrm
  refine wk_go rfl (fun _ => stepG_region_end) ?_
  refine wk_go rfl (fun _ => stepG_seq) ?_
  refine wk_go rfl (fun _ => stepG_cond (t := false) rfl) ?_
  simp only [if_true, if_false, Bool.false_eq_true, ↓reduceIte]
  refine wk_go rfl (fun _ => stepG_exit rfl) ?_
  refine wk_go rfl (fun _ => stepG_seq) ?_
  refine wk_go rfl (fun _ => stepG_region) ?_
  simp only [List.size_toArray, List.length_cons, List.length_nil, Nat.reduceAdd, Nat.zero_add, List.range, List.range.loop]
  refine wk_load (.agg #[.int .i64 worn, .int .i64 torn]) rfl rfl (by decide) (fun w hw => ?_) ?_
  · have hcell := hw.own _ hb3
    obtain ⟨es, g5, g6⟩ := runT_loadAgg (P := prog) (t := 41) (n := 2) underlying41 sizeOf41 (w := w) (a := ⟨b3, 0, none⟩) (c := fun j => (#[.int .i64 worn, .int .i64 torn] : Array Value).getD j undef) (fun j hj => by
      rw [add_none]
      simp only [World.cell?] at hcell ⊢
      rw [hcell]
      match j, hj with
      | 0, _ => rfl
      | 1, _ => rfl)
    refine ⟨es, runT_v g5, fun y hy => ?_⟩
    obtain ⟨j, hj, rfl⟩ := g6 y hy
    exact ⟨_, false, rfl, .inl (List.mem_map.2 ⟨_, hb3, by rw [add_none]⟩)⟩
  walk_nrm
  refine wk_store (own' := own.map (fun p => if p.1 = b2 then (b2, Obj.cells #[.int .i64 worn, .int .i64 torn] 41 (0, 0)) else p)) (t := 41) (n := 2) (bb := b2) (off := 0) (ety := 41) (cs0 := #[.int .i64 0, .int .i64 0]) (x := .agg #[.int .i64 worn, .int .i64 torn]) hG rfl rfl (by decide) rfl sizeOf41 rfl (by simp) (by simp [Value.cells]) hb2
    hge (by
      rw [List.map_map]
      refine List.map_congr_left fun p hp => ?_
      simp only [Function.comp]
      split
      · rename_i h; exact h.symm
      · rfl) (by
      intro p hp
      obtain ⟨q, hq, rfl⟩ := List.mem_map.1 hp
      split
      · exact .inr rfl
      · rename_i h; exact .inl ⟨h, hq⟩) ?_
  walk_nrm
  refine wk_go rfl (fun _ => stepG_region_end) ?_
  refine wk_go rfl (fun _ => stepG_ret') ?_
  have hm2 : (b2, Obj.cells #[.int .i64 worn, .int .i64 torn] 41 (0, 0)) ∈ own.map (fun p => if p.1 = b2 then (b2, Obj.cells #[.int .i64 worn, .int .i64 torn] 41 (0, 0)) else p) := List.mem_map.2 ⟨_, hb2, if_pos rfl⟩
  refine wk_leave (fn := f24) (x := .agg #[.int .i64 worn, .int .i64 torn]) (by rfl) (by rfl) (by rfl) (by rfl) (fun w hw => ?_) (hn _ (fun p hp => ?_) (fun p hp hne => List.mem_map.2 ⟨p, hp, if_neg hne⟩))
  · have hcell := hw.own _ hm2
    obtain ⟨es, g5, g6⟩ := runT_loadAgg (P := prog) (t := 41) (n := 2) underlying41 sizeOf41 (w := w) (a := ⟨b2, 0, none⟩) (c := fun j => (#[.int .i64 worn, .int .i64 torn] : Array Value).getD j undef) (fun j hj => by
      rw [add_none]
      simp only [World.cell?] at hcell ⊢
      rw [hcell]
      match j, hj with
      | 0, _ => rfl
      | 1, _ => rfl)
    refine ⟨es, runT_results_cell (ad := ⟨b2, 0, none⟩) rfl rfl g5, fun y hy => ?_⟩
    obtain ⟨j, hj, rfl⟩ := g6 y hy
    exact ⟨_, false, rfl, .inl (List.mem_map.2 ⟨_, hm2, by rw [add_none]⟩)⟩
  · obtain ⟨q, hq, rfl⟩ := List.mem_map.1 hp
    split
    · exact hge (b2, Obj.cells #[.int .i64 0, .int .i64 0] 41 (0, 0)) hb2
    · exact hge q hq
noncomputable def costOf (pg : Nat → Nat → Int) : Nat := 14 + ((if pg 3 0 = 2 then 13 else 7) + 23) + ((if pg 2 0 = 2 then 13 else 7) + 23) + ((if pg 1 0 = 2 then 13 else 7) + 23) + ((if pg 0 0 = 2 then 13 else 7) + 23) + 23
set_option maxRecDepth 100000 in
set_option maxHeartbeats 4000000 in
theorem wearOf (hG : Plan Wg C Low) (hLow : Low = Wg + 1) {PB pc : Nat} {worn : Int} (pg : Nat → Nat → Int) (hPB : PB < Low ∧ PB ≠ Wg ∧ PB ≠ C) (hpg : ∀ k, k < 4 → ∀ j, j < 5 → w₀.cell? ⟨PB, 5 * k + j, none⟩ = some (.int .i64 (pg k j)))
    (own : List (Nat × Obj)) (c : Frame) (cs : List Frame) (e : Nat) (hge0 : ∀ p, p ∈ own → Low ≤ p.1)
    (hn : ∀ (own' : List (Nat × Obj)) (torn : Int), (∀ p, p ∈ own' → Low ≤ p.1) → (∀ p, p ∈ own → p ∈ own') → (Wk Wg C Low i w₀ v) e own' (G (c.finish (.agg #[.int .i64 worn, .int .i64 torn])) cs)) :
    (Wk Wg C Low i w₀ v) (e + costOf pg) own (G ((base 24).at ⟨#[.agg #[.slice (some ⟨PB, 0, none⟩) 4 pc, .int .i64 worn], undef, undef, undef, undef, undef, undef, undef, undef, undef, undef, undef, undef, undef, undef, undef, undef, undef, undef, undef, undef, undef, undef, undef, undef], []⟩ [.code body24]) (c :: cs)) := by
  rw [show e + costOf pg = ((((e + 14 + (if pg 3 0 = 2 then 13 else 7) + 23) + (if pg 2 0 = 2 then 13 else 7) + 23) + (if pg 1 0 = 2 then 13 else 7) + 23) + (if pg 0 0 = 2 then 13 else 7) + 23) + 23 by unfold costOf; omega]
  have hl : loop24 = loop24 := rfl
  simp only [body24, f24, Option.getD_some]
  refine wk_go rfl (fun _ => stepG_seq) ?_
  refine wk_go rfl (fun _ => stepG_region) ?_
  simp only [List.size_toArray, List.length_cons, List.length_nil, Nat.reduceAdd, Nat.zero_add, List.range, List.range.loop]
  refine wk_alloc hLow hG.hC (.cells #[.slice (some ⟨PB, 0, none⟩) 4 pc, .int .i64 worn] 36 (0, 0)) rfl rfl (by decide) (fun w => run_box _ w) (fun b1 hb1 hne1 => ?_)
  walk_nrm
  refine wk_alloc hLow hG.hC (.cells #[.int .i64 0, .int .i64 0] 41 (0, 0)) rfl rfl (by decide) (fun w => run_alloc zeroValue41 w) (fun b2 hb2 hne2 => ?_)
  walk_nrm
  refine wk_go rfl (fun _ => stepG_region_end) ?_
  refine wk_go rfl (fun _ => stepG_seq) ?_
  refine wk_go rfl (fun _ => stepG_region) ?_
  simp only [List.size_toArray, List.length_cons, List.length_nil, Nat.reduceAdd, Nat.zero_add, List.range, List.range.loop]
  refine wk_val (.pointer (some ⟨b1, 1, none⟩)) rfl rfl (by decide) (fun w => by go_simp; try decide) (fun w => by simp [go_sem]) ?_
  walk_nrm
  refine wk_load (.int .i64 worn) rfl rfl (by decide) (fun w hw => ⟨_, runT_v (runT_loadOne underlying3 rfl (by have := hw.own _ (List.mem_cons_of_mem _ List.mem_cons_self); simp only [World.cell?] at this ⊢; rw [this]; rfl)), fun y hy => by rw [Array.mem_singleton] at hy; subst hy; exact ⟨_, false, rfl, .inl (List.mem_map.2 ⟨_, (List.mem_cons_of_mem _ List.mem_cons_self), rfl⟩)⟩⟩) ?_
  walk_nrm
  refine wk_val (.agg #[.int .i64 worn, .int .i64 0]) rfl rfl (by decide) (fun w => by kernel_rfl) (fun w => by kernel_rfl) ?_
  walk_nrm
  refine wk_alloc hLow hG.hC (.cells #[.int .i64 0, .int .i64 0] 41 (0, 0)) rfl rfl (by decide) (fun w => run_alloc zeroValue41 w) (fun b3 hb3 hne3 => ?_)
  walk_nrm
  have hge3 : ∀ p, p ∈ (b3, Obj.cells #[.int .i64 0, .int .i64 0] 41 (0, 0)) :: (b2, Obj.cells #[.int .i64 0, .int .i64 0] 41 (0, 0)) :: (b1, Obj.cells #[.slice (some ⟨PB, 0, none⟩) 4 pc, .int .i64 worn] 36 (0, 0)) :: own → Low ≤ p.1 := by
    intro p hp
    simp only [List.mem_cons] at hp
    rcases hp with rfl | rfl | rfl | hp
    · exact hb3
    · exact hb2
    · exact hb1
    · exact hge0 p hp
  have hge4 : ∀ p, p ∈ (b3, Obj.cells #[.int .i64 worn, .int .i64 0] 41 (0, 0)) :: (b2, Obj.cells #[.int .i64 0, .int .i64 0] 41 (0, 0)) :: (b1, Obj.cells #[.slice (some ⟨PB, 0, none⟩) 4 pc, .int .i64 worn] 36 (0, 0)) :: own → Low ≤ p.1 := by
    intro p hp
    simp only [List.mem_cons] at hp
    rcases hp with rfl | rfl | rfl | hp
    · exact hb3
    · exact hb2
    · exact hb1
    · exact hge0 p hp
  refine wk_store (own' := (b3, .cells #[.int .i64 worn, .int .i64 0] 41 (0, 0)) :: (b2, Obj.cells #[.int .i64 0, .int .i64 0] 41 (0, 0)) :: (b1, Obj.cells #[.slice (some ⟨PB, 0, none⟩) 4 pc, .int .i64 worn] 36 (0, 0)) :: own) (t := 41) (n := 2) (bb := b3) (off := 0) (ety := 41) (cs0 := #[.int .i64 0, .int .i64 0]) (x := .agg #[.int .i64 worn, .int .i64 0]) hG rfl rfl (by decide) rfl sizeOf41 rfl (by simp) (by simp [Value.cells]) List.mem_cons_self
    hge3 rfl (by
      intro p hp
      rcases List.mem_cons.1 hp with rfl | hp
      · exact .inr rfl
      · exact .inl ⟨hne3 p hp, List.mem_cons_of_mem _ hp⟩) ?_
  walk_nrm
  refine wk_go rfl (fun _ => stepG_region_end) ?_
  refine wk_go rfl (fun _ => stepG_seq) ?_
  refine wk_go rfl (fun _ => stepG_seq) ?_
  refine wk_go rfl (fun _ => stepG_region) ?_
  simp only [List.size_toArray, List.length_cons, List.length_nil, Nat.reduceAdd, Nat.zero_add, List.range, List.range.loop]
  refine wk_val (.pointer (some ⟨b1, 0, none⟩)) rfl rfl (by decide) (fun w => by go_simp; try decide) (fun w => by simp [go_sem]) ?_
  walk_nrm
  refine wk_load (.slice (some ⟨PB, 0, none⟩) 4 pc) rfl rfl (by decide) (fun w hw => ⟨_, runT_v (runT_loadOne underlying34 rfl (by have := hw.own _ (List.mem_cons_of_mem _ (List.mem_cons_of_mem _ List.mem_cons_self)); simp only [World.cell?] at this ⊢; rw [this]; rfl)), fun y hy => by rw [Array.mem_singleton] at hy; subst hy; exact ⟨_, false, rfl, .inl (List.mem_map.2 ⟨_, (List.mem_cons_of_mem _ (List.mem_cons_of_mem _ List.mem_cons_self)), rfl⟩)⟩⟩) ?_
  walk_nrm
  refine wk_val (.int .i64 4) rfl rfl (by decide) (fun w => by go_simp; try decide) (fun w => by simp [go_sem]) ?_
  walk_nrm
  refine wk_val (.int .i64 0) rfl rfl (by decide) (fun w => by go_simp; try decide) (fun w => by simp [go_sem]) ?_
  walk_nrm
  refine wk_go rfl (fun _ => stepG_region_end) ?_
  refine wk_go rfl (fun _ => stepG_block) ?_
  refine wk_go rfl (fun _ => stepG_loop) ?_
  have h23 : b2 ≠ b3 := fun h => hne3 _ List.mem_cons_self h
  have hsub : ∀ p, p ∈ own → p.1 ≠ b3 ∧ p.1 ≠ b2 := fun p hp => ⟨hne3 p (List.mem_cons_of_mem _ (List.mem_cons_of_mem _ hp)), hne2 p (List.mem_cons_of_mem _ hp)⟩
  have key0 := fun hn' => round0 (C := C) (i := i) (w₀ := w₀) (v := v) hG hLow (PB := PB) (pc := pc) (b1 := b1) (b2 := b2) (b3 := b3) (c := c) (cs := cs) (e := (((e + 14 + (if pg 3 0 = 2 then 13 else 7) + 23) + (if pg 2 0 = 2 then 13 else 7) + 23) + (if pg 1 0 = 2 then 13 else 7) + 23)) hPB (hpg 0 (by decide) 0 (by decide)) (hpg 0 (by decide) 1 (by decide)) (hpg 0 (by decide) 2 (by decide)) (hpg 0 (by decide) 3 (by decide)) (hpg 0 (by decide) 4 (by decide)) hge4 List.mem_cons_self hn'
  simp only [loop24, tail24, body24, f24, Option.getD_some] at key0
  refine key0 (fun c0 own0 y0_0 y0_1 y0_2 y0_3 y0_4 y0_5 y0_6 y0_7 y0_8 y0_9 y0_10 y0_11 y0_12 y0_13 y0_14 y0_15 y0_16 y0_17 y0_18 hc0 hmap0 ⟨torn0, ht0⟩ hk0 => ?_) _ _ _ _ _ _ _ _ _ _ _ _ _ _ _ _ _ _ _
  clear key0
  have hge_0 := ge_next hmap0 hc0 hge4
  have key1 := fun hn' => round1 (C := C) (i := i) (w₀ := w₀) (v := v) hG hLow (PB := PB) (pc := pc) (b1 := b1) (b2 := b2) (b3 := b3) (c := c) (cs := cs) (e := ((e + 14 + (if pg 3 0 = 2 then 13 else 7) + 23) + (if pg 2 0 = 2 then 13 else 7) + 23)) hPB (hpg 1 (by decide) 0 (by decide)) (hpg 1 (by decide) 1 (by decide)) (hpg 1 (by decide) 2 (by decide)) (hpg 1 (by decide) 3 (by decide)) (hpg 1 (by decide) 4 (by decide)) hge_0 ht0 hn'
  simp only [loop24, tail24, body24, f24, Option.getD_some] at key1
  refine key1 (fun c1 own1 y1_0 y1_1 y1_2 y1_3 y1_4 y1_5 y1_6 y1_7 y1_8 y1_9 y1_10 y1_11 y1_12 y1_13 y1_14 y1_15 y1_16 y1_17 y1_18 hc1 hmap1 ⟨torn1, ht1⟩ hk1 => ?_) _ _ _ _ _ _ _ _ _ _ _ _ _ _ _ _ _ _ _
  clear key1
  have hge_1 := ge_next hmap1 hc1 hge_0
  have key2 := fun hn' => round2 (C := C) (i := i) (w₀ := w₀) (v := v) hG hLow (PB := PB) (pc := pc) (b1 := b1) (b2 := b2) (b3 := b3) (c := c) (cs := cs) (e := (e + 14 + (if pg 3 0 = 2 then 13 else 7) + 23)) hPB (hpg 2 (by decide) 0 (by decide)) (hpg 2 (by decide) 1 (by decide)) (hpg 2 (by decide) 2 (by decide)) (hpg 2 (by decide) 3 (by decide)) (hpg 2 (by decide) 4 (by decide)) hge_1 ht1 hn'
  simp only [loop24, tail24, body24, f24, Option.getD_some] at key2
  refine key2 (fun c2 own2 y2_0 y2_1 y2_2 y2_3 y2_4 y2_5 y2_6 y2_7 y2_8 y2_9 y2_10 y2_11 y2_12 y2_13 y2_14 y2_15 y2_16 y2_17 y2_18 hc2 hmap2 ⟨torn2, ht2⟩ hk2 => ?_) _ _ _ _ _ _ _ _ _ _ _ _ _ _ _ _ _ _ _
  clear key2
  have hge_2 := ge_next hmap2 hc2 hge_1
  have key3 := fun hn' => round3 (C := C) (i := i) (w₀ := w₀) (v := v) hG hLow (PB := PB) (pc := pc) (b1 := b1) (b2 := b2) (b3 := b3) (c := c) (cs := cs) (e := (e + 14)) hPB (hpg 3 (by decide) 0 (by decide)) (hpg 3 (by decide) 1 (by decide)) (hpg 3 (by decide) 2 (by decide)) (hpg 3 (by decide) 3 (by decide)) (hpg 3 (by decide) 4 (by decide)) hge_2 ht2 hn'
  simp only [loop24, tail24, body24, f24, Option.getD_some] at key3
  refine key3 (fun c3 own3 y3_0 y3_1 y3_2 y3_3 y3_4 y3_5 y3_6 y3_7 y3_8 y3_9 y3_10 y3_11 y3_12 y3_13 y3_14 y3_15 y3_16 y3_17 y3_18 hc3 hmap3 ⟨torn3, ht3⟩ hk3 => ?_) _ _ _ _ _ _ _ _ _ _ _ _ _ _ _ _ _ _ _
  clear key3
  have hge_3 := ge_next hmap3 hc3 hge_2
  have key4 := fun h2 hn' => round4 (C := C) (i := i) (w₀ := w₀) (v := v) hG (PB := PB) (pc := pc) (b1 := b1) (b2 := b2) (b3 := b3) (c := c) (cs := cs) (e := e) hge_3 h23 h2 ht3 hn'
  simp only [loop24, tail24, body24, f24, Option.getD_some] at key4
  refine key4 (hk3 _ (hk2 _ (hk1 _ (hk0 _ (List.mem_cons_of_mem _ List.mem_cons_self) h23) h23) h23) h23) (fun own' hg' hk' => hn own' torn3 hg' fun p hp => ?_) _ _ _ _ _ _ _ _ _ _ _ _ _ _ _ _ _ _ _
  obtain ⟨q3, q2⟩ := hsub p hp
  exact hk' p (hk3 p (hk2 p (hk1 p (hk0 p (List.mem_cons_of_mem _ (List.mem_cons_of_mem _ (List.mem_cons_of_mem _ hp))) q3) q3) q3) q3) q2
end
end Go.Proofs.YtgdlakhfkmhlnaaWear
namespace Go.Proofs.YtgdlakhfkmhlnaaWear
open Go.Conc Go.ConcN Go.RowKit Go.Conc.Lib Go.ConcR.Gen Go.Proofs.Try
open Go.ConcR (KK wgBlock WgAt stA smA rd wr mk Payload Aside2 DC0)
variable [Payload]

/-! ### the worker's function -/
noncomputable def ops22 : Array Oper := match body22 with | .seq _ (.region _ ops _) => ops | _ => #[]
/-- The lists that the tape can give. -/
inductive Sched (md : Region.Mode) (ops : Array Oper) : Nat → Array Bool → List Nat → Prop
  | out {l : Array Bool} : Sched md ops 0 l []
  | dead {n : Nat} {l : Array Bool} : Region.ready md ops l = [] → Sched md ops (n + 1) l []
  | take {n i : Nat} {l : Array Bool} {rest : List Nat} : i ∈ Region.ready md ops l → Sched md ops n (l.setIfInBounds i true) rest → Sched md ops (n + 1) l (i :: rest)
theorem sched_go {md : Region.Mode} {ops : Array Oper} : ∀ (n t : Nat) (l : Array Bool), Sched md ops n l (Region.linearise.go md ops n t l [])
  | 0, t, l => by simpa [Region.linearise.go] using .out
  | n + 1, t, l => by
    simp only [Region.linearise.go]
    change Sched md ops (n + 1) l (match (Region.ready md ops l)[t % (Region.ready md ops l).length]? with
      | some i => Region.linearise.go md ops n (t / (Region.ready md ops l).length) (l.setIfInBounds i true) [i]
      | none => [].reverse)
    cases hi : (Region.ready md ops l)[t % (Region.ready md ops l).length]? with
    | none =>
      refine .dead ?_
      cases hr : Region.ready md ops l with
      | nil => rfl
      | cons x xs =>
        rw [hr] at hi
        have hlt : t % (x :: xs).length < (x :: xs).length := Nat.mod_lt _ (by simp)
        simp at hi
        simp at hlt
        omega
    | some i =>
      simp only []
      rw [linearise_go_acc, List.reverse_singleton, List.singleton_append]
      exact .take (List.mem_of_getElem? hi) (sched_go n _ _)
theorem sched22 (t : Nat) : Sched .any ops22 9 #[false, false, false, false, false, false, false, false, false] (Region.schedule (prog.follows .mixedOrders) ops22 t) := by
  have hm : prog.follows .mixedOrders = true := by kernel_rfl
  have hs : ops22.size = 9 := by kernel_rfl
  rw [hm]
  simp only [Region.schedule, Bool.true_or, if_true, Region.linearise, hs]
  exact sched_go 9 t _
def okTake (b0 b1 b2 b3 b4 b5 b6 b7 b8 : Bool) (i : Nat) : Bool :=
  match i with
  | 0 => !b0 | 1 => !b1 | 2 => !b2 | 3 => !b3
  | 4 => b2 && b3 && !b4 | 5 => b4 && !b5 | 6 => b5 && !b6
  | 7 => b0 && b1 && b2 && b3 && b4 && b5 && b6 && !b7
  | 8 => b0 && b1 && b2 && b3 && b4 && b5 && b6 && b7 && !b8
  | _ => false
set_option maxRecDepth 100000 in
theorem ready22 : ∀ b0 b1 b2 b3 b4 b5 b6 b7 b8 : Bool, (Region.ready .any ops22 #[b0, b1, b2, b3, b4, b5, b6, b7, b8]).all (okTake b0 b1 b2 b3 b4 b5 b6 b7 b8) = true ∧
    ((Region.ready .any ops22 #[b0, b1, b2, b3, b4, b5, b6, b7, b8]).isEmpty = true → (b0 && b1 && b2 && b3 && b4 && b5 && b6 && b7 && b8) = true) := by decide +kernel
theorem take22 {b0 b1 b2 b3 b4 b5 b6 b7 b8 : Bool} {i : Nat} (h : i ∈ Region.ready .any ops22 #[b0, b1, b2, b3, b4, b5, b6, b7, b8]) :
    (i = 0 ∧ b0 = false) ∨ (i = 1 ∧ b1 = false) ∨ (i = 2 ∧ b2 = false) ∨ (i = 3 ∧ b3 = false) ∨ (i = 4 ∧ b2 = true ∧ b3 = true ∧ b4 = false) ∨ (i = 5 ∧ b4 = true ∧ b5 = false) ∨ (i = 6 ∧ b5 = true ∧ b6 = false) ∨
    (i = 7 ∧ b0 = true ∧ b1 = true ∧ b2 = true ∧ b3 = true ∧ b4 = true ∧ b5 = true ∧ b6 = true ∧ b7 = false) ∨ (i = 8 ∧ b0 = true ∧ b1 = true ∧ b2 = true ∧ b3 = true ∧ b4 = true ∧ b5 = true ∧ b6 = true ∧ b7 = true ∧ b8 = false) := by
  have := List.all_eq_true.1 (ready22 b0 b1 b2 b3 b4 b5 b6 b7 b8).1 i h
  match i, this with
  | 0, h => simp [okTake] at h; simp [h]
  | 1, h => simp [okTake] at h; simp [h]
  | 2, h => simp [okTake] at h; simp [h]
  | 3, h => simp [okTake] at h; simp [h]
  | 4, h => simp [okTake] at h; simp [h]
  | 5, h => simp [okTake] at h; simp [h]
  | 6, h => simp [okTake] at h; simp [h]
  | 7, h => simp [okTake] at h; simp [h]
  | 8, h => simp [okTake] at h; simp [h]
end Go.Proofs.YtgdlakhfkmhlnaaWear
