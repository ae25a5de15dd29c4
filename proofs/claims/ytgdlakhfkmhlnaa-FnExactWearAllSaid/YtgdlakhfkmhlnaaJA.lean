/- Laws of scripts: what a script of the model that succeeds says of its events, and of worlds in which a block is out of reach. -/
import GoSem.Core.Sem
import Derived.RunT
import GoSem.Dispatch
import Derived.Laws.Sem
import GoSem.Step
import Derived.Conc.Own
import Derived.Conc.Listed
set_option linter.unusedVariables false
set_option linter.unusedSimpArgs false
set_option linter.unusedSectionVars false
namespace Go.Proofs.YtgdlakhfkmhlnaaWear

/-- How a script may end otherwise than by a value: by a panic, or by an end that ends the run. -/
def OkHalt : Halt → Prop
  | .panic _ | .stuck _ | .unsupported _ => True
  | _ => False

/-- No mark node but 'noRoom'; the program that it asks is P. -/
def Unmarked (P : Program) {α : Type} : Sem α → Prop
  | .pure _ => True
  | .load _ _ k => ∀ v, Unmarked P (k v)
  | .store _ _ _ k => Unmarked P k
  | .new _ k => ∀ r, Unmarked P (k r)
  | .shape _ k => ∀ s, Unmarked P (k s)
  | .freeze _ _ k => Unmarked P k
  | .frozen _ k => ∀ b, Unmarked P (k b)
  | .getObj _ k => ∀ o, Unmarked P (k o)
  | .setObj _ _ k => Unmarked P k
  | .choose _ k => ∀ n, Unmarked P (k n)
  | .sys _ k => ∀ r, Unmarked P (k r)
  | .program k => Unmarked P (k P)
  | .mark m k => m = .noRoom ∧ Unmarked P k
  | .halt h => OkHalt h

/-- It ends by no value. -/
def Halts (P : Program) {α : Type} : Sem α → Prop
  | .pure _ => False
  | .load _ _ k => ∀ v, Halts P (k v)
  | .store _ _ _ k => Halts P k
  | .new _ k => ∀ r, Halts P (k r)
  | .shape _ k => ∀ s, Halts P (k s)
  | .freeze _ _ k => Halts P k
  | .frozen _ k => ∀ b, Halts P (k b)
  | .getObj _ k => ∀ o, Halts P (k o)
  | .setObj _ _ k => Halts P k
  | .choose _ k => ∀ n, Halts P (k n)
  | .sys _ k => ∀ r, Halts P (k r)
  | .program k => Halts P (k P)
  | .mark m k => m = .noRoom ∧ Halts P k
  | .halt h => OkHalt h

/-- Loads, stores, new blocks alone; a question only on the way to a halt. -/
def Tame (P : Program) {α : Type} : Sem α → Prop
  | .pure _ => True
  | .load m _ k => m = .plain ∧ ∀ v, Tame P (k v)
  | .store m _ _ k => m = .plain ∧ Tame P k
  | .new _ k => ∀ r, Tame P (k r)
  | .shape _ k => (∀ s, Tame P (k s)) ∧ ∀ e n, k (some (e, n)) = k (some (e, 0)) ∨ Halts P (k (some (e, 0)))
  | .frozen _ k => ∀ b, Tame P (k b)
  | .getObj _ k => ∀ o, Tame P (k o)
  | .choose _ k => ∀ n, Tame P (k n)
  | .program k => Tame P (k P)
  | .mark m k => m = .noRoom ∧ Tame P k
  | .halt h => OkHalt h
  | _ => False

theorem Halts.bind {P : Program} {α β : Type} {f : α → Sem β} : ∀ {s : Sem α}, Halts P s → Halts P (s.bind f)
  | .pure _, h => h.elim
  | .load _ _ _, h => fun v => Halts.bind (h v)
  | .store _ _ _ k, h => Halts.bind (s := k) h
  | .new _ _, h => fun v => Halts.bind (h v)
  | .shape _ _, h => fun v => Halts.bind (h v)
  | .freeze _ _ k, h => Halts.bind (s := k) h
  | .frozen _ _, h => fun v => Halts.bind (h v)
  | .getObj _ _, h => fun v => Halts.bind (h v)
  | .setObj _ _ k, h => Halts.bind (s := k) h
  | .choose _ _, h => fun v => Halts.bind (h v)
  | .sys _ _, h => fun v => Halts.bind (h v)
  | .program k, h => Halts.bind (s := k P) h
  | .mark _ k, h => ⟨h.1, Halts.bind (s := k) h.2⟩
  | .halt _, h => h

theorem Halts.no {P : Program} {α : Type} : ∀ {s : Sem α}, Halts P s → ∀ (w : World) (es es' : Array Event) (a : α) (w' : World), s.runT P w es ≠ (.ok a w', es')
  | .pure _, h, _, _, _, _, _ => h.elim
  | .load m a k, h, w, es, es', x, w' => by
    simp only [Sem.runT]
    split
    · exact (h _).no _ _ _ _ _
    · split
      · exact (h _).no _ _ _ _ _
      · intro e; cases e
  | .store m a v k, h, w, es, es', x, w' => by
    have hk := fun w es => Halts.no (s := k) h w es es' x w'
    cases v <;> simp only [Sem.runT] <;> first
      | (intro e; cases e; done)
      | (split
         · split
           · intro e; cases e
           · exact hk _ _
         · split
           · exact hk _ _
           · intro e; cases e)
  | .new o k, h, w, es, _, _, _ => (h _).no _ _ _ _ _
  | .shape _ k, h, w, es, _, _, _ => (h _).no _ _ _ _ _
  | .freeze _ _ k, h, w, es, _, _, _ => Halts.no (s := k) h _ _ _ _ _
  | .frozen _ k, h, w, es, _, _, _ => (h _).no _ _ _ _ _
  | .getObj r k, h, w, es, es', x, w' => by
    simp only [Sem.runT]
    split
    · intro e; cases e
    · exact (h _).no _ _ _ _ _
    · intro e; cases e
  | .setObj r o k, h, w, es, es', x, w' => by
    simp only [Sem.runT]
    split
    · intro e; cases e
    · exact Halts.no (s := k) h _ _ _ _ _
    · intro e; cases e
  | .choose q k, h, w, es, es', x, w' => by
    simp only [Sem.runT]
    split
    · exact (h _).no _ _ _ _ _
    · exact (h _).no _ _ _ _ _
  | .sys _ k, h, w, es, _, _, _ => (h _).no _ _ _ _ _
  | .program k, h, w, es, _, _, _ => Halts.no (s := k P) h _ _ _ _ _
  | .mark m k, h, w, es, _, _, _ => Halts.no (s := k) h.2 _ _ _ _ _
  | .halt _, _, _, _, _, _, _ => by simp only [Sem.runT]; intro e; cases e

theorem Unmarked.bind {P : Program} {α β : Type} {f : α → Sem β} (hf : ∀ a, Unmarked P (f a)) : ∀ {s : Sem α}, Unmarked P s → Unmarked P (s.bind f)
  | .pure a, _ => hf a
  | .load _ _ _, h => fun v => Unmarked.bind hf (h v)
  | .store _ _ _ k, h => Unmarked.bind (s := k) hf h
  | .new _ _, h => fun v => Unmarked.bind hf (h v)
  | .shape _ _, h => fun v => Unmarked.bind hf (h v)
  | .freeze _ _ k, h => Unmarked.bind (s := k) hf h
  | .frozen _ _, h => fun v => Unmarked.bind hf (h v)
  | .getObj _ _, h => fun v => Unmarked.bind hf (h v)
  | .setObj _ _ k, h => Unmarked.bind (s := k) hf h
  | .choose _ _, h => fun v => Unmarked.bind hf (h v)
  | .sys _ _, h => fun v => Unmarked.bind hf (h v)
  | .program k, h => Unmarked.bind (s := k P) hf h
  | .mark _ k, h => ⟨h.1, Unmarked.bind (s := k) hf h.2⟩
  | .halt _, h => h

theorem Halts.unmarked {P : Program} {α : Type} : ∀ {s : Sem α}, Halts P s → Unmarked P s
  | .pure _, h => h.elim
  | .load _ _ _, h => fun v => (h v).unmarked
  | .store _ _ _ k, h => Halts.unmarked (s := k) h
  | .new _ _, h => fun v => (h v).unmarked
  | .shape _ _, h => fun v => (h v).unmarked
  | .freeze _ _ k, h => Halts.unmarked (s := k) h
  | .frozen _ _, h => fun v => (h v).unmarked
  | .getObj _ _, h => fun v => (h v).unmarked
  | .setObj _ _ k, h => Halts.unmarked (s := k) h
  | .choose _ _, h => fun v => (h v).unmarked
  | .sys _ _, h => fun v => (h v).unmarked
  | .program k, h => Halts.unmarked (s := k P) h
  | .mark _ k, h => ⟨h.1, Halts.unmarked (s := k) h.2⟩
  | .halt _, h => h
theorem Tame.unmarked {P : Program} {α : Type} : ∀ {s : Sem α}, Tame P s → Unmarked P s
  | .pure _, _ => trivial
  | .load _ _ _, h => fun v => (h.2 v).unmarked
  | .store _ _ _ k, h => Tame.unmarked (s := k) h.2
  | .new _ _, h => fun v => (h v).unmarked
  | .shape _ _, h => fun v => (h.1 v).unmarked
  | .frozen _ _, h => fun v => (h v).unmarked
  | .getObj _ _, h => fun v => (h v).unmarked
  | .choose _ _, h => fun v => (h v).unmarked
  | .program k, h => Tame.unmarked (s := k P) h
  | .mark _ k, h => ⟨h.1, Tame.unmarked (s := k) h.2⟩
  | .halt _, h => h

theorem Tame.bind {P : Program} {α β : Type} {f : α → Sem β} (hf : ∀ a, Tame P (f a)) : ∀ {s : Sem α}, Tame P s → Tame P (s.bind f)
  | .pure a, _ => hf a
  | .load _ _ _, h => ⟨h.1, fun v => Tame.bind hf (h.2 v)⟩
  | .store _ _ _ k, h => ⟨h.1, Tame.bind (s := k) hf h.2⟩
  | .new _ _, h => fun v => Tame.bind hf (h v)
  | .shape _ k, h => ⟨fun v => Tame.bind hf (h.1 v), fun e n => (h.2 e n).imp (congrArg fun z => Sem.bind z f) Halts.bind⟩
  | .frozen _ _, h => fun v => Tame.bind hf (h v)
  | .getObj _ _, h => fun v => Tame.bind hf (h v)
  | .choose _ _, h => fun v => Tame.bind hf (h v)
  | .program k, h => Tame.bind (s := k P) hf h
  | .mark _ k, h => ⟨h.1, Tame.bind (s := k) hf h.2⟩
  | .halt _, h => h

/-- What a step may list: a mark 'noRoom' alone. -/
def NoMark (e : Event) : Prop := ∀ m, e.loc = .mark m → m = .noRoom

theorem Unmarked.events {P : Program} {α : Type} : ∀ {s : Sem α}, Unmarked P s → ∀ (w : World) (es : Array Event), (∀ e ∈ es, NoMark e) → ∀ e ∈ (s.runT P w es).2, NoMark e
  | .pure _, _, _, _, h => h
  | .load m a k, hu, w, es, h => by
    simp only [Sem.runT]
    split
    · refine (hu _).events _ _ fun e he => ?_
      rcases Array.mem_push.1 he with he | rfl
      · exact h e he
      · exact fun _ e => by cases e
    · split
      · refine (hu _).events _ _ fun e he => ?_
        rcases Array.mem_append.1 he with he | he
        · exact h e he
        · obtain ⟨x, _, rfl⟩ := Array.mem_map.1 he
          exact fun _ e => by cases e
      · exact h
  | .store m a v k, hu, w, es, h => by
    have hk := fun w es h => Unmarked.events (s := k) hu w es h
    cases v <;> simp only [Sem.runT] <;> first
      | exact h
      | (split
         · split
           · exact h
           · refine hk _ _ fun e he => ?_
             rcases Array.mem_push.1 he with he | rfl
             · exact h e he
             · exact fun _ e => by cases e
         · split
           · refine hk _ _ fun e he => ?_
             rcases Array.mem_append.1 he with he | he
             · exact h e he
             · obtain ⟨x, _, rfl⟩ := Array.mem_map.1 he
               exact fun _ e => by cases e
           · exact h)
  | .new o k, hu, w, es, h => (hu _).events _ _ h
  | .shape _ k, hu, w, es, h => (hu _).events _ _ h
  | .freeze _ _ k, hu, w, es, h => Unmarked.events (s := k) hu _ _ h
  | .frozen _ k, hu, w, es, h => (hu _).events _ _ h
  | .getObj r k, hu, w, es, h => by
    simp only [Sem.runT]
    split
    · exact h
    · refine (hu _).events _ _ fun e he => ?_
      rcases Array.mem_push.1 he with he | rfl
      · exact h e he
      · exact fun _ e => by cases e
    · exact h
  | .setObj r o k, hu, w, es, h => by
    simp only [Sem.runT]
    split
    · exact h
    · refine Unmarked.events (s := k) hu _ _ fun e he => ?_
      rcases Array.mem_push.1 he with he | rfl
      · exact h e he
      · exact fun _ e => by cases e
    · exact h
  | .choose q k, hu, w, es, h => by
    simp only [Sem.runT]
    split
    · exact (hu _).events _ _ h
    · exact (hu _).events _ _ h
  | .sys _ k, hu, w, es, h => by
    refine (hu _).events _ _ fun e he => ?_
    rcases Array.mem_push.1 he with he | rfl
    · exact h e he
    · exact fun _ e => by cases e
  | .program k, hu, w, es, h => Unmarked.events (s := k P) hu _ _ h
  | .mark m k, hu, w, es, h => by
    refine Unmarked.events (s := k) hu.2 _ _ fun e he => ?_
    rcases Array.mem_push.1 he with he | rfl
    · exact h e he
    · intro m' e
      injection e with e
      rw [← e]; exact hu.1
  | .halt _, _, _, _, h => h

theorem noCell_ok (w : World) (a : Addr) (what : String) : OkHalt (w.noCell a what) := by
  unfold World.noCell; split <;> trivial
/-- It ends well, or by a halt that ends the run or panics. -/
theorem Unmarked.halts {P : Program} {α : Type} : ∀ {s : Sem α}, Unmarked P s → ∀ (w : World) (es es' : Array Event) (h : Halt) (w' : World), s.runT P w es = (.halt h w', es') → OkHalt h
  | .pure _, _, _, _, _, _, _, e => by simp only [Sem.runT] at e; cases e
  | .load m a k, hu, w, es, es', h, w', e => by
    simp only [Sem.runT] at e
    split at e
    · exact (hu _).halts _ _ _ _ _ e
    · split at e
      · exact (hu _).halts _ _ _ _ _ e
      · rename_i x hf
        injection e with e _; injection e with e _; subst e
        unfold World.farLoad at hf
        split at hf
        · split at hf
          · cases hf
          · injection hf with hf; subst hf; trivial
        · injection hf with hf; subst hf; exact noCell_ok _ _ _
  | .store m a v k, hu, w, es, es', h, w', e => by
    have hk := fun w es e => Unmarked.halts (s := k) hu w es es' h w' e
    cases v <;> simp only [Sem.runT] at e <;> first
      | (injection e with e _; injection e with e _; subst e; trivial)
      | (split at e
         · split at e
           · injection e with e _; injection e with e _; subst e; trivial
           · exact hk _ _ e
         · split at e
           · exact hk _ _ e
           · rename_i x hf
             injection e with e _; injection e with e _; subst e
             unfold World.farStore at hf
             split at hf
             · split at hf
               · cases hf
               · injection hf with hf; subst hf; trivial
             · injection hf with hf; subst hf; exact noCell_ok _ _ _)
  | .new o k, hu, w, es, _, _, _, e => (hu _).halts _ _ _ _ _ e
  | .shape _ k, hu, w, es, _, _, _, e => (hu _).halts _ _ _ _ _ e
  | .freeze _ _ k, hu, w, es, _, _, _, e => Unmarked.halts (s := k) hu _ _ _ _ _ e
  | .frozen _ k, hu, w, es, _, _, _, e => (hu _).halts _ _ _ _ _ e
  | .getObj r k, hu, w, es, es', h, w', e => by
    simp only [Sem.runT] at e
    split at e
    · injection e with e _; injection e with e _; subst e; trivial
    · exact (hu _).halts _ _ _ _ _ e
    · injection e with e _; injection e with e _; subst e; trivial
  | .setObj r o k, hu, w, es, es', h, w', e => by
    simp only [Sem.runT] at e
    split at e
    · injection e with e _; injection e with e _; subst e; trivial
    · exact Unmarked.halts (s := k) hu _ _ _ _ _ e
    · injection e with e _; injection e with e _; subst e; trivial
  | .choose q k, hu, w, es, es', h, w', e => by
    simp only [Sem.runT] at e
    split at e
    · exact (hu _).halts _ _ _ _ _ e
    · exact (hu _).halts _ _ _ _ _ e
  | .sys _ k, hu, w, es, _, _, _, e => (hu _).halts _ _ _ _ _ e
  | .program k, hu, w, es, _, _, _, e => Unmarked.halts (s := k P) hu _ _ _ _ _ e
  | .mark m k, hu, w, es, _, _, _, e => Unmarked.halts (s := k) hu.2 _ _ _ _ _ e
  | .halt _, hu, _, _, _, _, _, e => by
    simp only [Sem.runT] at e
    injection e with e _; injection e with e _; subst e; exact hu

/-! ### every place that an event names is there -/
def LowE (n : Nat) (e : Event) : Prop := (∀ a, e.loc = .cell a → a.block < n) ∧ ∀ r, e.loc = .obj r → r < n
theorem LowE.mono {n n' : Nat} {e : Event} (h : LowE n e) (hn : n ≤ n') : LowE n' e := ⟨fun a ha => Nat.lt_of_lt_of_le (h.1 a ha) hn, fun r hr => Nat.lt_of_lt_of_le (h.2 r hr) hn⟩
theorem LowE.cell {n : Nat} {a : Addr} {wr sy : Bool} (h : a.block < n) : LowE n ⟨.cell a, wr, sy⟩ := ⟨fun _ e => (by cases e; exact h), fun _ e => (by cases e)⟩
theorem LowE.obj {n r : Nat} {wr sy : Bool} (h : r < n) : LowE n ⟨.obj r, wr, sy⟩ := ⟨fun _ e => (by cases e), fun _ e => (by cases e; exact h)⟩
def wOf {α : Type} : Result α → World
  | .ok _ w => w
  | .halt _ w => w

theorem cell_lt {w : World} {a : Addr} {v : Value} (h : w.cell? a = some v) : a.block < w.heap.size := by
  refine Decidable.byContradiction fun hn => ?_
  have hx : w.heap[a.block]? = none := by simp; omega
  simp [World.cell?, hx] at h
theorem seen_lt {p : Program} {w : World} {at_ : Addr} {u : TypeId} {k : Addr} {b : Bool} {r : Array Value × TypeId × (Nat × Nat) × Nat × Value × List (Nat × Nat × List UInt8)} (h : w.seen p at_ u k b = .ok r) : at_.block < w.heap.size := by
  refine Decidable.byContradiction fun hn => ?_
  have hx : w.heap[at_.block]? = none := by simp; omega
  simp only [World.seen, hx, bind, Except.bind, throw, throwThe, MonadExceptOf.throw] at h
  repeat' (split at h)
  all_goals first | (cases h; done) | contradiction

theorem viewLoad_lt {p : Program} {w : World} {at_ : Addr} {u : TypeId} {k : Addr} {b : Bool} {r : Value × List Addr} (h : w.viewLoad p at_ u k b = .ok r) : ∀ a ∈ r.2, a.block < w.heap.size := by
  unfold World.viewLoad at h
  cases hs : w.seen p at_ u k b with
  | error e => rw [hs] at h; cases h
  | ok x =>
    obtain ⟨c, e, fz, first, like, cells⟩ := x
    rw [hs] at h
    have hlt := seen_lt hs
    simp only [bind, Except.bind, throw, throwThe, MonadExceptOf.throw, pure, Except.pure] at h
    repeat' (split at h)
    all_goals first
      | (cases h; done)
      | (injection h with h; subst h; intro a ha; obtain ⟨_, _, rfl⟩ := List.mem_map.1 ha; exact hlt)
theorem viewStore_lt {p : Program} {w : World} {at_ : Addr} {u : TypeId} {k : Addr} {v : Value} {b : Bool} {r : World × List Addr} (h : w.viewStore p at_ u k v b = .ok r) : (∀ a ∈ r.2, a.block < w.heap.size) ∧ r.1.heap.size = w.heap.size := by
  unfold World.viewStore at h
  cases hs : w.seen p at_ u k b with
  | error e =>
    rw [hs] at h
    simp only [bind, Except.bind, throw, throwThe, MonadExceptOf.throw, pure, Except.pure] at h
    repeat' (split at h)
    all_goals first | (cases h; done) | contradiction
  | ok x =>
    obtain ⟨c, e, fz, first, like, cells⟩ := x
    rw [hs] at h
    have hlt := seen_lt hs
    simp only [bind, Except.bind, throw, throwThe, MonadExceptOf.throw, pure, Except.pure] at h
    repeat' (split at h)
    all_goals first
      | (cases h; done)
      | contradiction
      | (injection h with h; subst h; refine ⟨?_, by simp⟩; intro a ha; obtain ⟨_, _, rfl⟩ := List.mem_map.1 ha; exact hlt)

theorem farLoad_lt {p : Program} {w : World} {a : Addr} {b : Bool} {r : Value × List Addr} (h : w.farLoad p a b = .ok r) : ∀ x ∈ r.2, x.block < w.heap.size := by
  unfold World.farLoad at h
  split at h
  · split at h
    · injection h with h; subst h; exact viewLoad_lt ‹_›
    · cases h
  · cases h
theorem farStore_lt {p : Program} {w : World} {a : Addr} {v : Value} {b : Bool} {r : World × List Addr} (h : w.farStore p a v b = .ok r) : (∀ x ∈ r.2, x.block < w.heap.size) ∧ r.1.heap.size = w.heap.size := by
  unfold World.farStore at h
  split at h
  · split at h
    · injection h with h; subst h; exact viewStore_lt ‹_›
    · cases h
  · cases h
theorem ask_heap {α : Type} : ∀ (k : Ask α) (w : World), (w.ask k).2.heap = w.heap
  | .done _, _ => by simp only [World.ask]
  | .ask what range k, w => by
    simp only [World.ask]
    split
    · exact ask_heap (k 0) w
    · exact ask_heap _ _

theorem sys_heap (w : World) (c : Sys) : (w.sys c).2.heap = w.heap := by
  unfold World.sys
  have h := ask_heap (Kernel.perform c w.os) w
  generalize w.ask (Kernel.perform c w.os) = x at h
  obtain ⟨⟨r, os⟩, w'⟩ := x
  split
  · rfl
  · rename_i e; injection e with e1 e2; subst e2; exact h
theorem size_set {w : World} (a : Addr) (v : Value) : (w.setCell a v).heap.size = w.heap.size := by simp [World.setCell]
theorem size_freeze {w : World} (a : Addr) (n : Nat) : (w.freeze a n).heap.size = w.heap.size := by unfold World.freeze; split <;> simp

/-- What a script lists names places that are there at its end; the heap never shrinks. -/
theorem low {P : Program} {α : Type} : ∀ (s : Sem α) (w : World) (es : Array Event), (∀ e ∈ es, LowE w.heap.size e) →
    w.heap.size ≤ (wOf (s.runT P w es).1).heap.size ∧ ∀ e ∈ (s.runT P w es).2, LowE (wOf (s.runT P w es).1).heap.size e
  | .pure _, _, _, h => ⟨Nat.le_refl _, h⟩
  | .load m a k, w, es, h => by
    simp only [Sem.runT]
    split
    · rename_i v hv
      refine low (k v) _ _ fun e he => ?_
      rcases Array.mem_push.1 he with he | rfl
      · exact h e he
      · exact .cell (cell_lt hv)
    · split
      · rename_i v t hf
        refine low (k v) _ _ fun e he => ?_
        rcases Array.mem_append.1 he with he | he
        · exact h e he
        · obtain ⟨x, hx, rfl⟩ := Array.mem_map.1 he
          exact .cell (farLoad_lt hf x (by simpa using hx))
      · exact ⟨Nat.le_refl _, h⟩
  | .store m a v k, w, es, h => by
    have hk := fun w es h => low (P := P) k w es h
    cases v <;> simp only [Sem.runT] <;> first
      | exact ⟨Nat.le_refl _, h⟩
      | (split
         · rename_i x hv
           split
           · exact ⟨Nat.le_refl _, h⟩
           · rw [← size_set (w := w) a]
             refine hk _ _ fun e he => ?_
             rw [size_set]
             rcases Array.mem_push.1 he with he | rfl
             · exact h e he
             · exact .cell (cell_lt hv)
         · split
           · rename_i w' t hf
             have hs := farStore_lt hf
             rw [← hs.2]
             refine hk _ _ fun e he => ?_
             rw [hs.2]
             rcases Array.mem_append.1 he with he | he
             · exact h e he
             · obtain ⟨x, hx, rfl⟩ := Array.mem_map.1 he
               exact .cell (hs.1 x (by simpa using hx))
           · exact ⟨Nat.le_refl _, h⟩)
  | .new o k, w, es, h => by
    have := low (P := P) (k w.heap.size) { w with heap := w.heap.push o } es fun e he => (h e he).mono (by simp)
    exact ⟨Nat.le_trans (by simp) this.1, this.2⟩
  | .shape _ k, w, es, h => low (k _) _ _ h
  | .freeze a n k, w, es, h => by
    have := low (P := P) k (w.freeze a n) es fun e he => by rw [size_freeze]; exact h e he
    rw [size_freeze] at this
    exact this
  | .frozen _ k, w, es, h => low (k _) _ _ h
  | .getObj r k, w, es, h => by
    simp only [Sem.runT]
    split
    · exact ⟨Nat.le_refl _, h⟩
    · rename_i o hn ho
      refine low (k o) _ _ fun e he => ?_
      rcases Array.mem_push.1 he with he | rfl
      · exact h e he
      · exact .obj (Array.getElem?_eq_some_iff.1 ho).1
    · exact ⟨Nat.le_refl _, h⟩
  | .setObj r o k, w, es, h => by
    simp only [Sem.runT]
    split
    · exact ⟨Nat.le_refl _, h⟩
    · rename_i o' hn ho
      have := low (P := P) k { w with heap := w.heap.setIfInBounds r o } (es.push ⟨.obj r, true, o.isChan⟩) fun e he => by
        simp only [Array.size_setIfInBounds]
        rcases Array.mem_push.1 he with he | rfl
        · exact h e he
        · exact .obj (Array.getElem?_eq_some_iff.1 ho).1
      simpa using this
    · exact ⟨Nat.le_refl _, h⟩
  | .choose q k, w, es, h => by
    simp only [Sem.runT]
    split
    · exact low (k 0) _ _ h
    · exact low (k _) { w with drawn := w.drawn + 1 } _ h
  | .sys c k, w, es, h => by
    have := low (P := P) (k (w.sys c).1) (w.sys c).2 (es.push ⟨.output, true, false⟩) fun e he => by
      rw [sys_heap]
      rcases Array.mem_push.1 he with he | rfl
      · exact h e he
      · exact ⟨fun _ e => (by cases e), fun _ e => (by cases e)⟩
    rw [sys_heap] at this
    exact this
  | .program k, w, es, h => low (k P) _ _ h
  | .mark m k, w, es, h => by
    refine low k _ _ fun e he => ?_
    rcases Array.mem_push.1 he with he | rfl
    · exact h e he
    · exact ⟨fun _ e => (by cases e), fun _ e => (by cases e)⟩
  | .halt _, _, _, h => ⟨Nat.le_refl _, h⟩

/-! ### a world in which block X is out of reach -/
structure Alike (X : Nat) (w w0 : World) : Prop where
  os : w0.os = w.os
  output : w0.output = w.output
  size : w0.heap.size = w.heap.size
  block : ∀ b, b ≠ X → w0.heap[b]? = w.heap[b]?
  gone : ∃ cs e f, w.heap[X]? = some (.cells cs e f) ∧ w0.heap[X]? = some (.cells #[] e f)

section
variable {X : Nat} {w w0 : World}
theorem Alike.cell (h : Alike X w w0) {a : Addr} {v : Value} (hv : w0.cell? a = some v) : a.block ≠ X ∧ w.cell? a = some v := by
  have hne : a.block ≠ X := by
    intro e
    obtain ⟨cs, e', f, h1, h2⟩ := h.gone
    simp [World.cell?, e, h2] at hv
  exact ⟨hne, by rw [← hv]; simp [World.cell?, h.block _ hne]⟩
theorem Alike.none (h : Alike X w w0) {a : Addr} (hne : a.block ≠ X) : w0.cell? a = w.cell? a := by simp [World.cell?, h.block _ hne]
theorem Alike.frozen (h : Alike X w w0) (a : Addr) : w0.frozen? a = w.frozen? a := by
  by_cases hne : a.block = X
  · obtain ⟨cs, e', f, h1, h2⟩ := h.gone
    simp [World.frozen?, hne, h1, h2]
  · simp [World.frozen?, h.block _ hne]
theorem Alike.set (h : Alike X w w0) {a : Addr} (hne : a.block ≠ X) (v : Value) : Alike X (w.setCell a v) (w0.setCell a v) := by
  refine ⟨h.os, h.output, by rw [size_set, size_set, h.size], fun b hb => ?_, ?_⟩
  · simp only [World.setCell, Array.getElem?_modify]
    rw [h.block b hb]
  · obtain ⟨cs, e, f, h1, h2⟩ := h.gone
    refine ⟨cs, e, f, ?_, ?_⟩
    · simp only [World.setCell, Array.getElem?_modify, hne, if_false]; exact h1
    · simp only [World.setCell, Array.getElem?_modify, hne, if_false]; exact h2
theorem Alike.push (h : Alike X w w0) (o : Obj) : Alike X { w with heap := w.heap.push o } { w0 with heap := w0.heap.push o } := by
  obtain ⟨cs, e, f, h1, h2⟩ := h.gone
  have hX : X < w0.heap.size := (Array.getElem?_eq_some_iff.1 h2).1
  have hX' : X < w.heap.size := (Array.getElem?_eq_some_iff.1 h1).1
  refine ⟨h.os, h.output, by simp [h.size], fun b hb => ?_, ⟨cs, e, f, ?_, ?_⟩⟩
  · simp only [Array.getElem?_push, h.size, h.block b hb]
  · simp only [Array.getElem?_push]
    rw [if_neg (by omega)]
    exact h1
  · simp only [Array.getElem?_push]
    rw [if_neg (by omega)]
    exact h2
theorem Alike.at (h : Alike X w w0) (T T0 : Nat → Question → Nat) (d d0 : Nat) : Alike X { w with tape := T, drawn := d } { w0 with tape := T0, drawn := d0 } := ⟨h.os, h.output, h.size, h.block, h.gone⟩
end

theorem seen_alike {p : Program} {w w0 : World} {at_ : Addr} (h : w0.heap[at_.block]? = w.heap[at_.block]?) (u : TypeId) (k : Addr) (b : Bool) : w0.seen p at_ u k b = w.seen p at_ u k b := by
  unfold World.seen; rw [h]
theorem seen_far {p : Program} {w : World} {at_ : Addr} {u : TypeId} {k : Addr} {b : Bool} {r : Array Value × TypeId × (Nat × Nat) × Nat × Value × List (Nat × Nat × List UInt8)} (h : w.seen p at_ u k b = .ok r) : ∃ c e f, w.heap[at_.block]? = some (.cells c e f) := by
  refine Classical.byContradiction fun hn => ?_
  simp only [World.seen, bind, Except.bind, throw, throwThe, MonadExceptOf.throw] at h
  repeat' (split at h)
  all_goals first
    | (cases h; done)
    | contradiction
    | (rename_i hx _ _ _ _; exact hn ⟨_, _, _, hx⟩)
    | exact hn ⟨_, _, _, by assumption⟩
theorem leBytes_len : ∀ (k n : Nat), (leBytes k n).length = k
  | 0, _ => rfl
  | k + 1, n => by simp [leBytes, leBytes_len k]
theorem bytes_pos {v : Value} {bs : List UInt8} (h : v.bytes? = some bs) : 0 < bs.length := by
  cases v <;> simp only [Value.bytes?, Option.some.injEq, reduceCtorEq] at h <;> subst h
  · simp
  · rename_i k n; cases k <;> simp [leBytes_len, IntKind.bits]
  · rename_i k n; cases k <;> simp [leBytes_len, FloatKind.bytes]
  · rename_i k n m; cases k <;> simp [leBytes_len, FloatKind.bytes]
theorem seenCells_none {p : Program} {e : TypeId} {f x stop : Nat} (h : x < stop) {r : List (Nat × Nat × List UInt8)} : seenCells p #[] e f x stop ≠ .ok r := by
  cases f with
  | zero => simp [seenCells]
  | succ f =>
    simp only [seenCells]
    rw [if_neg (by omega)]
    split
    · simp
    · split
      · simp
      · simp
theorem seen_ne {p : Program} {X : Nat} {w w0 : World} (h : Alike X w w0) {at_ : Addr} {u : TypeId} {k : Addr} {b : Bool} {r : Array Value × TypeId × (Nat × Nat) × Nat × Value × List (Nat × Nat × List UInt8)} (hr : w0.seen p at_ u k b = .ok r) : at_.block ≠ X := by
  intro e
  obtain ⟨cs, e', f, h1, h2⟩ := h.gone
  simp only [World.seen, e, h2, bind, Except.bind, throw, throwThe, MonadExceptOf.throw, pure, Except.pure] at hr
  repeat' (split at hr)
  all_goals first
    | (cases hr; done)
    | contradiction
    | (obtain ⟨bs, hbs, hsz⟩ := Option.map_eq_some_iff.1 ‹Option.map (fun x => List.length x) _ = some _›
       have hpos := bytes_pos hbs
       exact absurd ‹seenCells _ _ _ _ _ _ = Except.ok _› (seenCells_none (by omega)))
theorem viewLoad_alike {p : Program} {X : Nat} {w w0 : World} (h : Alike X w w0) {at_ : Addr} {u : TypeId} {k : Addr} {b : Bool} {r : Value × List Addr} (hr : w0.viewLoad p at_ u k b = .ok r) : w.viewLoad p at_ u k b = .ok r ∧ ∀ a ∈ r.2, a.block ≠ X := by
  have hs : ∃ x, w0.seen p at_ u k b = .ok x := by
    unfold World.viewLoad at hr
    cases hs : w0.seen p at_ u k b with
    | error e => rw [hs] at hr; cases hr
    | ok x => exact ⟨x, rfl⟩
  obtain ⟨x, hs⟩ := hs
  have hne := seen_ne h hs
  have hsw := seen_alike (p := p) (h.block _ hne) u k b
  refine ⟨?_, ?_⟩
  · rw [← hr]; unfold World.viewLoad; rw [hsw]
  · unfold World.viewLoad at hr
    rw [hs] at hr
    obtain ⟨c, e, fz, first, like, cells⟩ := x
    simp only [bind, Except.bind, throw, throwThe, MonadExceptOf.throw, pure, Except.pure] at hr
    repeat' (split at hr)
    all_goals first
      | (cases hr; done)
      | (injection hr with hr; subst hr; intro a ha; obtain ⟨_, _, rfl⟩ := List.mem_map.1 ha; exact hne)

theorem viewStore_alike {p : Program} {X : Nat} {w w0 : World} (h : Alike X w w0) {at_ : Addr} {u : TypeId} {k : Addr} {v : Value} {b : Bool} {r0 : World × List Addr} (hr : w0.viewStore p at_ u k v b = .ok r0) :
    ∃ r, w.viewStore p at_ u k v b = .ok r ∧ Alike X r.1 r0.1 ∧ r.2 = r0.2 ∧ (∀ a ∈ r.2, a.block ≠ X) ∧ r.1.heap[X]? = w.heap[X]? ∧ r.1.drawn = w.drawn ∧ r.1.tape = w.tape ∧ r0.1.drawn = w0.drawn ∧ r0.1.tape = w0.tape := by
  have hs : ∃ x, w0.seen p at_ u k b = .ok x := by
    unfold World.viewStore at hr
    cases hs : w0.seen p at_ u k b with
    | error e =>
      rw [hs] at hr
      simp only [bind, Except.bind, throw, throwThe, MonadExceptOf.throw, pure, Except.pure] at hr
      repeat' (split at hr)
      all_goals first | (cases hr; done) | contradiction
    | ok x => exact ⟨x, rfl⟩
  obtain ⟨x, hs⟩ := hs
  have hne := seen_ne h hs
  have hsw := seen_alike (p := p) (h.block _ hne) u k b
  unfold World.viewStore at hr ⊢
  rw [hs] at hsw hr
  rw [← hsw]
  obtain ⟨c, e, fz, first, like, cells⟩ := x
  simp only [bind, Except.bind, throw, throwThe, MonadExceptOf.throw, pure, Except.pure] at hr ⊢
  repeat' (split at hr)
  all_goals first
    | (cases hr; done)
    | contradiction
    | (injection hr with hr; subst hr
       simp only [*]
       refine ⟨_, rfl, ⟨h.os, h.output, by simp [h.size], fun b hb => ?_, ?_⟩, rfl, ?_, ?_, rfl, by first | trivial | exact ⟨rfl, rfl⟩ | exact ⟨rfl, rfl, rfl⟩⟩
       · simp only [Array.getElem?_setIfInBounds, h.size, h.block b hb]
       · obtain ⟨cs, e, f, h1, h2⟩ := h.gone
         exact ⟨cs, e, f, by rw [Array.getElem?_setIfInBounds_ne hne]; exact h1, by rw [Array.getElem?_setIfInBounds_ne hne]; exact h2⟩
       · intro a ha; obtain ⟨_, _, rfl⟩ := List.mem_map.1 ha; exact hne
       · exact Array.getElem?_setIfInBounds_ne hne)

theorem farLoad_alike {p : Program} {X : Nat} {w w0 : World} (h : Alike X w w0) {a : Addr} (hne : a.block ≠ X) {b : Bool} {r : Value × List Addr} (hr : w0.farLoad p a b = .ok r) : w.farLoad p a b = .ok r ∧ ∀ x ∈ r.2, x.block ≠ X := by
  unfold World.farLoad at hr ⊢
  rw [← h.block _ hne]
  split at hr
  · split at hr
    · injection hr with hr; subst hr
      rename_i hv
      have := viewLoad_alike h hv
      rw [this.1]
      exact ⟨rfl, this.2⟩
    · cases hr
  · cases hr
theorem far_ne {p : Program} {X : Nat} {w w0 : World} (h : Alike X w w0) {a : Addr} {b : Bool} {r : Value × List Addr} (hr : w0.farLoad p a b = .ok r) : a.block ≠ X := by
  rintro e
  obtain ⟨cs, e', f, h1, h2⟩ := h.gone
  unfold World.farLoad at hr
  rw [e, h2] at hr
  cases hr
theorem farStore_alike {p : Program} {X : Nat} {w w0 : World} (h : Alike X w w0) {a : Addr} {v : Value} {b : Bool} {r0 : World × List Addr} (hr : w0.farStore p a v b = .ok r0) :
    ∃ r, w.farStore p a v b = .ok r ∧ Alike X r.1 r0.1 ∧ r.2 = r0.2 ∧ (∀ a ∈ r.2, a.block ≠ X) ∧ r.1.heap[X]? = w.heap[X]? ∧ r.1.drawn = w.drawn ∧ r.1.tape = w.tape ∧ r0.1.drawn = w0.drawn ∧ r0.1.tape = w0.tape := by
  have hne : a.block ≠ X := by
    rintro e
    obtain ⟨cs, e', f, h1, h2⟩ := h.gone
    unfold World.farStore at hr
    rw [e, h2] at hr
    cases hr
  unfold World.farStore at hr ⊢
  rw [← h.block _ hne]
  split at hr
  · split at hr
    · injection hr with hr; subst hr
      rename_i hv
      obtain ⟨r, h1, h2⟩ := viewStore_alike h hv
      rw [h1]
      exact ⟨r, rfl, h2⟩
    · cases hr
  · cases hr

/-- A private event that does not touch block X; or 'no room'. -/
def Clean (X : Nat) (e : Event) : Prop := (∃ a wr, e = ⟨.cell a, wr, false⟩ ∧ a.block ≠ X) ∨ e = ⟨.mark .noRoom, false, true⟩ ∨ ∃ r sy, e = ⟨.obj r, false, sy⟩

theorem clean_push {X : Nat} {es : Array Event} {e : Event} (h : ∀ x ∈ es, Clean X x) (he : Clean X e) : ∀ x ∈ es.push e, Clean X x := by
  intro x hx
  rcases Array.mem_push.1 hx with hx | rfl
  · exact h x hx
  · exact he

/-- A TAME SCRIPT THAT SUCCEEDS WHERE BLOCK X IS OUT OF REACH does the same in the true world, whatever the tape and the draws, and leaves block X alone. -/
theorem tame_run {P : Program} {X : Nat} {α : Type} : ∀ {s : Sem α}, Tame P s → ∀ {w w0 : World} {es : Array Event} {a : α} {w0' : World} {es' : Array Event}, Alike X w w0 → (∀ i, w.tape (w.drawn + i) = w0.tape (w0.drawn + i)) → (∀ e ∈ es, Clean X e) → s.runT P w0 es = (.ok a w0', es') →
    ∃ w' c, s.runT P w es = (.ok a w', es') ∧ Alike X w' w0' ∧ w'.heap[X]? = w.heap[X]? ∧ w'.drawn = w.drawn + c ∧ w'.tape = w.tape ∧ w0'.drawn = w0.drawn + c ∧ w0'.tape = w0.tape ∧ ∀ e ∈ es', Clean X e
  | .pure a, _, w, w0, es, _, _, _, h, hA, he, hr => by
    simp only [Sem.runT, Prod.mk.injEq, Result.ok.injEq] at hr
    obtain ⟨⟨rfl, rfl⟩, rfl⟩ := hr
    exact ⟨w, 0, rfl, h, rfl, rfl, rfl, rfl, rfl, he⟩
  | .load m a k, ht, w, w0, es, x, w0', es', h, hA, he, hr => by
    obtain ⟨rfl, ht⟩ := ht
    simp only [Sem.runT] at hr ⊢
    split at hr
    · rename_i v hv
      obtain ⟨hne, hv'⟩ := h.cell hv
      rw [hv']
      exact tame_run (ht v) h hA (clean_push he (.inl ⟨a, false, rfl, hne⟩)) hr
    · rename_i hv
      split at hr
      · rename_i v touched hf
        have hne := far_ne h hf
        obtain ⟨hf', ht'⟩ := farLoad_alike h hne hf
        rw [← h.none hne, hv, hf']
        refine tame_run (ht v) h hA (fun e hx => ?_) hr
        rcases Array.mem_append.1 hx with hx | hx
        · exact he e hx
        · obtain ⟨y, hy, rfl⟩ := Array.mem_map.1 hx
          exact .inl ⟨y, false, rfl, ht' y (by simpa using hy)⟩
      · cases hr
  | .store m a v k, ht, w, w0, es, x, w0', es', h, hA, he, hr => by
    obtain ⟨rfl, ht⟩ := ht
    cases v <;> first
      | (simp only [Sem.runT] at hr; cases hr; done)
      | (simp only [Sem.runT] at hr ⊢
         split at hr
         · rename_i u hu
           obtain ⟨hne, hu'⟩ := h.cell hu
           rw [hu']
           simp only
           rw [← h.frozen a]
           split at hr
           · cases hr
           · rename_i hz
             rw [if_neg hz]
             obtain ⟨w', c, h1, h2, h3, h4⟩ := tame_run (s := k) ht (h.set hne _) hA (clean_push he (.inl ⟨a, true, rfl, hne⟩)) hr
             refine ⟨w', c, h1, h2, h3.trans ?_, h4⟩
             simp only [World.setCell, Array.getElem?_modify, hne, if_false]
         · rename_i hu
           split at hr
           · rename_i w1 touched hf
             have hne : a.block ≠ X := by
               rintro e
               obtain ⟨cs, e', f, h1, h2⟩ := h.gone
               unfold World.farStore at hf
               rw [e, h2] at hf
               cases hf
             obtain ⟨r, hf', h2, h3, h4, h5, h6, h7, h8, h9⟩ := farStore_alike h hf
             obtain ⟨r1, r2⟩ := r
             simp only at h2 h3 h4 h5 h6 h7 h8 h9
             subst h3
             rw [← h.none hne, hu, hf']
             simp only
             obtain ⟨w', c, g1, g2, g3, g4, g5, g6, g7, g8⟩ := tame_run (s := k) ht h2 (by rw [h6, h7, h8, h9]; exact hA) (fun e hx => by
               rcases Array.mem_append.1 hx with hx | hx
               · exact he e hx
               · obtain ⟨y, hy, rfl⟩ := Array.mem_map.1 hx
                 exact .inl ⟨y, true, rfl, h4 y (by simpa using hy)⟩) hr
             exact ⟨w', c, g1, g2, g3.trans h5, g4.trans (by rw [h6]), g5.trans h7, g6.trans (by rw [h8]), g7.trans h9, g8⟩
           · cases hr)
  | .new o k, ht, w, w0, es, x, w0', es', h, hA, he, hr => by
    simp only [Sem.runT] at hr ⊢
    rw [← h.size]
    have hX : X < w0.heap.size := by obtain ⟨cs, e, f, h1, h2⟩ := h.gone; exact (Array.getElem?_eq_some_iff.1 h2).1
    obtain ⟨w', c, g1, g2, g3, g4⟩ := tame_run (ht w0.heap.size) (h.push o) hA he hr
    refine ⟨w', c, g1, g2, g3.trans ?_, g4⟩
    have := h.size
    simp only [Array.getElem?_push]
    rw [if_neg (by omega)]
  | .shape r k, ht, w, w0, es, x, w0', es', h, hA, he, hr => by
    simp only [Sem.runT] at hr ⊢
    have e : k (w.shape? r) = k (w0.shape? r) := by
      by_cases hne : r = X
      · obtain ⟨cs, e', f, h1, h2⟩ := h.gone
        rcases ht.2 e' cs.size with e | e
        · simp only [World.shape?, hne, h1, h2]
          exact e
        · have e0 : w0.shape? r = some (e', 0) := by simp only [World.shape?, hne, h2]; rfl
          rw [e0] at hr
          exact absurd hr (e.no _ _ _ _ _)
      · simp only [World.shape?, h.block _ hne]
    rw [e]
    exact tame_run (ht.1 _) h hA he hr
  | .frozen a k, ht, w, w0, es, x, w0', es', h, hA, he, hr => by
    simp only [Sem.runT] at hr ⊢
    rw [← h.frozen a]
    exact tame_run (ht _) h hA he hr
  | .getObj r k, ht, w, w0, es, x, w0', es', h, hA, he, hr => by
    simp only [Sem.runT] at hr ⊢
    have hne : r ≠ X := by
      rintro rfl
      obtain ⟨cs, e', f, h1, h2⟩ := h.gone
      rw [h2] at hr
      cases hr
    rw [← h.block _ hne]
    split at hr
    · cases hr
    · rename_i o hn ho
      exact tame_run (ht o) h hA (clean_push he (.inr (.inr ⟨r, _, rfl⟩))) hr
    · cases hr
  | .choose q k, ht, w, w0, es, x, w0', es', h, hA, he, hr => by
    simp only [Sem.runT] at hr
    simp only [Sem.runT]
    split at hr
    · rename_i hf
      rw [if_pos hf]
      exact tame_run (ht 0) h hA he hr
    · rename_i hf
      rw [if_neg hf]
      have e0 : w.tape w.drawn = w0.tape w0.drawn := hA 0
      rw [e0]
      obtain ⟨w', c, g1, g2, g3, g4, g5, g6, g7, g8⟩ := tame_run (w := { w with drawn := w.drawn + 1 }) (w0 := { w0 with drawn := w0.drawn + 1 }) (ht _) (h.at w.tape w0.tape (w.drawn + 1) (w0.drawn + 1)) (fun i => by
        have := hA (1 + i)
        simpa only [Nat.add_assoc] using this) he hr
      exact ⟨w', 1 + c, g1, g2, g3, by rw [g4]; exact Nat.add_assoc _ _ _, g5, by rw [g6]; exact Nat.add_assoc _ _ _, g7, g8⟩
  | .program k, ht, w, w0, es, x, w0', es', h, hA, he, hr => by
    simp only [Sem.runT] at hr ⊢
    exact tame_run (s := k P) ht h hA he hr
  | .mark m k, ht, w, w0, es, x, w0', es', h, hA, he, hr => by
    obtain ⟨rfl, ht⟩ := ht
    simp only [Sem.runT] at hr ⊢
    exact tame_run (s := k) ht h hA (clean_push he (.inr (.inl rfl))) hr
  | .halt _, _, w, w0, es, _, _, _, h, hA, he, hr => by simp only [Sem.runT] at hr; cases hr

end Go.Proofs.YtgdlakhfkmhlnaaWear
namespace Go.Proofs.YtgdlakhfkmhlnaaWear
variable {P : Program}

theorem tb {α β : Type} {s : Sem α} {f : α → Sem β} (h : Tame P s) (hf : ∀ a, Tame P (f a)) : Tame P (s >>= f) := Tame.bind hf h
theorem tp {α : Type} (a : α) : Tame P (pure a : Sem α) := trivial
theorem hb {α β : Type} {s : Sem α} {f : α → Sem β} (h : Halts P s) : Halts P (s >>= f) := Halts.bind h
theorem hb2 {α β : Type} : ∀ {s : Sem α} {f : α → Sem β}, Tame P s → (∀ a, Halts P (f a)) → Halts P (s.bind f)
  | .pure a, _, _, h => h a
  | .load _ _ k, _, ht, h => fun v => hb2 (ht.2 v) h
  | .store _ _ _ k, _, ht, h => hb2 (s := k) ht.2 h
  | .new _ k, _, ht, h => fun v => hb2 (ht v) h
  | .shape _ k, _, ht, h => fun v => hb2 (ht.1 v) h
  | .frozen _ k, _, ht, h => fun v => hb2 (ht v) h
  | .getObj _ k, _, ht, h => fun v => hb2 (ht v) h
  | .choose _ k, _, ht, h => fun v => hb2 (ht v) h
  | .program k, _, ht, h => hb2 (s := k P) ht h
  | .mark _ k, _, ht, h => ⟨ht.1, hb2 (s := k) ht.2 h⟩
  | .halt _, _, ht, h => ht
theorem hb' {α β : Type} {s : Sem α} {f : α → Sem β} (h : Tame P s) (hf : ∀ a, Halts P (f a)) : Halts P (s >>= f) := hb2 h hf
theorem t_stuck {α : Type} (s : String) : Tame P (stuck s : Sem α) := trivial
theorem t_unsup {α : Type} (s : Unsupported) : Tame P (unsupported s : Sem α) := trivial
theorem h_stuck {α : Type} (s : String) : Halts P (stuck s : Sem α) := trivial
theorem h_unsup {α : Type} (s : Unsupported) : Halts P (unsupported s : Sem α) := trivial
theorem h_panic {α : Type} (v : Value) : Halts P (goPanic v : Sem α) := trivial
theorem t_program : Tame P program := trivial
theorem t_choose (q : Question) : Tame P (choose q) := fun _ => trivial
theorem t_load (a : Addr) : Tame P (load a) := ⟨rfl, fun _ => trivial⟩
theorem t_store (a : Addr) (v : Value) : Tame P (store a v) := ⟨rfl, trivial⟩
theorem t_new (o : Obj) : Tame P (newObj o) := fun _ => trivial
theorem t_getObj (r : Nat) : Tame P (getObj r) := fun _ => trivial
theorem t_typeInfo (t : TypeId) : Tame P (typeInfo t) := by
  refine tb t_program fun p => ?_
  split
  · exact tp _
  · exact t_stuck _
theorem t_underlying (t : TypeId) : Tame P (underlying t) := by
  refine tb t_program fun p => ?_
  split
  · exact tp _
  · exact t_stuck _
theorem t_sizeOf (t : TypeId) : Tame P (sizeOf t) := tb (t_typeInfo t) fun _ => tp _
theorem t_zero (t : TypeId) : Tame P (zeroValue t) := by
  refine tb (t_typeInfo t) fun i => ?_
  split
  · exact tp _
  · exact t_unsup _
theorem t_isAgg (t : TypeId) : Tame P (isAgg t) := by
  refine tb (t_underlying t) fun i => ?_
  split <;> exact tp _
theorem t_loadCells (a : Addr) : ∀ (n i : Nat) (acc : Array Value), Tame P (loadCellsFrom a i n acc)
  | 0, _, _ => tp _
  | n + 1, i, acc => tb (t_load _) fun v => t_loadCells a n _ _
theorem t_storeCells (a : Addr) : ∀ (vs : List Value) (i : Nat), Tame P (storeCells a vs i)
  | [], _ => tp _
  | v :: vs, i => tb (t_store _ _) fun _ => t_storeCells a vs _
theorem t_loadVar (t : TypeId) (a : Addr) : Tame P (loadVar t a) := by
  refine tb (t_isAgg t) fun b => ?_
  split
  · exact tb (t_sizeOf t) fun n => tb (t_loadCells a n 0 #[]) fun _ => tp _
  · exact t_load a
theorem t_storeVar (t : TypeId) (a : Addr) (v : Value) : Tame P (storeVar t a v) := by
  refine tb (t_sizeOf t) fun n => ?_
  split
  · exact tb (t_stuck _) fun _ => t_storeCells _ _ _
  · exact t_storeCells _ _ _
theorem t_newRow (e : TypeId) (cs : Array Value) : Tame P (newRow e cs) := tb (t_new _) fun _ => tp _
theorem t_newVar (e : TypeId) (v : Value) : Tame P (newVar e v) := t_newRow _ _
theorem t_elemOf (t : TypeId) : Tame P (elemOf t) := by
  refine tb (t_underlying t) fun i => ?_
  split
  · exact tp _
  · exact t_stuck _
theorem h_rtPanic {α : Type} (e : RuntimeError) : Halts P (runtimePanic e : Sem α) := by
  refine hb' t_program fun p => ?_
  cases e with
  | typeAssertion i c a m => exact hb' (t_elemOf _) fun _ => hb' (t_newVar _ _) fun _ => h_panic _
  | panicNil => exact hb' (t_elemOf _) fun _ => hb' (t_newVar _ _) fun _ => h_panic _
  | _ => exact h_panic _
theorem h_tame {α : Type} : ∀ {s : Sem α}, (∀ (β : Type), ∀ f : α → Sem β, True) → True := fun _ => trivial
theorem t_rtPanic {α : Type} (e : RuntimeError) : Tame P (runtimePanic e : Sem α) := by
  refine tb t_program fun p => ?_
  cases e with
  | typeAssertion i c a m => exact tb (t_elemOf _) fun _ => tb (t_newVar _ _) fun _ => trivial
  | panicNil => exact tb (t_elemOf _) fun _ => tb (t_newVar _ _) fun _ => trivial
  | _ => trivial
theorem t_bounds {α : Type} (k : IntKind) (x y : Int) (c : BoundsCode) : Tame P (boundsPanic k x y c : Sem α) := by
  unfold boundsPanic
  simp only []
  split
  · exact fun n => t_rtPanic (.bounds (IntKind.i64.wrap x) y (n == 1) c)
  · exact t_rtPanic (.bounds (IntKind.i64.wrap x) y (k != IntKind.u64) c)
theorem t_asIntOf (v : Value) : Tame P (asIntOf v) := by
  unfold asIntOf; split <;> trivial
theorem t_asInt (v : Value) : Tame P (asInt v) := tb (t_asIntOf v) fun _ => tp _
theorem t_asBool (v : Value) : Tame P (asBool v) := by
  unfold asBool; split <;> trivial
theorem t_sureAddr (v : Value) : Tame P (Instr.sureAddr v) := by
  unfold Instr.sureAddr; split <;> trivial
theorem t_asAddr (v : Value) : Tame P (asAddr v) := by
  unfold asAddr; split
  · trivial
  · exact t_rtPanic _
  · trivial
theorem t_askRoom (n : Nat) : Tame P (askRoom n) := by
  unfold askRoom; split
  · exact ⟨rfl, trivial⟩
  · trivial
theorem t_viewAt (r : Nat) : Tame P (viewAt r) := by
  refine ⟨fun s => ?_, fun e n => .inl ?_⟩
  · cases s with
    | none =>
      show Tame P (getObj r >>= _)
      refine tb (t_getObj r) fun o => ?_
      split <;> trivial
    | some _ => trivial
  · rfl
theorem t_numberAt (r : Nat) : Tame P (numberAt r) := by
  refine ⟨fun s => ?_, fun e n => .inl ?_⟩
  · cases s with
    | none =>
      show Tame P (getObj r >>= _)
      refine tb (t_getObj r) fun o => ?_
      split <;> trivial
    | some _ => trivial
  · rfl
theorem t_noView (a : Addr) : Tame P (noView a) := by
  refine tb (t_viewAt _) fun b => ?_
  split <;> trivial
theorem t_behind (a : Addr) : Tame P (behindNumber a) := tb (t_numberAt _) fun _ => tp _
theorem t_byteOf (a : Addr) : Tame P (byteOf a) := by
  unfold byteOf
  split
  · trivial
  · refine tb t_program fun p => tb (t_noView a) fun _ => ⟨fun s => ?_, fun e n => .inl rfl⟩
    cases s with
    | none => trivial
    | some x =>
      obtain ⟨e, n⟩ := x
      show Tame P (if p.cellsOf e = 0 then _ else _)
      split
      · trivial
      · split <;> trivial
theorem t_partAt (a : Addr) (c b : Nat) : Tame P (partAt a c b) := tb (t_byteOf a) fun _ => tb (t_byteOf _) fun _ => tp _
theorem t_fieldAt (s : TypeId) (x : Value) (f : Nat) : Tame P (Instr.fieldAt s x f) := by
  refine tb (t_underlying s) fun d => ?_
  split
  · split
    · refine tb (t_sureAddr x) fun a => tb ?_ fun _ => tp _
      refine tb (t_sizeOf _) fun n => ?_
      split
      · exact t_partAt _ _ _
      · exact tp _
    · exact t_stuck _
  · exact t_stuck _
theorem t_loadAt (t : TypeId) (v : Value) : Tame P (Instr.loadAt t v) := tb (t_sureAddr v) fun a => t_loadVar t a
theorem t_storeAt (t : TypeId) (v x : Value) : Tame P (Instr.storeAt t v x) := tb (t_sureAddr v) fun a => t_storeVar t a x
theorem t_indexAt (t : TypeId) (x i : Value) : Tame P (Instr.indexAt t x i) := by
  refine tb (t_asIntOf i) fun ki => ?_
  obtain ⟨k, i⟩ := ki
  refine tb (t_underlying t) fun d => ?_
  simp only []
  split
  case h_1 => refine tb (t_sureAddr _) fun _ => tb (tp _) fun _ => ?_; refine tb (t_underlying t) fun d => ?_; repeat' (first | exact tp _ | exact t_unsup _ | exact t_bounds _ _ _ _ | exact tb (t_sizeOf _) fun _ => tp _ | split)
  case h_2 => refine tb (tp _) fun _ => ?_; refine tb (t_underlying t) fun d => ?_; repeat' (first | exact tp _ | exact t_unsup _ | exact t_bounds _ _ _ _ | exact tb (t_sizeOf _) fun _ => tp _ | split)
  case h_3 => refine tb (t_stuck _) fun _ => ?_; refine tb (t_underlying t) fun d => ?_; repeat' (first | exact tp _ | exact t_unsup _ | exact t_bounds _ _ _ _ | exact tb (t_sizeOf _) fun _ => tp _ | split)
theorem t_alloc (e : TypeId) (v : Value) : Tame P (Instr.alloc e true v) := tb (t_zero e) fun z => tb (t_newVar _ _) fun _ => tp _
theorem t_box (e : TypeId) (v : Value) : Tame P (Instr.box e v) := tb (t_newVar _ _) fun _ => tp _
theorem t_len (ts : Array TypeId) (t : TypeId) (xs : Array Value) : Tame P (Builtin.len_ ts t xs) := by
  unfold Builtin.len_
  split
  · refine tb (t_underlying _) fun d => ?_
    split
    · exact tp _
    · exact tp _
    · refine tb (t_underlying _) fun d => ?_
      split
      · exact tp _
      · exact t_stuck _
    · exact tp _
    · exact tp _
    · exact tp _
    · refine tb (t_getObj _) fun o => ?_
      split
      · exact tp _
      · exact t_stuck _
    · refine tb (t_getObj _) fun o => ?_
      split
      · exact tp _
      · exact t_stuck _
    · exact t_stuck _
  · exact t_stuck _
theorem t_makeSlice (t : TypeId) (l c : Value) : Tame P (Instr.makeSlice t l c) := by
  refine tb (t_underlying t) fun d => ?_
  split
  · refine tb (t_asInt l) fun len => tb (t_asInt c) fun cap => tb (t_typeInfo _) fun info => ?_
    simp only []
    repeat' (first | exact tp _ | split | refine tb (t_askRoom _) fun _ => ?_ | refine tb (t_sizeOf _) fun _ => ?_ | refine tb (t_zero _) fun _ => ?_ | refine tb (tp _) fun _ => ?_ | refine tb (t_newRow _ _) fun _ => ?_ | refine tb (t_rtPanic _) fun _ => ?_ | refine tb (t_choose _) fun _ => ?_)
  · exact t_stuck _

theorem t_und {α : Type} {t : TypeId} {d : TypeDesc} {f : TypeDesc → Sem α} (h : P.underlying t = some d) (hf : Tame P (f d)) : Tame P (underlying t >>= f) := by
  show Tame P ((match P.underlying t with | some d => pure d | none => stuck "no such type").bind f)
  rw [h]
  exact hf
theorem t_twoPlaces (a b : Addr) : Tame P (Op.twoPlaces a b) := by
  refine tb t_program fun p => ?_
  split
  · exact tb (t_unsup _) fun _ => tb (t_byteOf _) fun _ => tb (t_byteOf _) fun _ => tp _
  · exact tb (t_byteOf _) fun _ => tb (t_byteOf _) fun _ => tp _
theorem t_addrCmp (op : BinOp) (a b : Addr) : Tame P (Op.addrCmp op a b) := by
  refine tb (t_twoPlaces a b) fun q => ?_
  obtain ⟨x, y⟩ := q
  simp only []
  cases op <;> trivial
theorem t_addrSub (k : IntKind) (a b : Addr) : Tame P (Op.addrSub k a b) := tb (t_twoPlaces a b) fun _ => tp _
theorem cellAtBytes_zero (p : Program) (d : Nat) (e : TypeId) (off : Nat) (n : Int) : cellAtBytes p d e 0 off n = none := by
  unfold cellAtBytes
  simp only [Nat.zero_mul]
  split
  · rfl
  · cases byteOfCell p d e (off % p.cellsOf e) with
    | none => rfl
    | some here =>
      simp only [Option.bind_eq_bind, Option.bind_some]
      split
      · rfl
      · rename_i h
        exfalso
        simp only [Bool.or_eq_true, decide_eq_true_eq, not_or] at h
        have h1 := h.1
        have h2 := h.2
        simp only [Int.ofNat_eq_natCast, Int.natCast_zero] at h1 h2
        omega
theorem t_unsafeAdd (ts : Array TypeId) (t : TypeId) (xs : Array Value) : Tame P (Builtin.unsafeAdd_ ts t xs) := by
  obtain ⟨l⟩ := xs
  rcases l with _ | ⟨a, _ | ⟨b, _ | ⟨c, l⟩⟩⟩
  · exact t_stuck _
  · cases a <;> exact t_stuck _
  · cases a with
    | pointer ptr =>
      refine tb (t_asInt b) fun n => ?_
      simp only []
      repeat' (first | exact tp _ | exact t_unsup _ | refine tb (t_viewAt _) fun _ => ?_ | refine tb (t_unsup _) fun _ => ?_ | refine ⟨fun s => ?_, fun e m => .inr ?_⟩ | split)
      · cases s with
        | none => trivial
        | some x =>
          obtain ⟨e, m⟩ := x
          simp only [Sem.bind]
          refine tb (t_program (P := P)) fun p => ?_
          split
          · exact tp _
          · exact t_unsup _
      · simp only [Nat.zero_div, cellAtBytes_zero, Sem.bind]
        trivial
    | _ => exact t_stuck _
  · cases a <;> exact t_stuck _
theorem t_asNumber (a : Addr) (b : Bool) : Tame P (asNumber a b) := tb (t_new _) fun _ => tp _
theorem t_movedNumber (h3 : P.underlying 3 = some (.int .i64)) (x y : Value) : Tame P (movedNumber 3 x y) := by
  refine t_und h3 ?_
  simp only []
  split
  · exact t_unsup _
  · split
    · refine tb (t_behind _) fun q => ?_
      obtain ⟨a, lost⟩ := q
      refine tb (t_unsafeAdd _ _ _) fun v => ?_
      split
      · exact t_asNumber _ _
      · exact tp _
    · exact t_unsafeAdd _ _ _
def okBin : BinOp → Bool
  | .add | .sub | .eql | .neq | .lss | .leq | .gtr | .geq => true
  | _ => false
theorem t_equal3 (h3 : P.underlying 3 = some (.int .i64)) (a b : Value) : Tame P (Op.equal 3 a b) := by
  unfold Op.equal Op.maxDepth
  show Tame P (Op.equalIn (9999 + 1) 3 a b)
  rw [Op.equalIn]
  refine t_und h3 ?_
  simp only []
  repeat' (first | contradiction | exact tp _ | exact t_stuck _ | exact t_unsup _ | exact t_program | split | refine tb (t_behind _) fun _ => ?_ | refine tb t_program fun _ => ?_ | refine tb (t_byteOf _) fun _ => ?_ | refine tb (t_typeInfo _) fun _ => ?_)
theorem t_guard3 (h3 : P.underlying 3 = some (.int .i64)) (op : BinOp) (x y : Operand) (a b : Value) : Tame P (eqGuard op 3 x y a b) := by
  have g : ∀ a b, Tame P (Op.eqGuardIn Op.maxDepth 3 a b) := by
    intro a b
    unfold Op.maxDepth
    show Tame P (Op.eqGuardIn (9999 + 1) 3 a b)
    rw [Op.eqGuardIn]
    refine t_und h3 ?_
    simp only []
    exact tp _
  unfold eqGuard
  repeat' (first | exact tp _ | exact t_unsup _ | split | refine tb (g _ _) fun _ => ?_ | refine tb t_program fun _ => ?_)
theorem t_floatArith (op : BinOp) (k : FloatKind) (x y : Nat) : Tame P (Op.floatArith op k x y) := by
  have rest : ∀ r : Option Nat, Tame P (match r with | some r => pure (Value.float k r) | none => do pure (.float k (← choose (.nanBits k x y)))) := by
    intro r
    cases r with
    | none => exact tb (t_choose _) fun _ => tp _
    | some _ => trivial
  unfold Op.floatArith
  cases op <;> first | exact tb (tp _) rest | exact tb (t_stuck _) rest
theorem t_floatCmp (op : BinOp) (k : FloatKind) (x y : Nat) : Tame P (Op.floatCmp op k x y) := by
  unfold Op.floatCmp; cases op <;> trivial
theorem t_cArith (op : BinOp) (k : FloatKind) (x y : Nat) : Tame P (Op.Complex.arith op k x y) := by
  refine tb (t_floatArith op k x y) fun v => ?_
  split
  · exact tp _
  · exact t_stuck _
theorem t_cCmp (op : BinOp) (k : FloatKind) (x y : Nat) : Tame P (Op.Complex.cmp op k x y) := tb (t_floatCmp op k x y) fun v => t_asBool v
theorem t_complex (op : BinOp) (hop : okBin op = true) (k : FloatKind) (a b c d : Nat) : Tame P (Op.complexOp op k a b c d) := by
  unfold Op.complexOp
  cases op <;> first
    | (exact absurd hop (by decide))
    | exact tb (t_cArith _ _ _ _) fun _ => tb (t_cArith _ _ _ _) fun _ => tp _
    | (refine tb (t_cCmp _ _ _ _) fun _ => ?_
       repeat' (first | exact tp _ | split | refine tb (t_cCmp _ _ _ _) fun _ => ?_ | refine tb (tp _) fun _ => ?_))
    | trivial
theorem t_string (op : BinOp) (a b : ByteArray) : Tame P (Op.stringOp op a b) := by
  unfold Op.stringOp
  cases op <;> simp only [] <;> (try split) <;> trivial
theorem t_intArith (op : BinOp) (k : IntKind) (x y : Int) : Tame P (Op.intArith op k x y) := by
  unfold Op.intArith; cases op <;> trivial
theorem t_intCmp (op : BinOp) (x y : Int) : Tame P (Op.intCmp op x y) := by
  unfold Op.intCmp; cases op <;> trivial
theorem t_binOp3 (h3 : P.underlying 3 = some (.int .i64)) (op : BinOp) (hop : okBin op = true) (a b : Value) : Tame P (binOp op 3 a b) := by
  unfold binOp
  split
  · exact absurd hop (by decide)
  · exact absurd hop (by decide)
  · split
    · exact t_stuck _
    · cases op <;> first | exact t_intArith _ _ _ _ | exact t_intCmp _ _ _ | exact absurd hop (by decide)
  · split
    · exact t_stuck _
    · cases op <;> first | exact t_floatArith _ _ _ _ | exact t_floatCmp _ _ _ _ | exact absurd hop (by decide)
  · split
    · exact t_stuck _
    · exact t_complex _ hop _ _ _ _ _
  · exact t_string _ _ _
  · exact tb (t_equal3 h3 _ _) fun _ => tp _
  · exact tb (t_equal3 h3 _ _) fun _ => tp _
  · refine t_und h3 ?_
    simp only []
    exact t_movedNumber h3 _ _
  · exact t_movedNumber h3 _ _
  · exact t_movedNumber h3 _ _
  · exact tb (t_behind _) fun _ => tb (t_behind _) fun _ => t_addrSub _ _ _
  all_goals first
    | exact tb (t_behind _) fun _ => tb (t_behind _) fun _ => t_addrCmp _ _ _
    | exact absurd hop (by decide)
    | exact t_unsup _
    | exact t_stuck _
theorem t_unary (op : UnOp) (x : Value) : Tame P (Op.unary op x) := by
  unfold Op.unary
  split <;> first | exact t_intArith _ _ _ _ | trivial | (unfold Op.intBits; cases op <;> trivial)

/-! ### scripts that say no mark -/
theorem ub {α β : Type} {s : Sem α} {f : α → Sem β} (h : Unmarked P s) (hf : ∀ a, Unmarked P (f a)) : Unmarked P (s >>= f) := Unmarked.bind hf h
theorem up {α : Type} (a : α) : Unmarked P (pure a : Sem α) := trivial
theorem u_stuck {α : Type} (s : String) : Unmarked P (stuck s : Sem α) := trivial
theorem u_unsup {α : Type} (s : Unsupported) : Unmarked P (unsupported s : Sem α) := trivial
theorem u_choose (q : Question) : Unmarked P (choose q) := fun _ => trivial
theorem u_getObj (r : Nat) : Unmarked P (getObj r) := fun _ => trivial
theorem u_setObj (r : Nat) (o : Obj) : Unmarked P (setObj r o) := trivial
theorem u_shape (r : Nat) : Unmarked P (shape r) := fun _ => trivial
theorem u_frozen (a : Addr) : Unmarked P (frozen a) := fun _ => trivial
theorem u_rt {α : Type} (e : RuntimeError) : Unmarked P (runtimePanic e : Sem α) := (t_rtPanic e).unmarked
theorem u_forList {α β : Type} {f : α → β → Sem (ForInStep β)} (hf : ∀ a b, Unmarked P (f a b)) : ∀ (l : List α) (b : β), Unmarked P (forIn l b f)
  | [], b => up b
  | a :: l, b => by
    rw [List.forIn_cons]
    refine ub (hf a b) fun r => ?_
    cases r with
    | done b => exact up b
    | yield b => exact u_forList hf l b
theorem u_forArr {α β : Type} {f : α → β → Sem (ForInStep β)} (hf : ∀ a b, Unmarked P (f a b)) (l : Array α) (b : β) : Unmarked P (forIn l b f) := by
  rw [← Array.forIn_toList]
  exact u_forList hf _ _
theorem u_forRange {β : Type} {f : Nat → β → Sem (ForInStep β)} (hf : ∀ a b, Unmarked P (f a b)) (r : Std.Legacy.Range) (b : β) : Unmarked P (forIn r b f) := by
  rw [Std.Legacy.Range.forIn_eq_forIn_range']
  exact u_forList hf _ _
theorem u_part (t : TypeId) (cs : Array Value) (n : Nat) : Unmarked P (part t cs n) := by
  refine ub (t_isAgg t).unmarked fun b => ?_
  split
  · exact ub (t_sizeOf t).unmarked fun _ => up _
  · split
    · exact up _
    · exact u_stuck _
theorem u_stringish (a : Addr) : Unmarked P (stringish a) := by
  refine ub (u_frozen a) fun b => ?_
  split
  · exact up _
  · refine ub (u_shape _) fun s => ?_
    split
    · exact u_frozen _
    · exact up _
theorem u_mayBeOne (a b : Addr) : Unmarked P (mayBeOne a b) := by
  have none_ : ∀ x : Addr, Unmarked P (do pure ((← shape x.block) matches some (_, 0)) : Sem Bool) := fun x => ub (u_shape _) fun _ => up _
  refine ub (u_stringish a) fun sa => ub (u_stringish b) fun sb => ?_
  exact ub (none_ a) fun _ => ub (none_ b) fun _ => up _
theorem u_sameAddr (a b : Addr) : Unmarked P (sameAddr a b) := by
  have fin : ∀ x : Bool, Unmarked P (if x = true then (do pure ((← choose (.extern "sameAddr.stringBytes" 2)) == 1)) else pure false : Sem Bool) := fun x => by
    cases x with
    | true => exact ub (u_choose _) fun _ => up _
    | false => exact up _
  unfold sameAddr
  split
  · exact up _
  · refine ub (u_frozen a) fun x => ub (u_frozen b) fun y => ?_
    split
    · exact ub (u_unsup _) fun _ => ub (t_noView _).unmarked fun _ => ub (t_noView _).unmarked fun _ => ub (u_mayBeOne _ _) fun x => fin x
    · exact ub (t_noView _).unmarked fun _ => ub (t_noView _).unmarked fun _ => ub (u_mayBeOne _ _) fun x => fin x
theorem u_samePointer (a b : Option Addr) : Unmarked P (samePointer a b) := by
  unfold samePointer
  split
  · exact u_sameAddr _ _
  · exact up _
theorem u_typeStr (t : TypeId) : Unmarked P (typeStr t) := by
  refine ub (t_typeInfo t).unmarked fun i => ?_
  simp only []
  split
  · exact u_unsup _
  · exact up _
theorem u_equalIn : ∀ (d : Nat) (t : TypeId) (x y : Value), Unmarked P (Op.equalIn d t x y)
  | 0, _, _, _ => by rw [Op.equalIn]; exact u_unsup _
  | d + 1, t, x, y => by
    rw [Op.equalIn]
    refine ub (t_underlying t).unmarked fun td => ?_
    repeat' (with_reducible first | exact up _ | exact u_stuck _ | exact u_unsup _ | exact u_equalIn d _ _ _ | exact u_sameAddr _ _ | exact u_samePointer _ _ | exact u_rt _ | refine ub (u_forArr (fun _ _ => ?_) _ _) fun _ => ?_ | refine ub (u_forRange (fun _ _ => ?_) _ _) fun _ => ?_ | refine ub (t_behind _).unmarked fun _ => ?_ | refine ub t_program.unmarked fun _ => ?_ | refine ub (t_byteOf _).unmarked fun _ => ?_ | refine ub (t_typeInfo _).unmarked fun _ => ?_ | refine ub (t_sizeOf _).unmarked fun _ => ?_ | refine ub (u_choose _) fun _ => ?_ | refine ub (u_typeStr _) fun _ => ?_ | refine ub (u_part _ _ _) fun _ => ?_ | refine ub (u_equalIn d _ _ _) fun _ => ?_ | refine ub (u_rt _) fun _ => ?_ | refine ub (u_unsup _) fun _ => ?_ | refine ub (up _) fun _ => ?_ | split | dsimp only)
theorem u_equal (t : TypeId) (x y : Value) : Unmarked P (Op.equal t x y) := u_equalIn _ _ _ _
theorem u_guardIn : ∀ (d : Nat) (t : TypeId) (x y : Value), Unmarked P (Op.eqGuardIn d t x y)
  | 0, _, _, _ => by rw [Op.eqGuardIn]; exact u_unsup _
  | d + 1, t, x, y => by
    rw [Op.eqGuardIn]
    refine ub (t_underlying t).unmarked fun td => ?_
    repeat' (with_reducible first | exact up _ | exact u_stuck _ | exact u_unsup _ | exact u_guardIn d _ _ _ | refine ub (u_forArr (fun _ _ => ?_) _ _) fun _ => ?_ | refine ub (u_forRange (fun _ _ => ?_) _ _) fun _ => ?_ | refine ub (t_sizeOf _).unmarked fun _ => ?_ | refine ub (u_part _ _ _) fun _ => ?_ | refine ub (u_guardIn d _ _ _) fun _ => ?_ | refine ub (up _) fun _ => ?_ | split | dsimp only)
theorem u_guard (op : BinOp) (t : TypeId) (x y : Operand) (a b : Value) : Unmarked P (eqGuard op t x y a b) := by
  unfold eqGuard
  repeat' (with_reducible first | exact up _ | exact u_unsup _ | split | refine ub (u_guardIn _ _ _ _) fun _ => ?_ | refine ub t_program.unmarked fun _ => ?_)
theorem u_binEq (op : BinOp) (hop : op = .eql ∨ op = .neq) (t : TypeId) (a b : Value) : Unmarked P (binOp op t a b) := by
  unfold binOp
  split
  · rcases hop with h | h <;> cases h
  · rcases hop with h | h <;> cases h
  · split
    · exact u_stuck _
    · rcases hop with rfl | rfl <;> exact (t_intCmp _ _ _).unmarked
  · split
    · exact u_stuck _
    · rcases hop with rfl | rfl <;> exact (t_floatCmp _ _ _ _).unmarked
  · split
    · exact u_stuck _
    · rcases hop with rfl | rfl <;> exact (t_complex _ rfl _ _ _ _ _).unmarked
  · exact (t_string _ _ _).unmarked
  · exact ub (u_equal _ _ _) fun _ => up _
  · exact ub (u_equal _ _ _) fun _ => up _
  all_goals first
    | (rcases hop with h | h <;> cases h; done)
    | exact u_unsup _
    | exact u_stuck _
theorem u_mapM {α β : Type} {f : α → Sem β} (hf : ∀ a, Unmarked P (f a)) (as : Array α) : Unmarked P (as.mapM f) := by
  have go : ∀ (l : List α) (bs : Array β), Unmarked P (l.foldlM (fun bs a => bs.push <$> f a) bs) := by
    intro l
    induction l with
    | nil => exact fun bs => up _
    | cons a l ih =>
      intro bs
      rw [List.foldlM_cons]
      exact ub (ub (s := f a) (hf a) fun b => up (bs.push b)) fun bs => ih bs
  rw [Array.mapM_eq_foldlM, ← Array.foldlM_toList]
  exact go _ _
theorem u_build (t : TypeId) (parts : Array (Nat × Value)) : Unmarked P (Instr.build t parts) := by
  have mp : ∀ (fs : Array Field), Unmarked P (fs.mapM fun f => do pure (f.offset, ← sizeOf f.type)) := fun fs => u_mapM (fun f => ub (t_sizeOf _).unmarked fun _ => up _) fs
  refine ub (t_zero t).unmarked fun z => ub (t_underlying t).unmarked fun d => ?_
  split
  · refine ub (mp _) fun _ => ?_
    split
    · exact up _
    · exact u_stuck _
  · refine ub (t_sizeOf _).unmarked fun _ => ?_
    split
    · exact up _
    · exact u_stuck _
  · exact u_stuck _
theorem u_makeInterface (t : TypeId) (x : Value) : Unmarked P (Instr.makeInterface t x) := by
  refine ub (t_underlying t).unmarked fun d => ?_
  split
  · exact u_stuck _
  · exact up _
theorem u_makeMap (t : TypeId) (r : Option Value) : Unmarked P (Instr.makeMap t r) := by
  have nw : Unmarked P (newObj (.map #[] 0)) := fun _ => trivial
  unfold Instr.makeMap
  repeat' (with_reducible first | exact up _ | exact u_stuck _ | refine ub (t_underlying _).unmarked fun _ => ?_ | refine ub (t_asInt _).unmarked fun _ => ?_ | refine ub nw fun _ => ?_ | refine ub (up _) fun _ => ?_ | refine ub (u_stuck _) fun _ => ?_ | split | dsimp only)
theorem u_checkKey : ∀ (b : Bool) (d : Nat) (t : TypeId) (x : Value), Unmarked P (Instr.checkKey b d t x)
  | _, 0, _, _ => by rw [Instr.checkKey]; exact u_unsup _
  | b, d + 1, t, x => by
    rw [Instr.checkKey]
    refine ub (t_underlying t).unmarked fun td => ?_
    repeat' (with_reducible first | exact up _ | exact u_stuck _ | exact u_unsup _ | exact u_checkKey b d _ _ | exact u_rt _ | refine u_forArr (fun _ _ => ?_) _ _ | refine u_forRange (fun _ _ => ?_) _ _ | refine ub (u_forArr (fun _ _ => ?_) _ _) fun _ => ?_ | refine ub (u_forRange (fun _ _ => ?_) _ _) fun _ => ?_ | refine ub (t_typeInfo _).unmarked fun _ => ?_ | refine ub (t_sizeOf _).unmarked fun _ => ?_ | refine ub (u_typeStr _) fun _ => ?_ | refine ub (u_part _ _ _) fun _ => ?_ | refine ub (u_checkKey b d _ _) fun _ => ?_ | refine ub (u_rt _) fun _ => ?_ | refine ub (up _) fun _ => ?_ | split | dsimp only)
theorem u_findAsking (t : TypeId) (k : Value) : ∀ (es : List MapEntry) (i : Nat), Unmarked P (Instr.findAsking t k es i)
  | [], _ => up _
  | e :: es, i => by
    refine ub (u_equal _ _ _) fun b => ?_
    split
    · exact up _
    · exact u_findAsking t k es _
theorem u_findKey (t : TypeId) (k : Value) (es : List MapEntry) : Unmarked P (Instr.findKey t k es) := by
  refine ub (t_underlying t).unmarked fun d => ?_
  split
  · exact up _
  · exact u_findAsking _ _ _ _
theorem u_keyStays (a b : Value) : Unmarked P (Instr.keyThatStays a b) := by
  unfold Instr.keyThatStays
  split
  · exact up _
  · exact ub (u_choose _) fun _ => up _
theorem u_lookup (t : TypeId) (x i : Value) (b : Bool) : Unmarked P (Instr.lookup t x i b) := by
  unfold Instr.lookup
  repeat' (with_reducible first | exact up _ | exact u_stuck _ | refine ub (t_underlying _).unmarked fun _ => ?_ | refine ub (u_getObj _) fun _ => ?_ | refine ub (u_checkKey _ _ _ _) fun _ => ?_ | refine ub (u_findKey _ _ _) fun _ => ?_ | refine ub (t_zero _).unmarked fun _ => ?_ | refine ub (up _) fun _ => ?_ | refine ub (u_stuck _) fun _ => ?_ | split | dsimp only)
theorem u_mapUpdate (t : TypeId) (m k x : Value) : Unmarked P (Instr.mapUpdate t m k x) := by
  unfold Instr.mapUpdate
  repeat' (with_reducible first | exact up _ | exact u_stuck _ | exact u_rt _ | exact u_setObj _ _ | refine ub (t_underlying _).unmarked fun _ => ?_ | refine ub (u_getObj _) fun _ => ?_ | refine ub (u_checkKey _ _ _ _) fun _ => ?_ | refine ub (u_findKey _ _ _) fun _ => ?_ | refine ub (u_keyStays _ _) fun _ => ?_ | refine ub (up _) fun _ => ?_ | refine ub (u_stuck _) fun _ => ?_ | split | dsimp only)


/-! ### the operations -/
theorem u_bin3 (h3 : P.underlying 3 = some (.int .i64)) (op : BinOp) (hop : okBin op = true) (x y : Operand) (a b : Value) : Tame P (do eqGuard op 3 x y a b; binOp op 3 a b) := tb (t_guard3 h3 _ _ _ _ _) fun _ => t_binOp3 h3 op hop a b

/-- Operations whose scripts are tame. -/
def okT : Op → Bool
  | .move _ | .assign _ | .pick .. | .alloc _ | .box .. | .load .. | .store .. | .unOp .. | .makeSlice .. | .fieldAddr .. | .indexAddr .. => true
  | .binOp op t _ _ _ => t == 3 && okBin op
  | .call { callee := .builtin .len, .. } => true
  | _ => false
/-- Operations whose scripts say no mark. -/
def okU : Op → Bool
  | .build .. | .makeMap .. | .mapUpdate .. | .lookup .. | .makeInterface .. => true
  | .binOp op _ _ _ _ => op == .eql || op == .neq
  | _ => false
theorem okT_tame (h3 : P.underlying 3 = some (.int .i64)) {o : Oper} (h : okT o.op = true) (ρ : Operand → Value) : Tame P (execOp ρ o) := by
  unfold execOp
  generalize o.op = op at h
  cases op <;> simp only [okT, Bool.false_eq_true, Bool.and_eq_true, beq_iff_eq] at h ⊢
  all_goals first
    | exact tp _
    | exact tb (t_asBool _) fun _ => by split <;> exact tp _
    | exact tb (t_alloc _ _) fun _ => tp _
    | exact tb (t_box _ _) fun _ => tp _
    | exact tb (t_loadAt _ _) fun _ => tp _
    | exact tb (t_storeAt _ _ _) fun _ => tp _
    | exact tb (t_unary _ _) fun _ => tp _
    | exact tb (t_makeSlice _ _ _) fun _ => tp _
    | exact tb (t_fieldAt _ _ _) fun _ => tp _
    | exact tb (t_indexAt _ _ _) fun _ => tp _
    | (obtain ⟨rfl, hop⟩ := h; exact tb (u_bin3 h3 _ hop _ _ _ _) fun _ => tp _)
    | (split at h <;> first
        | contradiction
        | exact absurd h (by decide)
        | (rename_i heq; cases heq; exact tb (s := Builtin.len_ _ _ _) (t_len _ _ _) fun _ => tp _))

theorem okU_unmarked (h3 : P.underlying 3 = some (.int .i64)) {o : Oper} (h : okT o.op = true ∨ okU o.op = true) (ρ : Operand → Value) : Unmarked P (execOp ρ o) := by
  rcases h with h | h
  · exact (okT_tame h3 h ρ).unmarked
  unfold execOp
  generalize o.op = op at h
  cases op <;> simp only [okU, Bool.false_eq_true, Bool.or_eq_true, beq_iff_eq] at h ⊢
  all_goals first
    | exact ub (u_build _ _) fun _ => up _
    | exact ub (u_makeMap _ _) fun _ => up _
    | exact ub (u_mapUpdate _ _ _ _) fun _ => up _
    | exact ub (u_lookup _ _ _ _) fun _ => up _
    | exact ub (u_makeInterface _ _) fun _ => up _
    | exact ub (ub (u_guard _ _ _ _ _ _) fun _ => u_binEq _ h _ _ _) fun _ => up _

/-- It ends by a value, or by nothing. -/
def Ends : Next → Prop
  | .value _ | .skip => True
  | _ => False
def Leaf {α : Type} (Q : α → Prop) : Sem α → Prop
  | .pure a => Q a
  | .load _ _ k => ∀ v, Leaf Q (k v)
  | .store _ _ _ k => Leaf Q k
  | .new _ k => ∀ r, Leaf Q (k r)
  | .shape _ k => ∀ s, Leaf Q (k s)
  | .freeze _ _ k => Leaf Q k
  | .frozen _ k => ∀ b, Leaf Q (k b)
  | .getObj _ k => ∀ o, Leaf Q (k o)
  | .setObj _ _ k => Leaf Q k
  | .choose _ k => ∀ n, Leaf Q (k n)
  | .sys _ k => ∀ r, Leaf Q (k r)
  | .program k => ∀ p, Leaf Q (k p)
  | .mark _ k => Leaf Q k
  | .halt _ => True
theorem Leaf.bind {α β : Type} {Q : β → Prop} {f : α → Sem β} (hf : ∀ a, Leaf Q (f a)) : ∀ (s : Sem α), Leaf Q (s.bind f)
  | .pure a => hf a
  | .load _ _ k => fun v => Leaf.bind hf (k v)
  | .store _ _ _ k => Leaf.bind hf k
  | .new _ k => fun v => Leaf.bind hf (k v)
  | .shape _ k => fun v => Leaf.bind hf (k v)
  | .freeze _ _ k => Leaf.bind hf k
  | .frozen _ k => fun v => Leaf.bind hf (k v)
  | .getObj _ k => fun v => Leaf.bind hf (k v)
  | .setObj _ _ k => Leaf.bind hf k
  | .choose _ k => fun v => Leaf.bind hf (k v)
  | .sys _ k => fun v => Leaf.bind hf (k v)
  | .program k => fun v => Leaf.bind hf (k v)
  | .mark _ k => Leaf.bind hf k
  | .halt _ => trivial
theorem Leaf.run {α : Type} {Q : α → Prop} {P : Program} : ∀ {s : Sem α}, Leaf Q s → ∀ {w : World} {es es' : Array Event} {a : α} {w' : World}, s.runT P w es = (.ok a w', es') → Q a
  | .pure _, h, _, _, _, _, _, e => by simp only [Sem.runT, Prod.mk.injEq, Result.ok.injEq] at e; obtain ⟨⟨rfl, _⟩, _⟩ := e; exact h
  | .load _ _ k, h, _, _, _, _, _, e => by
    simp only [Sem.runT] at e
    split at e
    · exact (h _).run e
    · split at e
      · exact (h _).run e
      · cases e
  | .store _ _ v k, h, w, es, es', a, w', e => by
    have hk := fun w es e => Leaf.run (P := P) (s := k) h (w := w) (es := es) (es' := es') (a := a) (w' := w') e
    cases v <;> simp only [Sem.runT] at e <;> first
      | (cases e; done)
      | (split at e
         · split at e
           · cases e
           · exact hk _ _ e
         · split at e
           · exact hk _ _ e
           · cases e)
  | .new _ k, h, _, _, _, _, _, e => (h _).run e
  | .shape _ k, h, _, _, _, _, _, e => (h _).run e
  | .freeze _ _ k, h, _, _, _, _, _, e => Leaf.run (s := k) h e
  | .frozen _ k, h, _, _, _, _, _, e => (h _).run e
  | .getObj _ k, h, _, _, _, _, _, e => by
    simp only [Sem.runT] at e
    split at e
    · cases e
    · exact (h _).run e
    · cases e
  | .setObj _ _ k, h, _, _, _, _, _, e => by
    simp only [Sem.runT] at e
    split at e
    · cases e
    · exact Leaf.run (s := k) h e
    · cases e
  | .choose _ k, h, _, _, _, _, _, e => by
    simp only [Sem.runT] at e
    split at e <;> exact (h _).run e
  | .sys _ k, h, _, _, _, _, _, e => (h _).run e
  | .program k, h, _, _, _, _, _, e => (h _).run e
  | .mark _ k, h, _, _, _, _, _, e => Leaf.run (s := k) h e
  | .halt _, _, _, _, _, _, _, e => by simp only [Sem.runT] at e; cases e
theorem lv (s : Sem Value) : Leaf Ends (do pure (.value (← s)) : Sem Next) := Leaf.bind (Q := Ends) (fun x => by show Ends (Next.value x); trivial) s
theorem lu (s : Sem Unit) : Leaf Ends (do s; pure .skip : Sem Next) := Leaf.bind (Q := Ends) (fun _ => by show Ends Next.skip; trivial) s
theorem ok_leaf {o : Oper} (h : okT o.op = true ∨ okU o.op = true) (ρ : Operand → Value) : Leaf Ends (execOp ρ o) := by
  unfold execOp
  generalize o.op = op at h
  cases op <;> simp only [okU, okT, Bool.false_eq_true, or_self, or_false, false_or] at h ⊢
  all_goals first
    | trivial
    | exact lv _
    | exact lu _
    | exact Leaf.bind (Q := Ends) (fun b => by show Ends (Next.value _); trivial) (asBool _)
    | (split at h <;> first
        | contradiction
        | exact absurd h (by decide)
        | (rename_i heq; cases heq; exact lv (Builtin.len_ _ _ _)))
end Go.Proofs.YtgdlakhfkmhlnaaWear
namespace Go.Proofs.YtgdlakhfkmhlnaaWear
/-- The same memory under another tape. -/
def _root_.Go.World.wt (w : World) (T : Nat → Question → Nat) (d : Nat) : World := { w with tape := T, drawn := d }

theorem seen_wt (p : Program) (w : World) (T : Nat → Question → Nat) (d : Nat) (at_ : Addr) (u : TypeId) (k : Addr) (b : Bool) : (w.wt T d).seen p at_ u k b = w.seen p at_ u k b := rfl
theorem farLoad_wt (p : Program) (w : World) (T : Nat → Question → Nat) (d : Nat) (a : Addr) (b : Bool) : (w.wt T d).farLoad p a b = w.farLoad p a b := rfl
theorem viewStore_wt {p : Program} {w : World} {at_ : Addr} {u : TypeId} {k : Addr} {v : Value} {b : Bool} {r : World × List Addr} (hr : w.viewStore p at_ u k v b = .ok r) (T : Nat → Question → Nat) (d : Nat) :
    (w.wt T d).viewStore p at_ u k v b = .ok (r.1.wt T d, r.2) ∧ r.1.drawn = w.drawn ∧ r.1.tape = w.tape := by
  unfold World.viewStore at hr ⊢
  rw [seen_wt]
  cases hs : w.seen p at_ u k b with
  | error e =>
    rw [hs] at hr
    simp only [bind, Except.bind, throw, throwThe, MonadExceptOf.throw, pure, Except.pure] at hr
    repeat' (split at hr)
    all_goals first | (cases hr; done) | contradiction
  | ok x =>
    rw [hs] at hr
    obtain ⟨c, e, fz, first, like, cells⟩ := x
    simp only [bind, Except.bind, throw, throwThe, MonadExceptOf.throw, pure, Except.pure] at hr ⊢
    repeat' (split at hr)
    all_goals first
      | (cases hr; done)
      | contradiction
      | (injection hr with hr; subst hr
         simp only [*]
         exact ⟨rfl, by first | trivial | exact ⟨rfl, rfl⟩⟩)
theorem farStore_wt {p : Program} {w : World} {a : Addr} {v : Value} {b : Bool} {r : World × List Addr} (hr : w.farStore p a v b = .ok r) (T : Nat → Question → Nat) (d : Nat) :
    (w.wt T d).farStore p a v b = .ok (r.1.wt T d, r.2) ∧ r.1.drawn = w.drawn ∧ r.1.tape = w.tape := by
  unfold World.farStore at hr ⊢
  have e : (w.wt T d).heap = w.heap := rfl
  rw [e]
  split at hr
  · split at hr
    · injection hr with hr; subst hr
      rename_i hv
      obtain ⟨h1, h2⟩ := viewStore_wt hv T d
      rw [h1]
      exact ⟨rfl, h2⟩
    · cases hr
  · cases hr

theorem tape_run {P : Program} {α : Type} : ∀ {s : Sem α}, Tame P s → ∀ {w : World} {es : Array Event} {a : α} {w' : World} {es' : Array Event}, s.runT P w es = (.ok a w', es') →
    w.drawn ≤ w'.drawn ∧ w'.tape = w.tape ∧ ∀ (T : Nat → Question → Nat) (d : Nat), (∀ i, w.drawn + i < w'.drawn → T (d + i) = w.tape (w.drawn + i)) → s.runT P (w.wt T d) es = (.ok a (w'.wt T (d + (w'.drawn - w.drawn))), es')
  | .pure a, _, w, es, _, _, _, hr => by
    simp only [Sem.runT, Prod.mk.injEq, Result.ok.injEq] at hr
    obtain ⟨⟨rfl, rfl⟩, rfl⟩ := hr
    refine ⟨Nat.le_refl _, rfl, fun T d _ => ?_⟩
    simp [Sem.runT]
  | .load m a k, ht, w, es, x, w', es', hr => by
    simp only [Sem.runT] at hr ⊢
    have ec : ∀ T d, (w.wt T d).cell? a = w.cell? a := fun _ _ => rfl
    simp only [ec, farLoad_wt]
    split at hr
    · rename_i v hv
      try simp only [hv]
      exact tape_run (ht.2 v) hr
    · rename_i hv
      try simp only [hv]
      split at hr
      · rename_i v t hf
        try simp only [hf]
        exact tape_run (ht.2 v) hr
      · cases hr
  | .store m a v k, ht, w, es, x, w', es', hr => by
    have hk := fun w es hr => tape_run (s := k) ht.2 (w := w) (es := es) (a := x) (w' := w') (es' := es') hr
    have ec : ∀ T d, (w.wt T d).cell? a = w.cell? a := fun _ _ => rfl
    have ef : ∀ T d, (w.wt T d).frozen? a = w.frozen? a := fun _ _ => rfl
    have es_ : ∀ T d, (w.wt T d).setCell a v = (w.setCell a v).wt T d := fun _ _ => rfl
    cases v <;> simp only [Sem.runT, ec, ef, es_] at hr ⊢ <;> first
      | (cases hr; done)
      | (split at hr
         · rename_i hv
           try simp only [hv]
           split at hr
           · cases hr
           · rename_i hz
             try simp only [hz, if_false, Bool.false_eq_true, ↓reduceIte]
             exact hk _ _ hr
         · rename_i hv
           try simp only [hv]
           split at hr
           · rename_i w1 t hf
             obtain ⟨h1, h2, h3⟩ := hk _ _ hr
             have f0 := fun T d => farStore_wt hf T d
             have fd := (f0 w.tape 0).2.1
             have ft := (f0 w.tape 0).2.2
             simp only at fd ft
             refine ⟨by rw [← fd]; exact h1, h2.trans ft, fun T d hA => ?_⟩
             rw [(f0 T d).1]
             simp only
             have := h3 T d (by rw [fd, ft]; exact hA)
             rw [fd] at this
             exact this
           · cases hr)
  | .new o k, ht, w, es, x, w', es', hr => by
    simp only [Sem.runT] at hr ⊢
    exact tape_run (ht _) hr
  | .shape r k, ht, w, es, x, w', es', hr => by
    simp only [Sem.runT] at hr ⊢
    exact tape_run (ht.1 _) hr
  | .frozen a k, ht, w, es, x, w', es', hr => by
    simp only [Sem.runT] at hr ⊢
    exact tape_run (ht _) hr
  | .getObj r k, ht, w, es, x, w', es', hr => by
    simp only [Sem.runT] at hr ⊢
    have e : ∀ T d, (w.wt T d).heap = w.heap := fun _ _ => rfl
    simp only [e]
    split at hr
    · cases hr
    · rename_i o hn ho
      try simp only [ho]
      obtain ⟨h1, h2, h3⟩ := tape_run (ht o) hr
      refine ⟨h1, h2, fun T d hA => ?_⟩
      have := h3 T d hA
      cases o <;> first | exact this | exact absurd rfl (hn _ _ _)
    · cases hr
  | .choose q k, ht, w, es, x, w', es', hr => by
    simp only [Sem.runT] at hr ⊢
    split at hr
    · rename_i hf
      try simp only [hf, if_true]
      exact tape_run (ht 0) hr
    · rename_i hf
      try simp only [hf, if_false, Bool.false_eq_true, ↓reduceIte]
      obtain ⟨h1, h2, h3⟩ := tape_run (ht _) hr
      simp only at h1 h2 h3
      refine ⟨by omega, h2, fun T d hA => ?_⟩
      have e0 : T d = w.tape w.drawn := hA 0 (by omega)
      have et : (w.wt T d).tape (w.wt T d).drawn q = w.tape w.drawn q := by show T d q = _; rw [e0]
      rw [et]
      have := h3 T (d + 1) (fun i hi => by
        have := hA (1 + i) (by omega)
        simpa only [Nat.add_assoc] using this)
      have ed : d + 1 + (w'.drawn - (w.drawn + 1)) = d + (w'.drawn - w.drawn) := by omega
      rw [ed] at this
      exact this
  | .program k, ht, w, es, x, w', es', hr => by
    simp only [Sem.runT] at hr ⊢
    exact tape_run (s := k P) ht hr
  | .mark m k, ht, w, es, x, w', es', hr => by
    simp only [Sem.runT] at hr ⊢
    exact tape_run (s := k) ht.2 hr
  | .halt _, _, w, es, _, _, _, hr => by simp only [Sem.runT] at hr; cases hr
end Go.Proofs.YtgdlakhfkmhlnaaWear
namespace Go.Proofs.YtgdlakhfkmhlnaaWear
open Go.Conc (G)

section
variable (F : FuncId → Bool) (full : Bool)
def okOp : Op → Bool
  | .call { callee := .value (.func f), .. } => F f
  | op => okT op || (full && okU op)
def okCode : Code → Bool
  | .region _ ops _ => ops.all fun o => okOp F full o.op
  | .seq a b | .cond _ a b => okCode a && okCode b
  | .block _ c | .loop c | .scope c => okCode c
  | .rangeFunc .. | .refuse _ => false
  | _ => true
def okItem : Item → Bool
  | .code c | .inLoop c | .inScope c => okCode F full c
  | .inBlock _ => true
  | .inRegion ops l => l.all fun i => ((ops[i]?).map fun o => okOp F full o.op).getD true
  | _ => false
end

structure OkFrame (P : Program) (F : FuncId → Bool) (full : Bool) (fr : Frame) : Prop where
  todo : ∀ x ∈ fr.todo, okItem F full x = true
  defers : fr.defers = []
  kind : fr.kind = .normal
  round : fr.roundOf = none
  fn : ∃ fn, P.funcs[fr.fn]? = some fn
/-- The functions that are let by. -/
def Closed (P : Program) (F : FuncId → Bool) (full : Bool) : Prop :=
  ∀ f, F f = true → ∃ fn c, P.funcs[f]? = some fn ∧ (fn.name == "runtime.NumGoroutine") = false ∧ fn.body = some c ∧ okCode F full c = true

section
variable {P : Program} {F : FuncId → Bool} {full : Bool} {fr : Frame}
theorem OkFrame.with_todo (h : OkFrame P F full fr) {k : List Item} (hk : ∀ x ∈ k, okItem F full x = true) : OkFrame P F full { fr with todo := k } := ⟨hk, h.defers, h.kind, h.round, h.fn⟩
theorem OkFrame.leave (h : OkFrame P F full fr) : OkFrame P F full { fr with mode := .returning } := ⟨h.todo, h.defers, h.kind, h.round, h.fn⟩
theorem OkFrame.finish (h : OkFrame P F full fr) (v : Value) : OkFrame P F full (fr.finish v) := by
  unfold Frame.finish
  split
  · rename_i ops i rest k ht
    refine ⟨fun x hx => ?_, h.defers, h.kind, h.round, h.fn⟩
    have hm : ∀ x ∈ Item.inRegion ops (i :: rest) :: k, okItem F full x = true := by rw [← ht]; exact h.todo
    rcases List.mem_cons.1 hx with rfl | hx
    · have := hm (.inRegion ops (i :: rest)) (by simp)
      simp only [okItem, List.all_cons, Bool.and_eq_true] at this ⊢
      exact this.2
    · exact hm x (by simp [hx])
  all_goals first
    | exact h
    | (rename_i ht
       have := h.todo _ (by rw [ht]; exact List.mem_cons_self)
       simp [okItem] at this)
theorem finish_mode (fr : Frame) (v : Value) : (fr.finish v).mode = fr.mode := by
  unfold Frame.finish; split <;> rfl
theorem finish_fn (fr : Frame) (v : Value) : (fr.finish v).fn = fr.fn := by
  unfold Frame.finish; split <;> rfl
theorem exitTo_sub {id : Nat} : ∀ {k k' : List Item}, exitTo id k = some k' → ∀ x ∈ k', x ∈ k
  | [], _, h => by simp [exitTo] at h
  | i :: k, k', h => by
    intro x hx
    have rec_ : exitTo id k = some k' → x ∈ i :: k := fun h => List.mem_cons_of_mem _ (exitTo_sub h x hx)
    cases i <;> simp only [exitTo] at h <;> first
      | exact rec_ h
      | (split at h
         · injection h with h; subst h; exact List.mem_cons_of_mem _ hx
         · exact rec_ h)
theorem findLabel_ok {l : Nat} : ∀ {c c' : Code}, findLabel c l = some c' → okCode F full c = true → okCode F full c' = true
  | .seq a b, c', h, ho => by
    simp only [okCode, Bool.and_eq_true] at ho
    simp only [findLabel] at h
    split at h
    · rename_i rest hr
      injection h with h; subst h
      simp only [okCode, Bool.and_eq_true]
      exact ⟨findLabel_ok hr ho.1, ho.2⟩
    · exact findLabel_ok h ho.2
  | .label l', c', h, ho => by
    simp only [findLabel] at h
    split at h
    · injection h with h; subst h; rfl
    · cases h
  | .region .., _, h, _ | .skip, _, h, _ | .ret, _, h, _ | .cond .., _, h, _ | .block .., _, h, _ | .loop _, _, h, _ | .scope _, _, h, _ | .exit _, _, h, _ | .goto _, _, h, _ | .rangeFunc .., _, h, _ | .refuse _, _, h, _ => by simp [findLabel] at h
theorem gotoIn_ok {l : Nat} : ∀ {k k' : List Item}, gotoIn l k = some k' → (∀ x ∈ k, okItem F full x = true) → ∀ x ∈ k', okItem F full x = true
  | [], _, h, _ => by simp [gotoIn] at h
  | i :: k, k', h, ho => by
    have rec_ : gotoIn l k = some k' → ∀ x ∈ k', okItem F full x = true := fun h => gotoIn_ok h fun x hx => ho x (List.mem_cons_of_mem _ hx)
    cases i <;> simp only [gotoIn] at h <;> first
      | exact rec_ h
      | (split at h
         · rename_i body rest hr
           injection h with h; subst h
           intro x hx
           have hb := ho _ List.mem_cons_self
           simp only [List.mem_cons] at hx
           rcases hx with rfl | rfl | hx
           · exact findLabel_ok hr hb
           · exact hb
           · exact ho x (List.mem_cons_of_mem _ hx)
         · exact rec_ h)

theorem Frame.enter_ok (hF : Closed P F full) {f : FuncId} (hf : F f = true) (args : Array Value) : OkFrame P F full (Frame.enter P f args .normal) ∧ (Frame.enter P f args .normal).mode = .run := by
  obtain ⟨fn, c, h1, h2, h3, h4⟩ := hF f hf
  refine ⟨⟨fun x hx => ?_, rfl, rfl, rfl, ⟨fn, h1⟩⟩, rfl⟩
  simp only [Frame.enter, h1, Option.bind_some, h3, Option.getD_some, List.mem_singleton] at hx
  subst hx
  exact h4
end

/-- The forms of a step of a frame that is let by: whatever the world, whoever called. -/
theorem all_listed {F : FuncId → Bool} {full : Bool} {ops : Array Oper} (h : (ops.all fun o => okOp F full o.op) = true) (l : List Nat) : (l.all fun i => ((ops[i]?).map fun o => okOp F full o.op).getD true) = true := by
  refine List.all_eq_true.2 fun i _ => ?_
  cases ho : ops[i]? with
  | none => rfl
  | some o => exact Array.all_eq_true'.1 h o (Array.mem_of_getElem? ho)
inductive Form (P : Program) (F : FuncId → Bool) (full : Bool) (fr : Frame) (rest : List Frame) : Prop
  | ctl (fr' : Frame) : OkFrame P F full fr' → (fr'.mode = .run ∨ fr'.mode = .returning) → (∀ w cs, stepG P true (G fr (rest ++ cs)) w = .go (G fr' (rest ++ cs)) w #[]) → Form P F full fr rest
  | draw (id : Nat) (ops : Array Oper) (k : List Item) : fr.mode = .run → (∀ l, OkFrame P F full { fr with todo := .inRegion ops l :: k }) →
      (∀ w cs, stepG P true (G fr (rest ++ cs)) w = .go (G { fr with todo := .inRegion ops (Region.schedule (P.follows .mixedOrders) ops (w.tape w.drawn (.order fr.fn id))) :: k } (rest ++ cs)) { w with drawn := w.drawn + 1 } #[]) → Form P F full fr rest
  | oper (s : Sem Next) : fr.mode = .run → Unmarked P s → (full = false → Tame P s) → Leaf Ends s → (∀ w cs, stepG P true (G fr (rest ++ cs)) w = stepG.apply P true fr (rest ++ cs) none s w) → Form P F full fr rest
  | call (f : FuncId) (args : Array Value) : fr.mode = .run → F f = true → (∀ w cs, stepG P true (G fr (rest ++ cs)) w = .go (G (Frame.enter P f args .normal) (fr :: rest ++ cs)) w #[]) → Form P F full fr rest
  | leave : fr.mode = .returning → Form P F full fr rest
  | lost : (∀ w cs, ∃ o w', stepG P true (G fr (rest ++ cs)) w = .ended o w' #[]) → Form P F full fr rest

section
variable {P : Program} {F : FuncId → Bool} {full : Bool} {fr : Frame} {rest : List Frame}

theorem form_of (h3 : P.underlying 3 = some (.int .i64)) (hF : Closed P F full) (h : OkFrame P F full fr) (hm : fr.mode = .run ∨ fr.mode = .returning) : Form P F full fr rest := by
  rcases hm with hm | hm
  case inr => exact .leave hm
  have ho := h.todo
  have hr := h.round
  obtain ⟨fn, tmps, todo, defers, mode, kind, roundOf⟩ := fr
  simp only at hm hr ho
  subst hm hr
  have to : ∀ k : List Item, (∀ x ∈ k, okItem F full x = true) → (∀ w cs, stepG P true (G ⟨fn, tmps, todo, defers, .run, kind, none⟩ (rest ++ cs)) w = .go (G ⟨fn, tmps, k, defers, .run, kind, none⟩ (rest ++ cs)) w #[]) → Form P F full ⟨fn, tmps, todo, defers, .run, kind, none⟩ rest :=
    fun k hk hs => .ctl _ (h.with_todo hk) (.inl rfl) hs
  cases todo with
  | nil => exact .ctl _ h.leave (.inr rfl) fun w cs => by simp [stepG, stepG.exec, G]
  | cons x k =>
    have hx := ho x List.mem_cons_self
    have hk : ∀ y ∈ k, okItem F full y = true := fun y hy => ho y (List.mem_cons_of_mem _ hy)
    have more : ∀ l : List Item, (∀ y ∈ l, okItem F full y = true) → ∀ y ∈ l ++ k, okItem F full y = true := fun l hl y hy => (List.mem_append.1 hy).elim (hl y) (hk y)
    cases x with
    | code c =>
      simp only [okItem] at hx
      cases c with
      | skip => exact to k hk fun w cs => by simp [stepG, stepG.exec, G]
      | label l => exact to k hk fun w cs => by simp [stepG, stepG.exec, G]
      | ret => exact .ctl _ h.leave (.inr rfl) fun w cs => by simp [stepG, stepG.exec, G]
      | seq a b =>
        simp only [okCode, Bool.and_eq_true] at hx
        exact to (.code a :: .code b :: k) (more [_, _] (by simp [okItem, hx])) fun w cs => by simp [stepG, stepG.exec, G]
      | cond c a b =>
        simp only [okCode, Bool.and_eq_true] at hx
        cases hc : (⟨fn, tmps, .code (.cond c a b) :: k, defers, .run, kind, none⟩ : Frame).eval c with
        | bool t => exact to (.code (if t then a else b) :: k) (more [_] (by cases t <;> simp [okItem, hx])) fun w cs => by simp [stepG, stepG.exec, G, hc]
        | _ => exact .lost fun w cs => ⟨_, _, by simp only [stepG, stepG.exec, G, hc]; rfl⟩
      | block id c => exact to (.code c :: .inBlock id :: k) (more [_, _] (by simpa [okItem, okCode] using hx)) fun w cs => by simp [stepG, stepG.exec, G]
      | loop c => exact to (.code c :: .inLoop c :: k) (more [_, _] (by simpa [okItem, okCode] using hx)) fun w cs => by simp [stepG, stepG.exec, G]
      | scope c => exact to (.code c :: .inScope c :: k) (more [_, _] (by simpa [okItem, okCode] using hx)) fun w cs => by simp [stepG, stepG.exec, G]
      | exit id =>
        cases he : exitTo id k with
        | some k' => exact to k' (fun x hx => hk x (exitTo_sub he x hx)) fun w cs => by simp [stepG, stepG.exec, G, he]
        | none => exact .lost fun w cs => ⟨_, _, by simp [stepG, stepG.exec, G, he]; exact ⟨rfl, rfl⟩⟩
      | goto l =>
        cases he : gotoIn l k with
        | some k' => exact to k' (gotoIn_ok he hk) fun w cs => by simp [stepG, stepG.exec, G, he]
        | none => exact .lost fun w cs => ⟨_, _, by simp [stepG, stepG.exec, G, he]; exact ⟨rfl, rfl⟩⟩
      | rangeFunc f ps a b => simp [okCode] at hx
      | refuse why => simp [okCode] at hx
      | region id ops draw =>
        simp only [okCode] at hx
        cases draw with
        | false => exact to (.inRegion ops (List.range ops.size) :: k) (more [_] (fun y hy => by rw [List.mem_singleton.1 hy]; exact all_listed hx _)) fun w cs => by simp [stepG, stepG.exec, G]
        | true => exact .draw id ops k rfl (fun l => h.with_todo (more [_] (fun y hy => by rw [List.mem_singleton.1 hy]; exact all_listed hx _))) fun w cs => by simp [stepG, stepG.exec, G, choose, Sem.run, Question.forced, Question.cut]
    | inBlock id => exact to k hk fun w cs => by simp [stepG, stepG.exec, G]
    | inScope c => exact to k hk fun w cs => by simp [stepG, stepG.exec, G]
    | inLoop c => exact to (.code c :: .inLoop c :: k) (more [_, _] (by simpa [okItem] using hx)) fun w cs => by simp [stepG, stepG.exec, G]
    | inRegion ops todo =>
      cases todo with
      | nil => exact to k hk fun w cs => by simp [stepG, stepG.exec, G]
      | cons i l =>
        simp only [okItem] at hx
        cases hw : ((ops[i]?).map (Region.wanted · (yielded ops tmps))).getD false with
        | false => exact .ctl _ (h.finish undef) (.inl (finish_mode _ _)) fun w cs => by simp [stepG, stepG.exec, G, hw]
        | true =>
          cases hoi : ops[i]? with
          | none => rw [hoi] at hw; simp at hw
          | some o =>
            have hoo : okOp F full o.op = true := by
              simp only [List.all_cons, Bool.and_eq_true] at hx
              have := hx.1
              rw [hoi] at this
              exact this
            have happ : ∀ (w : World) (cs : List Frame), stepG P true (G ⟨fn, tmps, .inRegion ops (i :: l) :: k, defers, .run, kind, none⟩ (rest ++ cs)) w = stepG.apply P true ⟨fn, tmps, .inRegion ops (i :: l) :: k, defers, .run, kind, none⟩ (rest ++ cs) none (execOp (Frame.eval ⟨fn, tmps, .inRegion ops (i :: l) :: k, defers, .run, kind, none⟩) o) w := by
              intro w cs
              have hw' := hw
              rw [hoi] at hw'
              simp only [stepG, stepG.exec, G, hoi, hw', if_true, stepG.oper, Frame.oper?]
            by_cases hcall : (∃ f args ats, o.op = .call { callee := .value (.func f), args := args, argTypes := ats } ∧ F f = true)
            · obtain ⟨f, args, ats, hop, hf⟩ := hcall
              obtain ⟨fd, c, h1, h2, h3', h4⟩ := hF f hf
              refine .call f (args.map (Frame.eval ⟨fn, tmps, .inRegion ops (i :: l) :: k, defers, .run, kind, none⟩)) rfl hf fun w cs => ?_
              rw [happ]
              have hkd : kind = .normal := h.kind
              subst hkd
              have hs : (execOp (Frame.eval ⟨fn, tmps, .inRegion ops (i :: l) :: k, defers, .run, .normal, none⟩) o).runT P w #[] = (.ok (.enter f (args.map (Frame.eval ⟨fn, tmps, .inRegion ops (i :: l) :: k, defers, .run, .normal, none⟩))) w, #[]) := by
                unfold execOp
                rw [hop]
                simp only [resolve, Frame.eval, Deferred.ofValue]
                show Sem.runT P (invoke (.fn (.func f) #[]) _) w #[] = _
                simp only [invoke, callFunc]
                show Sem.runT P ((match P.funcs[f]? with | none => _ | some fn => _) : Sem Next) w #[] = _
                simp only [h1, h2, h3']
                simp only [Array.empty_append, Array.append_empty, Bool.false_eq_true, if_false, Option.isNone_some]
                rfl
              simp only [stepG.apply, hs, G]
              simp [GStep.after, seen]
            · have hok : okT o.op = true ∨ (full = true ∧ okU o.op = true) := by
                have : okOp F full o.op = (okT o.op || (full && okU o.op)) ∨ (∃ f args ats, o.op = .call { callee := .value (.func f), args := args, argTypes := ats } ∧ okOp F full o.op = F f) := by
                  unfold okOp
                  split
                  · rename_i f args ats he
                    exact .inr ⟨f, args, ats, he, rfl⟩
                  · exact .inl rfl
                rcases this with e | ⟨f, args, ats, he, e⟩
                · rw [e] at hoo
                  simpa using hoo
                · rw [e] at hoo
                  exact absurd ⟨f, args, ats, he, hoo⟩ hcall
              refine .oper _ rfl (okU_unmarked h3 (hok.imp id And.right) _) (fun e => ?_) (ok_leaf (hok.imp id And.right) _) happ
              rcases hok with hok | ⟨hfull, _⟩
              · exact okT_tame h3 hok _
              · rw [e] at hfull; cases hfull
    | _ => simp [okItem] at hx
end

/-! ### one step, told from one world to another -/
theorem t_mapM {P : Program} {α β : Type} {f : α → Sem β} (hf : ∀ a, Tame P (f a)) (as : Array α) : Tame P (as.mapM f) := by
  have go : ∀ (l : List α) (bs : Array β), Tame P (l.foldlM (fun bs a => bs.push <$> f a) bs) := by
    intro l
    induction l with
    | nil => exact fun bs => tp _
    | cons a l ih =>
      intro bs
      rw [List.foldlM_cons]
      exact tb (tb (s := f a) (hf a) fun b => tp (bs.push b)) fun bs => ih bs
  rw [Array.mapM_eq_foldlM, ← Array.foldlM_toList]
  exact go _ _
theorem t_results {P : Program} (fn : Func) (tmps : Array Value) : Tame P (results fn tmps) := by
  refine tb (t_mapM (fun r => ?_) _) fun vs => tp _
  cases r with
  | tmp t => exact tp _
  | cell a t => exact tb (t_asAddr _) fun _ => t_loadVar _ _

/-- No variable waits for its step: what a program must be. -/
structure Plain (P : Program) (F : FuncId → Bool) (full : Bool) : Prop where
  t3 : P.underlying 3 = some (.int .i64)
  closed : Closed P F full
  ahead : P.follows .staticDataAhead = true
  steps : ∀ g, P.stepOf g = none

section
variable {P : Program} {F : FuncId → Bool} {full : Bool}
def OkRest (P : Program) (F : FuncId → Bool) (full : Bool) (rest : List Frame) : Prop := ∀ c ∈ rest, ((∀ v, OkFrame P F full (c.finish v)) ∧ c.defers = [] ∧ ∃ fn, P.funcs[c.fn]? = some fn) ∧ c.mode = .run

theorem apply_ok {fr : Frame} {cs : List Frame} {s : Sem Next} {w w' : World} {a : Next} {es : Array Event} (hk : fr.kind = .normal) (hr : s.runT P w #[] = (.ok a w', es)) (ha : Ends a) :
    ∃ v, stepG.apply P true fr cs none s w = .go (G (fr.finish v) cs) w' (seen P fr.fn es) ∧ (∀ cs' w₁ w₁', s.runT P w₁ #[] = (.ok a w₁', es) → stepG.apply P true fr cs' none s w₁ = .go (G (fr.finish v) cs') w₁' (seen P fr.fn es)) := by
  cases a with
  | value v => exact ⟨v, by simp only [stepG.apply, if_true, hr, hk, G]; rfl, fun cs' w₁ w₁' hr' => by simp only [stepG.apply, if_true, hr', hk, G]; rfl⟩
  | skip => exact ⟨undef, by simp only [stepG.apply, if_true, hr, hk, G]; rfl, fun cs' w₁ w₁' hr' => by simp only [stepG.apply, if_true, hr', hk, G]; rfl⟩
  | _ => exact ha.elim

/-- What a step does that does not go on well: it panics, or the run is over. -/
theorem apply_halt (hp : Plain P F full) {fr : Frame} {cs : List Frame} {s : Sem Next} {w w' : World} {h : Halt} {es : Array Event} (hk : fr.kind = .normal) (hr : s.runT P w #[] = (.halt h w', es)) (hh : OkHalt h) :
    (∃ v w₁ es₁, stepG.apply P true fr cs none s w = .go (G (fr.raise [{ v, recovered := false }]) cs) w₁ es₁) ∨ ∃ o w₁ es₁, stepG.apply P true fr cs none s w = .ended o w₁ es₁ := by
  cases h with
  | panic v => exact .inl ⟨v, w', _, by simp only [stepG.apply, if_true, hr, hk, G]; rfl⟩
  | stuck m => exact .inr ⟨_, _, _, by simp only [stepG.apply, if_true, hr, hk]; rfl⟩
  | unsupported u =>
    refine .inr ?_
    cases u with
    | initOrder g => exact ⟨_, _, _, by simp only [stepG.apply, if_true, hr, hk, early, hp.ahead, hp.steps]; rfl⟩
    | _ => exact ⟨_, _, _, by simp only [stepG.apply, if_true, hr, hk]; rfl⟩
  | _ => exact hh.elim
end

section
variable {P : Program} {F : FuncId → Bool} {full : Bool}
theorem OkRest.cons {c : Frame} {rest : List Frame} (h : OkFrame P F full c) (hm : c.mode = .run) (hr : OkRest P F full rest) : OkRest P F full (c :: rest) := by
  intro x hx
  rcases List.mem_cons.1 hx with rfl | hx
  · exact ⟨⟨fun v => h.finish v, h.defers, h.fn⟩, hm⟩
  · exact hr x hx

theorem g_inj {fr fr' : Frame} {cs cs' : List Frame} {w w' : World} {es es' : Array Event} (h : GStep.go (G fr cs) w es = GStep.go (G fr' cs') w' es') : fr = fr' ∧ cs = cs' ∧ w = w' ∧ es = es' := by
  injection h with h1 h2 h3
  simp only [G, Goroutine.mk.injEq] at h1
  exact ⟨h1.1, h1.2.1, h2, h3⟩

/-- WHAT A STEP OF A FRAME THAT IS LET BY DOES, WHERE IT GOES ON WELL: the same in whatever world to which its script carries over, whoever called. -/
theorem lock (hp : Plain P F full) {fr : Frame} {rest : List Frame} (h : OkFrame P F full fr) (hm : fr.mode = .run ∨ (fr.mode = .returning ∧ rest ≠ [])) (hr : OkRest P F full rest)
    {cs0 : List Frame} {w0 w0' : World} {fr' : Frame} {rest' : List Frame} {es : Array Event} (hs : stepG P true (G fr (rest ++ cs0)) w0 = .go (G fr' (rest' ++ cs0)) w0' es) (hm' : fr'.mode = .run ∨ fr'.mode = .returning)
    {w : World} {Q : World → Array Event → Prop}
    (T1 : ∀ {α : Type} (s : Sem α), Unmarked P s → (full = false → Tame P s) → ∀ a es, s.runT P w0 #[] = (.ok a w0', es) → ∃ w', s.runT P w #[] = (.ok a w', es) ∧ Q w' es)
    (T2 : w0' = { w0 with drawn := w0.drawn + 1 } → w.tape w.drawn = w0.tape w0.drawn ∧ Q { w with drawn := w.drawn + 1 } #[]) (T3 : w0' = w0 → Q w #[]) :
    OkFrame P F full fr' ∧ OkRest P F full rest' ∧ ∃ es0, (∀ e ∈ es, e ∈ es0) ∧ ∃ w', Q w' es0 ∧ ∀ cs, stepG P true (G fr (rest ++ cs)) w = .go (G fr' (rest' ++ cs)) w' es := by
  have hk := h.kind
  cases form_of (rest := rest) hp.t3 hp.closed h (hm.imp id And.left) with
  | ctl fr1 h1 hm1 hst =>
    rw [hst] at hs
    obtain ⟨rfl, e, rfl, rfl⟩ := g_inj hs
    obtain rfl := List.append_cancel_right e
    exact ⟨h1, hr, #[], by simp, w, T3 rfl, fun cs => hst w cs⟩
  | draw id ops k _ hok hst =>
    rw [hst] at hs
    obtain ⟨rfl, e, rfl, rfl⟩ := g_inj hs
    obtain rfl := List.append_cancel_right e
    obtain ⟨ht, hq⟩ := T2 rfl
    refine ⟨hok _, hr, #[], by simp, _, hq, fun cs => ?_⟩
    rw [hst w cs, ht]
  | oper s _ hu ht hl hst =>
    rw [hst] at hs
    cases hrun : s.runT P w0 #[] with
    | mk r es0 =>
      cases r with
      | ok a w1 =>
        obtain ⟨v, he, hx⟩ := apply_ok (cs := rest ++ cs0) hk hrun (hl.run hrun)
        rw [he] at hs
        obtain ⟨rfl, e, rfl, rfl⟩ := g_inj hs
        obtain rfl := List.append_cancel_right e
        obtain ⟨w', hw', hq⟩ := T1 s hu ht a es0 hrun
        exact ⟨h.finish v, hr, es0, fun e he => Go.Conc.mem_seen he, w', hq, fun cs => by rw [hst w cs]; exact hx _ _ _ hw'⟩
      | halt hh w1 =>
        rcases apply_halt (cs := rest ++ cs0) hp hk hrun (hu.halts _ _ _ _ _ hrun) with ⟨v, w2, es2, he⟩ | ⟨o, w2, es2, he⟩
        · rw [he] at hs
          obtain ⟨rfl, _, _, _⟩ := g_inj hs
          exfalso
          revert hm'
          unfold Frame.raise
          split <;> simp
        · rw [he] at hs; cases hs
  | call f args _ hf hst =>
    rw [hst] at hs
    obtain ⟨rfl, e, rfl, rfl⟩ := g_inj hs
    have e' : rest' = fr :: rest := (List.append_cancel_right (as := fr :: rest) e).symm
    subst e'
    have hrun : fr.mode = .run := by assumption
    exact ⟨(Frame.enter_ok hp.closed hf args).1, OkRest.cons h hrun hr, #[], by simp, w, T3 rfl, fun cs => hst w cs⟩
  | leave hmr =>
    obtain ⟨fd, hfd⟩ := h.fn
    cases rest with
    | nil => exact absurd rfl ((hm.resolve_left (by rw [hmr]; simp)).2)
    | cons c r =>
      have hc := hr c List.mem_cons_self
      have hstep : ∀ (w : World) (cs : List Frame), stepG P true (G fr (c :: r ++ cs)) w = (match (results fd fr.tmps).runT P w #[] with
          | (.ok v w', es) => .go (G (c.finish v) (r ++ cs)) w' (seen P fr.fn es)
          | (.halt (.stuck s) w', es) => GStep.after (seen P fr.fn es) (.ended (.stuck s (fr.pos P)) w')
          | (.halt _ w', es) => GStep.after (seen P fr.fn es) (.ended (.stuck "return: the result variables cannot be read" (fr.pos P)) w')) := by
        intro w cs
        simp only [stepG, G, hmr, unwind, h.defers, hfd]
        cases hrr : (results fd fr.tmps).runT P w #[] with
        | mk r1 es1 =>
          cases r1 with
          | ok v w1 => simp only [doReturn, List.cons_append, hk]; rfl
          | halt hh w1 => cases hh <;> rfl
      rw [hstep] at hs
      cases hrr : (results fd fr.tmps).runT P w0 #[] with
      | mk r1 es1 =>
        rw [hrr] at hs
        cases r1 with
        | ok v w1 =>
          obtain ⟨rfl, e, rfl, rfl⟩ := g_inj hs
          obtain rfl := List.append_cancel_right e
          obtain ⟨w', hw', hq⟩ := T1 _ (t_results fd fr.tmps).unmarked (fun _ => t_results fd fr.tmps) v es1 hrr
          exact ⟨hc.1.1 v, fun x hx => hr x (List.mem_cons_of_mem _ hx), es1, fun e he => Go.Conc.mem_seen he, w', hq, fun cs => by rw [hstep, hw']⟩
        | halt hh w1 => cases hh <;> simp [GStep.after] at hs
  | lost hst =>
    obtain ⟨o, w1, he⟩ := hst w0 cs0
    rw [he] at hs; cases hs
end
end Go.Proofs.YtgdlakhfkmhlnaaWear
