/- A lone run told in the true world; the machine with workers that make memory. -/
import Derived.Test.YtgdlakhfkmhlnaaJA
import Derived.Conc.LoneCalls
import Derived.Conc.Fork
import Derived.Conc.CrowdRun
import Derived.Conc.Beside
set_option linter.unusedVariables false
set_option linter.unusedSimpArgs false
set_option linter.unusedSectionVars false
namespace Go.Proofs.YtgdlakhfkmhlnaaWear
open Go.Conc (G solo)

/-! ### a frame at the bottom into which nothing may fall -/
def trap (P : Program) : Frame := { fn := P.funcs.size, tmps := #[], todo := [.call { target := .nil, args := #[] } false "fmt's door" #[]], defers := [], mode := .run, kind := .normal }

theorem door_none : Extern.next "fmt's door" = none := by first | rfl | decide +kernel

theorem trap_catches (P : Program) : (trap P).catches P = true := by
  simp only [Frame.catches, trap]
  have : P.funcs[P.funcs.size]? = none := by simp
  rw [this]
  decide +kernel

/-- What has gone wrong stays wrong. -/
inductive Bad (P : Program) (F : FuncId → Bool) (full : Bool) : Goroutine → Prop
  | up (fr : Frame) (rest : List Frame) (chain : List PanicEntry) : fr.mode = .panicking chain → fr.defers = [] → OkRest P F full rest → (∃ fn, P.funcs[fr.fn]? = some fn) → Bad P F full (G fr (rest ++ [trap P]))
  | caught (chain : List PanicEntry) : Bad P F full (G ((trap P).raise chain) [])
  | fell (v : Value) : Bad P F full (G ((trap P).finish v) [])

section
variable {P : Program} {F : FuncId → Bool} {full : Bool}
theorem Bad.step {g : Goroutine} (h : Bad P F full g) (w : World) : (∃ g' w' es, stepG P true g w = .go g' w' es ∧ Bad P F full g') ∨ ∃ o w' es, stepG P true g w = .ended o w' es := by
  cases h with
  | up fr rest chain hm hd hr hf =>
    obtain ⟨fn, hfn⟩ := hf
    have hc : fr.catches P = false := by simp [Frame.catches, hfn]
    cases rest with
    | nil =>
      refine .inl ⟨G ((trap P).raise chain) [], w, #[], ?_, .caught chain⟩
      simp only [stepG, G, hm, unwind, hd, hc, List.nil_append]
      rfl
    | cons c r =>
      refine .inl ⟨_, w, #[], ?_, .up (c.raise chain) r (match c.mode with | .panicking ch => chain ++ ch | _ => chain) ?_ ?_ (fun x hx => hr x (List.mem_cons_of_mem _ hx)) ?_⟩
      · simp only [stepG, G, hm, unwind, hd, hc, List.cons_append]
        rfl
      · unfold Frame.raise; split <;> simp [*]
      · have := (hr c List.mem_cons_self).1.2.1
        unfold Frame.raise; split <;> exact this
      · have := (hr c List.mem_cons_self).1.2.2
        unfold Frame.raise; split <;> exact this
  | caught chain =>
    refine .inr ⟨.unsupported (.noEntry "a panic or Goexit out of a method that fmt calls behind a cut's door") (Frame.pos P ((trap P).raise chain)), w, #[], ?_⟩
    have hc : ((trap P).raise chain).catches P = true := trap_catches P
    have hm : ((trap P).raise chain).mode = .panicking chain := rfl
    have hd : ((trap P).raise chain).defers = [] := rfl
    simp only [stepG, G, hm, unwind, hd, hc, if_true]
  | fell v =>
    refine .inr ⟨.stuck ("no extern row " ++ "fmt's door") (Frame.pos P ((trap P).finish v)), w, #[], ?_⟩
    have : (trap P).finish v = { fn := P.funcs.size, tmps := #[], todo := [.extern "fmt's door" #[v]], defers := [], mode := .run, kind := .normal } := rfl
    rw [this]
    simp only [stepG, G, stepG.exec, door_none]
    rfl

theorem step_solo {g : Goroutine} (hs : g.status = .running) {w w' : World} {g' : Goroutine} {es : Array Event} (h : stepG P true g w = .go g' w' es) : step P (solo g w) = .next (solo g' w') := Go.Conc.step_solo_go hs h
theorem step_solo_end {g : Goroutine} (hs : g.status = .running) {w w' : World} {o : Outcome} {es : Array Event} (h : stepG P true g w = .ended o w' es) : step P (solo g w) = .ended o w' := by
  rw [step, Go.Conc.stepT_solo hs]
  simp [runT, solo, Array.swapAt!, Array.swapAt, h, GStep.es]
theorem Bad.running {g : Goroutine} (h : Bad P F full g) : g.status = .running := by cases h <;> rfl
theorem Bad.never : ∀ (n : Nat) {g : Goroutine}, Bad P F full g → ∀ (w : World) (g' : Goroutine) (w' : World), runN P n (solo g w) = .next (solo g' w') → Bad P F full g'
  | 0, g, h, w, g', w', e => by
    simp only [runN, Stepped.next.injEq, solo, Machine.mk.injEq] at e
    have := e.2.1
    simp at this
    rw [← this]; exact h
  | n + 1, g, h, w, g', w', e => by
    rcases h.step w with ⟨g1, w1, es, he, hb⟩ | ⟨o, w1, es, he⟩
    · simp only [runN, step_solo h.running he] at e
      exact Bad.never n hb _ _ _ e
    · simp only [runN, step_solo_end h.running he] at e
      cases e
theorem Bad.not_end {fr : Frame} (h : Bad P F full (G fr [trap P])) (hm : fr.mode = .returning) : False := by
  generalize hg : G fr [trap P] = g at h
  cases h with
  | up fr' rest chain hm' _ _ _ =>
    simp only [G, Goroutine.mk.injEq] at hg
    rw [← hg.1, hm] at hm'
    cases hm'
  | caught chain => simp [G] at hg
  | fell v => simp [G] at hg
end
section
variable {P : Program} {F : FuncId → Bool} {full : Bool}
/-- A step of a frame that is let by goes on well, or it has gone wrong. -/
theorem step_class (hp : Plain P F full) {fr : Frame} {rest : List Frame} (h : OkFrame P F full fr) (hm : fr.mode = .run ∨ fr.mode = .returning) (hr : OkRest P F full rest) {w w' : World} {g' : Goroutine} {es : Array Event}
    (hs : stepG P true (G fr (rest ++ [trap P])) w = .go g' w' es) : (∃ fr' rest', g' = G fr' (rest' ++ [trap P]) ∧ (fr'.mode = .run ∨ fr'.mode = .returning)) ∨ Bad P F full g' := by
  have hk := h.kind
  cases form_of (rest := rest) hp.t3 hp.closed h hm with
  | ctl fr1 h1 hm1 hst =>
    rw [hst] at hs
    injection hs with hs _ _
    exact .inl ⟨fr1, rest, hs.symm, hm1⟩
  | draw id ops k hmr hok hst =>
    rw [hst] at hs
    injection hs with hs _ _
    exact .inl ⟨_, rest, hs.symm, .inl hmr⟩
  | oper s hmr hu ht hl hst =>
    rw [hst] at hs
    cases hrun : s.runT P w #[] with
    | mk r es0 =>
      cases r with
      | ok a w1 =>
        obtain ⟨v, he, _⟩ := apply_ok (cs := rest ++ [trap P]) hk hrun (hl.run hrun)
        rw [he] at hs
        injection hs with hs _ _
        exact .inl ⟨_, rest, hs.symm, .inl (by rw [finish_mode]; exact hmr)⟩
      | halt hh w1 =>
        rcases apply_halt (cs := rest ++ [trap P]) hp hk hrun (hu.halts _ _ _ _ _ hrun) with ⟨v, w2, es2, he⟩ | ⟨o, w2, es2, he⟩
        · rw [he] at hs
          injection hs with hs _ _
          refine .inr ?_
          rw [← hs]
          refine .up _ rest [{ v, recovered := false }] ?_ ?_ hr ?_
          · unfold Frame.raise; rw [hmr]
          · unfold Frame.raise; rw [hmr]; exact h.defers
          · unfold Frame.raise; rw [hmr]; exact h.fn
        · rw [he] at hs; cases hs
  | call f args hmr hf hst =>
    rw [hst] at hs
    injection hs with hs _ _
    exact .inl ⟨_, fr :: rest, hs.symm, .inl rfl⟩
  | leave hmr =>
    obtain ⟨fd, hfd⟩ := h.fn
    simp only [stepG, G, hmr, unwind, h.defers, hfd] at hs
    cases hrr : (results fd fr.tmps).runT P w #[] with
    | mk r1 es1 =>
      rw [hrr] at hs
      cases r1 with
      | ok v w1 =>
        cases rest with
        | nil =>
          simp only [doReturn, List.nil_append, hk, GStep.after] at hs
          injection hs with hs _ _
          exact .inr (hs ▸ .fell v)
        | cons c r =>
          simp only [doReturn, List.cons_append, hk, GStep.after] at hs
          injection hs with hs _ _
          exact .inl ⟨c.finish v, r, hs.symm, .inl (by rw [finish_mode]; exact (hr c List.mem_cons_self).2)⟩
      | halt hh w1 => cases hh <;> simp [GStep.after] at hs
  | lost hst =>
    obtain ⟨o, w1, he⟩ := hst w [trap P]
    rw [he] at hs; cases hs

theorem step_kind (hp : Plain P F full) {fr : Frame} {rest : List Frame} (h : OkFrame P F full fr) (hm : fr.mode = .run ∨ fr.mode = .returning) (hr : OkRest P F full rest) (w : World) :
    (∃ g' w' es, stepG P true (G fr (rest ++ [trap P])) w = .go g' w' es) ∨ ∃ o w' es, stepG P true (G fr (rest ++ [trap P])) w = .ended o w' es := by
  have hk := h.kind
  cases form_of (rest := rest) hp.t3 hp.closed h hm with
  | ctl fr1 h1 hm1 hst => exact .inl ⟨_, _, _, hst w _⟩
  | draw id ops k hmr hok hst => exact .inl ⟨_, _, _, hst w _⟩
  | oper s hmr hu ht hl hst =>
    rw [hst]
    cases hrun : s.runT P w #[] with
    | mk r es0 =>
      cases r with
      | ok a w1 =>
        obtain ⟨v, he, _⟩ := apply_ok (cs := rest ++ [trap P]) hk hrun (hl.run hrun)
        exact .inl ⟨_, _, _, he⟩
      | halt hh w1 =>
        rcases apply_halt (cs := rest ++ [trap P]) hp hk hrun (hu.halts _ _ _ _ _ hrun) with ⟨v, w2, es2, he⟩ | ⟨o, w2, es2, he⟩
        · exact .inl ⟨_, _, _, he⟩
        · exact .inr ⟨_, _, _, he⟩
  | call f args hmr hf hst => exact .inl ⟨_, _, _, hst w _⟩
  | leave hmr =>
    obtain ⟨fd, hfd⟩ := h.fn
    simp only [stepG, G, hmr, unwind, h.defers, hfd]
    cases hrr : (results fd fr.tmps).runT P w #[] with
    | mk r1 es1 =>
      cases r1 with
      | ok v w1 =>
        cases rest with
        | nil => exact .inl ⟨_, _, _, by simp only [doReturn, List.nil_append, hk, GStep.after]; rfl⟩
        | cons c r => exact .inl ⟨_, _, _, by simp only [doReturn, List.cons_append, hk, GStep.after]; rfl⟩
      | halt hh w1 => cases hh <;> exact .inr ⟨_, _, _, rfl⟩
  | lost hst =>
    obtain ⟨o, w1, he⟩ := hst w [trap P]
    exact .inr ⟨_, _, _, he⟩

/-- The first step of a lone run that comes to a frame that returns into the trap. -/
theorem lone_first (hp : Plain P F full) {fr : Frame} {rest : List Frame} (h : OkFrame P F full fr) (hm : fr.mode = .run ∨ fr.mode = .returning) (hr : OkRest P F full rest) {n : Nat} {w w' : World} {frL : Frame} (hL : frL.mode = .returning)
    (hrun : runN P n (solo (G fr (rest ++ [trap P])) w) = .next (solo (G frL [trap P]) w')) (hne : ¬ (rest = [] ∧ fr.mode = .returning)) :
    ∃ n' fr' rest' w₁ es, n = n' + 1 ∧ stepG P true (G fr (rest ++ [trap P])) w = .go (G fr' (rest' ++ [trap P])) w₁ es ∧ (fr'.mode = .run ∨ fr'.mode = .returning) ∧ runN P n' (solo (G fr' (rest' ++ [trap P])) w₁) = .next (solo (G frL [trap P]) w') := by
  cases n with
  | zero =>
    exfalso
    simp only [runN, Stepped.next.injEq, solo, Machine.mk.injEq] at hrun
    have := hrun.2.1
    simp [G] at this
    obtain ⟨rfl, e⟩ := this
    have e' : rest = [] := by
      cases rest with
      | nil => rfl
      | cons c r => simp at e
    exact hne ⟨e', hL⟩
  | succ n =>
    rcases step_kind hp h hm hr w with ⟨g', w₁, es, hs⟩ | ⟨o, w₁, es, hs⟩
    · have hst := step_solo (P := P) (g := G fr (rest ++ [trap P])) rfl hs
      simp only [runN, hst] at hrun
      rcases step_class hp h hm hr hs with ⟨fr', rest', rfl, hm'⟩ | hb
      · exact ⟨n, fr', rest', w₁, es, rfl, hs, hm', hrun⟩
      · exact (Bad.not_end (Bad.never n hb _ _ _ hrun) hL).elim
    · have hst := step_solo_end (P := P) (g := G fr (rest ++ [trap P])) rfl hs
      simp only [runN, hst] at hrun
      cases hrun
end
/-! ### a lone run, wherever the block X is out of reach, on whatever answers -/
section
variable (P : Program) (X : Nat) (Fin : Frame → World → Prop)
def LoneTo (fr : Frame) (rest : List Frame) (w : World) : Prop :=
  ∀ σ : Nat → Question → Nat, ∃ w0, Alike X w w0 ∧ (∀ i, w0.tape (w0.drawn + i) = σ i) ∧ ∃ n frL w0', runN P n (solo (G fr (rest ++ [trap P])) w0) = .next (solo (G frL [trap P]) w0') ∧ Fin frL w0'
/-- It comes to its end, whatever is drawn. -/
inductive Will : Frame → List Frame → World → Prop
  | stop {fr : Frame} {w : World} : (∃ w0, Alike X w w0 ∧ Fin fr w0) → Will fr [] w
  | step {fr : Frame} {rest : List Frame} {w : World} (nx : (Nat → Question → Nat) → Nat → Frame × List Frame × World × Array Event) :
      (∀ T d, stepG P true (G fr rest) (w.wt T d) = .go (G (nx T d).1 (nx T d).2.1) (nx T d).2.2.1 (nx T d).2.2.2 ∧ (nx T d).2.2.1.heap[X]? = w.heap[X]? ∧ ∀ e ∈ (nx T d).2.2.2, Clean X e) →
      (∀ T d, Will (nx T d).1 (nx T d).2.1 (nx T d).2.2.1) → Will fr rest w
end

section
variable {P : Program} {X : Nat} {F : FuncId → Bool} {Fin : Frame → World → Prop}
theorem alike_wt {w w0 : World} (h : Alike X w w0) (T : Nat → Question → Nat) (d : Nat) : Alike X (w.wt T d) w0 := ⟨h.os, h.output, h.size, h.block, h.gone⟩
theorem alike_of_heap {w w' w0 : World} (h : Alike X w w0) (h1 : w'.heap = w.heap) (h2 : w'.os = w.os) (h3 : w'.output = w.output) : Alike X w' w0 :=
  ⟨h.os.trans h2.symm, h.output.trans h3.symm, by rw [h1]; exact h.size, by rw [h1]; exact h.block, by rw [h1]; exact h.gone⟩

/-- A lone run's first step, told in the true world on the same answers. -/
theorem lone_one (hp : Plain P F false) (hFin : ∀ fr w, Fin fr w → fr.mode = .returning) {fr : Frame} {rest : List Frame} {w : World} (h : OkFrame P F false fr) (hm : fr.mode = .run ∨ fr.mode = .returning) (hr : OkRest P F false rest) (hne : ¬ (rest = [] ∧ fr.mode = .returning))
    (T : Nat → Question → Nat) (d : Nat) {w0 : World} (hA : Alike X w w0) (hT : ∀ i, T (d + i) = w0.tape (w0.drawn + i)) {n : Nat} {frL : Frame} {w0' : World} (hrun : runN P n (solo (G fr (rest ++ [trap P])) w0) = .next (solo (G frL [trap P]) w0')) (hfin : Fin frL w0') :
    ∃ fr' rest' w' es c w1 n', n = n' + 1 ∧ (∀ cs, stepG P true (G fr (rest ++ cs)) (w.wt T d) = .go (G fr' (rest' ++ cs)) w' es) ∧ OkFrame P F false fr' ∧ (fr'.mode = .run ∨ fr'.mode = .returning) ∧ OkRest P F false rest' ∧ w'.heap[X]? = w.heap[X]? ∧ (∀ e ∈ es, Clean X e) ∧
      w'.drawn = d + c ∧ w'.tape = T ∧ Alike X w' w1 ∧ w1.drawn = w0.drawn + c ∧ w1.tape = w0.tape ∧ runN P n' (solo (G fr' (rest' ++ [trap P])) w1) = .next (solo (G frL [trap P]) w0') := by
  have hm2 : fr.mode = .run ∨ (fr.mode = .returning ∧ rest ≠ []) := by
    rcases hm with hm | hm
    · exact .inl hm
    · exact .inr ⟨hm, fun e => hne ⟨e, hm⟩⟩
  obtain ⟨n', fr', rest', w1, es, rfl, hs, hm', hrun'⟩ := lone_first hp h hm hr (hFin _ _ hfin) hrun hne
  obtain ⟨h1, h2, es0, hsub, w', ⟨hQ1, hQ2, c, hQ3, hQ4, hQ5, hQ6, hQ7⟩, hst⟩ := lock (w := w.wt T d) (Q := fun w' es0 => w'.heap[X]? = w.heap[X]? ∧ Alike X w' w1 ∧ ∃ c, w'.drawn = d + c ∧ w'.tape = T ∧ w1.drawn = w0.drawn + c ∧ w1.tape = w0.tape ∧ ∀ e ∈ es0, Clean X e) hp h hm2 hr hs hm'
    (fun s _ ht a es hrs => by
      obtain ⟨w', c, g1, g2, g3, g4, g5, g6, g7, g8⟩ := tame_run (ht rfl) (alike_wt hA T d) hT (by simp) hrs
      exact ⟨w', g1, g3, g2, c, g4, g5, g6, g7, g8⟩)
    (fun e => by
      subst e
      refine ⟨hT 0, rfl, ⟨hA.os, hA.output, hA.size, hA.block, hA.gone⟩, 1, rfl, rfl, rfl, rfl, by simp⟩)
    (fun e => by subst e; exact ⟨rfl, alike_wt hA T d, 0, rfl, rfl, rfl, rfl, by simp⟩)
  exact ⟨fr', rest', w', es, c, w1, n', rfl, hst, h1, hm', h2, hQ1, fun e he => hQ7 e (hsub e he), hQ3, hQ4, hQ2, hQ5, hQ6, hrun'⟩

/-- A lone run follows a step of the true world's, if it is asked the same. -/
theorem follow (hp : Plain P F false) (hFin : ∀ fr w, Fin fr w → fr.mode = .returning) {fr : Frame} {rest : List Frame} {w : World} (h : OkFrame P F false fr) (hm : fr.mode = .run ∨ fr.mode = .returning) (hr : OkRest P F false rest) (hne : ¬ (rest = [] ∧ fr.mode = .returning))
    {T : Nat → Question → Nat} {d : Nat} {fr' : Frame} {rest' : List Frame} {w' : World} {es : Array Event} (hst : ∀ cs, stepG P true (G fr (rest ++ cs)) (w.wt T d) = .go (G fr' (rest' ++ cs)) w' es) (hm' : fr'.mode = .run ∨ fr'.mode = .returning) (hd : d ≤ w'.drawn)
    {v : World} (hA : Alike X w v) (hv : ∀ i, i < w'.drawn - d → v.tape (v.drawn + i) = T (d + i)) {n : Nat} {frL : Frame} {v' : World} (hrun : runN P n (solo (G fr (rest ++ [trap P])) v) = .next (solo (G frL [trap P]) v')) (hfin : Fin frL v') :
    ∃ n' v1, n = n' + 1 ∧ Alike X w' v1 ∧ v1.tape = v.tape ∧ v1.drawn = v.drawn + (w'.drawn - d) ∧ runN P n' (solo (G fr' (rest' ++ [trap P])) v1) = .next (solo (G frL [trap P]) v') := by
  have hm2 : fr.mode = .run ∨ (fr.mode = .returning ∧ rest ≠ []) := by
    rcases hm with hm | hm
    · exact .inl hm
    · exact .inr ⟨hm, fun e => hne ⟨e, hm⟩⟩
  obtain ⟨fr2, rest2, u', es2, c2, v1, m', rfl, hst2, _, _, _, _, _, hd2, hT2, hB', hv1, hv1t, hrunM'⟩ := lone_one hp hFin h hm hr hne v.tape v.drawn hA (fun _ => rfl) hrun hfin
  obtain ⟨_, _, es3, _, u3, ⟨hu3, _⟩, hst3⟩ := lock (w := w.wt v.tape v.drawn) (Q := fun u _ => u = w'.wt v.tape (v.drawn + (w'.drawn - d)) ∧ True) hp h hm2 hr (hst [trap P]) hm'
    (fun s _ ht a es hrs => by
      obtain ⟨g1, g2, g3⟩ := tape_run (ht rfl) hrs
      refine ⟨_, g3 v.tape v.drawn (fun i hi => ?_), rfl, trivial⟩
      have hi' : d + i < w'.drawn := hi
      rw [hv i (by omega)]
      rfl)
    (fun e => by
      have hc1 : w'.drawn = d + 1 := by rw [e]; rfl
      refine ⟨?_, ?_, trivial⟩
      · show v.tape v.drawn = T d
        have := hv 0 (by omega)
        simpa using this
      · rw [e]
        show (w.wt v.tape v.drawn).wt v.tape (v.drawn + 1) = _
        simp only [World.wt]
        congr 1
        omega)
    (fun e => by
      refine ⟨?_, trivial⟩
      rw [e]
      simp [World.wt])
  obtain ⟨e1, e2, e3, e4⟩ := g_inj ((hst2 []).symm.trans (hst3 []))
  simp only [List.append_nil] at e2
  subst e1 e2 e3
  have hc2 : c2 = w'.drawn - d := by
    have : u'.drawn = v.drawn + (w'.drawn - d) := by rw [hu3]; rfl
    omega
  refine ⟨m', v1, rfl, ?_, hv1t, by rw [hv1, hc2], hrunM'⟩
  refine alike_of_heap hB' ?_ ?_ ?_ <;> rw [hu3] <;> rfl

/-- WHAT A LONE RUN's FIRST STEP DOES IN THE TRUE WORLD. -/
theorem LoneTo.step (hp : Plain P F false) (hFin : ∀ fr w, Fin fr w → fr.mode = .returning) {fr : Frame} {rest : List Frame} {w : World} (hL : LoneTo P X Fin fr rest w) (h : OkFrame P F false fr) (hm : fr.mode = .run ∨ fr.mode = .returning) (hr : OkRest P F false rest)
    (hne : ¬ (rest = [] ∧ fr.mode = .returning)) (T : Nat → Question → Nat) (d : Nat) :
    ∃ fr' rest' w' es, (∀ cs, stepG P true (G fr (rest ++ cs)) (w.wt T d) = .go (G fr' (rest' ++ cs)) w' es) ∧ OkFrame P F false fr' ∧ (fr'.mode = .run ∨ fr'.mode = .returning) ∧ OkRest P F false rest' ∧ w'.heap[X]? = w.heap[X]? ∧ (∀ e ∈ es, Clean X e) ∧ LoneTo P X Fin fr' rest' w' ∧ d ≤ w'.drawn ∧ w'.tape = T := by
  obtain ⟨w0, hA, hσ, n, frL, w0', hrun, hfin⟩ := hL fun i => T (d + i)
  obtain ⟨fr', rest', w', es, c, w1, n', _, hst, h1, hm', h2, hX, hcl, hd, hT', _, _, _, _⟩ := lone_one hp hFin h hm hr hne T d hA (fun i => (hσ i).symm) hrun hfin
  refine ⟨fr', rest', w', es, hst, h1, hm', h2, hX, hcl, fun σ => ?_, by omega, hT'⟩
  obtain ⟨v0, hB, hσ', m, frM, v0', hrunM, hfinM⟩ := hL fun i => if i < c then T (d + i) else σ (i - c)
  have hcd : w'.drawn - d = c := by omega
  obtain ⟨m', v1, rfl, hA1, ht1, hd1, hrun1⟩ := follow hp hFin h hm hr hne hst hm' (by omega) hB (fun i hi => by rw [hσ' i, if_pos (by omega)]) hrunM hfinM
  refine ⟨v1, hA1, fun i => ?_, m', frM, v0', hrun1, hfinM⟩
  rw [ht1, hd1, hcd]
  have := hσ' (c + i)
  rw [if_neg (by omega)] at this
  rw [Nat.add_assoc, this]
  congr 1
  omega

/-- At the end there is nothing left to do. -/
theorem LoneTo.stop (hp : Plain P F false) (hFin : ∀ fr w, Fin fr w → fr.mode = .returning) {fr : Frame} {w : World} (hL : LoneTo P X Fin fr [] w) (h : OkFrame P F false fr) (hm : fr.mode = .returning) : ∃ w0, Alike X w w0 ∧ Fin fr w0 := by
  obtain ⟨w0, hA, _, n, frL, w0', hrun, hfin⟩ := hL w.tape
  cases n with
  | zero =>
    simp only [runN, Stepped.next.injEq, solo, Machine.mk.injEq] at hrun
    obtain ⟨rfl, h2, _⟩ := hrun
    simp [G] at h2
    exact ⟨w0, hA, h2 ▸ hfin⟩
  | succ n =>
    exfalso
    rcases step_kind hp h (.inr hm) (rest := []) (by intro x hx; cases hx) w0 with ⟨g', w₁, es, hs⟩ | ⟨o, w₁, es, hs⟩
    · have hst := step_solo (P := P) (g := G fr ([] ++ [trap P])) rfl hs
      simp only [runN, hst] at hrun
      have hb : Bad P F false g' := by
        obtain ⟨fd, hfd⟩ := h.fn
        have hk := h.kind
        simp only [stepG, G, hm, unwind, h.defers, hfd] at hs
        cases hrr : (results fd fr.tmps).runT P w0 #[] with
        | mk r1 es1 =>
          rw [hrr] at hs
          cases r1 with
          | ok v w1 =>
            simp only [doReturn, List.nil_append, hk, GStep.after] at hs
            injection hs with hs _ _
            exact hs ▸ .fell v
          | halt hh w1 => cases hh <;> simp [GStep.after] at hs
      exact Bad.not_end (Bad.never n hb _ _ _ hrun) (hFin _ _ hfin)
    · have hst := step_solo_end (P := P) (g := G fr ([] ++ [trap P])) rfl hs
      simp only [runN, hst] at hrun
      cases hrun

/-- The states of a run that never ends. -/
structure Stray (P : Program) (X : Nat) (F : FuncId → Bool) (Fin : Frame → World → Prop) (s : Frame × List Frame × World) : Prop where
  lone : LoneTo P X Fin s.1 s.2.1 s.2.2
  ok : OkFrame P F false s.1
  mode : s.1.mode = .run ∨ s.1.mode = .returning
  rest : OkRest P F false s.2.1
  not : ¬ Will P X Fin s.1 s.2.1 s.2.2
theorem Stray.ne (hp : Plain P F false) (hFin : ∀ fr w, Fin fr w → fr.mode = .returning) {s : Frame × List Frame × World} (h : Stray P X F Fin s) : ¬ (s.2.1 = [] ∧ s.1.mode = .returning) := by
  obtain ⟨fr, rest, w⟩ := s
  rintro ⟨rfl, hm⟩
  exact h.not (.stop (LoneTo.stop hp hFin h.lone h.ok hm))
theorem Stray.next (hp : Plain P F false) (hFin : ∀ fr w, Fin fr w → fr.mode = .returning) {s : Frame × List Frame × World} (h : Stray P X F Fin s) :
    ∃ (s' : Frame × List Frame × World) (T : Nat → Question → Nat) (d : Nat) (es : Array Event), Stray P X F Fin s' ∧ (∀ cs, stepG P true (G s.1 (s.2.1 ++ cs)) (s.2.2.wt T d) = .go (G s'.1 (s'.2.1 ++ cs)) s'.2.2 es) ∧ d ≤ s'.2.2.drawn := by
  refine Classical.byContradiction fun hn => h.not ?_
  have hstep := fun T d => LoneTo.step hp hFin h.lone h.ok h.mode h.rest (h.ne hp hFin) T d
  refine .step (fun T d => ⟨(hstep T d).choose, (hstep T d).choose_spec.choose, (hstep T d).choose_spec.choose_spec.choose, (hstep T d).choose_spec.choose_spec.choose_spec.choose⟩) (fun T d => ?_) (fun T d => ?_)
  · have hs := (hstep T d).choose_spec.choose_spec.choose_spec.choose_spec
    refine ⟨by simpa using hs.1 [], hs.2.2.2.2.1, hs.2.2.2.2.2.1⟩
  · have hs := (hstep T d).choose_spec.choose_spec.choose_spec.choose_spec
    refine Classical.byContradiction fun hw => hn ⟨⟨_, _, _⟩, T, d, _, ⟨hs.2.2.2.2.2.2.1, hs.2.1, hs.2.2.1, hs.2.2.2.1, hw⟩, hs.1, hs.2.2.2.2.2.2.2.1⟩

theorem will_of_lone (hp : Plain P F false) (hFin : ∀ fr w, Fin fr w → fr.mode = .returning) {fr : Frame} {rest : List Frame} {w : World} (hL : LoneTo P X Fin fr rest w) (h : OkFrame P F false fr) (hm : fr.mode = .run ∨ fr.mode = .returning) (hr : OkRest P F false rest) : Will P X Fin fr rest w := by
  classical
  refine Classical.byContradiction fun hnot => ?_
  let S := { s : Frame × List Frame × World // Stray P X F Fin s }
  have hnx : ∀ s : S, ∃ s' : S, ∃ (T : Nat → Question → Nat) (d : Nat) (es : Array Event), (∀ cs, stepG P true (G s.1.1 (s.1.2.1 ++ cs)) (s.1.2.2.wt T d) = .go (G s'.1.1 (s'.1.2.1 ++ cs)) s'.1.2.2 es) ∧ d ≤ s'.1.2.2.drawn := fun s =>
    let ⟨s', T, d, es, hs, h1⟩ := s.2.next hp hFin; ⟨⟨s', hs⟩, T, d, es, h1⟩
  let nx : S → S := fun s => (hnx s).choose
  let f : Nat → S := fun k => Nat.rec ⟨(fr, rest, w), ⟨hL, h, hm, hr, hnot⟩⟩ (fun _ s => nx s) k
  have fs : ∀ k, f (k + 1) = nx (f k) := fun _ => rfl
  let T : Nat → Nat → Question → Nat := fun k => (hnx (f k)).choose_spec.choose
  let d : Nat → Nat := fun k => (hnx (f k)).choose_spec.choose_spec.choose
  have hst : ∀ k, ∃ es, (∀ cs, stepG P true (G (f k).1.1 ((f k).1.2.1 ++ cs)) ((f k).1.2.2.wt (T k) (d k)) = .go (G (f (k + 1)).1.1 ((f (k + 1)).1.2.1 ++ cs)) (f (k + 1)).1.2.2 es) ∧ d k ≤ (f (k + 1)).1.2.2.drawn := fun k =>
    ⟨_, (hnx (f k)).choose_spec.choose_spec.choose_spec.choose_spec⟩
  let c : Nat → Nat := fun k => (f (k + 1)).1.2.2.drawn - d k
  let C : Nat → Nat := fun k => Nat.rec 0 (fun k s => s + c k) k
  have Cs : ∀ k, C (k + 1) = C k + c k := fun _ => rfl
  have Cmono : ∀ j k, j ≤ k → C j ≤ C k := fun j k hjk => by
    induction hjk with
    | refl => exact Nat.le_refl _
    | step _ ih => rw [Nat.succ_eq_add_one, Cs]; omega
  let σ : Nat → Question → Nat := fun m => if h : ∃ j, C j ≤ m ∧ m < C (j + 1) then T h.choose (d h.choose + (m - C h.choose)) else fun _ => 0
  have hσ : ∀ k i, i < c k → σ (C k + i) = T k (d k + i) := fun k i hi => by
    have hex : ∃ j, C j ≤ C k + i ∧ C k + i < C (j + 1) := ⟨k, by omega, by rw [Cs]; omega⟩
    have hj : hex.choose = k := by
      have h1 := hex.choose_spec
      rcases Nat.lt_trichotomy hex.choose k with hlt | heq | hgt
      · have := Cmono (hex.choose + 1) k (by omega); omega
      · exact heq
      · have := Cmono (k + 1) hex.choose (by omega); rw [Cs] at this; omega
    show (if h : ∃ j, C j ≤ C k + i ∧ C k + i < C (j + 1) then T h.choose (d h.choose + (C k + i - C h.choose)) else fun _ => 0) = _
    rw [dif_pos hex, hj]
    congr 1
    omega
  obtain ⟨w0, hA, hσ0, n, frL, w0', hrun, hfin⟩ := hL σ
  have go : ∀ k, k ≤ n → ∃ v, Alike X (f k).1.2.2 v ∧ (∀ i, v.tape (v.drawn + i) = σ (C k + i)) ∧ runN P (n - k) (solo (G (f k).1.1 ((f k).1.2.1 ++ [trap P])) v) = .next (solo (G frL [trap P]) w0') := by
    intro k
    induction k with
    | zero => exact fun _ => ⟨w0, hA, fun i => (hσ0 i).trans (congrArg σ (Nat.zero_add i).symm), hrun⟩
    | succ k ih =>
      intro hk
      obtain ⟨v, hv, hvs, hvr⟩ := ih (by omega)
      obtain ⟨es, hs, hd⟩ := hst k
      obtain ⟨n', v1, hn', hA1, ht1, hd1, hr1⟩ := follow hp hFin (f k).2.ok (f k).2.mode (f k).2.rest ((f k).2.ne hp hFin) hs (f (k + 1)).2.mode hd hv (fun i hi => by rw [hvs]; exact hσ k i hi) hvr hfin
      refine ⟨v1, hA1, fun i => ?_, ?_⟩
      · rw [ht1, hd1, Nat.add_assoc, hvs, Cs, Nat.add_assoc]
      · have : n - (k + 1) = n' := by omega
        rw [this]; exact hr1
  obtain ⟨v, _, _, hv⟩ := go n (Nat.le_refl _)
  rw [Nat.sub_self] at hv
  simp only [runN, Stepped.next.injEq, solo, Machine.mk.injEq] at hv
  have h2 := hv.2.1
  simp [G] at h2
  obtain ⟨h2, h3⟩ := h2
  refine (f n).2.ne hp hFin ⟨?_, by rw [h2]; exact hFin _ _ hfin⟩
  cases hh : (f n).1.2.1 with
  | nil => rfl
  | cons a l => rw [hh] at h3; simp at h3
end
end Go.Proofs.YtgdlakhfkmhlnaaWear
namespace Go.Proofs.YtgdlakhfkmhlnaaWear
open Go.Conc (G solo)

/-- What the starter may list ahead of the fork: no mark but 'no room'; places that are there. -/
def EvP (B : Nat) (e : Event) : Prop := NoMark e ∧ LowE B e
section
variable {P : Program} {F : FuncId → Bool} {full : Bool}
theorem Bad.not_mid {fr : Frame} {rest : List Frame} (h : Bad P F full (G fr (rest ++ [trap P]))) (hm : fr.mode = .run) : False := by
  generalize hg : G fr (rest ++ [trap P]) = g at h
  cases h with
  | up fr' rest' chain hm' _ _ _ =>
    simp only [G, Goroutine.mk.injEq] at hg
    rw [← hg.1, hm] at hm'
    cases hm'
  | caught chain => simp [G] at hg
  | fell v => simp [G] at hg

theorem pre_run (hp : Plain P F full) : ∀ (n : Nat) {fr : Frame} {rest : List Frame} {w : World} {frL : Frame} {restL : List Frame} {wL : World}, OkFrame P F full fr → (fr.mode = .run ∨ fr.mode = .returning) → OkRest P F full rest → frL.mode = .run →
    runN P n (solo (G fr (rest ++ [trap P])) w) = .next (solo (G frL (restL ++ [trap P])) wL) →
    OkFrame P F full frL ∧ OkRest P F full restL ∧ w.heap.size ≤ wL.heap.size ∧ ∃ u : Trace, (∀ t, runNT P n (solo (G fr rest) w) t = (.next (solo (G frL restL) wL), t ++ u)) ∧
      ∀ op ∈ u, op.g = 0 ∧ ∃ e, EvP wL.heap.size e ∧ op.act = .ofEvent e
  | 0, fr, rest, w, frL, restL, wL, h, hm, hr, hL, e => by
    simp only [runN, Stepped.next.injEq, solo, Machine.mk.injEq] at e
    obtain ⟨rfl, h2, _⟩ := e
    simp [G] at h2
    obtain ⟨rfl, h3⟩ := h2
    obtain rfl : rest = restL := by simpa using h3
    exact ⟨h, hr, Nat.le_refl _, #[], fun t => by simp [runNT], by simp⟩
  | n + 1, fr, rest, w, frL, restL, wL, h, hm, hr, hL, e => by
    rcases step_kind hp h hm hr w with ⟨g', w₁, es, hs⟩ | ⟨o, w₁, es, hs⟩
    · have hst := step_solo (P := P) (g := G fr (rest ++ [trap P])) rfl hs
      simp only [runN, hst] at e
      rcases step_class hp h hm hr hs with ⟨fr', rest', rfl, hm'⟩ | hb
      · have hm2 : fr.mode = .run ∨ (fr.mode = .returning ∧ rest ≠ []) := by
          rcases hm with hm | hm
          · exact .inl hm
          · refine .inr ⟨hm, ?_⟩
            rintro rfl
            obtain ⟨fd, hfd⟩ := h.fn
            have hk := h.kind
            simp only [stepG, G, hm, unwind, h.defers, hfd] at hs
            cases hrr : (results fd fr.tmps).runT P w #[] with
            | mk r1 es1 =>
              rw [hrr] at hs
              cases r1 with
              | ok v w1 =>
                simp only [doReturn, List.nil_append, hk, GStep.after] at hs
                injection hs with hs _ _
                simp at hs
              | halt hh w1 => cases hh <;> simp [GStep.after] at hs
        obtain ⟨h1, h2, es0, hsub, w', ⟨rfl, hle, hev⟩, hstep⟩ := lock (w := w) (Q := fun w' es0 => w' = w₁ ∧ w.heap.size ≤ w₁.heap.size ∧ ∀ e ∈ es0, EvP w₁.heap.size e) hp h hm2 hr hs hm'
          (fun s hu _ a es hrs => by
            refine ⟨w₁, hrs, rfl, ?_, fun e he => ⟨?_, ?_⟩⟩
            · have := (low (P := P) s w #[] (by simp)).1
              rw [hrs] at this
              exact this
            · have := hu.events w #[] (by simp) e (by rw [hrs]; exact he)
              exact this
            · have := (low (P := P) s w #[] (by simp)).2
              rw [hrs] at this
              exact this e he)
          (fun e => by subst e; exact ⟨rfl, rfl, Nat.le_refl _, by simp⟩) (fun e => by subst e; exact ⟨rfl, Nat.le_refl _, by simp⟩)
        obtain ⟨g1, g2, g3, u, g4, g5⟩ := pre_run hp n h1 hm' h2 hL e
        refine ⟨g1, g2, Nat.le_trans hle g3, MemOp.ofEvents 0 fr.fn fr.place es ++ u, fun t => ?_, fun op hop => ?_⟩
        · have hstT : stepT P (solo (G fr rest) w) = (.next (solo (G fr' rest') w'), MemOp.ofEvents 0 fr.fn fr.place es) := by
            rw [Go.Conc.stepT_solo rfl, Go.Conc.runT_solo_go (by simpa using hstep [])]
            rfl
          simp only [runNT, hstT]
          rw [g4, Array.append_assoc]
        · rcases Array.mem_append.1 hop with hop | hop
          · rw [Go.Conc.ofEvents_eq] at hop
            obtain ⟨e, he, rfl⟩ := Array.mem_map.1 hop
            have := hev e (hsub e he)
            exact ⟨rfl, e, ⟨this.1, this.2.mono g3⟩, rfl⟩
          · exact g5 op hop
      · exact (Bad.not_mid (Bad.never n hb _ _ _ e) hL).elim
    · have hst := step_solo_end (P := P) (g := G fr (rest ++ [trap P])) rfl hs
      simp only [runN, hst] at e
      cases e
theorem pre_call (hp : Plain P F full) : ∀ (n : Nat) {fr : Frame} {rest : List Frame} {w : World} {frL : Frame} {wL : World}, OkFrame P F full fr → (fr.mode = .run ∨ fr.mode = .returning) → OkRest P F full rest → frL.mode = .returning →
    runN P n (solo (G fr (rest ++ [trap P])) w) = .next (solo (G frL [trap P]) wL) →
    w.heap.size ≤ wL.heap.size ∧ ∃ u : Trace, (∀ cs t, runNT P n (solo (G fr (rest ++ cs)) w) t = (.next (solo (G frL cs) wL), t ++ u)) ∧
      ∀ op ∈ u, op.g = 0 ∧ ∃ e, EvP wL.heap.size e ∧ op.act = .ofEvent e
  | 0, fr, rest, w, frL, wL, h, hm, hr, hL, e => by
    simp only [runN, Stepped.next.injEq, solo, Machine.mk.injEq] at e
    obtain ⟨rfl, h2, _⟩ := e
    simp [G] at h2
    obtain ⟨rfl, h3⟩ := h2
    obtain rfl : rest = [] := by simpa using h3
    exact ⟨Nat.le_refl _, #[], fun cs t => by simp [runNT], by simp⟩
  | n + 1, fr, rest, w, frL, wL, h, hm, hr, hL, e => by
    rcases step_kind hp h hm hr w with ⟨g', w₁, es, hs⟩ | ⟨o, w₁, es, hs⟩
    · have hst := step_solo (P := P) (g := G fr (rest ++ [trap P])) rfl hs
      simp only [runN, hst] at e
      rcases step_class hp h hm hr hs with ⟨fr', rest', rfl, hm'⟩ | hb
      · have hm2 : fr.mode = .run ∨ (fr.mode = .returning ∧ rest ≠ []) := by
          rcases hm with hm | hm
          · exact .inl hm
          · refine .inr ⟨hm, ?_⟩
            rintro rfl
            obtain ⟨fd, hfd⟩ := h.fn
            have hk := h.kind
            simp only [stepG, G, hm, unwind, h.defers, hfd] at hs
            cases hrr : (results fd fr.tmps).runT P w #[] with
            | mk r1 es1 =>
              rw [hrr] at hs
              cases r1 with
              | ok v w1 =>
                simp only [doReturn, List.nil_append, hk, GStep.after] at hs
                injection hs with hs _ _
                simp at hs
              | halt hh w1 => cases hh <;> simp [GStep.after] at hs
        obtain ⟨h1, h2, es0, hsub, w', ⟨rfl, hle, hev⟩, hstep⟩ := lock (w := w) (Q := fun w' es0 => w' = w₁ ∧ w.heap.size ≤ w₁.heap.size ∧ ∀ e ∈ es0, EvP w₁.heap.size e) hp h hm2 hr hs hm'
          (fun s hu _ a es hrs => by
            refine ⟨w₁, hrs, rfl, ?_, fun e he => ⟨?_, ?_⟩⟩
            · have := (low (P := P) s w #[] (by simp)).1
              rw [hrs] at this
              exact this
            · have := hu.events w #[] (by simp) e (by rw [hrs]; exact he)
              exact this
            · have := (low (P := P) s w #[] (by simp)).2
              rw [hrs] at this
              exact this e he)
          (fun e => by subst e; exact ⟨rfl, rfl, Nat.le_refl _, by simp⟩) (fun e => by subst e; exact ⟨rfl, Nat.le_refl _, by simp⟩)
        obtain ⟨g3, u, g4, g5⟩ := pre_call hp n h1 hm' h2 hL e
        refine ⟨Nat.le_trans hle g3, MemOp.ofEvents 0 fr.fn fr.place es ++ u, fun cs t => ?_, fun op hop => ?_⟩
        · have hstT : stepT P (solo (G fr (rest ++ cs)) w) = (.next (solo (G fr' (rest' ++ cs)) w'), MemOp.ofEvents 0 fr.fn fr.place es) := by
            rw [Go.Conc.stepT_solo rfl, Go.Conc.runT_solo_go (hstep cs)]
            rfl
          simp only [runNT, hstT]
          rw [g4, Array.append_assoc]
        · rcases Array.mem_append.1 hop with hop | hop
          · rw [Go.Conc.ofEvents_eq] at hop
            obtain ⟨e, he, rfl⟩ := Array.mem_map.1 hop
            have := hev e (hsub e he)
            exact ⟨rfl, e, ⟨this.1, this.2.mono g3⟩, rfl⟩
          · exact g5 op hop
      · exact (Bad.not_end (Bad.never n hb _ _ _ e) hL).elim
    · have hst := step_solo_end (P := P) (g := G fr (rest ++ [trap P])) rfl hs
      simp only [runN, hst] at e
      cases e
end
end Go.Proofs.YtgdlakhfkmhlnaaWear
namespace Go.Proofs.YtgdlakhfkmhlnaaWear
open Go.Conc Go.ConcN
open Go.ConcR (KK wgBlock WgAt stA smA rd wr mk Payload Aside2 DC0 Bk g_of_ofEvents loc_of_ofEvent)

/-! ### a goroutine's phase: silent steps, then one that acts; e of those, then the stop -/
section
variable (P : Program) (main : Bool) (R : List Nat → World → World → Prop) (X : List Nat → List Nat → World → World → Array Event → Prop)
def AtAct (Next : List Nat → Goroutine → World → Prop) (o : List Nat) (g : Goroutine) (w : World) : Prop :=
  g.status = .running ∧ ∃ g' w' es o', stepG P main g w = .go g' w' es ∧ X o o' w w' es ∧ Next o' g' w'
def Ph (Stop : List Nat → Goroutine → World → Prop) : Nat → List Nat → Nat → Goroutine → World → Prop
  | 0, o, m, g, w => Goes P main (R o) DC0 (Stop o) m g w
  | e + 1, o, m, g, w => Goes P main (R o) DC0 (AtAct P main X (fun o' g' w' => ∃ m', Ph Stop e o' m' g' w') o) m g w
end

section
variable {P : Program} {main : Bool} {R : List Nat → World → World → Prop} {X : List Nat → List Nat → World → World → Array Event → Prop} {Stop : List Nat → Goroutine → World → Prop}
theorem Ph.rely (tr : ∀ o a b c, R o a b → R o b c → R o a c) {e : Nat} {o : List Nat} {m : Nat} {g : Goroutine} {w w₁ : World} (h : Ph P main R X Stop e o m g w) (hr : R o w w₁) : Ph P main R X Stop e o m g w₁ := by
  cases e with
  | zero => exact Goes.rely (tr o) h hr
  | succ e => exact Goes.rely (tr o) h hr
theorem Ph.running (rf : ∀ o w, R o w w) (hs : ∀ o g w, Stop o g w → g.status = .running) {e : Nat} {o : List Nat} {m : Nat} {g : Goroutine} {w : World} (h : Ph P main R X Stop e o m g w) : g.status = .running := by
  cases e with
  | zero => exact Goes.running (hs o) w (rf o w) h
  | succ e => exact Goes.running (fun _ _ x => x.1) w (rf o w) h
/-- where it stands -/
theorem Ph.cases (rf : ∀ o w, R o w w) {e : Nat} {o : List Nat} {m : Nat} {g : Goroutine} {w : World} (h : Ph P main R X Stop e o m g w) :
    (e = 0 ∧ ∀ w₁, R o w w₁ → Stop o g w₁) ∨ (∃ m', m = m' + 1 ∧ ∃ g', stepG P main g w = .go g' w #[] ∧ Ph P main R X Stop e o m' g' w) ∨
    (∃ e', e = e' + 1 ∧ g.status = .running ∧ ∃ g' w' es o' m', stepG P main g w = .go g' w' es ∧ X o o' w w' es ∧ Ph P main R X Stop e' o' m' g' w') := by
  cases e with
  | zero =>
    rcases Goes.cases h with hs | ⟨m', rfl, hs⟩
    · exact .inl ⟨rfl, hs⟩
    · obtain ⟨g', w', es, hgo, ⟨rfl, rfl⟩, hg⟩ := hs w (rf o w)
      exact .inr (.inl ⟨m', rfl, g', hgo, hg⟩)
  | succ e =>
    rcases Goes.cases h with hs | ⟨m', rfl, hs⟩
    · obtain ⟨hrun, g', w', es, o', hgo, hx, m', hp⟩ := hs w (rf o w)
      exact .inr (.inr ⟨e, rfl, hrun, g', w', es, o', m', hgo, hx, hp⟩)
    · obtain ⟨g', w', es, hgo, ⟨rfl, rfl⟩, hg⟩ := hs w (rf o w)
      exact .inr (.inl ⟨m', rfl, g', hgo, hg⟩)
end

/-- A rely that allows less is served by what serves one that allows more. -/
theorem Goes.weaken {P : Program} {main : Bool} {R R' : World → World → Prop} {D D' : World → World → Array Event → Prop} {Stop Stop' : Goroutine → World → Prop}
    (hR : ∀ a b, R' a b → R a b) (hD : ∀ a b es, D a b es → D' a b es) (hS : ∀ g w, Stop g w → Stop' g w) : ∀ {m : Nat} {g : Goroutine} {w : World}, Goes P main R D Stop m g w → Goes P main R' D' Stop' m g w
  | 0, _, _, h => fun w₁ h₁ => hS _ _ (h w₁ (hR _ _ h₁))
  | m + 1, _, _, .inl h => .inl fun w₁ h₁ => hS _ _ (h w₁ (hR _ _ h₁))
  | m + 1, g, w, .inr ⟨hs, h⟩ => .inr ⟨hs, fun w₁ h₁ => by
      have := h w₁ (hR _ _ h₁)
      cases hgo : stepG P main g w₁ with
      | go g' w' es => rw [hgo] at this; exact ⟨hD _ _ _ this.1, Goes.weaken hR hD hS this.2⟩
      | _ => rw [hgo] at this; exact this.elim⟩

/-! ### the trace's law where a family of places grows by places that nobody has touched -/
theorem CT.grow {Sh : Loc → Prop} {Own Own' Rd : Nat → Loc → Prop} {t : Trace} {j : Nat} (h : CT Sh Own Rd t j) (h1 : ∀ k, 1 ≤ k → k ≤ j → ∀ l, Own k l → Own' k l)
    (h2 : ∀ k, 1 ≤ k → k ≤ j → ∀ l, Own' k l → Own k l ∨ ∀ i a, touchAt t i = some a → a.loc ≠ l) : CT Sh Own' Rd t j :=
  ⟨h.quiet, fun k k1 kj l hl => (h2 k k1 kj l hl).elim (h.own k k1 kj l) (fun hn i a ha e => absurd e (hn i a ha)), h.rd,
    fun l hs hl => h.free l hs fun k k1 kj => ⟨fun ho => (hl k k1 kj).1 (h1 k k1 kj l ho), (hl k k1 kj).2⟩,
    fun l hs hl => h.mine l hs fun k k1 kj ho => hl k k1 kj (h1 k k1 kj l ho), h.nr, h.gs⟩

/-! ### who owns what -/
structure Plan (Wg C Low : Nat) : Prop where
  hW : Wg < Low
  hC : C < Low
  hCW : C ≠ Wg
structure Sep (Low : Nat) (o : Nat → List Nat) (s : List Nat) (sz : Nat) : Prop where
  ge : ∀ i b, b ∈ o i → Low ≤ b ∧ b < sz
  ge0 : ∀ b, b ∈ s → Low ≤ b ∧ b < sz
  dis : ∀ i i' b, b ∈ o i → b ∈ o i' → i = i'
  dis0 : ∀ i b, b ∈ o i → b ∉ s
def OwnP (C : Nat) (o : Nat → List Nat) (k : Nat) (l : Loc) : Prop := ∃ i a, k = i + 1 ∧ l = .cell a ∧ (a.block ∈ o i ∨ (a.block = C ∧ (a.off = 2 * i ∨ a.off = 2 * i + 1)))
def RdP (Wg C Low : Nat) (_ : Nat) (l : Loc) : Prop := ∃ a, l = .cell a ∧ a.block < Low ∧ a.block ≠ Wg ∧ a.block ≠ C

theorem Sep.apart {Wg C Low : Nat} (G : Plan Wg C Low) {o : Nat → List Nat} {s : List Nat} {sz : Nat} (S : Sep Low o s sz) : Apart (ShN Wg) (OwnP C o) (RdP Wg C Low) := by
  have hC := G.hC; have hW := G.hW; have hCW := G.hCW
  refine ⟨?_, ?_, ?_, ?_⟩
  · rintro k k' l ⟨i, a, rfl, rfl, ha⟩ ⟨i', a', rfl, e, ha'⟩
    injection e with e; subst e
    rcases ha with h1 | ⟨h1, h2⟩ <;> rcases ha' with h1' | ⟨h1', h2'⟩
    · rw [S.dis i i' _ h1 h1']
    · have := (S.ge i _ h1).1; omega
    · have := (S.ge i' _ h1').1; omega
    · omega
  · rintro k k' l ⟨i, a, rfl, rfl, ha⟩ ⟨a', e, b1, b2, b3⟩
    injection e with e; subst e
    rcases ha with h1 | ⟨h1, _⟩
    · have := (S.ge i _ h1).1; omega
    · exact b3 h1
  · rintro k l ⟨i, a, rfl, rfl, ha⟩ ⟨a', e, b1⟩
    injection e with e; subst e
    rcases ha with h1 | ⟨h1, _⟩
    · have := (S.ge i _ h1).1; omega
    · exact hCW (h1.symm.trans b1)
  · rintro k l ⟨a, rfl, b1, b2, b3⟩ ⟨a', e, b4⟩
    injection e with e; subst e
    exact b2 b4

theorem Sep.pushW {Low : Nat} {o : Nat → List Nat} {s : List Nat} {sz : Nat} (S : Sep Low o s sz) (hL : Low ≤ sz) (i : Nat) : Sep Low (upd o i (sz :: o i)) s (sz + 1) := by
  have mem : ∀ i' b, b ∈ upd o i (sz :: o i) i' → (b = sz ∧ i' = i) ∨ b ∈ o i' := by
    intro i' b hb
    by_cases e : i' = i
    · subst e; rw [upd_same] at hb
      rcases List.mem_cons.1 hb with h | h
      · exact .inl ⟨h, rfl⟩
      · exact .inr h
    · rw [upd_ne _ _ e] at hb; exact .inr hb
  refine ⟨fun i' b hb => ?_, fun b hb => ?_, fun a a' b h h' => ?_, fun a b h h' => ?_⟩
  · rcases mem i' b hb with ⟨rfl, _⟩ | h
    · omega
    · have := S.ge i' b h; omega
  · have := S.ge0 b hb; omega
  · rcases mem a b h with ⟨rfl, rfl⟩ | h1 <;> rcases mem a' b h' with ⟨e, rfl⟩ | h1'
    · rfl
    · have := S.ge a' _ h1'; omega
    · subst e; have := S.ge a _ h1; omega
    · exact S.dis a a' b h1 h1'
  · rcases mem a b h with ⟨rfl, rfl⟩ | h1
    · have := S.ge0 _ h'; omega
    · exact S.dis0 a b h1 h'
theorem Sep.push0 {Low : Nat} {o : Nat → List Nat} {s : List Nat} {sz : Nat} (S : Sep Low o s sz) (hL : Low ≤ sz) : Sep Low o (sz :: s) (sz + 1) := by
  refine ⟨fun i b hb => ?_, fun b hb => ?_, S.dis, fun a b h h' => ?_⟩
  · have := S.ge i b hb; omega
  · rcases List.mem_cons.1 hb with rfl | h
    · omega
    · have := S.ge0 b h; omega
  · rcases List.mem_cons.1 h' with rfl | h'
    · have := S.ge a _ h; omega
    · exact S.dis0 a b h h'
theorem Sep.give {Low : Nat} {o : Nat → List Nat} {s : List Nat} {sz j : Nat} (S : Sep Low o s sz) (hj : o j = []) : Sep Low (upd o j s) [] sz := by
  have mem : ∀ i' b, b ∈ upd o j s i' → (i' = j ∧ b ∈ s) ∨ b ∈ o i' := by
    intro i' b hb
    by_cases e : i' = j
    · subst e; rw [upd_same] at hb; exact .inl ⟨rfl, hb⟩
    · rw [upd_ne _ _ e] at hb; exact .inr hb
  refine ⟨fun i b hb => ?_, by simp, fun a a' b h h' => ?_, by simp⟩
  · rcases mem i b hb with ⟨_, h⟩ | h
    · exact S.ge0 b h
    · exact S.ge i b h
  · rcases mem a b h with ⟨rfl, h1⟩ | h1 <;> rcases mem a' b h' with ⟨rfl, h1'⟩ | h1'
    · rfl
    · exact absurd h1 (S.dis0 _ _ h1')
    · exact absurd h1' (S.dis0 _ _ h1)
    · exact S.dis _ _ _ h1 h1'
theorem Sep.keep {Low : Nat} {o : Nat → List Nat} {s : List Nat} {sz sz' : Nat} (S : Sep Low o s sz) (h : sz ≤ sz') : Sep Low o s sz' :=
  ⟨fun i b hb => (by have := S.ge i b hb; omega), fun b hb => (by have := S.ge0 b hb; omega), S.dis, S.dis0⟩

/-! ### relies, effects -/
section
variable [Payload] (ty : TypeId) (Wg C Low n : Nat)
structure RA (o : List Nat) (w w₁ : World) : Prop where
  low : ∀ b, b < Low → b ≠ Wg → b ≠ C → w₁.heap[b]? = w.heap[b]?
  own : ∀ b, b ∈ o → w₁.heap[b]? = w.heap[b]?
  live : WgLive ty Wg w → WgLive ty Wg w₁
structure RK (i : Nat) (o : List Nat) (w w₁ : World) : Prop where
  ra : RA ty Wg C Low o w w₁
  pay : PayAt C (2 * n) w → PayAt C (2 * n) w₁
  c0 : w₁.cell? ⟨C, 2 * i, none⟩ = w.cell? ⟨C, 2 * i, none⟩
  c1 : w₁.cell? ⟨C, 2 * i + 1, none⟩ = w.cell? ⟨C, 2 * i + 1, none⟩

/-- A private event of worker number i. -/
def EvK (i : Nat) (o : List Nat) (e : Event) : Prop :=
  ∃ a wr, e = ⟨.cell a, wr, false⟩ ∧ (a.block ∈ o ∨ (a.block = C ∧ (a.off = 2 * i ∨ a.off = 2 * i + 1)) ∨ (wr = false ∧ a.block < Low ∧ a.block ≠ Wg ∧ a.block ≠ C))
structure DK (i : Nat) (o : List Nat) (w w' : World) (es : Array Event) : Prop where
  tape : w'.tape = w.tape
  os : w'.os = w.os
  output : w'.output = w.output
  size : w'.heap.size = w.heap.size
  block : ∀ b, b ∉ o → b ≠ C → w'.heap[b]? = w.heap[b]?
  pay : PayAt C (2 * n) w → PayAt C (2 * n) w'
  cells : ∀ c, c ≠ 2 * i → c ≠ 2 * i + 1 → w'.cell? ⟨C, c, none⟩ = w.cell? ⟨C, c, none⟩
  ev : ∀ e ∈ es, EvK Wg C Low i o e
def News (o o' : List Nat) (w w' : World) (es : Array Event) : Prop := o' = w.heap.size :: o ∧ es = #[] ∧ ∃ x, w' = { w with heap := w.heap.push x }
def XK (i : Nat) (o o' : List Nat) (w w' : World) (es : Array Event) : Prop := (o' = o ∧ DK Wg C Low n i o w w' es) ∨ News o o' w w' es

/-- A private event of the starter's. -/
def EvS (o : List Nat) (e : Event) : Prop :=
  (∃ a wr, e = ⟨.cell a, wr, false⟩ ∧ (a.block ∈ o ∨ (wr = false ∧ a.block < Low ∧ a.block ≠ Wg ∧ a.block ≠ C))) ∨ ∃ a, (e = ⟨.mark (.read a), false, true⟩ ∨ e = ⟨.mark (.write a), false, true⟩) ∧ a.block = Wg
structure DS (o : List Nat) (w w' : World) (es : Array Event) : Prop where
  tape : w'.tape = w.tape
  os : w'.os = w.os
  output : w'.output = w.output
  size : w'.heap.size = w.heap.size
  block : ∀ b, b ∉ o → w'.heap[b]? = w.heap[b]?
  ev : ∀ e ∈ es, EvS Wg C Low o e
def XS (o o' : List Nat) (w w' : World) (es : Array Event) : Prop := (o' = o ∧ DS Wg C Low o w w' es) ∨ News o o' w w' es

/-- What a step of worker number i does to the world. -/
structure WEff (i : Nat) (o : List Nat) (w w' : World) : Prop where
  tape : w'.tape = w.tape
  os : w'.os = w.os
  output : w'.output = w.output
  size : w.heap.size ≤ w'.heap.size
  block : ∀ b, b < w.heap.size → b ∉ o → b ≠ C → b ≠ Wg → w'.heap[b]? = w.heap[b]?
  live : WgLive ty Wg w → WgLive ty Wg w'
  pay : PayAt C (2 * n) w → PayAt C (2 * n) w'
  cells : ∀ c, c ≠ 2 * i → c ≠ 2 * i + 1 → w'.cell? ⟨C, c, none⟩ = w.cell? ⟨C, c, none⟩
structure SEff (o : List Nat) (w w' : World) : Prop where
  tape : w'.tape = w.tape
  os : w'.os = w.os
  output : w'.output = w.output
  size : w.heap.size ≤ w'.heap.size
  block : ∀ b, b < w.heap.size → b ∉ o → b ≠ Wg → w'.heap[b]? = w.heap[b]?
  live : WgLive ty Wg w → WgLive ty Wg w'
end

section
variable [Payload] {ty : TypeId} {Wg C Low n i : Nat} {o : List Nat} {w w₁ w₂ : World} {es : Array Event}
omit [Payload] in
theorem RA.refl (w : World) : RA ty Wg C Low o w w := ⟨fun _ _ _ _ => rfl, fun _ _ => rfl, id⟩
omit [Payload] in
theorem RA.trans (h : RA ty Wg C Low o w w₁) (h' : RA ty Wg C Low o w₁ w₂) : RA ty Wg C Low o w w₂ :=
  ⟨fun b a c d => (h'.low b a c d).trans (h.low b a c d), fun b hb => (h'.own b hb).trans (h.own b hb), h'.live ∘ h.live⟩
omit [Payload] in
theorem RA.at (w : World) (d : Nat) : RA ty Wg C Low o w (w.at d) := ⟨fun _ _ _ _ => rfl, fun _ _ => rfl, id⟩
theorem RK.refl (w : World) : RK ty Wg C Low n i o w w := ⟨.refl w, id, rfl, rfl⟩
theorem RK.trans (h : RK ty Wg C Low n i o w w₁) (h' : RK ty Wg C Low n i o w₁ w₂) : RK ty Wg C Low n i o w w₂ :=
  ⟨h.ra.trans h'.ra, h'.pay ∘ h.pay, h'.c0.trans h.c0, h'.c1.trans h.c1⟩
theorem RK.at (w : World) (d : Nat) : RK ty Wg C Low n i o w (w.at d) := ⟨.at w d, id, rfl, rfl⟩
theorem RK.lib (h : RK ty Wg C Low n i o w w₁) : RW ty Wg C (2 * n) 0 (2 * i + 1 - 1) w w₁ := ⟨fun b hb => absurd hb (Nat.not_lt_zero b), h.ra.live, h.pay, h.c0⟩

omit [Payload] in
theorem push_old {w : World} {x : Obj} {b : Nat} (hb : b < w.heap.size) : ({ w with heap := w.heap.push x } : World).heap[b]? = w.heap[b]? := by
  simp [Array.getElem?_push, Nat.ne_of_lt hb]
omit [Payload] in
theorem live_block {w w' : World} (h : w'.heap[Wg]? = w.heap[Wg]?) : WgLive ty Wg w → WgLive ty Wg w' := fun ⟨st, sm, hl⟩ => ⟨st, sm, hl.of_block h⟩
theorem pay_block {w w' : World} {m : Nat} (h : w'.heap[C]? = w.heap[C]?) : PayAt C m w → PayAt C m w' := fun ⟨cs, hc, hs⟩ => ⟨cs, h.trans hc, hs⟩

theorem XK.eff (G : Plan Wg C Low) (hL : Low ≤ w.heap.size) (hge : ∀ b, b ∈ o → Low ≤ b) {o' : List Nat} (h : XK Wg C Low n i o o' w w₁ es) : WEff ty Wg C n i o w w₁ := by
  have hC := G.hC; have hW := G.hW; have hCW := G.hCW
  rcases h with ⟨_, h⟩ | ⟨_, _, x, rfl⟩
  · exact ⟨h.tape, h.os, h.output, Nat.le_of_eq h.size.symm, fun b _ hb hc _ => h.block b hb hc, live_block (h.block Wg (fun hm => by have := hge _ hm; omega) (Ne.symm hCW)), h.pay, h.cells⟩
  · refine ⟨rfl, rfl, rfl, by simp, fun b hb _ _ _ => push_old hb, live_block (push_old (by omega)), pay_block (push_old (by omega)), fun c _ _ => cell_of_block (push_old (by omega)) c⟩
theorem WEff.of_wg (hCW : C ≠ Wg) (h : Aside Wg w w₁) (hl : WgLive ty Wg w₁) : WEff ty Wg C n i o w w₁ :=
  ⟨h.tape, h.os, h.output, Nat.le_of_eq h.size.symm, fun b _ _ _ hb => h.block b hb, fun _ => hl, pay_block (h.block C hCW), fun c _ _ => cell_of_block (h.block C hCW) c⟩
theorem WEff.of_cell (hCW : C ≠ Wg) (h : AsideCell C (2 * n) (2 * i) w w₁) : WEff ty Wg C n i o w w₁ :=
  ⟨h.tape, h.os, h.output, Nat.le_of_eq h.size.symm, fun b _ _ hb _ => h.block b hb, live_block (h.block Wg (Ne.symm hCW)), h.pay, fun c hc _ => h.cells c hc⟩
omit [Payload] in
theorem XS.eff (G : Plan Wg C Low) (hL : Low ≤ w.heap.size) (hge : ∀ b, b ∈ o → Low ≤ b) {o' : List Nat} (h : XS Wg C Low o o' w w₁ es) : SEff ty Wg o w w₁ := by
  have hC := G.hC; have hW := G.hW; have hCW := G.hCW
  rcases h with ⟨_, h⟩ | ⟨_, _, x, rfl⟩
  · exact ⟨h.tape, h.os, h.output, Nat.le_of_eq h.size.symm, fun b _ hb _ => h.block b hb, live_block (h.block Wg (fun hm => by have := hge _ hm; omega))⟩
  · exact ⟨rfl, rfl, rfl, by simp, fun b hb _ _ => push_old hb, live_block (push_old (by omega))⟩
omit [Payload] in
theorem SEff.of_wg (h : Aside Wg w w₁) (hl : WgLive ty Wg w₁) : SEff ty Wg o w w₁ := ⟨h.tape, h.os, h.output, Nat.le_of_eq h.size.symm, fun b _ _ hb => h.block b hb, fun _ => hl⟩

variable {os : Nat → List Nat} {s : List Nat}
theorem WEff.rk (G : Plan Wg C Low) (S : Sep Low os s w.heap.size) (hL : Low ≤ w.heap.size) (h : WEff ty Wg C n i (os i) w w₁) {i' : Nat} (hne : i' ≠ i) : RK ty Wg C Low n i' (os i') w w₁ := by
  have hC := G.hC; have hW := G.hW
  refine ⟨⟨fun b hb h1 h2 => h.block b (by omega) (fun hm => by have := (S.ge i b hm).1; omega) h2 h1, fun b hb => ?_, h.live⟩, h.pay, h.cells _ (by omega) (by omega), h.cells _ (by omega) (by omega)⟩
  have := S.ge i' b hb
  exact h.block b (by omega) (fun hm => hne (S.dis _ _ _ hb hm)) (by omega) (by omega)
theorem WEff.ra (G : Plan Wg C Low) (S : Sep Low os s w.heap.size) (hL : Low ≤ w.heap.size) (h : WEff ty Wg C n i (os i) w w₁) : RA ty Wg C Low s w w₁ := by
  have hC := G.hC; have hW := G.hW
  refine ⟨fun b hb h1 h2 => h.block b (by omega) (fun hm => by have := (S.ge i b hm).1; omega) h2 h1, fun b hb => ?_, h.live⟩
  have := S.ge0 b hb
  exact h.block b (by omega) (fun hm => S.dis0 _ _ hm hb) (by omega) (by omega)
theorem SEff.rk (G : Plan Wg C Low) (S : Sep Low os s w.heap.size) (hL : Low ≤ w.heap.size) (h : SEff ty Wg s w w₁) (i' : Nat) : RK ty Wg C Low n i' (os i') w w₁ := by
  have hC := G.hC; have hW := G.hW
  have hb0 : w₁.heap[C]? = w.heap[C]? := h.block C (by omega) (fun hm => by have := (S.ge0 C hm).1; omega) G.hCW
  refine ⟨⟨fun b hb h1 h2 => h.block b (by omega) (fun hm => by have := (S.ge0 b hm).1; omega) h1, fun b hb => ?_, h.live⟩, pay_block hb0, cell_of_block hb0 _, cell_of_block hb0 _⟩
  have := S.ge i' b hb
  exact h.block b (by omega) (S.dis0 _ _ hb) (by omega)
end

/-! ### a worker's situation -/
section
variable [Payload] (P : Program) (ty : TypeId) (Wg C Low n : Nat)
def NoP : Nat → Loc → Prop := fun _ _ => False
def LibW (i : Nat) (v : Value) (g : Goroutine) (w : World) : Prop :=
  ∃ m, Goes P false (RW ty Wg C (2 * n) 0 (2 * i + 1 - 1)) (DWs Wg NoP NoP C (2 * n) (2 * i + 1)) (AtR0 P ty Wg C (2 * n) 0 (2 * i + 1) v) m g w
def AtLib (i : Nat) (v : Value) (_ : List Nat) (g : Goroutine) (w : World) : Prop :=
  g.status = .running ∧ (∃ z, Has C (2 * i + 1) (.int .i64 z) w) ∧ ∃ g', stepG P false g w = .go g' w #[] ∧ LibW P ty Wg C n i v g' w
def Work (i : Nat) (v : Value) (e : Nat) (o : List Nat) (g : Goroutine) (w : World) : Prop :=
  ∃ m, Ph P false (RK ty Wg C Low n i) (XK Wg C Low n i) (AtLib P ty Wg C n i v) e o m g w
inductive WS (i : Nat) (v : Value) : Nat → Nat → Nat → Nat → List Nat → Goroutine → World → Prop
  | work {e m : Nat} {o : List Nat} {g : Goroutine} {w : World} : Ph P false (RK ty Wg C Low n i) (XK Wg C Low n i) (AtLib P ty Wg C n i v) e o m g w → WS i v (e + 1) 7 m 0 o g w
  | lib {s m d : Nat} {o : List Nat} {g : Goroutine} {w : World} : WSit P ty Wg C (2 * n) NoP NoP 0 (2 * i + 1) v s m d g w → WS i v 0 s m d o g w
end

section
variable [Payload] {P : Program} {ty : TypeId} {Wg C Low n i : Nat} {v : Value} {E s m d : Nat} {o : List Nat} {g : Goroutine} {w w₁ : World}
theorem WS.rely (h : WS P ty Wg C Low n i v E s m d o g w) (hr : RK ty Wg C Low n i o w w₁) : WS P ty Wg C Low n i v E s m d o g w₁ := by
  cases h with
  | work h => exact .work (Ph.rely (fun o a b c (h1 : RK ty Wg C Low n i o a b) (h2 : RK ty Wg C Low n i o b c) => h1.trans h2) h hr)
  | lib h => exact .lib (h.rely hr.lib)
theorem WS.running_of (h : WS P ty Wg C Low n i v E s m d o g w) (hs : s ≠ 1) : g.status = .running := by
  cases h with
  | work h => exact h.running (fun _ w => RK.refl w) (fun _ _ _ x => x.1)
  | lib h => exact WSit.running_of h hs
theorem WS.status (h : WS P ty Wg C Low n i v E s m d o g w) : g.status = .running ∨ g.status = .finished := by
  cases h with
  | work h => exact .inl (h.running (fun _ w => RK.refl w) (fun _ _ _ x => x.1))
  | lib h => exact WSit.status h
theorem WS.woken (h : WS P ty Wg C Low n i v E s m d o g w) (a a' : Goroutine) (w' : World) : woken P a a' w' g = g := by
  unfold Go.Conc.woken
  split
  · exact again_running _ h.status
  · rfl
theorem WS.quits (h : WS P ty Wg C Low n i v E s m d o g w) (hs : s = 1) : QuitsD P m d g := by
  cases h with
  | work h => exact absurd hs (by decide)
  | lib h => exact WSit.quits h hs
end

/-! ### the starter's situation -/
section
variable [Payload] (P : Program) (ty : TypeId) (Wg C Low n : Nat) (val : Nat → Value) (AnchW : List Nat → Goroutine → World → Prop) (End : Goroutine → World → Prop)
def PX (Stop : List Nat → Goroutine → World → Prop) (o : List Nat) (g : Goroutine) (w : World) : Prop := ∃ e m, Ph P true (RA ty Wg C Low) (XS Wg C Low) Stop e o m g w
def SAcq (_ : List Nat) (g : Goroutine) (w : World) : Prop :=
  g.status = .running ∧ ∃ g', stepG P true g w = .go g' w #[mk (.acquire (stA Wg))] ∧ End g' w
def SKe (o : List Nat) (g : Goroutine) (w : World) : Prop :=
  g.status = .running ∧ ∃ g', stepG P true g w = .go g' w #[mk .enable] ∧ PX P ty Wg C Low (SAcq P Wg End) o g' w
def SW4 (o : List Nat) (g : Goroutine) (w : World) : Prop :=
  g.status = .running ∧ (WgAt ty Wg w 0 0 → ∃ g', stepG P true g w = .go g' w #[rd (stA Wg)] ∧ PX P ty Wg C Low (SKe P ty Wg C Low End) o g' w)
def SW3 (o : List Nat) (g : Goroutine) (w : World) : Prop :=
  g.status = .running ∧ g.offers = none ∧
    ((∃ st, WgAt ty Wg w st 0) → stepG P true g w = .go { g with status := .blocked } w #[]) ∧
    (WgAt ty Wg w 0 1 → ∃ g', stepG P true g w = .go g' (w.setCell (smA Wg) (.int .u32 0)) (semEvents (smA Wg)) ∧ PX P ty Wg C Low (SW4 P ty Wg C Low End) o g' (w.setCell (smA Wg) (.int .u32 0)))
def SW2 (vs : Nat) (o : List Nat) (g : Goroutine) (w : World) : Prop :=
  g.status = .running ∧ ∀ v : Nat, v ≤ n → WgAt ty Wg w (v * KK) 0 →
    (v = vs → ∃ g', stepG P true g w = .go g' (w.setCell (stA Wg) (.int .u64 (v * KK + 1))) #[rd (stA Wg), wr (stA Wg)] ∧ PX P ty Wg C Low (SW3 P ty Wg C Low End) o g' (w.setCell (stA Wg) (.int .u64 (v * KK + 1)))) ∧
    (v ≠ vs → ∃ g', stepG P true g w = .go g' w #[rd (stA Wg)] ∧ PX P ty Wg C Low AnchW o g' w)
def SW1 (o : List Nat) (g : Goroutine) (w : World) : Prop :=
  g.status = .running ∧ ∀ v : Nat, v ≤ n → WgAt ty Wg w (v * KK) 0 → ∃ g', stepG P true g w = .go g' w #[rd (stA Wg)] ∧
    (v = 0 → PX P ty Wg C Low (SKe P ty Wg C Low End) o g' w) ∧ (v ≠ 0 → PX P ty Wg C Low (SW2 P ty Wg C Low n AnchW End v) o g' w)
def SKd (o : List Nat) (g : Goroutine) (w : World) : Prop :=
  g.status = .running ∧ ∃ g', stepG P true g w = .go g' w #[mk .disable] ∧ PX P ty Wg C Low AnchW o g' w
def SGo (j : Nat) (Next : List Nat → Goroutine → World → Prop) (o : List Nat) (g : Goroutine) (w : World) : Prop :=
  g.status = .running ∧ ∃ g' child, stepG P true g w = .spawn g' child w #[] ∧ child.status = .running ∧ (PayAt C (2 * n) w → ∃ e, Work P ty Wg C Low n j (val j) e o child w) ∧ Next [] g' w
def SKeS (j : Nat) (Next : List Nat → Goroutine → World → Prop) (o : List Nat) (g : Goroutine) (w : World) : Prop :=
  g.status = .running ∧ ∃ g', stepG P true g w = .go g' w #[mk .enable] ∧ PX P ty Wg C Low (SGo P ty Wg C Low n val j Next) o g' w
def SA1 (j : Nat) (Next : List Nat → Goroutine → World → Prop) (o : List Nat) (g : Goroutine) (w : World) : Prop :=
  g.status = .running ∧ ∀ v : Nat, v < n → WgAt ty Wg w (v * KK) 0 →
    ∃ g', stepG P true g w = .go g' (w.setCell (stA Wg) (.int .u64 ((v + 1) * KK))) #[rd (stA Wg), wr (stA Wg)] ∧
      PX P ty Wg C Low (SKeS P ty Wg C Low n val j Next) o g' (w.setCell (stA Wg) (.int .u64 ((v + 1) * KK)))
def SKdS (j : Nat) (Next : List Nat → Goroutine → World → Prop) (o : List Nat) (g : Goroutine) (w : World) : Prop :=
  g.status = .running ∧ ∃ g', stepG P true g w = .go g' w #[mk .disable] ∧ PX P ty Wg C Low (SA1 P ty Wg C Low n val j Next) o g' w
def Spawn : Nat → List Nat → Goroutine → World → Prop
  | 0, o, g, w => PX P ty Wg C Low (SKd P ty Wg C Low AnchW) o g w
  | r + 1, o, g, w => PX P ty Wg C Low (SKdS P ty Wg C Low n val (n - (r + 1)) (Spawn r)) o g w

inductive CS : CTag → Nat → Nat → Nat → Nat → List Nat → Goroutine → World → Prop
  | skd {r e m : Nat} {o : List Nat} {g : Goroutine} {w : World} : r < n → (Ph P true (RA ty Wg C Low) (XS Wg C Low)) (SKdS P ty Wg C Low n val (n - (r + 1)) (Spawn P ty Wg C Low n val AnchW r)) e o m g w → CS (.sp r 5) (n - (r + 1)) e m 0 o g w
  | sa1 {r e m : Nat} {o : List Nat} {g : Goroutine} {w : World} : r < n → (Ph P true (RA ty Wg C Low) (XS Wg C Low)) (SA1 P ty Wg C Low n val (n - (r + 1)) (Spawn P ty Wg C Low n val AnchW r)) e o m g w → CS (.sp r 4) (n - (r + 1)) e m 1 o g w
  | ske {r e m : Nat} {o : List Nat} {g : Goroutine} {w : World} : r < n → (Ph P true (RA ty Wg C Low) (XS Wg C Low)) (SKeS P ty Wg C Low n val (n - (r + 1)) (Spawn P ty Wg C Low n val AnchW r)) e o m g w → CS (.sp r 3) (n - (r + 1)) e m 1 o g w
  | sgo {r e m : Nat} {o : List Nat} {g : Goroutine} {w : World} : r < n → (Ph P true (RA ty Wg C Low) (XS Wg C Low)) (SGo P ty Wg C Low n val (n - (r + 1)) (Spawn P ty Wg C Low n val AnchW r)) e o m g w → CS (.sp r 2) (n - (r + 1)) e m 0 o g w
  | kd {e m : Nat} {o : List Nat} {g : Goroutine} {w : World} : (Ph P true (RA ty Wg C Low) (XS Wg C Low)) (SKd P ty Wg C Low AnchW) e o m g w → CS .kd n e m 0 o g w
  | anch {e m : Nat} {o : List Nat} {g : Goroutine} {w : World} : (Ph P true (RA ty Wg C Low) (XS Wg C Low)) AnchW e o m g w → CS .anch n e m 1 o g w
  | w1 {e m : Nat} {o : List Nat} {g : Goroutine} {w : World} : (Ph P true (RA ty Wg C Low) (XS Wg C Low)) (SW1 P ty Wg C Low n AnchW End) e o m g w → CS .w1 n e m 1 o g w
  | w2 {vs e m : Nat} {o : List Nat} {g : Goroutine} {w : World} : (Ph P true (RA ty Wg C Low) (XS Wg C Low)) (SW2 P ty Wg C Low n AnchW End vs) e o m g w → CS (.w2 vs) n e m 1 o g w
  | w3 {e m : Nat} {o : List Nat} {g : Goroutine} {w : World} : (Ph P true (RA ty Wg C Low) (XS Wg C Low)) (SW3 P ty Wg C Low End) e o m g w → CS .w3 n e (m + 1) 1 o g w
  | blk {o : List Nat} {g : Goroutine} {w : World} : (∀ w₁, RA ty Wg C Low o w w₁ → SW3 P ty Wg C Low End o g w₁) → CS .blk n 0 0 1 o { g with status := .blocked } w
  | w4 {e m : Nat} {o : List Nat} {g : Goroutine} {w : World} : (Ph P true (RA ty Wg C Low) (XS Wg C Low)) (SW4 P ty Wg C Low End) e o m g w → CS .w4 n e m 1 o g w
  | ke {e m : Nat} {o : List Nat} {g : Goroutine} {w : World} : (Ph P true (RA ty Wg C Low) (XS Wg C Low)) (SKe P ty Wg C Low End) e o m g w → CS .ke n e m 1 o g w
  | acq {e m : Nat} {o : List Nat} {g : Goroutine} {w : World} : (Ph P true (RA ty Wg C Low) (XS Wg C Low)) (SAcq P Wg End) e o m g w → CS .acq n e m 0 o g w
end

section
variable [Payload] {P : Program} {ty : TypeId} {Wg C Low n : Nat} {val : Nat → Value} {AnchW : List Nat → Goroutine → World → Prop} {End : Goroutine → World → Prop}
  {tag : CTag} {j e f d : Nat} {o : List Nat} {a : Goroutine} {w w' : World}

theorem CS.rely (h : CS P ty Wg C Low n val AnchW End tag j e f d o a w) (hr : RA ty Wg C Low o w w') : CS P ty Wg C Low n val AnchW End tag j e f d o a w' := by
  have tr : ∀ (o : List Nat) (x y z : World), RA ty Wg C Low o x y → RA ty Wg C Low o y z → RA ty Wg C Low o x z := fun _ _ _ _ => RA.trans
  cases h with
  | skd hn h => exact .skd hn (h.rely tr hr)
  | sa1 hn h => exact .sa1 hn (h.rely tr hr)
  | ske hn h => exact .ske hn (h.rely tr hr)
  | sgo hn h => exact .sgo hn (h.rely tr hr)
  | kd h => exact .kd (h.rely tr hr)
  | anch h => exact .anch (h.rely tr hr)
  | w1 h => exact .w1 (h.rely tr hr)
  | w2 h => exact .w2 (h.rely tr hr)
  | w3 h => exact .w3 (h.rely tr hr)
  | blk h => exact .blk fun w₂ h₂ => h w₂ (hr.trans h₂)
  | w4 h => exact .w4 (h.rely tr hr)
  | ke h => exact .ke (h.rely tr hr)
  | acq h => exact .acq (h.rely tr hr)

theorem CS.status (hAr : ∀ o g w, AnchW o g w → g.status = .running) (h : CS P ty Wg C Low n val AnchW End tag j e f d o a w) : (a.status = .running ∧ tag ≠ .blk) ∨ (a.status = .blocked ∧ tag = .blk) := by
  have rf : ∀ (o : List Nat) (w : World), RA ty Wg C Low o w w := fun _ w => RA.refl w
  cases h with
  | skd hn h => exact .inl ⟨h.running rf (fun _ _ _ x => x.1), by simp⟩
  | sa1 hn h => exact .inl ⟨h.running rf (fun _ _ _ x => x.1), by simp⟩
  | ske hn h => exact .inl ⟨h.running rf (fun _ _ _ x => x.1), by simp⟩
  | sgo hn h => exact .inl ⟨h.running rf (fun _ _ _ x => x.1), by simp⟩
  | kd h => exact .inl ⟨h.running rf (fun _ _ _ x => x.1), by simp⟩
  | anch h => exact .inl ⟨h.running rf hAr, by simp⟩
  | w1 h => exact .inl ⟨h.running rf (fun _ _ _ x => x.1), by simp⟩
  | w2 h => exact .inl ⟨h.running rf (fun _ _ _ x => x.1), by simp⟩
  | w3 h => exact .inl ⟨h.running rf (fun _ _ _ x => x.1), by simp⟩
  | blk h => exact .inr ⟨rfl, rfl⟩
  | w4 h => exact .inl ⟨h.running rf (fun _ _ _ x => x.1), by simp⟩
  | ke h => exact .inl ⟨h.running rf (fun _ _ _ x => x.1), by simp⟩
  | acq h => exact .inl ⟨h.running rf (fun _ _ _ x => x.1), by simp⟩

theorem CS.bound (h : CS P ty Wg C Low n val AnchW End tag j e f d o a w) : j + pend tag ≤ n := by
  cases h <;> simp only [pend] <;> (try simp) <;> omega

theorem CS.wokenBy (hAr : ∀ o g w, AnchW o g w → g.status = .running) (h : CS P ty Wg C Low n val AnchW End tag j e f d o a w) (hr : RA ty Wg C Low o w w') (g g' : Goroutine) :
    ∃ tag' f', CS P ty Wg C Low n val AnchW End tag' j e f' d o (woken P g g' w' a) w' ∧ f' ≤ f + 1 ∧ (tag' = tag ∨ (tag = .blk ∧ tag' = .w3)) ∧ (mayWake P g = true → g'.status = .running → tag' ≠ .blk) := by
  have h' := h.rely hr
  unfold Go.Conc.woken
  split
  · rcases h'.status hAr with ⟨hs, hne⟩ | ⟨_, rfl⟩
    · exact ⟨tag, f, by rw [again_running _ (.inl hs)]; exact h', by omega, .inl rfl, fun _ _ => hne⟩
    · cases h' with
      | blk hb =>
        rename_i g0
        have h3 := hb w' (.refl w')
        exact ⟨.w3, 0 + 1, by rw [Go.ConcR.again_blocked h3.1 h3.2.1]; exact .w3 (e := 0) (Goes.stop hb), by omega, .inr ⟨rfl, rfl⟩, fun _ _ => by simp⟩
  · rename_i hc
    exact ⟨tag, f, h', by omega, .inl rfl, fun h1 h2 => absurd (by simp [h1, h2]) hc⟩
end

/-! ### what holds at every moment -/
structure Base (Wg C Low : Nat) (w₀ w : World) : Prop where
  tape : w.tape = w₀.tape
  os : w.os = w₀.os
  output : w.output = w₀.output
  low : ∀ b, b < Low → b ≠ Wg → b ≠ C → w.heap[b]? = w₀.heap[b]?
section
variable [Payload] (P : Program) (ty : TypeId) (Wg C Low n : Nat) (val : Nat → Value) (w₀ : World)
structure Com (j : Nat) (gs : Array Goroutine) (w : World) (t : Trace) (D : Nat → WD) (E : Nat → Nat) (os : Nat → List Nat) (s : List Nat) (d0 : Nat) : Prop where
  size : gs.size = j + 1
  wk : ∀ i, i < j → ∃ g, gs[i + 1]? = some g ∧ WS P ty Wg C Low n i (val i) (E i) (D i).stage (D i).fuel (D i).deaf (os i) g w
  none : ∀ i, j ≤ i → os i = []
  sep : Sep Low os s w.heap.size
  hL : Low ≤ w.heap.size
  ct : CT (ShN Wg) (OwnP C os) (RdP Wg C Low) t j
  tlow : ∀ op ∈ t, ∀ x, op.act.touch? = some x → x.loc.low w.heap.size
  atom : ∀ op ∈ t, op.g ≠ 0 → ∀ x, op.act.touch? = some x → x.kind = .atomic → ShN Wg x.loc
  norel : NoRelease (stA Wg) t
  deaf0 : Deaf t 0 = d0
  deafW : ∀ i, i < j → Deaf t (i + 1) = (D i).deaf
  rel : ∀ i, i < j → (D i).stage ≤ 6 → ∃ r, RelBy (stA Wg) t (i + 1) r
  has0 : ∀ i, i < j → (D i).stage ≤ 6 → Has C (2 * i) (val i) w
  has1 : ∀ i, i < j → E i = 0 → ∃ z, Has C (2 * i + 1) (.int .i64 z) w
  pay : PayAt C (2 * n) w
  base : Base Wg C Low w₀ w
end

theorem upd_self {α : Type} (f : Nat → α) (i : Nat) : upd f i (f i) = f := by
  funext a; unfold upd; split
  · rename_i h; rw [h]
  · rfl
theorem ownP_low {C Low : Nat} (hC : C < Low) {o : Nat → List Nat} {s : List Nat} {sz : Nat} (S : Sep Low o s sz) (hL : Low ≤ sz) {k : Nat} {l : Loc} (h : OwnP C o k l) : l.low sz := by
  obtain ⟨i, a, rfl, rfl, h | ⟨h, _⟩⟩ := h
  · exact (S.ge i _ h).2
  · show a.block < sz; omega
theorem rdP_low {Wg C Low : Nat} {sz : Nat} (hL : Low ≤ sz) {k : Nat} {l : Loc} (h : RdP Wg C Low k l) : l.low sz := by
  obtain ⟨a, rfl, h, _⟩ := h
  show a.block < sz; omega
theorem shN_low {Wg : Nat} {sz : Nat} (hL : Wg < sz) {l : Loc} (h : ShN Wg l) : l.low sz := by
  obtain ⟨a, rfl, h⟩ := h
  show a.block < sz; omega

section
variable [Payload] {P : Program} {ty : TypeId} {Wg C Low n : Nat} {val : Nat → Value} {w₀ : World} {j : Nat} {gs : Array Goroutine} {w w' : World} {t : Trace} {D : Nat → WD} {E : Nat → Nat} {os : Nat → List Nat} {s : List Nat} {d0 : Nat}

theorem Com.at (h : Com P ty Wg C Low n val w₀ j gs w t D E os s d0) (d : Nat) : Com P ty Wg C Low n val w₀ j gs (w.at d) t D E os s d0 :=
  ⟨h.size, fun i hi => let ⟨g, hg, hs⟩ := h.wk i hi; ⟨g, hg, hs.rely (RK.at w d)⟩, h.none, h.sep, h.hL, h.ct, h.tlow, h.atom, h.norel, h.deaf0, h.deafW, h.rel, h.has0, h.has1, h.pay, ⟨h.base.tape, h.base.os, h.base.output, h.base.low⟩⟩

theorem mem_ofE {g : Nat} {fn : FuncId} {pos : String} {es : Array Event} {op : MemOp} (h : op ∈ MemOp.ofEvents g fn pos es) : ∃ e ∈ es, op = { g, fn, pos, act := .ofEvent e } := Go.Conc.mem_ofEvents h

/-- A STEP OF WORKER NUMBER i (goroutine i + 1). -/
theorem Com.stepW (G : Plan Wg C Low) (h : Com P ty Wg C Low n val w₀ j gs w t D E os s d0) {i : Nat} (hi : i < j) {g g' : Goroutine} {fn : FuncId} {pos : String} {es : Array Event} {E' s' m' dd' : Nat} {o' : List Nat}
    (heff : WEff ty Wg C n i (os i) w w') (hsep : Sep Low (upd os i o') s w'.heap.size) (hown : ∀ b, b ∈ os i → b ∈ o') (hnew : ∀ b, b ∈ o' → b ∈ os i ∨ w.heap.size ≤ b)
    (hs' : WS P ty Wg C Low n i (val i) E' s' m' dd' o' g' w')
    (hok : ∀ op ∈ MemOp.ofEvents (i + 1) fn pos es, OkW (ShN Wg) (OwnP C (upd os i o')) (RdP Wg C Low) (i + 1) op)
    (hat : ∀ e ∈ es, ∀ x, (MemAct.ofEvent e).touch? = some x → x.kind = .atomic → ShN Wg x.loc)
    (hnr : ∀ e ∈ es, e.loc ≠ .mark (.release (stA Wg))) (hdeaf : deafBehind (D i).deaf es = dd')
    (hrel : s' ≤ 6 → ∃ r, RelBy (stA Wg) (t ++ MemOp.ofEvents (i + 1) fn pos es) (i + 1) r)
    (hhas0 : s' ≤ 6 → Has C (2 * i) (val i) w') (hhas1 : E' = 0 → ∃ z, Has C (2 * i + 1) (.int .i64 z) w') :
    Com P ty Wg C Low n val w₀ j ((gs.map (woken P g g' w')).setIfInBounds (i + 1) g') w' (t ++ MemOp.ofEvents (i + 1) fn pos es) (upd D i ⟨s', m', dd'⟩) (upd E i E') (upd os i o') s d0 := by
  have hrk : ∀ i', i' < j → i' ≠ i → RK ty Wg C Low n i' (os i') w w' := fun i' _ e => heff.rk G h.sep h.hL e
  have hL' : Low ≤ w'.heap.size := Nat.le_trans h.hL heff.size
  have A := hsep.apart G
  have hW := G.hW
  refine ⟨by simp [h.size], fun i' hi' => ?_, fun i' hi' => ?_, hsep, hL', ?_, fun op hop x hx => ?_, fun op hop hne x hx hk => ?_, h.norel.app (norel_of hnr), by rw [Deaf_other t (by omega) _ g_of_ofEvents, h.deaf0], fun i' hi' => ?_, fun i' hi' hst => ?_, fun i' hi' hst => ?_, fun i' hi' hst => ?_, heff.pay h.pay, ?_⟩
  · by_cases e : i' = i
    · subst e
      exact ⟨g', get_map_set_same _ _ _ (by rw [h.size]; omega), by rw [upd_same, upd_same, upd_same]; exact hs'⟩
    · obtain ⟨x, hx, hsx⟩ := h.wk i' hi'
      refine ⟨x, by rw [get_map_set _ _ _ _ (by omega), hx, Option.map_some, hsx.woken], ?_⟩
      rw [upd_ne D _ e, upd_ne E _ e, upd_ne os _ e]
      exact hsx.rely (hrk i' hi' e)
  · rw [upd_ne os _ (by omega)]; exact h.none i' hi'
  · refine CT.appW A (CT.grow h.ct (fun k _ _ l => ?_) (fun k _ _ l => ?_)) (by omega) (by omega) hok
    · rintro ⟨i', a, rfl, rfl, ha⟩
      refine ⟨i', a, rfl, rfl, ha.imp_left fun hm => ?_⟩
      by_cases e : i' = i
      · subst e; rw [upd_same]; exact hown _ hm
      · rw [upd_ne os _ e]; exact hm
    · rintro ⟨i', a, rfl, rfl, ha⟩
      by_cases e : i' = i
      · subst e; rw [upd_same] at ha
        rcases ha with hm | hm
        · rcases hnew _ hm with hm | hm
          · exact .inl ⟨i', a, rfl, rfl, .inl hm⟩
          · refine .inr fun p b hb e => ?_
            obtain ⟨x, hx, hxb⟩ := touch_of hb
            have := h.tlow x (Array.mem_of_getElem? hx) b hxb
            rw [e] at this
            exact absurd this (by show ¬ a.block < w.heap.size; omega)
        · exact .inl ⟨i', a, rfl, rfl, .inr hm⟩
      · rw [upd_ne os _ e] at ha; exact .inl ⟨i', a, rfl, rfl, ha⟩
  · rcases Array.mem_append.1 hop with hop | hop
    · exact Loc.low_mono heff.size (h.tlow op hop x hx)
    · rcases (hok op hop).2 x hx with ⟨hs, _⟩ | ho | ⟨hr, _⟩
      · exact shN_low (by omega) hs
      · exact ownP_low G.hC hsep hL' ho
      · exact rdP_low hL' hr
  · rcases Array.mem_append.1 hop with hop | hop
    · exact h.atom op hop hne x hx hk
    · obtain ⟨e, he, rfl⟩ := mem_ofE hop
      exact hat e he x hx hk
  · by_cases e : i' = i
    · subst e; rw [Deaf_own, h.deafW i' hi', upd_same]; exact hdeaf
    · rw [Deaf_other t (by omega) _ g_of_ofEvents, h.deafW i' hi', upd_ne D _ e]
  · by_cases e : i' = i
    · subst e; rw [upd_same] at hst; exact hrel hst
    · rw [upd_ne D _ e] at hst
      obtain ⟨r, hr⟩ := h.rel i' hi' hst
      exact ⟨r, hr.appOther g_of_ofEvents (by omega)⟩
  · by_cases e : i' = i
    · subst e; rw [upd_same] at hst; exact hhas0 hst
    · rw [upd_ne D _ e] at hst
      exact (hrk i' hi' e).c0.trans (h.has0 i' hi' hst)
  · by_cases e : i' = i
    · subst e; rw [upd_same] at hst; exact hhas1 hst
    · rw [upd_ne E _ e] at hst
      obtain ⟨z, hz⟩ := h.has1 i' hi' hst
      exact ⟨z, (hrk i' hi' e).c1.trans hz⟩
  · refine ⟨heff.tape.trans h.base.tape, heff.os.trans h.base.os, heff.output.trans h.base.output, fun b hb h1 h2 => ?_⟩
    have hLw := h.hL
    exact (heff.block b (by omega) (fun hm => by have := (h.sep.ge i b hm).1; omega) h2 h1).trans (h.base.low b hb h1 h2)

/-- A STEP OF THE STARTER's. -/
theorem Com.step0 (G : Plan Wg C Low) (h : Com P ty Wg C Low n val w₀ j gs w t D E os s d0) {a a' : Goroutine} {fn : FuncId} {pos : String} {es : Array Event} {s' : List Nat}
    (heff : SEff ty Wg s w w') (hsep : Sep Low os s' w'.heap.size)
    (hok : ∀ op ∈ MemOp.ofEvents 0 fn pos es, Ok0 (ShN Wg) (OwnP C os) (RdP Wg C Low) j op) (hlow : ∀ e ∈ es, ∀ x, (MemAct.ofEvent e).touch? = some x → x.loc.low w'.heap.size)
    (hnr : ∀ e ∈ es, e.loc ≠ .mark (.release (stA Wg))) :
    Com P ty Wg C Low n val w₀ j ((gs.map (woken P a a' w')).setIfInBounds 0 a') w' (t ++ MemOp.ofEvents 0 fn pos es) D E os s' (deafBehind d0 es) := by
  have hrk : ∀ i', RK ty Wg C Low n i' (os i') w w' := fun i' => heff.rk G h.sep h.hL i'
  have hL' : Low ≤ w'.heap.size := Nat.le_trans h.hL heff.size
  have A := hsep.apart G
  refine ⟨by simp [h.size], fun i hi => ?_, h.none, hsep, hL', h.ct.app0 A hok, fun op hop x hx => ?_, fun op hop hne x hx hk => ?_, h.norel.app (norel_of hnr), by rw [Deaf_own, h.deaf0], fun i hi => by rw [Deaf_other t (by omega) _ g_of_ofEvents, h.deafW i hi], fun i hi hst => ?_,
    fun i hi hst => (hrk i).c0.trans (h.has0 i hi hst), fun i hi hst => ?_, (hrk 0).pay h.pay, ?_⟩
  · obtain ⟨x, hx, hsx⟩ := h.wk i hi
    exact ⟨x, by rw [get_map_set _ _ _ _ (by omega), hx, Option.map_some, hsx.woken], hsx.rely (hrk i)⟩
  · rcases Array.mem_append.1 hop with hop | hop
    · exact Loc.low_mono heff.size (h.tlow op hop x hx)
    · obtain ⟨e, he, rfl⟩ := mem_ofE hop
      exact hlow e he x hx
  · rcases Array.mem_append.1 hop with hop | hop
    · exact h.atom op hop hne x hx hk
    · obtain ⟨e, he, rfl⟩ := mem_ofE hop
      exact absurd rfl hne
  · obtain ⟨r, hr⟩ := h.rel i hi hst
    exact ⟨r, hr.appOther g_of_ofEvents (by omega)⟩
  · obtain ⟨z, hz⟩ := h.has1 i hi hst
    exact ⟨z, (hrk i).c1.trans hz⟩
  · exact ⟨heff.tape.trans h.base.tape, heff.os.trans h.base.os, heff.output.trans h.base.output, fun b hb h1 h2 => ((hrk 0).ra.low b hb h1 h2).trans (h.base.low b hb h1 h2)⟩

/-- THE go STATEMENT. -/
theorem Com.spawn (G : Plan Wg C Low) (h : Com P ty Wg C Low n val w₀ j gs w t D E os s 0) {a' child : Goroutine} {x y : MemOp} {e m : Nat} (hx : x.g = 0 ∧ x.act = .go (j + 1)) (hy : y.g = j + 1 ∧ y.act = .start)
    (hc : Ph P false (RK ty Wg C Low n j) (XK Wg C Low n j) (AtLib P ty Wg C n j (val j)) e s m child w) :
    Com P ty Wg C Low n val w₀ (j + 1) ((gs.setIfInBounds 0 a').push child) w (t ++ #[x, y]) (upd D j ⟨7, m, 0⟩) (upd E j (e + 1)) (upd os j s) [] 0 := by
  have hm : ∀ op ∈ #[x, y], op = x ∨ op = y := by intro op hop; simpa using hop
  have hst : ∀ op ∈ #[x, y], op.act ≠ .mark .disable ∧ op.act ≠ .mark .enable := by
    intro op hop
    rcases hm op hop with rfl | rfl
    · rw [hx.2]; exact ⟨by simp, by simp⟩
    · rw [hy.2]; exact ⟨by simp, by simp⟩
  have hnt : ∀ op ∈ #[x, y], ∀ b, op.act.touch? = some b → False := by
    intro op hop b hb
    rcases hm op hop with rfl | rfl
    · rw [hx.2] at hb; cases hb
    · rw [hy.2] at hb; cases hb
  have S := h.sep.give (h.none j (Nat.le_refl j))
  refine ⟨by simp [h.size], fun i hi => ?_, fun i hi => ?_, S, h.hL, ?_, fun op hop z hz => ?_, fun op hop hne z hz hk => ?_, h.norel.app fun op hop => ?_, by rw [Deaf_still t 0 _ hst, h.deaf0], fun i hi => ?_, fun i hi hs => ?_, fun i hi hs => ?_, fun i hi hs => ?_, h.pay, h.base⟩
  · rcases Nat.lt_or_ge i j with hlt | hge
    · obtain ⟨g, hg, hsg⟩ := h.wk i hlt
      refine ⟨g, ?_, by rw [upd_ne D _ (by omega), upd_ne E _ (by omega), upd_ne os _ (by omega)]; exact hsg⟩
      rw [Array.getElem?_push_lt (by simp [h.size]; omega), ← Array.getElem?_eq_getElem, Array.getElem?_setIfInBounds_ne (by omega)]
      exact hg
    · obtain rfl : i = j := by omega
      refine ⟨child, ?_, by rw [upd_same, upd_same, upd_same]; exact .work hc⟩
      rw [show i + 1 = (gs.setIfInBounds 0 a').size by simp [h.size], Array.getElem?_push_size]
  · rw [upd_ne os _ (by omega)]; exact h.none i (by omega)
  · refine CT.fork (S.apart G) (CT.grow h.ct (fun k k1 kj l => ?_) (fun k k1 kj l => ?_)) hx hy h.deaf0
    · rintro ⟨i', a, rfl, rfl, ha⟩
      refine ⟨i', a, rfl, rfl, by rw [upd_ne os _ (by omega)]; exact ha⟩
    · rintro ⟨i', a, rfl, rfl, ha⟩
      rw [upd_ne os _ (by omega)] at ha
      exact .inl ⟨i', a, rfl, rfl, ha⟩
  · rcases Array.mem_append.1 hop with hop | hop
    · exact h.tlow op hop z hz
    · exact (hnt op hop z hz).elim
  · rcases Array.mem_append.1 hop with hop | hop
    · exact h.atom op hop hne z hz hk
    · exact (hnt op hop z hz).elim
  · rcases hm op hop with rfl | rfl
    · rw [hx.2]; simp
    · rw [hy.2]; simp
  · rw [Deaf_still t _ _ hst]
    rcases Nat.lt_or_ge i j with hlt | hge
    · rw [h.deafW i hlt, upd_ne D _ (by omega)]
    · obtain rfl : i = j := by omega
      rw [upd_same]
      exact Deaf_absent fun a op ha e => by have := h.ct.gs a op ha; omega
  · rcases Nat.lt_or_ge i j with hlt | hge
    · rw [upd_ne D _ (by omega)] at hs
      obtain ⟨r, hr⟩ := h.rel i hlt hs
      refine ⟨r, hr.appNot fun op hop => ?_⟩
      rcases hm op hop with rfl | rfl
      · rw [hx.1]; omega
      · rw [hy.1]; omega
    · obtain rfl : i = j := by omega
      rw [upd_same] at hs
      simp at hs
  · rcases Nat.lt_or_ge i j with hlt | hge
    · rw [upd_ne D _ (by omega)] at hs
      exact h.has0 i hlt hs
    · obtain rfl : i = j := by omega
      rw [upd_same] at hs
      simp at hs
  · rcases Nat.lt_or_ge i j with hlt | hge
    · rw [upd_ne E _ (by omega)] at hs
      exact h.has1 i hlt hs
    · obtain rfl : i = j := by omega
      rw [upd_same] at hs
      omega
end


/-! ### the invariant -/
def Lt3 : Nat × Nat × Nat → Nat × Nat × Nat → Prop := Prod.Lex (· < ·) (Prod.Lex (· < ·) (· < ·))
theorem lt3_wf : WellFounded Lt3 := (Prod.lex Nat.lt_wfRel (Prod.lex Nat.lt_wfRel Nat.lt_wfRel)).wf
theorem lt3_trans {a b c : Nat × Nat × Nat} (h : Lt3 a b) (h' : Lt3 b c) : Lt3 a c := by
  obtain ⟨a1, a2, a3⟩ := a
  obtain ⟨b1, b2, b3⟩ := b
  obtain ⟨c1, c2, c3⟩ := c
  simp only [Lt3, Prod.lex_def] at *
  omega
section
variable [Payload] (P : Program) (ty : TypeId) (Wg C Low n : Nat) (val : Nat → Value) (AnchW : List Nat → Goroutine → World → Prop) (End : Goroutine → World → Prop) (w₀ : World)
def Inv (μ : Nat × Nat × Nat) (m : Machine) (t : Trace) : Prop :=
  ∃ (gs : Array Goroutine) (w : World) (sl : Option (Nat × Nat)) (j : Nat) (D : Nat → WD) (E : Nat → Nat) (os : Nat → List Nat) (s : List Nat) (tag : CTag) (e0 f0 d0 : Nat) (a : Goroutine) (st sm : Int),
    m = crowd gs w sl ∧ gs[0]? = some a ∧ CS P ty Wg C Low n val AnchW End tag j e0 f0 d0 s a w ∧ Com P ty Wg C Low n val w₀ j gs w t D E os s d0 ∧ WgAt ty Wg w st sm ∧ ConcN.Mode j D tag st sm ∧
    μ = (phi n (Vc j D) tag + Ssum j D, e0 + sumTo j E, f0 + 2 * Fsum j D)
/-- The starter has heard all. -/
def Joined (m : Machine) (t : Trace) : Prop :=
  ∃ (gs : Array Goroutine) (w : World) (sl : Option (Nat × Nat)) (a : Goroutine) (q : Nat → Nat),
    m = crowd gs w sl ∧ gs[0]? = some a ∧ End a w ∧ Leavers P t gs q ∧ (∀ B, (∀ op ∈ t, op.act.low B) → Past (ShN Wg) B t) ∧ Base Wg C Low w₀ w ∧
    (∀ i, i < n → Has C (2 * i) (val i) w ∧ ∃ z, Has C (2 * i + 1) (.int .i64 z) w) ∧ PayAt C (2 * n) w ∧ WgAt ty Wg w 0 0 ∧ Low ≤ w.heap.size
end

section
variable [Payload] {P : Program} {ty : TypeId} {Wg C Low n : Nat} {val : Nat → Value} {AnchW : List Nat → Goroutine → World → Prop} {End : Goroutine → World → Prop} {w₀ : World}
  {gs : Array Goroutine} {w w' : World} {sl : Option (Nat × Nat)} {j : Nat} {D : Nat → WD} {E : Nat → Nat} {os : Nat → List Nat} {s : List Nat} {tag : CTag} {e0 f0 d0 : Nat} {a : Goroutine} {t : Trace} {st sm : Int}

theorem workerStep (G : Plan Wg C Low) (hAr : ∀ o g w, AnchW o g w → g.status = .running)
    (ha : gs[0]? = some a) (hcs : CS P ty Wg C Low n val AnchW End tag j e0 f0 d0 s a w) (hcom : Com P ty Wg C Low n val w₀ j gs w t D E os s d0)
    {i : Nat} (hi : i < j) {g g' : Goroutine} {es : Array Event} {E' s' m' dd' : Nat} {o' : List Nat} {st' sm' : Int} (hg : gs[i + 1]? = some g) (hgo : stepG P false g w = .go g' w' es)
    (heff : WEff ty Wg C n i (os i) w w') (hsep : Sep Low (upd os i o') s w'.heap.size) (hown : ∀ b, b ∈ os i → b ∈ o') (hnew : ∀ b, b ∈ o' → b ∈ os i ∨ w.heap.size ≤ b)
    (hs' : WS P ty Wg C Low n i (val i) E' s' m' dd' o' g' w')
    (hok : ∀ op ∈ MemOp.ofEvents (i + 1) g.frame.fn g.frame.place es, OkW (ShN Wg) (OwnP C (upd os i o')) (RdP Wg C Low) (i + 1) op)
    (hat : ∀ e ∈ es, ∀ x, (MemAct.ofEvent e).touch? = some x → x.kind = .atomic → ShN Wg x.loc)
    (hnr : ∀ e ∈ es, e.loc ≠ .mark (.release (stA Wg))) (hdeaf : deafBehind (D i).deaf es = dd')
    (hrel : s' ≤ 6 → ∃ r, RelBy (stA Wg) (t ++ MemOp.ofEvents (i + 1) g.frame.fn g.frame.place es) (i + 1) r)
    (hhas0 : s' ≤ 6 → Has C (2 * i) (val i) w') (hhas1 : E' = 0 → ∃ z, Has C (2 * i + 1) (.int .i64 z) w') (hwg : WgAt ty Wg w' st' sm')
    (hmode : ∀ tag', (tag' = tag ∨ (tag = .blk ∧ tag' = .w3)) → (mayWake P g = true → g'.status = .running → tag' ≠ .blk) → ConcN.Mode j (upd D i ⟨s', m', dd'⟩) tag' st' sm')
    (hlt : (s' < (D i).stage ∧ cnt ⟨s', m', dd'⟩ ≤ cnt (D i)) ∨ (s' = (D i).stage ∧ (E' < E i ∨ (E' = E i ∧ m' + 1 = (D i).fuel)))) :
    ∃ m₁ ops μ', runT P (crowd gs w sl) (i + 1) = (.next m₁, ops) ∧ Lt3 μ' (phi n (Vc j D) tag + Ssum j D, e0 + sumTo j E, f0 + 2 * Fsum j D) ∧ Inv P ty Wg C Low n val AnchW End w₀ μ' m₁ (t ++ ops) := by
  obtain ⟨tag', f', hcs', hf', htag, hwk⟩ := hcs.wokenBy hAr (heff.ra G hcom.sep hcom.hL) g g'
  have hrun := runT_crowd_go (P := P) (sl := sl) (i := i + 1) hg (by simpa using hgo)
  have e1 := sumTo_upd D (⟨s', m', dd'⟩ : WD) cnt hi
  have e2 := sumTo_upd D (⟨s', m', dd'⟩ : WD) WD.stage hi
  have e3 := sumTo_upd D (⟨s', m', dd'⟩ : WD) WD.fuel hi
  have e4 := sumTo_upd E E' id hi
  simp only [id] at e4
  refine ⟨_, _, (phi n (Vc j (upd D i ⟨s', m', dd'⟩)) tag' + Ssum j (upd D i ⟨s', m', dd'⟩), e0 + sumTo j (upd E i E'), f' + 2 * Fsum j (upd D i ⟨s', m', dd'⟩)), hrun, ?_,
    _, w', sl, j, upd D i ⟨s', m', dd'⟩, upd E i E', upd os i o', s, tag', e0, f', d0, woken P g g' w' a, st', sm', rfl, by rw [get_map_set _ _ _ _ (by omega), ha]; rfl, hcs', hcom.stepW G hi heff hsep hown hnew hs' hok hat hnr hdeaf hrel hhas0 hhas1, hwg, hmode tag' htag hwk, rfl⟩
  rw [phi_retag n _ htag]
  simp only [Vc, Ssum, Fsum] at *
  rcases hlt with ⟨h1, h2⟩ | ⟨h1, h2⟩
  · refine Prod.Lex.left _ _ ?_
    have := phi_mono n (v' := sumTo j fun a => cnt (upd D i ⟨s', m', dd'⟩ a)) (v := sumTo j fun a => cnt (D a)) (by omega) tag
    omega
  · have ec : cnt (⟨s', m', dd'⟩ : WD) = cnt (D i) := by simp only [cnt, h1]
    have ev : (sumTo j fun a => cnt (upd D i ⟨s', m', dd'⟩ a)) = sumTo j fun a => cnt (D a) := by omega
    have es' : (sumTo j fun a => (upd D i ⟨s', m', dd'⟩ a).stage) = sumTo j fun a => (D a).stage := by omega
    rw [ev, es']
    refine Prod.Lex.right _ ?_
    rcases h2 with h2 | ⟨h2, h3⟩
    · exact Prod.Lex.left _ _ (by have : sumTo j (fun a => upd E i E' a) = sumTo j (upd E i E') := rfl; have : sumTo j (fun a => E a) = sumTo j E := rfl; omega)
    · have : sumTo j (upd E i E') = sumTo j E := by have : sumTo j (fun a => upd E i E' a) = sumTo j (upd E i E') := rfl; have : sumTo j (fun a => E a) = sumTo j E := rfl; omega
      rw [this]
      exact Prod.Lex.right _ (by omega)

theorem callerStep (G : Plan Wg C Low)
    (ha : gs[0]? = some a) (hcom : Com P ty Wg C Low n val w₀ j gs w t D E os s d0)
    {a' : Goroutine} {es : Array Event} {tag' : CTag} {e' f' : Nat} {s' : List Nat} {st' sm' : Int} (hgo : stepG P true a w = .go a' w' es)
    (heff : SEff ty Wg s w w') (hsep : Sep Low os s' w'.heap.size)
    (hok : ∀ op ∈ MemOp.ofEvents 0 a.frame.fn a.frame.place es, Ok0 (ShN Wg) (OwnP C os) (RdP Wg C Low) j op) (hlow : ∀ e ∈ es, ∀ x, (MemAct.ofEvent e).touch? = some x → x.loc.low w'.heap.size)
    (hnr : ∀ e ∈ es, e.loc ≠ .mark (.release (stA Wg)))
    (hcs' : CS P ty Wg C Low n val AnchW End tag' j e' f' (deafBehind d0 es) s' a' w') (hwg : WgAt ty Wg w' st' sm') (hmode : ConcN.Mode j D tag' st' sm')
    (hlt : phi n (Vc j D) tag' < phi n (Vc j D) tag ∨ (phi n (Vc j D) tag' = phi n (Vc j D) tag ∧ (e' < e0 ∨ (e' = e0 ∧ f' < f0)))) :
    ∃ m₁ ops μ', runT P (crowd gs w sl) 0 = (.next m₁, ops) ∧ Lt3 μ' (phi n (Vc j D) tag + Ssum j D, e0 + sumTo j E, f0 + 2 * Fsum j D) ∧ Inv P ty Wg C Low n val AnchW End w₀ μ' m₁ (t ++ ops) := by
  have hrun := runT_crowd_go (P := P) (sl := sl) (i := 0) ha (by simpa using hgo)
  refine ⟨_, _, (phi n (Vc j D) tag' + Ssum j D, e' + sumTo j E, f' + 2 * Fsum j D), hrun, ?_,
    _, w', sl, j, D, E, os, s', tag', e', f', deafBehind d0 es, a', st', sm', rfl, get_map_set_same _ _ _ (by rw [hcom.size]; omega), hcs', hcom.step0 G heff hsep hok hlow hnr, hwg, hmode, rfl⟩
  rcases hlt with h | ⟨h1, h | ⟨h2, h3⟩⟩
  · exact Prod.Lex.left _ _ (by omega)
  · rw [h1]; exact Prod.Lex.right _ (Prod.Lex.left _ _ (by omega))
  · rw [h1, h2]; exact Prod.Lex.right _ (Prod.Lex.right _ (by omega))

theorem okW_K {i : Nat} {o : List Nat} {os : Nat → List Nat} (ho : ∀ b, b ∈ o → b ∈ os i) {fn : FuncId} {pos : String} {es : Array Event} (h : ∀ e ∈ es, EvK Wg C Low i o e) : ∀ op ∈ MemOp.ofEvents (i + 1) fn pos es, OkW (ShN Wg) (OwnP C os) (RdP Wg C Low) (i + 1) op := by
  intro op hop
  obtain ⟨e, he, rfl⟩ := mem_ofE hop
  refine ⟨rfl, fun x hx => ?_⟩
  obtain ⟨a, wr, rfl, hc⟩ := h e he
  simp only [ofEvent_cell0, MemAct.touch?, Option.some.injEq] at hx
  subst hx
  rcases hc with hc | hc | ⟨rfl, h1, h2, h3⟩
  · exact .inr (.inl ⟨i, a, rfl, rfl, .inl (ho _ hc)⟩)
  · exact .inr (.inl ⟨i, a, rfl, rfl, .inr hc⟩)
  · exact .inr (.inr ⟨⟨a, rfl, h1, h2, h3⟩, rfl⟩)
theorem at_K {i : Nat} {o : List Nat} {es : Array Event} (h : ∀ e ∈ es, EvK Wg C Low i o e) : ∀ e ∈ es, ∀ x, (MemAct.ofEvent e).touch? = some x → x.kind = .atomic → ShN Wg x.loc := by
  intro e he x hx hk
  obtain ⟨a, wr, rfl, _⟩ := h e he
  simp only [ofEvent_cell0, MemAct.touch?, Option.some.injEq] at hx
  subst hx
  simp at hk
theorem at_Bk {es : Array Event} (h : ∀ e ∈ es, Bk Wg e) : ∀ e ∈ es, ∀ x, (MemAct.ofEvent e).touch? = some x → ShN Wg x.loc := by
  intro e he x hx
  rcases h e he with h1 | h1 | ⟨a, wr, rfl, ha⟩
  · rw [Go.ConcR.ofEvent_loc_mark h1] at hx; cases hx
  · rw [Go.ConcR.ofEvent_loc_mark h1] at hx; cases hx
  · simp only [Go.ConcR.ofEvent_cell, MemAct.touch?, Option.some.injEq] at hx
    subst hx
    exact ⟨a, rfl, ha⟩
theorem touch_lib {i : Nat} {es : Array Event} (h : ∀ e ∈ es, EvW Wg NoP NoP (2 * i + 1) e) : ∀ e ∈ es, ∀ x, (MemAct.ofEvent e).touch? = some x → ShN Wg x.loc ∧ x.kind ≠ .plain ∧ x.kind ≠ .said := by
  intro e he x hx
  rcases ((h e he).1 0 "").2 x hx with h1 | h1 | h1
  · exact h1
  · exact h1.elim
  · exact h1.1.elim
theorem okW_lib {i : Nat} {Own Rd : Nat → Loc → Prop} {fn : FuncId} {pos : String} {es : Array Event} (h : ∀ e ∈ es, EvW Wg NoP NoP (2 * i + 1) e) : ∀ op ∈ MemOp.ofEvents (i + 1) fn pos es, OkW (ShN Wg) Own Rd (i + 1) op := by
  intro op hop
  obtain ⟨e, he, rfl⟩ := mem_ofE hop
  exact ⟨rfl, fun x hx => .inl (touch_lib h e he x hx)⟩
end

section
variable [Payload] {P : Program} {ty : TypeId} {Wg C Low n : Nat} {val : Nat → Value} {AnchW : List Nat → Goroutine → World → Prop} {End : Goroutine → World → Prop} {w₀ : World}
  {gs : Array Goroutine} {w : World} {sl : Option (Nat × Nat)} {j : Nat} {D : Nat → WD} {E : Nat → Nat} {os : Nat → List Nat} {s : List Nat} {tag : CTag} {e0 f0 d0 : Nat} {a : Goroutine} {t : Trace} {st sm : Int}

set_option maxHeartbeats 1600000 in
theorem stepWorker (G : Plan Wg C Low) (hAr : ∀ o g w, AnchW o g w → g.status = .running) (hn : n < 2147483648)
    (ha : gs[0]? = some a) (hcs : CS P ty Wg C Low n val AnchW End tag j e0 f0 d0 s a w) (hcom : Com P ty Wg C Low n val w₀ j gs w t D E os s d0) (hwg : WgAt ty Wg w st sm) (hmode : ConcN.Mode j D tag st sm)
    {i : Nat} (hi : i < j) {g : Goroutine} (hg : gs[i + 1]? = some g) (hrun : g.status = .running) :
    ∃ m₁ ops μ', runT P (crowd gs w sl) (i + 1) = (.next m₁, ops) ∧ Lt3 μ' (phi n (Vc j D) tag + Ssum j D, e0 + sumTo j E, f0 + 2 * Fsum j D) ∧ Inv P ty Wg C Low n val AnchW End w₀ μ' m₁ (t ++ ops) := by
  obtain ⟨g₁, hg₁, hs⟩ := hcom.wk i hi
  obtain rfl : g = g₁ := by rw [hg] at hg₁; exact Option.some.inj hg₁
  have hL := hcom.hL
  have hW := G.hW
  have hsep0 : ∀ sz, w.heap.size ≤ sz → Sep Low (upd os i (os i)) s sz := fun sz h => by rw [upd_self]; exact hcom.sep.keep h
  have hdk : Deaf t (i + 1) = (D i).deaf := hcom.deafW i hi
  generalize hst : (D i).stage = sg at hs
  generalize hfu : (D i).fuel = m at hs
  generalize hde : (D i).deaf = dd at hs hdk
  generalize hE : E i = Ei at hs
  have hb := hcs.bound
  have hVj := Vc_le j D
  cases hs with
  | work h =>
    rename_i e
    have hm7 : ∀ m' dd', ConcN.Mode j (upd D i ⟨7, m', dd'⟩) tag st sm := fun m' dd' => by have := hmode.same (i := i) m' dd'; rwa [hst] at this
    rcases h.cases (fun _ w => RK.refl w) with ⟨rfl, hstop⟩ | ⟨m', rfl, g', hgo, hp⟩ | ⟨e', rfl, _, g', w', es, o', m', hgo, hx, hp⟩
    · obtain ⟨_, hz, g', hgo, m₂, hk⟩ := hstop w (RK.refl w)
      exact workerStep (E' := 0) G hAr ha hcs hcom hi hg hgo (WEff.of_wg G.hCW (.refl Wg w) ⟨_, _, hwg⟩) (hsep0 _ (Nat.le_refl _)) (fun _ h => h) (fun _ h => .inl h) (.lib (.r0 hk)) (okW_none (by simp)) (by simp) (by simp) (by rw [hde]; rfl)
        (fun h => by omega) (fun h => by omega) (fun _ => hz) hwg (fun _ ht _ => (hm7 _ _).retag ht) (.inr ⟨hst.symm, .inl (by omega)⟩)
    · exact workerStep (E' := e + 1) G hAr ha hcs hcom hi hg hgo (WEff.of_wg G.hCW (.refl Wg w) ⟨_, _, hwg⟩) (hsep0 _ (Nat.le_refl _)) (fun _ h => h) (fun _ h => .inl h) (.work hp) (okW_none (by simp)) (by simp) (by simp) (by rw [hde]; rfl)
        (fun h => by omega) (fun h => by omega) (fun h => by omega) hwg (fun _ ht _ => (hm7 _ _).retag ht) (.inr ⟨hst.symm, .inr ⟨hE.symm, hfu.symm⟩⟩)
    · have heff := hx.eff (ty := ty) G hL (fun b hb => (hcom.sep.ge i b hb).1)
      have hwg' : WgAt ty Wg w' st sm := by
        refine hwg.of_block ?_
        rcases hx with ⟨_, h⟩ | ⟨_, _, x, rfl⟩
        · exact h.block Wg (fun hm => by have := (hcom.sep.ge i _ hm).1; omega) (Ne.symm G.hCW)
        · exact push_old (by omega)
      rcases hx with ⟨rfl, h⟩ | ⟨rfl, rfl, x, rfl⟩
      · refine workerStep (E' := e' + 1) (o' := os i) G hAr ha hcs hcom hi hg hgo heff (hsep0 _ (Nat.le_of_eq h.size.symm)) (fun _ h => h) (fun _ h => .inl h) (.work hp) (okW_K (fun b hb => by rw [upd_same]; exact hb) h.ev) (at_K h.ev)
          (fun e he => by obtain ⟨_, _, rfl, _⟩ := h.ev e he; simp) (by rw [hde]; exact deafBehind_idle (fun e he => by obtain ⟨_, _, rfl, _⟩ := h.ev e he; simp) 0)
          (fun h => by omega) (fun h => by omega) (fun h => by omega) hwg' (fun _ ht _ => (hm7 _ _).retag ht) (.inr ⟨hst.symm, .inl (by omega)⟩)
      · refine workerStep (E' := e' + 1) (o' := w.heap.size :: os i) G hAr ha hcs hcom hi hg hgo heff (by simpa using hcom.sep.pushW hL i) (fun b h => List.mem_cons_of_mem _ h) (fun b h => (List.mem_cons.1 h).elim (fun e => .inr (by omega)) .inl) (.work hp) (okW_none (by simp)) (by simp) (by simp) (by rw [hde]; rfl)
          (fun h => by omega) (fun h => by omega) (fun h => by omega) hwg' (fun _ ht _ => (hm7 _ _).retag ht) (.inr ⟨hst.symm, .inl (by omega)⟩)
  | lib hs =>
    -- A STEP OF THE LIBRARY's BOOKKEEPING: at most the group's block turns
    have bookG : ∀ {g' : Goroutine} {w' : World} {es : Array Event} {s' m' dd' : Nat} {st' sm' : Int}, stepG P false g w = .go g' w' es → Aside Wg w w' → WgAt ty Wg w' st' sm' → (∀ e ∈ es, Bk Wg e) →
        (∀ jx e, es[jx]? = some e → (MemAct.ofEvent e).touch? = none ∨ 0 < deafBehind dd (es.extract 0 jx)) → WSit P ty Wg C (2 * n) NoP NoP 0 (2 * i + 1) (val i) s' m' dd' g' w' → deafBehind dd es = dd' → sg ≤ 6 →
        (∀ tag', (tag' = tag ∨ (tag = .blk ∧ tag' = .w3)) → (mayWake P g = true → g'.status = .running → tag' ≠ .blk) → ConcN.Mode j (upd D i ⟨s', m', dd'⟩) tag' st' sm') → ((s' < sg ∧ cnt ⟨s', m', dd'⟩ ≤ cnt (D i)) ∨ (s' = sg ∧ m' + 1 = m)) →
        ∃ m₁ ops μ', runT P (crowd gs w sl) (i + 1) = (.next m₁, ops) ∧ Lt3 μ' (phi n (Vc j D) tag + Ssum j D, e0 + sumTo j E, f0 + 2 * Fsum j D) ∧ Inv P ty Wg C Low n val AnchW End w₀ μ' m₁ (t ++ ops) := by
      intro g' w' es s' m' dd' st' sm' hgo hAs hwg' hbk hd hs' hdd h6 hmode' hlt
      have hC := cell_of_block (hAs.block C G.hCW)
      refine workerStep (E' := 0) (o' := os i) G hAr ha hcs hcom hi hg hgo (WEff.of_wg G.hCW hAs ⟨_, _, hwg'⟩) (hsep0 _ (Nat.le_of_eq hAs.size.symm)) (fun _ h => h) (fun _ h => .inl h) (.lib hs') (okW_of_Bk hbk) (fun e he x hx _ => at_Bk hbk e he x hx) (norel_of_Bk hbk) (by rw [hde]; exact hdd)
        (fun _ => let ⟨r, hr⟩ := hcom.rel i hi (by omega); ⟨r, hr.book hdk _ _ hbk hd⟩) (fun _ => (hC _).trans (hcom.has0 i hi (by omega))) (fun _ => let ⟨z, hz⟩ := hcom.has1 i hi hE; ⟨z, (hC _).trans hz⟩) hwg' hmode' ?_
      rcases hlt with h | h
      · exact .inl ⟨by omega, h.2⟩
      · exact .inr ⟨by omega, .inr ⟨hE.symm, by omega⟩⟩
    have book : ∀ {g' : Goroutine} {w' : World} {es : Array Event} {s' m' dd' : Nat} {st' sm' : Int}, stepG P false g w = .go g' w' es → Aside Wg w w' → WgAt ty Wg w' st' sm' → (∀ e ∈ es, Bk Wg e) →
        (∀ jx e, es[jx]? = some e → (MemAct.ofEvent e).touch? = none ∨ 0 < deafBehind dd (es.extract 0 jx)) → WSit P ty Wg C (2 * n) NoP NoP 0 (2 * i + 1) (val i) s' m' dd' g' w' → deafBehind dd es = dd' → sg ≤ 6 →
        ConcN.Mode j (upd D i ⟨s', m', dd'⟩) tag st' sm' → ((s' < sg ∧ cnt ⟨s', m', dd'⟩ ≤ cnt (D i)) ∨ (s' = sg ∧ m' + 1 = m)) →
        ∃ m₁ ops μ', runT P (crowd gs w sl) (i + 1) = (.next m₁, ops) ∧ Lt3 μ' (phi n (Vc j D) tag + Ssum j D, e0 + sumTo j E, f0 + 2 * Fsum j D) ∧ Inv P ty Wg C Low n val AnchW End w₀ μ' m₁ (t ++ ops) :=
      fun hgo hAs hwg' hbk hd hs' hdd h6 hmode' hlt => bookG hgo hAs hwg' hbk hd hs' hdd h6 (fun _ ht _ => hmode'.retag ht) hlt
    have idle : ∀ {g' : Goroutine} {m' : Nat}, stepG P false g w = .go g' w #[] → WSit P ty Wg C (2 * n) NoP NoP 0 (2 * i + 1) (val i) sg m' dd g' w → m' + 1 = m → sg ≤ 6 →
        ∃ m₁ ops μ', runT P (crowd gs w sl) (i + 1) = (.next m₁, ops) ∧ Lt3 μ' (phi n (Vc j D) tag + Ssum j D, e0 + sumTo j E, f0 + 2 * Fsum j D) ∧ Inv P ty Wg C Low n val AnchW End w₀ μ' m₁ (t ++ ops) := by
      intro g' m' hgo hs' hm h6
      exact book hgo (.refl Wg w) hwg (by simp) (by simp) hs' rfl h6 (by have := hmode.same (i := i) m' dd; rwa [hst] at this) (.inr ⟨rfl, hm⟩)
    have mk1 : ∀ {mm : Mark}, (mm = .disable ∨ mm = .enable) → ∀ e ∈ #[mk mm], Bk Wg e := by
      intro mm h e he
      simp at he; subst he
      rcases h with rfl | rfl
      · exact .inl rfl
      · exact .inr (.inl rfl)
    have mk1n : ∀ {mm : Mark}, (mm = .disable ∨ mm = .enable) → ∀ jx e, (#[mk mm] : Array Event)[jx]? = some e → (MemAct.ofEvent e).touch? = none ∨ 0 < deafBehind dd ((#[mk mm] : Array Event).extract 0 jx) := by
      intro mm h jx e he
      have := Array.mem_of_getElem? he
      simp at this; subst this
      rcases h with rfl | rfl <;> exact .inl rfl
    cases hs with
    | r0 h =>
      rcases Goes.cases h with hstop | ⟨m', rfl, hstep⟩
      · obtain ⟨_, hhas, g', hgo, m₂, hk⟩ := hstop w (RW.refl w)
        exact workerStep (E' := 0) (o' := os i) G hAr ha hcs hcom hi hg hgo (WEff.of_wg G.hCW (.refl Wg w) ⟨_, _, hwg⟩) (hsep0 _ (Nat.le_refl _)) (fun _ h => h) (fun _ h => .inl h) (.lib (.k1 hk)) (okW_none (by intro e he; simp at he; subst he; rfl)) (by intro e he x hx; simp at he; subst he; cases hx) (by intro e he; simp at he; subst he; simp [mk]) (by rw [hde]; rfl)
          (fun _ => ⟨t.size, RelBy.new hdk _ _⟩) (fun _ => hhas) (fun _ => hcom.has1 i hi hE) hwg (fun _ ht _ => (hmode.counted hi (by omega) (.inl rfl) _ _).retag ht) (.inl ⟨by omega, by simp [cnt, hst]⟩)
      · obtain ⟨g', w', es, hgo, ⟨hac, hev⟩, hg'⟩ := hstep w (RW.refl w)
        have hac' : AsideCell C (2 * n) (2 * i) w w' := hac
        exact workerStep (E' := 0) (o' := os i) G hAr ha hcs hcom hi hg hgo (WEff.of_cell G.hCW hac') (hsep0 _ (Nat.le_of_eq hac'.size.symm)) (fun _ h => h) (fun _ h => .inl h) (.lib (.r0 hg')) (okW_lib hev) (fun e he x hx _ => (touch_lib hev e he x hx).1) (fun e he => (hev e he).2.2.2)
          (by rw [hde]; exact deafBehind_idle (fun e he => ⟨(hev e he).2.1, (hev e he).2.2.1⟩) 0) (fun h => by omega) (fun h => by omega) (fun _ => let ⟨z, hz⟩ := hcom.has1 i hi hE; ⟨z, (hac'.cells _ (by omega)).trans hz⟩) (hwg.of_block (hac'.block Wg (Ne.symm G.hCW)))
          (fun _ ht _ => ConcN.Mode.retag (by have := hmode.same (i := i) m' 0; rwa [hst] at this) ht) (.inr ⟨hst.symm, .inr ⟨hE.symm, by omega⟩⟩)
    | k1 h =>
      rcases Goes.cases h with hstop | ⟨m', rfl, hstep⟩
      · obtain ⟨_, g', hgo, m₂, hk⟩ := hstop w (RW.refl w)
        exact book hgo (.refl Wg w) hwg (mk1 (.inl rfl)) (mk1n (.inl rfl)) (.d1 hk) rfl (by omega)
          (hmode.counted hi (by omega) (.inr rfl) _ _) (.inl ⟨by omega, by simp [cnt, hst]⟩)
      · obtain ⟨g', w', es, hgo, ⟨rfl, rfl⟩, hg'⟩ := hstep w (RW.refl w)
        exact idle hgo (.k1 hg') rfl (by omega)
    | d1 h =>
      rcases Goes.cases h with hstop | ⟨m', rfl, hstep⟩
      · obtain ⟨_, hall⟩ := hstop w (RW.refl w)
        have hc1 : cnt (D i) = 1 := by simp [cnt, hst]
        have hV1 : 1 ≤ Vc j D := by have := le_sumTo (f := fun x => cnt (D x)) hi; simp only [Vc]; omega
        have bk2 : ∀ e ∈ #[rd (stA Wg), wr (stA Wg)], Bk Wg e := by intro e he; simp at he; rcases he with rfl | rfl <;> exact bk_cell _ _ rfl
        have df2 : ∀ jx e, (#[rd (stA Wg), wr (stA Wg)] : Array Event)[jx]? = some e → (MemAct.ofEvent e).touch? = none ∨ 0 < deafBehind 1 ((#[rd (stA Wg), wr (stA Wg)] : Array Event).extract 0 jx) := by
          intro jx e he
          match jx, he with
          | 0, _ => exact .inr (by simp [deafBehind])
          | 1, _ => exact .inr (by simp [deafBehind, rd])
          | jx + 2, he => simp at he
        have hq0 : ∀ q, cnt (⟨1, q, 1⟩ : WD) = 0 := fun _ => rfl
        have opq : ∀ q, OpenSt j D → OpenSt j (upd D i ⟨1, q, 1⟩) := fun q h a ha => by
          by_cases e : a = i
          · subst e; rw [upd_same]; simp
          · rw [upd_ne D _ e]; exact h a ha
        cases hmode with
        | opn h1 h2 h3 =>
          obtain ⟨v, hv⟩ : ∃ v, Vc j D + pend tag = v + 1 := ⟨Vc j D + pend tag - 1, by omega⟩
          rw [hv] at hwg
          have hw1 : WgAt ty Wg w (((v : Nat) + 1) * KK + ((0 : Nat) : Int)) 0 := by simpa using hwg
          obtain ⟨g', hgo, _, hq⟩ := hall v 0 (by omega) (by omega) hw1
          obtain ⟨q, hq⟩ := hq (by omega)
          have hv' : Vc j (upd D i ⟨1, q, 1⟩) + pend tag = v := by have := Vc_upd D (⟨1, q, 1⟩ : WD) hi; have := hq0 q; omega
          refine book hgo (aside_setCell w (stA Wg) _) (hwg.setSt _) bk2 df2 (.quit hq) rfl (by omega) ?_ (.inl ⟨by omega, by simp [cnt]⟩)
          have e : ((v : Nat) : Int) * KK + ((0 : Nat) : Int) = ((Vc j (upd D i ⟨1, q, 1⟩) + pend tag : Nat) : Int) * KK := by rw [hv']; simp
          rw [e]
          exact .opn h1 (opq q h2) (fun vs ev => by have := h3 vs ev; omega)
        | reg h1 h2 h3 =>
          obtain ⟨v, hv⟩ : ∃ v, Vc j D = v + 1 := ⟨Vc j D - 1, by omega⟩
          rw [hv] at hwg
          have hp : pend tag = 0 := by cases tag <;> first | rfl | exact h1.elim
          have hw1 : WgAt ty Wg w (((v : Nat) + 1) * KK + ((1 : Nat) : Int)) 0 := by simpa using hwg
          obtain ⟨g', hgo, hl, hq⟩ := hall v 1 (by omega) (by omega) hw1
          by_cases hv0 : v = 0
          · subst hv0
            obtain ⟨m₂, hk⟩ := hl ⟨rfl, rfl⟩
            refine book hgo (aside_setCell w (stA Wg) _) (hwg.setSt _) bk2 df2 (.d2 hk) rfl (by omega) ?_ (.inl ⟨by omega, by simp [cnt]⟩)
            have hoth : ∀ a, a < j → a ≠ i → (D a).stage = 1 := fun a ha e => by
              have c0 := others_uncounted hi hv hc1 a ha e
              have := h2 a ha
              simp only [cnt] at c0
              split at c0 <;> omega
            have := ConcN.Mode.last (j := j) (D := upd D i ⟨4, m₂, 1⟩) (tag := tag) i h1 hi (by rw [upd_same]; simp) (fun a ha e => by rw [upd_ne D _ e]; exact hoth a ha e)
            rw [upd_same] at this
            simpa using this
          · obtain ⟨q, hq⟩ := hq (by omega)
            have hv' : Vc j (upd D i ⟨1, q, 1⟩) = v := by have := Vc_upd D (⟨1, q, 1⟩ : WD) hi; have := hq0 q; omega
            refine book hgo (aside_setCell w (stA Wg) _) (hwg.setSt _) bk2 df2 (.quit hq) rfl (by omega) ?_ (.inl ⟨by omega, by simp [cnt]⟩)
            have e : ((v : Nat) : Int) * KK + ((1 : Nat) : Int) = ((Vc j (upd D i ⟨1, q, 1⟩) : Nat) : Int) * KK + 1 := by rw [hv']; simp
            rw [e]
            exact .reg h1 (opq q h2) (by omega)
        | last L _ h2 h3 h4 =>
          by_cases e : i = L
          · subst e; omega
          · have := h4 i hi e; omega
        | sema h2 => have := h2 i hi; omega
        | fin _ h2 => have := h2 i hi; omega
      · obtain ⟨g', w', es, hgo, ⟨rfl, rfl⟩, hg'⟩ := hstep w (RW.refl w)
        exact idle hgo (.d1 hg') rfl (by omega)
    | d2 h =>
      rcases Goes.cases h with hstop | ⟨m', rfl, hstep⟩
      · obtain ⟨_, hx⟩ := hstop w (RW.refl w)
        obtain ⟨hW3, hoth, rfl, rfl⟩ := hmode.isLast hi (by omega)
        simp only [hst] at hwg
        obtain ⟨g', hgo, m₂, hk⟩ := hx (by simpa using hwg)
        refine book hgo (.refl Wg w) hwg (by intro e he; simp at he; subst he; exact bk_cell _ _ rfl) (by intro jx e he; match jx, he with | 0, _ => exact .inr (by simp [deafBehind]) | jx + 1, he => simp at he) (.d3 hk) rfl (by omega) ?_ (.inl ⟨by omega, by simp [cnt]⟩)
        have := ConcN.Mode.last (j := j) (D := upd D i ⟨3, m₂, 1⟩) (tag := tag) i hW3 hi (by rw [upd_same]; simp) (fun a ha e => by rw [upd_ne D _ e]; exact hoth a ha e)
        rw [upd_same] at this
        simpa using this
      · obtain ⟨g', w', es, hgo, ⟨rfl, rfl⟩, hg'⟩ := hstep w (RW.refl w)
        exact idle hgo (.d2 hg') rfl (by omega)
    | d3 h =>
      rcases Goes.cases h with hstop | ⟨m', rfl, hstep⟩
      · obtain ⟨_, hx⟩ := hstop w (RW.refl w)
        obtain ⟨hW3, hoth, rfl, rfl⟩ := hmode.isLast hi (by omega)
        simp only [hst] at hwg
        obtain ⟨g', hgo, m₂, hk⟩ := hx (by simpa using hwg)
        refine book hgo (aside_setCell w (stA Wg) _) (hwg.setSt 0) (by intro e he; simp at he; subst he; exact bk_cell _ _ rfl) (by intro jx e he; match jx, he with | 0, _ => exact .inr (by simp [deafBehind]) | jx + 1, he => simp at he) (.d4 hk) rfl (by omega) ?_ (.inl ⟨by omega, by simp [cnt]⟩)
        have := ConcN.Mode.last (j := j) (D := upd D i ⟨2, m₂, 1⟩) (tag := tag) i hW3 hi (by rw [upd_same]; simp) (fun a ha e => by rw [upd_ne D _ e]; exact hoth a ha e)
        rw [upd_same] at this
        simpa using this
      · obtain ⟨g', w', es, hgo, ⟨rfl, rfl⟩, hg'⟩ := hstep w (RW.refl w)
        exact idle hgo (.d3 hg') rfl (by omega)
    | d4 h =>
      rcases Goes.cases h with hstop | ⟨m', rfl, hstep⟩
      · obtain ⟨_, hmw, hx⟩ := hstop w (RW.refl w)
        obtain ⟨hW3, hoth, rfl, rfl⟩ := hmode.isLast hi (by omega)
        simp only [hst] at hwg
        obtain ⟨g', hgo, q, hq⟩ := hx (by simpa using hwg)
        have hrun' : g'.status = .running := by
          cases q with
          | zero => exact absurd hq.2 (by decide)
          | succ q => exact hq.elim (fun x => absurd x.2 (by decide)) (fun x => x.1)
        refine bookG hgo (aside_setCell w (smA Wg) _) (hwg.setSm 1) (es := semEvents (smA Wg)) bk_sem ?_ (.quit hq) (by simp [deafBehind, semEvents]) (by omega) ?_ (.inl ⟨by omega, by simp [cnt]⟩)
        · intro jx e he
          match jx, he with
          | 0, he => simp [semEvents] at he; subst he; exact .inl rfl
          | 1, _ => exact .inr (by simp [deafBehind, semEvents])
          | 2, _ => exact .inr (by simp [deafBehind, semEvents])
          | 3, he => simp [semEvents] at he; subst he; exact .inl rfl
          | jx + 4, he => simp [semEvents] at he
        · intro tag' ht hw
          have hnb := hw hmw hrun'
          have e3 : tag' = .w3 := by
            rcases ht with rfl | ⟨_, rfl⟩
            · cases tag' <;> first | rfl | exact hW3.elim | exact absurd rfl hnb
            · rfl
          subst e3
          simp only [if_true]
          exact .sema fun a ha => by
            by_cases e : a = i
            · subst e; rw [upd_same]
            · rw [upd_ne D _ e]; exact hoth a ha e
      · obtain ⟨g', w', es, hgo, ⟨rfl, rfl⟩, hg'⟩ := hstep w (RW.refl w)
        exact idle hgo (.d4 hg') rfl (by omega)
    | quit h =>
      cases m with
      | zero => rw [h.1] at hrun; cases hrun
      | succ q =>
        rcases h with ⟨hf, _⟩ | ⟨_, g', es, hmute, hstep, hq⟩
        · rw [hf] at hrun; cases hrun
        · have hbk : ∀ e ∈ es, Bk Wg e := fun e he => Go.ConcR.bk_of_mute (hmute e he)
          have hno : ∀ jx e, es[jx]? = some e → (MemAct.ofEvent e).touch? = none ∨ 0 < deafBehind dd (es.extract 0 jx) := fun jx e he => .inl (touch_mute (hmute e (Array.mem_of_getElem? he)))
          exact book (hstep w) (.refl Wg w) hwg hbk hno (.quit hq) rfl (by omega) (by have := hmode.same (i := i) q (deafBehind dd es); rwa [hst] at this) (.inr ⟨rfl, rfl⟩)
end


section
variable [Payload] {P : Program} {ty : TypeId} {Wg C Low n : Nat} {val : Nat → Value} {AnchW : List Nat → Goroutine → World → Prop} {End : Goroutine → World → Prop} {w₀ : World}
  {gs : Array Goroutine} {w w' : World} {sl : Option (Nat × Nat)} {j : Nat} {D : Nat → WD} {E : Nat → Nat} {os : Nat → List Nat} {s : List Nat} {tag tag' : CTag} {e0 f0 d0 e' f' : Nat} {a a' : Goroutine} {t : Trace} {st sm st' sm' : Int} {es : Array Event}

theorem ok0_S {os : Nat → List Nat} (G : Plan Wg C Low) {sz : Nat} (S : Sep Low os s sz) {fn : FuncId} {pos : String} (h : ∀ e ∈ es, EvS Wg C Low s e) : ∀ op ∈ MemOp.ofEvents 0 fn pos es, Ok0 (ShN Wg) (OwnP C os) (RdP Wg C Low) j op := by
  have hC := G.hC; have hW := G.hW
  intro op hop
  obtain ⟨e, he, rfl⟩ := mem_ofE hop
  refine ⟨rfl, fun x hx => ?_⟩
  rcases h e he with ⟨a, wr, rfl, hc⟩ | ⟨a, h1, h2⟩
  · simp only [ofEvent_cell0, MemAct.touch?, Option.some.injEq] at hx
    subst hx
    rcases hc with hc | ⟨rfl, h1, h2, h3⟩
    · have hge := S.ge0 _ hc
      refine .inr ⟨?_, fun k _ _ => ?_, fun _ k _ _ => ?_⟩
      · rintro ⟨b, e, hb⟩; injection e with e; subst e; omega
      · rintro ⟨i, b, rfl, e, hb | ⟨hb, _⟩⟩ <;> injection e with e <;> subst e
        · exact S.dis0 _ _ hb hc
        · omega
      · rintro ⟨b, e, hb, _⟩; injection e with e; subst e; omega
    · refine .inr ⟨?_, fun k _ _ => ?_, fun hw => by cases hw⟩
      · rintro ⟨b, e, hb⟩; injection e with e; subst e; exact h2 hb
      · rintro ⟨i, b, rfl, e, hb | ⟨hb, _⟩⟩ <;> injection e with e <;> subst e
        · have := (S.ge _ _ hb).1; omega
        · exact h3 hb
  · rcases h1 with rfl | rfl <;> (simp only [MemAct.ofEvent, MemAct.touch?, Option.some.injEq] at hx; subst hx; exact .inl ⟨⟨a, rfl, h2⟩, by simp⟩)
theorem low_S (G : Plan Wg C Low) {sz : Nat} (S : Sep Low os s sz) (hL : Low ≤ sz) (h : ∀ e ∈ es, EvS Wg C Low s e) : ∀ e ∈ es, ∀ x, (MemAct.ofEvent e).touch? = some x → x.loc.low sz := by
  have hC := G.hC; have hW := G.hW
  intro e he x hx
  rcases h e he with ⟨a, wr, rfl, hc⟩ | ⟨a, h1, h2⟩
  · simp only [ofEvent_cell0, MemAct.touch?, Option.some.injEq] at hx
    subst hx
    show a.block < sz
    rcases hc with hc | ⟨_, h1, _⟩
    · exact (S.ge0 _ hc).2
    · omega
  · rcases h1 with rfl | rfl <;> (simp only [MemAct.ofEvent, MemAct.touch?, Option.some.injEq] at hx; subst hx; show a.block < sz; omega)
theorem still_S (h : ∀ e ∈ es, EvS Wg C Low s e) : ∀ e ∈ es, e.loc ≠ .mark .disable ∧ e.loc ≠ .mark .enable := by
  intro e he
  rcases h e he with ⟨a, wr, rfl, hc⟩ | ⟨a, rfl | rfl, h2⟩ <;> simp
theorem norel_S (h : ∀ e ∈ es, EvS Wg C Low s e) : ∀ e ∈ es, e.loc ≠ .mark (.release (stA Wg)) := by
  intro e he
  rcases h e he with ⟨a, wr, rfl, hc⟩ | ⟨a, rfl | rfl, h2⟩ <;> simp

/-- A STEP OF THE LIBRARY's BOOKKEEPING, by the starter: at most the group's block turns. -/
theorem bookC (G : Plan Wg C Low) (ha : gs[0]? = some a) (hcom : Com P ty Wg C Low n val w₀ j gs w t D E os s d0)
    (hgo : stepG P true a w = .go a' w' es) (hAs : Aside Wg w w') (hwg' : WgAt ty Wg w' st' sm') (hbk : ∀ e ∈ es, Bk Wg e) (hcs' : CS P ty Wg C Low n val AnchW End tag' j e' f' (deafBehind d0 es) s a' w')
    (hmode' : ConcN.Mode j D tag' st' sm') (hlt : phi n (Vc j D) tag' < phi n (Vc j D) tag ∨ (phi n (Vc j D) tag' = phi n (Vc j D) tag ∧ (e' < e0 ∨ (e' = e0 ∧ f' < f0)))) :
    ∃ m₁ ops μ', runT P (crowd gs w sl) 0 = (.next m₁, ops) ∧ Lt3 μ' (phi n (Vc j D) tag + Ssum j D, e0 + sumTo j E, f0 + 2 * Fsum j D) ∧ Inv P ty Wg C Low n val AnchW End w₀ μ' m₁ (t ++ ops) := by
  have hL := hcom.hL; have hW := G.hW; have hsz := hAs.size
  exact callerStep G ha hcom hgo (SEff.of_wg hAs ⟨_, _, hwg'⟩) (hcom.sep.keep (Nat.le_of_eq hAs.size.symm)) (ok0_of_Bk hbk) (fun e he x hx => shN_low (by omega) (at_Bk hbk e he x hx)) (norel_of_Bk hbk) hcs' hwg' hmode' hlt

/-- HOW A PHASE OF THE STARTER's STANDS: at its stop, or it takes a step of its own. -/
theorem phaseC (G : Plan Wg C Low) (ha : gs[0]? = some a) (hcom : Com P ty Wg C Low n val w₀ j gs w t D E os s d0) (hwg : WgAt ty Wg w st sm) (hmode : ConcN.Mode j D tag st sm) {Stop : List Nat → Goroutine → World → Prop} {m k : Nat} (hf : f0 = m + k)
    (h : Ph P true (RA ty Wg C Low) (XS Wg C Low) Stop e0 s m a w) (hc : ∀ (e m : Nat) (o : List Nat) (g : Goroutine) (w : World), Ph P true (RA ty Wg C Low) (XS Wg C Low) Stop e o m g w → CS P ty Wg C Low n val AnchW End tag j e (m + k) d0 o g w) :
    (e0 = 0 ∧ ∀ w₁, RA ty Wg C Low s w w₁ → Stop s a w₁) ∨
    ∃ m₁ ops μ', runT P (crowd gs w sl) 0 = (.next m₁, ops) ∧ Lt3 μ' (phi n (Vc j D) tag + Ssum j D, e0 + sumTo j E, f0 + 2 * Fsum j D) ∧ Inv P ty Wg C Low n val AnchW End w₀ μ' m₁ (t ++ ops) := by
  have hL := hcom.hL; have hW := G.hW
  rcases h.cases (fun _ w => RA.refl w) with ⟨h1, hstop⟩ | ⟨m', rfl, g', hgo, hp⟩ | ⟨e', rfl, _, g', w', es, o', m', hgo, hx, hp⟩
  · exact .inl ⟨h1, hstop⟩
  · exact .inr (bookC G ha hcom hgo (.refl Wg w) hwg (by simp) (hc _ _ _ _ _ hp) hmode (.inr ⟨rfl, .inr ⟨rfl, by omega⟩⟩))
  · have heff := hx.eff (ty := ty) G hL (fun b hb => (hcom.sep.ge0 b hb).1)
    refine .inr ?_
    rcases hx with ⟨rfl, h⟩ | ⟨rfl, rfl, x, rfl⟩
    · have hwg' := hwg.of_block (h.block Wg (fun hm => by have := (hcom.sep.ge0 _ hm).1; omega))
      have hsz := h.size
      have hdf : deafBehind d0 es = d0 := deafBehind_idle (still_S h.ev) d0
      exact callerStep G ha hcom hgo heff (hcom.sep.keep (Nat.le_of_eq hsz.symm)) (ok0_S G hcom.sep h.ev) (low_S G (hcom.sep.keep (Nat.le_of_eq hsz.symm)) (by omega) h.ev) (norel_S h.ev) (by rw [hdf]; exact hc _ _ _ _ _ hp) hwg' hmode (.inr ⟨rfl, .inl (by omega)⟩)
    · have hwg' : WgAt ty Wg { w with heap := w.heap.push x } st sm := hwg.of_block (push_old (by omega))
      exact callerStep G ha hcom hgo heff (by simpa using hcom.sep.push0 hL) (by intro op hop; obtain ⟨e, he, _⟩ := mem_ofE hop; simp at he) (by simp) (by simp) (hc _ _ _ _ _ hp) hwg' hmode (.inr ⟨rfl, .inl (by omega)⟩)

theorem mkDis {Wg : Nat} : ∀ e ∈ #[mk .disable], Bk Wg e := by intro e he; simp at he; subst he; exact .inl rfl
theorem mkEn {Wg : Nat} : ∀ e ∈ #[mk .enable], Bk Wg e := by intro e he; simp at he; subst he; exact .inr (.inl rfl)
theorem bkRd {Wg : Nat} : ∀ e ∈ #[rd (stA Wg)], Bk Wg e := by intro e he; simp at he; subst he; exact bk_cell _ _ rfl
theorem bkRw {Wg : Nat} : ∀ e ∈ #[rd (stA Wg), wr (stA Wg)], Bk Wg e := by intro e he; simp at he; rcases he with rfl | rfl <;> exact bk_cell _ _ rfl

/-- THE LOAD IN Wait. -/
theorem w1Step (G : Plan Wg C Low) (hn : n < 2147483648) (ha : gs[0]? = some a) (hcom : Com P ty Wg C Low n val w₀ n gs w t D E os s 1) (hwg : WgAt ty Wg w st sm) (hmode : ConcN.Mode n D .w1 st sm)
    {m : Nat} (hf : f0 = m) (h : Ph P true (RA ty Wg C Low) (XS Wg C Low) (SW1 P ty Wg C Low n AnchW End) e0 s m a w) :
    ∃ m₁ ops μ', runT P (crowd gs w sl) 0 = (.next m₁, ops) ∧ Lt3 μ' (phi n (Vc n D) .w1 + Ssum n D, e0 + sumTo n E, f0 + 2 * Fsum n D) ∧ Inv P ty Wg C Low n val AnchW End w₀ μ' m₁ (t ++ ops) := by
  rcases phaseC (sl := sl) (AnchW := AnchW) (End := End) (k := 0) G ha hcom hwg hmode hf h (fun _ _ _ _ _ => .w1) with ⟨rfl, hstop⟩ | h
  · obtain ⟨_, hall⟩ := hstop w (.refl w)
    obtain ⟨ho, rfl, rfl, _⟩ := hmode.open_inv trivial
    have hV := Vc_le n D
    obtain ⟨a', hgo, h0, hne⟩ := hall (Vc n D) (by omega) (by simpa [pend] using hwg)
    by_cases hv : Vc n D = 0
    · obtain ⟨e₂, m₂, hk⟩ := h0 hv
      refine bookC G ha hcom hgo (.refl Wg w) hwg bkRd (tag' := .ke) (.ke hk) ?_ (.inl (by simp only [phi]; omega))
      have e : ((Vc n D + pend .w1 : Nat) : Int) * KK = 0 := by rw [hv]; simp [pend]
      rw [e]
      exact .fin trivial (allQuit_of ho hv)
    · obtain ⟨e₂, m₂, hk⟩ := hne hv
      exact bookC G ha hcom hgo (.refl Wg w) hwg bkRd (tag' := .w2 (Vc n D)) (.w2 hk) (hmode.reopen trivial trivial rfl (fun vs e => by cases e; omega)) (.inl (by simp only [phi]; omega))
  · exact h

theorem past_of (hct : CT (ShN Wg) (OwnP C os) (RdP Wg C Low) t j) (hat : ∀ op ∈ t, op.g ≠ 0 → ∀ x, op.act.touch? = some x → x.kind = .atomic → ShN Wg x.loc) (ho : t.HandedOver) (hd : Deaf t 0 = 0) (B : Nat) (hB : ∀ op ∈ t, op.act.low B) : Past (ShN Wg) B t := by
  refine ⟨hct.nr, fun i x hx hm => ?_, ho, hd, hB⟩
  obtain ⟨op, hop, hox⟩ := touch_of hx
  by_cases hg : op.g = 0
  · have := knows_own hop; rw [hg] at this; exact .inl this
  · by_cases hc : t.counts i
    · obtain ⟨q, hq, hb⟩ := ho i op.g (by simp [Trace.g?, hop]) hg hc
      obtain ⟨z, hz, hzg⟩ := Option.map_eq_some_iff.1 hq
      exact .inl ⟨q, z, hz, hzg, .inr hb⟩
    · refine .inr ?_
      have hk : x.kind = .atomic := Classical.byContradiction fun hk => hc ⟨x, hx, hm, .inl hk⟩
      exact ⟨hat op (Array.mem_of_getElem? hop) hg x hox hk, hk⟩
end

section
variable [Payload] {P : Program} {ty : TypeId} {Wg C Low n : Nat} {val : Nat → Value} {AnchW : List Nat → Goroutine → World → Prop} {End : Goroutine → World → Prop} {w₀ : World}
  {gs : Array Goroutine} {w : World} {sl : Option (Nat × Nat)} {j : Nat} {D : Nat → WD} {E : Nat → Nat} {os : Nat → List Nat} {s : List Nat} {tag : CTag} {e0 f0 d0 : Nat} {a : Goroutine} {t : Trace} {st sm : Int}

theorem WS.stage6 {i : Nat} {v : Value} {E s m d : Nat} {o : List Nat} {g : Goroutine} (h : WS P ty Wg C Low n i v E s m d o g w) (hs : s ≤ 6) : E = 0 := by
  cases h with
  | work _ => omega
  | lib _ => rfl

set_option maxHeartbeats 1600000 in
theorem stepCaller (G : Plan Wg C Low) (hn : n < 2147483648) (hAn : ∀ o g w, AnchW o g w → PX P ty Wg C Low (SW1 P ty Wg C Low n AnchW End) o g w)
    (ha : gs[0]? = some a) (hcs : CS P ty Wg C Low n val AnchW End tag j e0 f0 d0 s a w) (hcom : Com P ty Wg C Low n val w₀ j gs w t D E os s d0) (hwg : WgAt ty Wg w st sm) (hmode : ConcN.Mode j D tag st sm) (hrun : a.status = .running) :
    (∃ m₁ ops, runT P (crowd gs w sl) 0 = (.next m₁, ops) ∧ Joined P ty Wg C Low n val End w₀ m₁ (t ++ ops)) ∨
    (∃ m₁ ops μ', runT P (crowd gs w sl) 0 = (.next m₁, ops) ∧ Lt3 μ' (phi n (Vc j D) tag + Ssum j D, e0 + sumTo j E, f0 + 2 * Fsum j D) ∧ Inv P ty Wg C Low n val AnchW End w₀ μ' m₁ (t ++ ops)) := by
  have hVj := Vc_le j D
  cases hcs with
  | skd hr h =>
    rcases phaseC (sl := sl) (AnchW := AnchW) (End := End) (k := 0) G ha hcom hwg hmode rfl h (fun _ _ _ _ _ => .skd hr) with ⟨rfl, hstop⟩ | h
    · obtain ⟨_, a', hgo, e₂, m₂, hk⟩ := hstop w (.refl w)
      exact .inr (bookC G ha hcom hgo (.refl Wg w) hwg mkDis (.sa1 hr hk) (hmode.reopen trivial trivial rfl (by simp)) (.inl (by simp only [phi]; omega)))
    · exact .inr h
  | sa1 hr h =>
    rename_i r
    rcases phaseC (sl := sl) (AnchW := AnchW) (End := End) (k := 0) G ha hcom hwg hmode rfl h (fun _ _ _ _ _ => .sa1 hr) with ⟨rfl, hstop⟩ | h
    · obtain ⟨_, hall⟩ := hstop w (.refl w)
      obtain ⟨ho, rfl, rfl, _⟩ := hmode.open_inv trivial
      obtain ⟨a', hgo, e₂, m₂, hk⟩ := hall (Vc (n - (r + 1)) D) (by omega) (by simpa [pend] using hwg)
      refine .inr (bookC G ha hcom hgo (aside_setCell w (stA Wg) _) (hwg.setSt _) bkRw (.ske hr hk) ?_ (.inl (by simp only [phi]; omega)))
      have e : (((Vc (n - (r + 1)) D : Nat) : Int) + 1) * KK = ((Vc (n - (r + 1)) D + pend (.sp r 3) : Nat) : Int) * KK := by simp [pend]
      rw [e]
      exact .opn trivial ho (by simp)
    · exact .inr h
  | ske hr h =>
    rcases phaseC (sl := sl) (AnchW := AnchW) (End := End) (k := 0) G ha hcom hwg hmode rfl h (fun _ _ _ _ _ => .ske hr) with ⟨rfl, hstop⟩ | h
    · obtain ⟨_, a', hgo, e₂, m₂, hk⟩ := hstop w (.refl w)
      exact .inr (bookC G ha hcom hgo (.refl Wg w) hwg mkEn (.sgo hr hk) (hmode.reopen trivial trivial rfl (by simp)) (.inl (by simp only [phi]; omega)))
    · exact .inr h
  | sgo hr h =>
    rename_i r
    rcases phaseC (sl := sl) (AnchW := AnchW) (End := End) (k := 0) G ha hcom hwg hmode rfl h (fun _ _ _ _ _ => .sgo hr) with ⟨rfl, hstop⟩ | h
    · obtain ⟨_, a', child, hsp, _, hwk0, hnext⟩ := hstop w (.refl w)
      obtain ⟨ew, m₂, hwk⟩ := hwk0 hcom.pay
      obtain ⟨ho, rfl, rfl, _⟩ := hmode.open_inv trivial
      have hrun' := runT_crowd_spawn (P := P) (sl := sl) (i := 0) ha (by simpa using hsp)
      rw [hcom.size] at hrun'
      have hcom' := hcom.spawn G (a' := a') (x := { g := 0, fn := a.frame.fn, pos := a.frame.place, act := .go (n - (r + 1) + 1) }) (y := { g := n - (r + 1) + 1, fn := child.frame.fn, pos := a.frame.place, act := .start }) ⟨rfl, rfl⟩ ⟨rfl, rfl⟩ hwk
      have eV : Vc (n - (r + 1) + 1) (upd D (n - (r + 1)) ⟨7, m₂, 0⟩) = Vc (n - (r + 1)) D + 1 := by
        simp only [Vc, sumTo, upd_same]
        rw [sumTo_upd_out D _ cnt (Nat.le_refl _)]; rfl
      have eS : Ssum (n - (r + 1) + 1) (upd D (n - (r + 1)) ⟨7, m₂, 0⟩) = Ssum (n - (r + 1)) D + 7 := by
        simp only [Ssum, sumTo, upd_same]
        rw [sumTo_upd_out D _ WD.stage (Nat.le_refl _)]
      have ho' : OpenSt (n - (r + 1) + 1) (upd D (n - (r + 1)) ⟨7, m₂, 0⟩) := fun i hi => by
        by_cases e : i = n - (r + 1)
        · subst e; rw [upd_same]; simp
        · rw [upd_ne D _ e]; exact ho i (by omega)
      have ha' : ((gs.setIfInBounds 0 a').push child)[0]? = some a' := by
        rw [Array.getElem?_push_lt (by simp [hcom.size]), ← Array.getElem?_eq_getElem]
        simp [hcom.size]
      have ej : n - (r + 1) + 1 = n - r := by omega
      rw [ej] at hrun' hcom' eV eS ho'
      have est : ∀ tag', pend tag' = 0 → ((Vc (n - (r + 1)) D + pend (.sp r 2) : Nat) : Int) * KK = ((Vc (n - r) (upd D (n - (r + 1)) ⟨7, m₂, 0⟩) + pend tag' : Nat) : Int) * KK := fun tag' hp => by rw [eV, hp]; simp [pend]
      cases r with
      | zero =>
        obtain ⟨e₃, m₃, hk⟩ := hnext
        simp only [Nat.sub_zero] at hrun' hcom' eV eS ho' est
        refine .inr ⟨_, _, (phi n (Vc n (upd D (n - (0 + 1)) ⟨7, m₂, 0⟩)) .kd + Ssum n (upd D (n - (0 + 1)) ⟨7, m₂, 0⟩), e₃ + sumTo n (upd E (n - (0 + 1)) (ew + 1)), m₃ + 2 * Fsum n (upd D (n - (0 + 1)) ⟨7, m₂, 0⟩)), hrun', Prod.Lex.left _ _ (by simp only [phi]; omega),
          _, w, sl, n, _, _, _, _, .kd, e₃, m₃, 0, a', _, _, rfl, ha', .kd hk, hcom', hwg, ?_, rfl⟩
        rw [est .kd rfl]
        exact .opn trivial ho' (by simp)
      | succ r' =>
        obtain ⟨e₃, m₃, hk⟩ := hnext
        refine .inr ⟨_, _, (phi n (Vc (n - (r' + 1)) (upd D (n - (r' + 1 + 1)) ⟨7, m₂, 0⟩)) (.sp r' 5) + Ssum (n - (r' + 1)) (upd D (n - (r' + 1 + 1)) ⟨7, m₂, 0⟩), e₃ + sumTo (n - (r' + 1)) (upd E (n - (r' + 1 + 1)) (ew + 1)), m₃ + 2 * Fsum (n - (r' + 1)) (upd D (n - (r' + 1 + 1)) ⟨7, m₂, 0⟩)), hrun', Prod.Lex.left _ _ (by simp only [phi]; omega),
          _, w, sl, n - (r' + 1), _, _, _, _, .sp r' 5, e₃, m₃, 0, a', _, _, rfl, ha', .skd (by omega) hk, hcom', hwg, ?_, rfl⟩
        rw [est (.sp r' 5) rfl]
        exact .opn trivial ho' (by simp)
    · exact .inr h
  | kd h =>
    rcases phaseC (sl := sl) (AnchW := AnchW) (End := End) (k := 0) G ha hcom hwg hmode rfl h (fun _ _ _ _ _ => .kd) with ⟨rfl, hstop⟩ | h
    · obtain ⟨_, a', hgo, e₂, m₂, hk⟩ := hstop w (.refl w)
      exact .inr (bookC G ha hcom hgo (.refl Wg w) hwg mkDis (.anch hk) (hmode.reopen trivial trivial rfl (by simp)) (.inl (by simp only [phi]; omega)))
    · exact .inr h
  | anch h =>
    rcases phaseC (sl := sl) (AnchW := AnchW) (End := End) (k := 0) G ha hcom hwg hmode rfl h (fun _ _ _ _ _ => .anch) with ⟨rfl, hstop⟩ | h
    · obtain ⟨e₂, m₂, hk⟩ := hAn s a w (hstop w (.refl w))
      obtain ⟨m₁, ops, μ', h1, h2, h3⟩ := w1Step (sl := sl) G hn ha hcom hwg (hmode.reopen trivial trivial rfl (by simp)) rfl hk
      exact .inr ⟨m₁, ops, μ', h1, lt3_trans h2 (Prod.Lex.left _ _ (by simp only [phi]; omega)), h3⟩
    · exact .inr h
  | w1 h => exact .inr (w1Step G hn ha hcom hwg hmode rfl h)
  | w2 h =>
    rename_i vs
    rcases phaseC (sl := sl) (AnchW := AnchW) (End := End) (k := 0) G ha hcom hwg hmode rfl h (fun _ _ _ _ _ => .w2) with ⟨rfl, hstop⟩ | h
    · obtain ⟨_, hall⟩ := hstop w (.refl w)
      obtain ⟨ho, rfl, rfl, hw2⟩ := hmode.open_inv trivial
      obtain ⟨hle, h1⟩ := hw2 vs rfl
      obtain ⟨hhit, hmiss⟩ := hall (Vc n D) (by omega) (by simpa [pend] using hwg)
      by_cases e : Vc n D = vs
      · obtain ⟨a', hgo, e₂, m₂, hk⟩ := hhit e
        exact .inr (bookC G ha hcom hgo (aside_setCell w (stA Wg) _) (hwg.setSt _) bkRw (.w3 hk) (.reg trivial ho (by omega)) (.inl (by simp only [phi]; omega)))
      · obtain ⟨a', hgo, e₂, m₂, hk⟩ := hmiss e
        exact .inr (bookC G ha hcom hgo (.refl Wg w) hwg bkRd (.anch hk) (hmode.reopen trivial trivial rfl (by simp)) (.inl (by simp only [phi]; omega)))
    · exact .inr h
  | w3 h =>
    rcases phaseC (sl := sl) (AnchW := AnchW) (End := End) (k := 1) G ha hcom hwg hmode rfl h (fun _ _ _ _ _ => .w3) with ⟨rfl, hstop⟩ | h
    · obtain ⟨_, hoff, hblk, htake⟩ := hstop w (.refl w)
      cases hmode with
      | opn h1 _ _ => exact h1.elim
      | reg h1 h2 h3 => exact .inr (bookC G ha hcom (hblk ⟨_, hwg⟩) (.refl Wg w) hwg (by simp) (.blk hstop) (.reg trivial h2 h3) (.inr ⟨rfl, .inr ⟨rfl, by omega⟩⟩))
      | last L h1 h2 h3 h4 => exact .inr (bookC G ha hcom (hblk ⟨_, hwg⟩) (.refl Wg w) hwg (by simp) (.blk hstop) (.last L trivial h2 h3 h4) (.inr ⟨rfl, .inr ⟨rfl, by omega⟩⟩))
      | sema h2 =>
        obtain ⟨a', hgo, e₂, m₂, hk⟩ := htake hwg
        exact .inr (bookC G ha hcom hgo (aside_setCell w (smA Wg) _) (hwg.setSm 0) bk_sem (.w4 hk) (.fin trivial h2) (.inl (by simp only [phi]; omega)))
      | fin h1 _ => exact h1.elim
    · exact .inr h
  | blk h => simp at hrun
  | w4 h =>
    rcases phaseC (sl := sl) (AnchW := AnchW) (End := End) (k := 0) G ha hcom hwg hmode rfl h (fun _ _ _ _ _ => .w4) with ⟨rfl, hstop⟩ | h
    · obtain ⟨_, hx⟩ := hstop w (.refl w)
      obtain ⟨hq, rfl, rfl⟩ := hmode.fin_inv trivial
      obtain ⟨a', hgo, e₂, m₂, hk⟩ := hx hwg
      exact .inr (bookC G ha hcom hgo (.refl Wg w) hwg bkRd (.ke hk) (.fin trivial hq) (.inl (by simp only [phi]; omega)))
    · exact .inr h
  | ke h =>
    rcases phaseC (sl := sl) (AnchW := AnchW) (End := End) (k := 0) G ha hcom hwg hmode rfl h (fun _ _ _ _ _ => .ke) with ⟨rfl, hstop⟩ | h
    · obtain ⟨_, a', hgo, e₂, m₂, hk⟩ := hstop w (.refl w)
      obtain ⟨hq, rfl, rfl⟩ := hmode.fin_inv trivial
      exact .inr (bookC G ha hcom hgo (.refl Wg w) hwg mkEn (.acq hk) (.fin trivial hq) (.inl (by simp only [phi]; omega)))
    · exact .inr h
  | acq h =>
    rcases phaseC (sl := sl) (AnchW := AnchW) (End := End) (k := 0) G ha hcom hwg hmode rfl h (fun _ _ _ _ _ => .acq) with ⟨rfl, hstop⟩ | h
    · obtain ⟨_, a', hgo, hend⟩ := hstop w (.refl w)
      obtain ⟨hq, rfl, rfl⟩ := hmode.fin_inv trivial
      have hrun' := runT_crowd_go (P := P) (sl := sl) (i := 0) ha (by simpa using hgo)
      have hcom' := hcom.step0 (a := a) (a' := a') (fn := a.frame.fn) (pos := a.frame.place) (es := #[mk (.acquire (stA Wg))]) G (SEff.of_wg (o := s) (.refl Wg w) ⟨_, _, hwg⟩) hcom.sep (ok0_none (by intro e he; simp at he; subst he; rfl)) (by intro e he x hx; simp at he; subst he; cases hx) (by intro e he; simp at he; subst he; simp [mk])
      have e1 : MemOp.ofEvents 0 a.frame.fn a.frame.place #[mk (.acquire (stA Wg))] = #[{ g := 0, fn := a.frame.fn, pos := a.frame.place, act := .mark (.acquire (stA Wg)) }] := by rw [ofEvents_eq]; simp [Go.ConcR.ofEvent_mk]
      have hy : (t ++ #[({ g := 0, fn := a.frame.fn, pos := a.frame.place, act := .mark (.acquire (stA Wg)) } : MemOp)])[t.size]? = some { g := 0, fn := a.frame.fn, pos := a.frame.place, act := .mark (.acquire (stA Wg)) } := by simp
      have hover : (t ++ MemOp.ofEvents 0 a.frame.fn a.frame.place #[mk (.acquire (stA Wg))]).HandedOver := by
        refine handedOver_all (q := t.size) (fun i g hgi hne => ?_) hcom'.norel (by rw [e1, act?_of hy]) (by rw [e1]; simp [Trace.g?]) (by rw [e1]; exact ⟨0, by simp [Trace.g?], by rw [deaf_old (Nat.le_refl _)]; exact hcom.deaf0⟩)
        obtain ⟨op, ho, rfl⟩ := Option.map_eq_some_iff.1 hgi
        have hle := hcom'.ct.gs i op ho
        obtain ⟨k, hk⟩ : ∃ k, op.g = k + 1 := ⟨op.g - 1, by omega⟩
        obtain ⟨r, hr⟩ := hcom.rel k (by omega) (by rw [hq k (by omega)]; omega)
        rw [hk]
        exact ⟨r, hr.appOther g_of_ofEvents (by omega), lt_of_act? hr.act⟩
      refine .inl ⟨_, _, hrun', _, w, sl, a', fun i => (D (i - 1)).fuel, rfl, get_map_set_same _ _ _ (by rw [hcom.size]; omega), hend, ⟨fun i g hi hg => ?_, fun k hk => ?_⟩, fun B hB => past_of hcom'.ct hcom'.atom hover hcom'.deaf0 B hB, hcom'.base, fun i hi => ?_, hcom'.pay, hwg, hcom'.hL⟩
      · obtain ⟨k, rfl⟩ : ∃ k, i = k + 1 := ⟨i - 1, by omega⟩
        have hlt : k < n := by have := (Array.getElem?_eq_some_iff.1 hg).1; rw [hcom'.size] at this; omega
        obtain ⟨g', hg', hs'⟩ := hcom'.wk k hlt
        rw [hg] at hg'; cases hg'
        rw [hcom'.deafW k hlt]
        exact hs'.quits (hq k hlt)
      · refine Deaf_absent fun p op ho e => ?_
        have := hcom'.ct.gs p op ho
        rw [hcom'.size] at hk
        omega
      · have h6 : (D i).stage ≤ 6 := by rw [hq i hi]; omega
        obtain ⟨g', _, hs'⟩ := hcom'.wk i hi
        exact ⟨hcom'.has0 i hi h6, hcom'.has1 i hi (hs'.stage6 h6)⟩
    · exact .inr h

/-- NO DEADLOCK. -/
theorem someone_runs (hAr : ∀ o g w, AnchW o g w → g.status = .running) (ha : gs[0]? = some a) (hcs : CS P ty Wg C Low n val AnchW End tag j e0 f0 d0 s a w) (hcom : Com P ty Wg C Low n val w₀ j gs w t D E os s d0) (hmode : ConcN.Mode j D tag st sm) :
    ∃ (i : Nat) (g : Goroutine), gs[i]? = some g ∧ g.status = .running := by
  rcases hcs.status hAr with ⟨hs, _⟩ | ⟨_, rfl⟩
  · exact ⟨0, a, ha, hs⟩
  · cases hmode with
    | opn h1 _ _ => exact h1.elim
    | reg _ _ h3 =>
      obtain ⟨i, hi, h5⟩ := exists_counted h3
      obtain ⟨g, hg, hs⟩ := hcom.wk i hi
      exact ⟨i + 1, g, hg, hs.running_of (by omega)⟩
    | last L _ h2 h3 _ =>
      obtain ⟨g, hg, hs⟩ := hcom.wk L h2
      exact ⟨L + 1, g, hg, hs.running_of (by omega)⟩
    | fin h1 _ => exact h1.elim

theorem all_awake (hAr : ∀ o g w, AnchW o g w → g.status = .running) (ha : gs[0]? = some a) (hcs : CS P ty Wg C Low n val AnchW End tag j e0 f0 d0 s a w) (hcom : Com P ty Wg C Low n val w₀ j gs w t D E os s d0) : ∀ g ∈ gs, awake g := by
  intro g hg tm
  obtain ⟨i, hi⟩ := Array.mem_iff_getElem?.1 hg
  cases i with
  | zero =>
    rw [ha] at hi; cases hi
    rcases hcs.status hAr with ⟨hs, _⟩ | ⟨hs, _⟩ <;> rw [hs] <;> simp
  | succ i =>
    have hlt : i < j := by have := (Array.getElem?_eq_some_iff.1 hi).1; rw [hcom.size] at this; omega
    obtain ⟨g', hg', hs⟩ := hcom.wk i hlt
    rw [hi] at hg'; cases hg'
    rcases hs.status with h | h <;> rw [h] <;> simp

theorem crowdStep (G : Plan Wg C Low) (hn : n < 2147483648) (hAr : ∀ o g w, AnchW o g w → g.status = .running) (hAn : ∀ o g w, AnchW o g w → PX P ty Wg C Low (SW1 P ty Wg C Low n AnchW End) o g w) :
    ∀ μ m t, Inv P ty Wg C Low n val AnchW End w₀ μ m t → (∃ m' ops, stepT P m = (.next m', ops) ∧ Joined P ty Wg C Low n val End w₀ m' (t ++ ops)) ∨
      (∃ m' ops μ', stepT P m = (.next m', ops) ∧ Lt3 μ' μ ∧ Inv P ty Wg C Low n val AnchW End w₀ μ' m' (t ++ ops)) := by
  rintro μ m t ⟨gs, w, sl, j, D, E, os, s, tag, e0, f0, d0, a, st, sm, rfl, ha, hcs, hcom, hwg, hmode, rfl⟩
  obtain ⟨i, g, d, sl', hg, hrun, hstep⟩ := crowd_pick (P := P) (w := w) (sl := sl) (all_awake hAr ha hcs hcom) (someone_runs hAr ha hcs hcom hmode)
  rw [hstep]
  have hcs' := hcs.rely (RA.at w d)
  have hcom' := hcom.at d
  have hwg' : WgAt ty Wg (w.at d) st sm := hwg
  cases i with
  | zero =>
    rw [ha] at hg; cases hg
    exact stepCaller (sl := sl') G hn hAn ha hcs' hcom' hwg' hmode hrun
  | succ i =>
    have hi : i < j := by have := (Array.getElem?_eq_some_iff.1 hg).1; rw [hcom.size] at this; omega
    exact .inr (stepWorker G hAr hn ha hcs' hcom' hwg' hmode hi hg hrun)

theorem crowdJoins (G : Plan Wg C Low) (hn : n < 2147483648) (hAr : ∀ o g w, AnchW o g w → g.status = .running) (hAn : ∀ o g w, AnchW o g w → PX P ty Wg C Low (SW1 P ty Wg C Low n AnchW End) o g w) :
    ∀ μ m t, Inv P ty Wg C Low n val AnchW End w₀ μ m t → ∃ N m' t', runNT P N m t = (.next m', t') ∧ Joined P ty Wg C Low n val End w₀ m' t' := by
  intro μ
  induction μ using lt3_wf.induction with
  | _ μ ih =>
    intro m t hI
    rcases crowdStep G hn hAr hAn μ m t hI with ⟨m', ops, h1, h2⟩ | ⟨m', ops, μ', h1, h2, h3⟩
    · exact ⟨1, m', t ++ ops, by simp only [runNT, h1], h2⟩
    · obtain ⟨N, m'', t'', h4, h5⟩ := ih μ' h2 m' (t ++ ops) h3
      exact ⟨N + 1, m'', t'', by simp only [runNT, h1]; exact h4, h5⟩
end
end Go.Proofs.YtgdlakhfkmhlnaaWear
namespace Go.Proofs.YtgdlakhfkmhlnaaWear
open Go.Conc Go.ConcN
open Go.ConcR (mk)

def PastS (X : Nat) (t : Trace) : Prop := ∀ B, (∀ op ∈ t, op.act.low B) → Past (ShN X) B t
theorem low_ex (x : MemAct) : ∃ B, x.low B := by
  cases x with
  | access e =>
    obtain ⟨l, a, b⟩ := e
    cases l with
    | cell a => exact ⟨a.block + 1, Nat.lt_succ_self _⟩
    | obj r => exact ⟨r + 1, Nat.lt_succ_self _⟩
    | _ => exact ⟨0, trivial⟩
  | mark m =>
    cases m with
    | acquire a => exact ⟨a.block + 1, Nat.lt_succ_self _⟩
    | release a => exact ⟨a.block + 1, Nat.lt_succ_self _⟩
    | releaseMerge a => exact ⟨a.block + 1, Nat.lt_succ_self _⟩
    | read a => exact ⟨a.block + 1, Nat.lt_succ_self _⟩
    | write a => exact ⟨a.block + 1, Nat.lt_succ_self _⟩
    | _ => exact ⟨0, trivial⟩
  | go _ => exact ⟨0, trivial⟩
  | start => exact ⟨0, trivial⟩
  | send c _ => exact ⟨c + 1, Nat.lt_succ_self _⟩
  | sendDone c _ => exact ⟨c + 1, Nat.lt_succ_self _⟩
  | recv c _ _ => exact ⟨c + 1, Nat.lt_succ_self _⟩
  | recvDone c _ => exact ⟨c + 1, Nat.lt_succ_self _⟩
  | close c => exact ⟨c + 1, Nat.lt_succ_self _⟩
  | recvClosed c => exact ⟨c + 1, Nat.lt_succ_self _⟩
theorem low_all (t : Trace) : ∃ B, ∀ op ∈ t, op.act.low B := by
  obtain ⟨l⟩ := t
  suffices h : ∃ B, ∀ op ∈ l, op.act.low B by simpa using h
  induction l with
  | nil => exact ⟨0, by simp⟩
  | cons x l ih =>
    obtain ⟨B, hB⟩ := ih
    obtain ⟨B', hB'⟩ := low_ex x.act
    refine ⟨max B B', fun op hop => ?_⟩
    rcases List.mem_cons.1 hop with rfl | hop
    · exact MemAct.low_mono (Nat.le_max_right _ _) hB'
    · exact MemAct.low_mono (Nat.le_max_left _ _) (hB op hop)
theorem PastS.own {X : Nat} {t : Trace} (h : PastS X t) {fn : FuncId} {pos : String} {es : Array Event} (hes : ∀ e ∈ es, Clean X e) : PastS X (t ++ MemOp.ofEvents 0 fn pos es) := by
  intro B hB
  refine (h B fun op hop => hB op (Array.mem_append.2 (.inl hop))).own fun e he => ?_
  have hl : (MemAct.ofEvent e).low B := by
    refine hB { g := 0, fn, pos, act := .ofEvent e } (Array.mem_append.2 (.inr ?_))
    rw [ofEvents_eq]
    exact Array.mem_map.2 ⟨e, he, rfl⟩
  rcases hes e he with ⟨a, wr, rfl, hne⟩ | rfl | ⟨r, sy, rfl⟩
  · refine ⟨fun x hx hs => ?_, by simp, by simp, hl⟩
    simp only [ofEvent_cell0, MemAct.touch?, Option.some.injEq] at hx
    subst hx
    obtain ⟨b, e, hb⟩ := hs
    injection e with e; subst e
    exact absurd hb hne
  · exact ⟨fun x hx => by simp [MemAct.ofEvent, MemAct.touch?] at hx, by simp, by simp, hl⟩
  · refine ⟨fun x hx hs => ?_, by simp, by simp, hl⟩
    obtain ⟨b, e, hb⟩ := hs
    cases sy <;> (simp only [MemAct.ofEvent, MemAct.touch?, Option.some.injEq] at hx; subst hx; cases e)
theorem PastS.mute {X : Nat} {t : Trace} (h : PastS X t) {g : Nat} (hg : g ≠ 0) {fn : FuncId} {pos : String} {es : Array Event} (hm : ∀ e ∈ es, e.mute = true) : PastS X (t ++ MemOp.ofEvents g fn pos es) :=
  fun B hB => (h B fun op hop => hB op (Array.mem_append.2 (.inl hop))).mute hg hm

section
variable {P : Program} {X : Nat} {gs : Array Goroutine} {a : Goroutine} {w : World} {sl : Option (Nat × Nat)} {t : Trace} {q : Nat → Nat}
/-- The machine's next step beside leavers: goroutine 0's, or a leaver slips. -/
theorem beside_pick (h0 : gs[0]? = some a) (hrun : a.status = .running) (hL : Leavers P t gs q) (hP : PastS X t) :
    (∃ d sl', stepT P (crowd gs w sl) = runT P (crowd gs (w.at d) sl') 0) ∨
    ∃ d sl' gs' ops q', stepT P (crowd gs w sl) = (.next (crowd gs' (w.at d) sl'), ops) ∧ gs'.size = gs.size ∧ gs'[0]? = some a ∧ Leavers P (t ++ ops) gs' q' ∧ PastS X (t ++ ops) ∧ sumTo gs'.size q' < sumTo gs.size q := by
  have haw : ∀ g ∈ gs, awake g := by
    intro g hg
    obtain ⟨i, hi, rfl⟩ := Array.mem_iff_getElem.1 hg
    rcases Nat.eq_zero_or_pos i with rfl | hpos
    · have : gs[0] = a := by simpa [Array.getElem?_eq_getElem hi] using h0
      rw [this]; exact awake_of (.inl hrun)
    · exact awake_of ((hL.old i _ hpos (Array.getElem?_eq_getElem hi)).status.elim .inl fun x => .inr (.inr x))
  obtain ⟨i, g, d, sl', hi, hg, hst⟩ := crowd_pick (P := P) (w := w) (sl := sl) haw ⟨0, a, h0, hrun⟩
  rcases Nat.eq_zero_or_pos i with rfl | hpos
  · exact .inl ⟨d, sl', hst⟩
  · have hq := hL.old i g hpos hi
    have hi0 : (i == 0) = false := by simp; omega
    have hlt : i < gs.size := (Array.getElem?_eq_some_iff.1 hi).1
    cases hqi : q i with
    | zero => rw [hqi] at hq; rw [hq.1] at hg; cases hg
    | succ k =>
      rw [hqi] at hq
      rcases hq with ⟨hf, _⟩ | ⟨_, g', es, hm, hstp, hq'⟩
      · rw [hf] at hg; cases hg
      have hrunT := runT_crowd_go (P := P) (sl := sl') (i := i) hi (by rw [hi0]; exact hstp (w.at d))
      have hsz : ((gs.map (woken P g g' (w.at d))).setIfInBounds i g').size = gs.size := by simp
      have hsum : sumTo gs.size (upd q i k) + (k + 1) = sumTo gs.size q + k := by
        have := sumTo_upd q k id hlt
        simpa [hqi] using this
      have hother : ∀ j, j ≠ i → Deaf (t ++ MemOp.ofEvents i g.frame.fn g.frame.place es) j = Deaf t j := fun j hj =>
        Deaf_other t (g' := i) (fun e => hj e.symm) _ (fun op hop => by obtain ⟨e, _, rfl⟩ := Go.Conc.mem_ofEvents hop; rfl)
      refine .inr ⟨d, sl', _, _, upd q i k, hst.trans hrunT, hsz, ?_, ⟨fun j x hj hx => ?_, fun j hj => ?_⟩, hP.mute (by omega) hm, by rw [hsz]; omega⟩
      · have hne : i ≠ 0 := by omega
        rw [Array.getElem?_setIfInBounds_ne hne, Array.getElem?_map, h0]
        simp [woken_run hrun]
      · by_cases hji : i = j
        · subst hji
          rw [Array.getElem?_setIfInBounds_self_of_lt (by simpa using hlt)] at hx
          obtain rfl := Option.some.inj hx
          rw [upd_same, Deaf_own]
          exact hq'
        · rw [Array.getElem?_setIfInBounds_ne hji, Array.getElem?_map] at hx
          obtain ⟨y, hy, rfl⟩ := Option.map_eq_some_iff.1 hx
          have hqj := hL.old j y hj hy
          rw [woken_quitsD hqj, upd_ne q k (Ne.symm hji), hother j (Ne.symm hji)]
          exact hqj
      · rw [hsz] at hj
        rw [hother j (by omega)]
        exact hL.above j hj

theorem leavers_step0 (h0 : gs[0]? = some a) (hL : Leavers P t gs q) {a' : Goroutine} {w' : World} {fn : FuncId} {pos : String} {es : Array Event} :
    ((gs.map (woken P a a' w')).setIfInBounds 0 a')[0]? = some a' ∧ ((gs.map (woken P a a' w')).setIfInBounds 0 a').size = gs.size ∧ Leavers P (t ++ MemOp.ofEvents 0 fn pos es) ((gs.map (woken P a a' w')).setIfInBounds 0 a') q := by
  have hlt : 0 < gs.size := (Array.getElem?_eq_some_iff.1 h0).1
  have hother : ∀ j, j ≠ 0 → Deaf (t ++ MemOp.ofEvents 0 fn pos es) j = Deaf t j := fun j hj =>
    Deaf_other t (g' := 0) (fun e => hj e.symm) _ (fun op hop => by obtain ⟨e, _, rfl⟩ := Go.Conc.mem_ofEvents hop; rfl)
  refine ⟨by simp [hlt], by simp, ⟨fun j x hj hx => ?_, fun j hj => ?_⟩⟩
  · have hne : 0 ≠ j := by omega
    rw [Array.getElem?_setIfInBounds_ne hne, Array.getElem?_map] at hx
    obtain ⟨y, hy, rfl⟩ := Option.map_eq_some_iff.1 hx
    have hq := hL.old j y hj hy
    rw [woken_quitsD hq, hother j (by omega)]
    exact hq
  · rw [hother j (by simp at hj; omega)]
    exact hL.above j (by simpa using hj)
end

/-- ████ THE LAST WALK BESIDE LEAVERS, BY A LONE RUN. ████ -/
theorem will_ends {P : Program} {X : Nat} {Fin : Frame → World → Prop} {Post : Value → World → Prop}
    (hEnd : ∀ fr w w0, Alike X w w0 → Fin fr w0 → ∃ v es, stepG P true (G fr []) w = .ended (.done v) w es ∧ (∀ e ∈ es, Clean X e) ∧ Post v w) {fr : Frame} {rest : List Frame} {w : World} (hW : Will P X Fin fr rest w) :
    ∀ (M : Nat) (gs : Array Goroutine) (d : Nat) (T : Nat → Question → Nat) (sl : Option (Nat × Nat)) (t : Trace) (q : Nat → Nat), sumTo gs.size q ≤ M → gs[0]? = some (G fr rest) → Leavers P t gs q → PastS X t →
      ∃ N last o w' t', runNT P (N + 1) (crowd gs (w.wt T d) sl) t = (.ended o w', t') ∧ runN P N (crowd gs (w.wt T d) sl) = .next last ∧ step P last = .ended o w' ∧ Good P Post last o w' t' := by
  have more : ∀ {m m1 : Machine} {t : Trace} {ops : Array MemOp}, stepT P m = (.next m1, ops) → (∃ N last o w' t', runNT P (N + 1) m1 (t ++ ops) = (.ended o w', t') ∧ runN P N m1 = .next last ∧ step P last = .ended o w' ∧ Good P Post last o w' t') →
      ∃ N last o w' t', runNT P (N + 1) m t = (.ended o w', t') ∧ runN P N m = .next last ∧ step P last = .ended o w' ∧ Good P Post last o w' t' := by
    rintro m m1 t ops hs ⟨N, last, o, w', t', h1, h2, h3, h4⟩
    exact ⟨N + 1, last, o, w', t', by rw [runNT]; simp only [hs]; exact h1, by rw [runN]; simp only [step, hs]; exact h2, h3, h4⟩
  induction hW with
  | stop hs =>
    rename_i fr w
    obtain ⟨w0, hA, hfin⟩ := hs
    intro M
    induction M using Nat.strongRecOn with
    | _ M ihM =>
      intro gs d T sl t q hM h0 hL hP
      rcases beside_pick (P := P) (w := w.wt T d) (sl := sl) h0 rfl hL hP with ⟨d', sl', hst⟩ | ⟨d', sl', gs', ops, q', hst, hsz, h0', hL', hP', hlt⟩
      · obtain ⟨v, es, hend, hes, hpost⟩ := hEnd fr (w.wt T d') w0 (alike_wt hA T d') hfin
        have hrunT := runT_many_ended (P := P) (sl := sl') (i := 0) h0 (show stepG P (0 == 0) (G fr []) ((w.wt T d).at d') = _ from hend)
        have hP' := hP.own (fn := (G fr []).frame.fn) (pos := (G fr []).frame.place) hes
        obtain ⟨B, hB⟩ := low_all (t ++ MemOp.ofEvents 0 (G fr []).frame.fn (G fr []).frame.place es)
        have hPB := hP' B hB
        have hstT := hst.trans hrunT
        refine ⟨0, crowd gs (w.wt T d) sl, _, _, _, by rw [runNT]; simp only [hstT], rfl, by rw [step, hstT], v, rfl, hpost, hPB.clean, hPB.over, ⟨fun x hx => ?_, rfl⟩, fun j x hx hj => ?_⟩
        · obtain ⟨j, hj⟩ := List.mem_iff_getElem?.1 hx
          rw [List.getElem?_drop] at hj
          exact ⟨_, (hL.old (1 + j) x (by omega) (by simpa [crowd] using hj)).leaves⟩
        · have hq := hL.old j x (by omega) hx
          refine ⟨q j, ?_⟩
          have e : (t ++ MemOp.ofEvents 0 (G fr []).frame.fn (G fr []).frame.place es).deaf j (t ++ MemOp.ofEvents 0 (G fr []).frame.fn (G fr []).frame.place es).size = Deaf t j :=
            Deaf_other t (g := j) (g' := 0) (by omega) _ (fun op hop => by obtain ⟨e, _, rfl⟩ := Go.Conc.mem_ofEvents hop; rfl)
          rw [e]
          exact hq.hears _
      · exact more hst (ihM (sumTo gs'.size q') (by omega) gs' d' T sl' _ q' (Nat.le_refl _) h0' hL' hP')
  | step nx h1 h2 ih =>
    rename_i fr rest w
    intro M
    induction M using Nat.strongRecOn with
    | _ M ihM =>
      intro gs d T sl t q hM h0 hL hP
      rcases beside_pick (P := P) (w := w.wt T d) (sl := sl) h0 rfl hL hP with ⟨d', sl', hst⟩ | ⟨d', sl', gs', ops, q', hst, hsz, h0', hL', hP', hlt⟩
      · obtain ⟨hs, _, hes⟩ := h1 T d'
        have hrunT := runT_crowd_go (P := P) (sl := sl') (i := 0) h0 (show stepG P (0 == 0) (G fr rest) ((w.wt T d).at d') = _ from hs)
        obtain ⟨h0', hsz, hL'⟩ := leavers_step0 (P := P) (a' := G (nx T d').1 (nx T d').2.1) (w' := (nx T d').2.2.1) (fn := (G fr rest).frame.fn) (pos := (G fr rest).frame.place) (es := (nx T d').2.2.2) h0 hL
        exact more (hst.trans hrunT) (ih T d' _ _ (nx T d').2.2.1.drawn (nx T d').2.2.1.tape sl' _ q (Nat.le_refl _) h0' hL' (hP.own hes))
      · exact more hst (ihM (sumTo gs'.size q') (by omega) gs' d' T sl' _ q' (Nat.le_refl _) h0' hL' hP')
end Go.Proofs.YtgdlakhfkmhlnaaWear
