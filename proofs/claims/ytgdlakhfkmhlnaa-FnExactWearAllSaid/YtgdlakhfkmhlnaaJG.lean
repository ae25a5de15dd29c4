/- The lone walk to the fork, and behind the join. -/
import Derived.Test.YtgdlakhfkmhlnaaJF
import Derived.Test.YtgdlakhfkmhlnaaPa0
import Derived.Test.YtgdlakhfkmhlnaaPa1
import Derived.Test.YtgdlakhfkmhlnaaPa2
import Derived.Test.YtgdlakhfkmhlnaaPa3
import Derived.Test.YtgdlakhfkmhlnaaPa4
import Derived.Test.YtgdlakhfkmhlnaaPa5
import Derived.Conc.LoneCalls
set_option linter.unusedVariables false
set_option linter.unusedSimpArgs false
set_option linter.unusedSectionVars false
namespace Go.Proofs.YtgdlakhfkmhlnaaWear
open Go.Conc Go.ConcN Go.RowKit Go.Conc.Lib Go.ConcR.Gen Go.Proofs.Try
open Go.ConcR (KK wgBlock WgAt stA smA rd wr mk Payload Aside2 DC0)
variable [Payload]

/-! ### the small functions that the law calls -/
theorem noSteps : ∀ g, prog.stepOf g = none := by
  have h : (prog.funcs.all fun f => f.body.all fun c => (readies c).isEmpty) = true := by decide +kernel
  intro g
  unfold Program.stepOf
  rw [Array.findIdx?_eq_none_iff]
  intro f hf
  have := Array.all_eq_true'.1 h f hf
  cases hb : f.body with
  | none => rfl
  | some c =>
    rw [hb] at this
    simp only [Option.all_some] at this
    simp only [Option.map_some, Option.any_some]
    cases hr : (readies c).contains g with
    | false => rfl
    | true => simp_all

def FP (f : FuncId) : Bool := [4, 9, 15, 6, 11, 18, 28, 49, 5, 10, 16, 17, 27, 12, 19, 20, 29, 50, 51, 52, 8, 14, 26, 48, 58].contains f
set_option maxRecDepth 100000 in
theorem plainP : Plain prog FP true := by
  refine ⟨by kernel_rfl, fun f hf => ?_, by decide +kernel, noSteps⟩
  have hm : f ∈ [4, 9, 15, 6, 11, 18, 28, 49, 5, 10, 16, 17, 27, 12, 19, 20, 29, 50, 51, 52, 8, 14, 26, 48, 58] := List.contains_iff_mem.1 hf
  simp only [List.mem_cons, List.not_mem_nil, or_false] at hm
  rcases hm with rfl | rfl | rfl | rfl | rfl | rfl | rfl | rfl | rfl | rfl | rfl | rfl | rfl | rfl | rfl | rfl | rfl | rfl | rfl | rfl | rfl | rfl | rfl | rfl | rfl
  · exact ⟨f4, (f4.body).getD .skip, func4, by kernel_rfl, by kernel_rfl, by kernel_rfl⟩
  · exact ⟨f9, (f9.body).getD .skip, func9, by kernel_rfl, by kernel_rfl, by kernel_rfl⟩
  · exact ⟨f15, (f15.body).getD .skip, func15, by kernel_rfl, by kernel_rfl, by kernel_rfl⟩
  · exact ⟨f6, (f6.body).getD .skip, func6, by kernel_rfl, by kernel_rfl, by kernel_rfl⟩
  · exact ⟨f11, (f11.body).getD .skip, func11, by kernel_rfl, by kernel_rfl, by kernel_rfl⟩
  · exact ⟨f18, (f18.body).getD .skip, func18, by kernel_rfl, by kernel_rfl, by kernel_rfl⟩
  · exact ⟨f28, (f28.body).getD .skip, func28, by kernel_rfl, by kernel_rfl, by kernel_rfl⟩
  · exact ⟨f49, (f49.body).getD .skip, func49, by kernel_rfl, by kernel_rfl, by kernel_rfl⟩
  · exact ⟨f5, (f5.body).getD .skip, func5, by kernel_rfl, by kernel_rfl, by kernel_rfl⟩
  · exact ⟨f10, (f10.body).getD .skip, func10, by kernel_rfl, by kernel_rfl, by kernel_rfl⟩
  · exact ⟨f16, (f16.body).getD .skip, func16, by kernel_rfl, by kernel_rfl, by kernel_rfl⟩
  · exact ⟨f17, (f17.body).getD .skip, func17, by kernel_rfl, by kernel_rfl, by kernel_rfl⟩
  · exact ⟨f27, (f27.body).getD .skip, func27, by kernel_rfl, by kernel_rfl, by kernel_rfl⟩
  · exact ⟨f12, (f12.body).getD .skip, func12, by kernel_rfl, by kernel_rfl, by kernel_rfl⟩
  · exact ⟨f19, (f19.body).getD .skip, func19, by kernel_rfl, by kernel_rfl, by kernel_rfl⟩
  · exact ⟨f20, (f20.body).getD .skip, func20, by kernel_rfl, by kernel_rfl, by kernel_rfl⟩
  · exact ⟨f29, (f29.body).getD .skip, func29, by kernel_rfl, by kernel_rfl, by kernel_rfl⟩
  · exact ⟨f50, (f50.body).getD .skip, func50, by kernel_rfl, by kernel_rfl, by kernel_rfl⟩
  · exact ⟨f51, (f51.body).getD .skip, func51, by kernel_rfl, by kernel_rfl, by kernel_rfl⟩
  · exact ⟨f52, (f52.body).getD .skip, func52, by kernel_rfl, by kernel_rfl, by kernel_rfl⟩
  · exact ⟨f8, (f8.body).getD .skip, func8, by kernel_rfl, by kernel_rfl, by kernel_rfl⟩
  · exact ⟨f14, (f14.body).getD .skip, func14, by kernel_rfl, by kernel_rfl, by kernel_rfl⟩
  · exact ⟨f26, (f26.body).getD .skip, func26, by kernel_rfl, by kernel_rfl, by kernel_rfl⟩
  · exact ⟨f48, (f48.body).getD .skip, func48, by kernel_rfl, by kernel_rfl, by kernel_rfl⟩
  · exact ⟨f58, (f58.body).getD .skip, func58, by kernel_rfl, by kernel_rfl, by kernel_rfl⟩
def FS (f : FuncId) : Bool := [6, 11, 18, 28, 49, 8, 14, 26, 48, 58].contains f
set_option maxRecDepth 100000 in
theorem plainS : Plain prog FS false := by
  refine ⟨by kernel_rfl, fun f hf => ?_, by decide +kernel, noSteps⟩
  have hm : f ∈ [6, 11, 18, 28, 49, 8, 14, 26, 48, 58] := List.contains_iff_mem.1 hf
  simp only [List.mem_cons, List.not_mem_nil, or_false] at hm
  rcases hm with rfl | rfl | rfl | rfl | rfl | rfl | rfl | rfl | rfl | rfl
  · exact ⟨f6, (f6.body).getD .skip, func6, by kernel_rfl, by kernel_rfl, by kernel_rfl⟩
  · exact ⟨f11, (f11.body).getD .skip, func11, by kernel_rfl, by kernel_rfl, by kernel_rfl⟩
  · exact ⟨f18, (f18.body).getD .skip, func18, by kernel_rfl, by kernel_rfl, by kernel_rfl⟩
  · exact ⟨f28, (f28.body).getD .skip, func28, by kernel_rfl, by kernel_rfl, by kernel_rfl⟩
  · exact ⟨f49, (f49.body).getD .skip, func49, by kernel_rfl, by kernel_rfl, by kernel_rfl⟩
  · exact ⟨f8, (f8.body).getD .skip, func8, by kernel_rfl, by kernel_rfl, by kernel_rfl⟩
  · exact ⟨f14, (f14.body).getD .skip, func14, by kernel_rfl, by kernel_rfl, by kernel_rfl⟩
  · exact ⟨f26, (f26.body).getD .skip, func26, by kernel_rfl, by kernel_rfl, by kernel_rfl⟩
  · exact ⟨f48, (f48.body).getD .skip, func48, by kernel_rfl, by kernel_rfl, by kernel_rfl⟩
  · exact ⟨f58, (f58.body).getD .skip, func58, by kernel_rfl, by kernel_rfl, by kernel_rfl⟩
end Go.Proofs.YtgdlakhfkmhlnaaWear
namespace Go.Proofs.YtgdlakhfkmhlnaaWear
open Go.Conc Go.ConcN Go.RowKit Go.Conc.Lib Go.ConcR.Gen Go.Proofs.Try
open Go.ConcR (KK wgBlock WgAt stA smA rd wr mk Payload Aside2 DC0)
variable [Payload]

/-! ### the lone run, step by step -/
def Lo (K : Frame → List Frame → World → Prop) (fr : Frame) (cs : List Frame) (w : World) : Prop := ∃ fr' cs' w', Steps prog (lone fr cs w) (lone fr' cs' w') ∧ K fr' cs' w'
section
variable {K : Frame → List Frame → World → Prop} {fr fr' : Frame} {cs cs' : List Frame} {w w' : World}
theorem lo_stop (h : K fr cs w) : Lo K fr cs w := ⟨fr, cs, w, .refl _ _, h⟩
theorem lo_steps (h : Steps prog (lone fr cs w) (lone fr' cs' w')) (h' : Lo K fr' cs' w') : Lo K fr cs w :=
  let ⟨a, b, c, h1, h2⟩ := h'; ⟨a, b, c, h.trans h1, h2⟩
theorem lo_go {es : Array Event} (h : stepG prog true (G fr cs) w = .go (G fr' cs') w' es) (h' : Lo K fr' cs' w') : Lo K fr cs w :=
  lo_steps (.one (step_solo rfl h)) h'
theorem lo_seen {P : Program} {f : FuncId} (es : Array Event) : ∃ e, e = seen P f es := ⟨_, rfl⟩
variable {b : Frame} {a : Act} {k : List Item} {ops : Array Oper} {j : Nat} {rest : List Nat} {o : Oper}
theorem lo_val {es : Array Event} (x : Value) (w' : World) (ho : ops[j]? = some o) (hw : Region.wanted o (yielded ops a.tmps) = true) (hk : b.kind ≠ .early) (hr : (execOp a.eval o).runT prog w #[] = (.ok (.value x) w', es))
    (h : Lo K (b.at (a.put o.dst x) (.inRegion ops rest :: k)) cs w') : Lo K (b.at a (.inRegion ops (j :: rest) :: k)) cs w :=
  lo_go (act_val ho hw hk hr) h
theorem lo_skip {es : Array Event} (w' : World) (ho : ops[j]? = some o) (hw : Region.wanted o (yielded ops a.tmps) = true) (hk : b.kind ≠ .early) (hr : (execOp a.eval o).runT prog w #[] = (.ok .skip w', es))
    (h : Lo K (b.at (a.put o.dst undef) (.inRegion ops rest :: k)) cs w') : Lo K (b.at a (.inRegion ops (j :: rest) :: k)) cs w :=
  lo_go (act_skip ho hw hk hr) h
theorem lo_enter {f : FuncId} {fn : Func} {c : Code} {args : Array Operand} {ats : Array TypeId} {vals : Array Value} {n : Nat}
    (ho : ops[j]? = some o) (hw : Region.wanted o (yielded ops a.tmps) = true) (hk : b.kind ≠ .early) (hop : o.op = .call { callee := .value (.func f), args, argTypes := ats })
    (hf : prog.funcs[f]? = some fn) (hname : (fn.name == "runtime.NumGoroutine") = false) (hb : fn.body = some c) (hv : args.map a.eval = vals) (hnt : fn.ntmps - vals.size = n)
    (h : Lo K ((base f).at ⟨vals ++ Array.replicate n undef, []⟩ [.code c]) (b.at a (.inRegion ops (j :: rest) :: k) :: cs) w) : Lo K (b.at a (.inRegion ops (j :: rest) :: k)) cs w := by
  subst hv hnt
  have := goes_call (P := prog) (main := true) (w := w) (K := fun g' w' es' => g' = G ((base f).at { tmps := args.map a.eval ++ Array.replicate (fn.ntmps - (args.map a.eval).size) undef, defers := [] } [.code c]) (b.at a (.inRegion ops (j :: rest) :: k) :: cs) ∧ w' = w ∧ es' = #[]) (cs := cs) (k := k) ho hw hk hop hf hname hb ⟨rfl, rfl, rfl⟩
  cases hs : stepG prog true (G (b.at a (.inRegion ops (j :: rest) :: k)) cs) w <;> rw [hs] at this <;> first | exact this.elim | (obtain ⟨rfl, rfl, rfl⟩ := this; exact lo_go hs h)
theorem lo_leave {fn : Func} {c : Frame} {x : Value} (hm : fr.mode = .returning) (hn : fr.kind = .normal) (hd : fr.defers = []) (hf : prog.funcs[fr.fn]? = some fn) (hr : (results fn fr.tmps).run prog w = .ok x w) (h : Lo K (c.finish x) cs w) : Lo K fr (c :: cs) w :=
  lo_steps (.one (step_leave_returned ⟨hm, hd, hn, fn, hf, hr⟩)) h
theorem lo_call {f : FuncId} {fn : Func} {c : Code} {args : Array Operand} {ats : Array TypeId} {vals : Array Value} {R : Ending → World → Prop}
    (ho : ops[j]? = some o) (hw : Region.wanted o (yielded ops a.tmps) = true) (hk : b.kind ≠ .early) (hop : o.op = .call { callee := .value (.func f), args, argTypes := ats })
    (hf : prog.funcs[f]? = some fn) (hname : (fn.name == "runtime.NumGoroutine") = false) (hb : fn.body = some c) (hv : args.map a.eval = vals)
    (hc : Calls prog f vals w R) (hR : ∀ e w', R e w' → ∃ x, e = .returned x ∧ Lo K (b.at (a.put o.dst x) (.inRegion ops rest :: k)) cs w') : Lo K (b.at a (.inRegion ops (j :: rest) :: k)) cs w := by
  refine lo_enter ho hw hk hop hf hname hb hv rfl ?_
  obtain ⟨e, w', fr, hr, hcomes, hfn, hleave⟩ := hc (b.at a (.inRegion ops (j :: rest) :: k) :: cs)
  obtain ⟨x, rfl, hlo⟩ := hR e w' hr
  have henter := enter_at (P := prog) vals hf hb
  rw [henter] at hcomes
  refine lo_steps hcomes (lo_steps (.one (step_leave_returned hleave)) ?_)
  rw [Frame.finish_at, ho]
  exact hlo
end

/-! ### the same, told with its trace -/
def Lt (K : Frame → List Frame → World → Prop) (fr : Frame) (cs : List Frame) (w : World) : Prop :=
  ∃ n fr' cs' w' u, (∀ t, runNT prog n (solo (G fr cs) w) t = (.next (solo (G fr' cs') w'), t ++ u)) ∧ (∀ op ∈ u, op.g = 0 ∧ ∃ e, EvP w'.heap.size e ∧ op.act = .ofEvent e) ∧ w.heap.size ≤ w'.heap.size ∧ K fr' cs' w'
section
variable {K : Frame → List Frame → World → Prop} {fr fr' : Frame} {cs cs' : List Frame} {w w' : World}
theorem lt_stop (h : K fr cs w) : Lt K fr cs w := ⟨0, fr, cs, w, #[], fun t => by simp [runNT], by simp, Nat.le_refl _, h⟩
theorem EvP.mono {n n' : Nat} {e : Event} (h : EvP n e) (hn : n ≤ n') : EvP n' e := ⟨h.1, h.2.mono hn⟩
theorem lt_ev {es : Array Event} (h : stepG prog true (G fr cs) w = .go (G fr' cs') w' es) (he : ∀ e ∈ es, EvP w'.heap.size e) (hs : w.heap.size ≤ w'.heap.size) (h' : Lt K fr' cs' w') : Lt K fr cs w := by
  obtain ⟨n, f1, c1, w1, u, h1, h2, h3, h4⟩ := h'
  refine ⟨n + 1, f1, c1, w1, MemOp.ofEvents 0 fr.fn fr.place es ++ u, fun t => ?_, fun op hop => ?_, Nat.le_trans hs h3, h4⟩
  · have hstT : stepT prog (solo (G fr cs) w) = (.next (solo (G fr' cs') w'), MemOp.ofEvents 0 fr.fn fr.place es) := by
      rw [Go.Conc.stepT_solo rfl, Go.Conc.runT_solo_go h]
      rfl
    simp only [runNT, hstT]
    rw [h1, Array.append_assoc]
  · rcases Array.mem_append.1 hop with hop | hop
    · rw [Go.Conc.ofEvents_eq] at hop
      obtain ⟨e, hm, rfl⟩ := Array.mem_map.1 hop
      exact ⟨rfl, e, (he e hm).mono h3, rfl⟩
    · exact h2 op hop
theorem lt_go (h : stepG prog true (G fr cs) w = .go (G fr' cs') w #[]) (h' : Lt K fr' cs' w) : Lt K fr cs w := lt_ev h (by simp) (Nat.le_refl _) h'
theorem ev_of {α : Type} {s : Sem α} (hu : Unmarked prog s) {x : α} {es : Array Event} (hr : s.runT prog w #[] = (.ok x w', es)) : (∀ e ∈ es, EvP w'.heap.size e) ∧ w.heap.size ≤ w'.heap.size := by
  refine ⟨fun e he => ⟨?_, ?_⟩, ?_⟩
  · exact hu.events w #[] (by simp) e (by rw [hr]; exact he)
  · have := (low (P := prog) s w #[] (by simp)).2
    rw [hr] at this
    exact this e he
  · have := (low (P := prog) s w #[] (by simp)).1
    rw [hr] at this
    exact this
theorem u3 : prog.underlying 3 = some (.int .i64) := by kernel_rfl
variable {b : Frame} {a : Act} {k : List Item} {ops : Array Oper} {j : Nat} {rest : List Nat} {o : Oper}
theorem lt_val {es : Array Event} (x : Value) (w' : World) (ho : ops[j]? = some o) (hok : (okT o.op || okU o.op) = true) (hw : Region.wanted o (yielded ops a.tmps) = true) (hk : b.kind ≠ .early) (hr : (execOp a.eval o).runT prog w #[] = (.ok (.value x) w', es))
    (h : Lt K (b.at (a.put o.dst x) (.inRegion ops rest :: k)) cs w') : Lt K (b.at a (.inRegion ops (j :: rest) :: k)) cs w := by
  have hu := okU_unmarked u3 (o := o) (by simpa using hok) a.eval
  obtain ⟨h1, h2⟩ := ev_of hu hr
  exact lt_ev (act_val ho hw hk hr) (fun e he => h1 e (Go.Conc.mem_seen he)) h2 h
theorem lt_skip {es : Array Event} (w' : World) (ho : ops[j]? = some o) (hok : (okT o.op || okU o.op) = true) (hw : Region.wanted o (yielded ops a.tmps) = true) (hk : b.kind ≠ .early) (hr : (execOp a.eval o).runT prog w #[] = (.ok .skip w', es))
    (h : Lt K (b.at (a.put o.dst undef) (.inRegion ops rest :: k)) cs w') : Lt K (b.at a (.inRegion ops (j :: rest) :: k)) cs w := by
  have hu := okU_unmarked u3 (o := o) (by simpa using hok) a.eval
  obtain ⟨h1, h2⟩ := ev_of hu hr
  exact lt_ev (act_skip ho hw hk hr) (fun e he => h1 e (Go.Conc.mem_seen he)) h2 h
theorem lt_enter {f : FuncId} {fn : Func} {c : Code} {args : Array Operand} {ats : Array TypeId} {vals : Array Value} {n : Nat}
    (ho : ops[j]? = some o) (hw : Region.wanted o (yielded ops a.tmps) = true) (hk : b.kind ≠ .early) (hop : o.op = .call { callee := .value (.func f), args, argTypes := ats })
    (hf : prog.funcs[f]? = some fn) (hname : (fn.name == "runtime.NumGoroutine") = false) (hb : fn.body = some c) (hv : args.map a.eval = vals) (hnt : fn.ntmps - vals.size = n)
    (h : Lt K ((base f).at ⟨vals ++ Array.replicate n undef, []⟩ [.code c]) (b.at a (.inRegion ops (j :: rest) :: k) :: cs) w) : Lt K (b.at a (.inRegion ops (j :: rest) :: k)) cs w := by
  subst hv hnt
  have := goes_call (P := prog) (main := true) (w := w) (K := fun g' w' es' => g' = G ((base f).at { tmps := args.map a.eval ++ Array.replicate (fn.ntmps - (args.map a.eval).size) undef, defers := [] } [.code c]) (b.at a (.inRegion ops (j :: rest) :: k) :: cs) ∧ w' = w ∧ es' = #[]) (cs := cs) (k := k) ho hw hk hop hf hname hb ⟨rfl, rfl, rfl⟩
  cases hs : stepG prog true (G (b.at a (.inRegion ops (j :: rest) :: k)) cs) w <;> rw [hs] at this <;> first | exact this.elim | (obtain ⟨rfl, rfl, rfl⟩ := this; exact lt_go hs h)
theorem lt_out {fn : Func} {c : Frame} {x : Value} (hm : fr.mode = .returning) (hn : fr.kind = .normal) (hd : fr.defers = []) (hf : prog.funcs[fr.fn]? = some fn) (hr : (results fn fr.tmps).run prog w = .ok x w) (h : Lt K (c.finish x) cs w) : Lt K fr (c :: cs) w := by
  obtain ⟨es, hes⟩ : ∃ es, (results fn fr.tmps).runT prog w #[] = (.ok x w, es) := ⟨_, by rw [Sem.runT_eq, hr]⟩
  obtain ⟨h1, h2⟩ := ev_of (t_results fn fr.tmps).unmarked hes
  refine lt_ev (es := seen prog fr.fn es) ?_ (fun e he => h1 e (Go.Conc.mem_seen he)) h2 h
  simp only [stepG, G, hm, unwind, hd, hf, hes, doReturn, hn]
  rfl
theorem lt_leave {fn : Func} {c : Frame} {x : Value} (hm : fr.mode = .returning) (hn : fr.kind = .normal) (hd : fr.defers = []) (hf : prog.funcs[fr.fn]? = some fn) (hr : (results fn fr.tmps).run prog w = .ok x w) (h : Lt K (c.finish x) cs w) : Lt K fr (c :: cs) w := lt_out hm hn hd hf hr h
theorem lt_call {F : FuncId → Bool} (hp : Plain prog F true) {f : FuncId} {fn : Func} {c : Code} {args : Array Operand} {ats : Array TypeId} {vals : Array Value} {R : Ending → World → Prop} (hFf : F f = true)
    (ho : ops[j]? = some o) (hw : Region.wanted o (yielded ops a.tmps) = true) (hk : b.kind ≠ .early) (hop : o.op = .call { callee := .value (.func f), args, argTypes := ats })
    (hf : prog.funcs[f]? = some fn) (hname : (fn.name == "runtime.NumGoroutine") = false) (hb : fn.body = some c) (hv : args.map a.eval = vals)
    (hc : Calls prog f vals w R) (hR : ∀ e w', R e w' → ∃ x, e = .returned x ∧ Lt K (b.at (a.put o.dst x) (.inRegion ops rest :: k)) cs w') : Lt K (b.at a (.inRegion ops (j :: rest) :: k)) cs w := by
  refine lt_enter ho hw hk hop hf hname hb hv rfl ?_
  obtain ⟨e, w', fr, hr, hcomes, hfn, hleave⟩ := hc [trap prog]
  obtain ⟨x, rfl, hlo⟩ := hR e w' hr
  obtain ⟨hm, hd, hkk, fn', hf', hres⟩ := hleave
  have hst : Steps prog (lone (Frame.enter prog f vals .normal) [trap prog] w) (lone fr [trap prog] w') := hcomes
  obtain ⟨n, hn⟩ := hst
  obtain ⟨g1, u, g2, g3⟩ := pre_call (rest := []) hp n (Frame.enter_ok hp.closed hFf vals).1 (.inl (Frame.enter_ok hp.closed hFf vals).2) (fun c hc => by simp at hc) hm (by exact hn)
  have hrest : Lt K fr (b.at a (.inRegion ops (j :: rest) :: k) :: cs) w' := lt_out hm hkk hd hf' hres (by rw [Frame.finish_at, ho]; exact hlo)
  obtain ⟨n2, f2, c2, w2, u2, k1, k2, k3, k4⟩ := hrest
  rw [enter_at (P := prog) vals hf hb] at g2
  refine ⟨n + n2, f2, c2, w2, u ++ u2, fun t => ?_, fun op hop => ?_, Nat.le_trans g1 k3, k4⟩
  · have := g2 (b.at a (.inRegion ops (j :: rest) :: k) :: cs) t
    rw [runNT_add]
    simp only [List.nil_append] at this
    rw [this]
    simp only
    rw [k1, Array.append_assoc]
  · rcases Array.mem_append.1 hop with hop | hop
    · obtain ⟨h0, e, he, hoe⟩ := g3 op hop
      exact ⟨h0, e, he.mono k3, hoe⟩
    · exact k2 op hop
end
end Go.Proofs.YtgdlakhfkmhlnaaWear
namespace Go.Proofs.YtgdlakhfkmhlnaaWear
open Go.Conc Go.ConcN Go.RowKit Go.Conc.Lib Go.ConcR.Gen Go.Proofs.Try
open Go.ConcR (KK wgBlock WgAt stA smA rd wr mk Payload Aside2 DC0)
variable [Payload]

open Go.Proofs.Ytgdlakhfkmhlnaa.Pa Go.Proofs.YtgdlakhfkmhlnaaW.PrintWords Go.Proofs.YtgdlakhfkmhlnaaW.PrintLast Go.Proofs.YtgdlakhfkmhlnaaW.PrintMore
/-! ### the law's tail: from region 8 on -/
noncomputable def body3 : Code := (f3.body).getD .skip
noncomputable def s8 : Code := match body3 with | .seq _ (.seq _ (.seq _ (.seq _ (.seq _ (.seq _ (.seq _ r)))))) => r | _ => .skip
theorem run_mk38 (w : World) : (do pure (.value (← Instr.makeSlice 38 (.int .i64 4) (.int .i64 4))) : Sem Next).runT prog w #[] = (.ok (.value (.slice (some ⟨w.heap.size, 0, none⟩) 4 4)) { w with heap := w.heap.push (.cells #[.int .i64 0, .int .i64 0, .int .i64 0, .int .i64 0, .int .i64 0, .int .i64 0, .int .i64 0, .int .i64 0] 41 (0, 0)) }, #[]) := by kernel_rfl
theorem runT_storeS {P : Program} {t : TypeId} (hs : ∀ w, (sizeOf t).run P w = .ok 1 w) {w : World} {b : Nat} {u : Value} {e : TypeId} {ad : Option Addr} {n c : Nat} (hb : w.heap[b]? = some (.cells #[u] e (0, 0))) :
    ∃ w', (Instr.storeAt t (.pointer (some ⟨b, 0, none⟩)) (.slice ad n c)).runT P w #[] = (.ok () w', #[⟨.cell ⟨b, 0, none⟩, true, false⟩]) ∧ w'.heap[b]? = some (.cells #[.slice ad n c] e (0, 0)) ∧ Kept b w w' := by
  have hc : w.cell? ⟨b, 0, none⟩ = some u := by simp [World.cell?, hb]
  have hz : w.frozen? ⟨b, 0, none⟩ = false := by simp [World.frozen?, hb]
  refine ⟨w.setCell ⟨b, 0, none⟩ (.slice ad n c), ?_, ?_, ⟨rfl, rfl, rfl, by simp [World.setCell], fun x hx => ?_⟩⟩
  · show Sem.runT P (Sem.bind (sizeOf t) _) w #[] = _
    rw [Sem.runT_bind', runT_sizeOf hs]
    simp only [Value.cells, List.size_toArray, List.length_cons, List.length_nil, ne_eq, not_true_eq_false, if_false]
    show Sem.runT P (Sem.bind (store ((⟨b, 0, none⟩ : Addr).add 0) (.slice ad n c)) fun _ => storeCells ⟨b, 0, none⟩ [] 1) w #[] = _
    have hst : (store ⟨b, 0 + 0, none⟩ (.slice ad n c)).runT P w #[] = (.ok () (w.setCell ⟨b, 0, none⟩ (.slice ad n c)), #[⟨.cell ⟨b, 0, none⟩, true, false⟩]) := by
      show Sem.runT P (.store .plain ⟨b, 0, none⟩ (.slice ad n c) (.pure ())) w #[] = _
      rw [Sem.runT]
      · simp only [hc, hz, Bool.false_eq_true, if_false]
        rfl
      · intro _ h; cases h
      · intro _ h; cases h
    rw [add_none, Sem.runT_bind', hst]
    rfl
  · have hlt : b < w.heap.size := (Array.getElem?_eq_some_iff.1 hb).1
    simp [World.setCell, Array.getElem?_modify, hb]
  · simp only [World.setCell, Array.getElem?_modify, Ne.symm hx, if_false]
section
variable {K : Frame → List Frame → World → Prop} {cs : List Frame}
set_option maxRecDepth 100000 in
set_option maxHeartbeats 4000000 in
theorem tail3 {A0 : Option Addr} {c0 k : Nat} {l0 : List S32} {r : List S36} {A1 : Option Addr} {c1 : Nat} {x : Int} {W : World} (hr0 : Kd.C k32 W A0 l0.length l0) (hc0 : l0.length ≤ c0) (hr1 : Kd.C k36 W A1 r.length r) (hc1 : r.length ≤ c1)
    (hto : laws_toBlockS.f k l0 = some r) (heq : laws_eqBlockS.f k r r = some true)
    (hK : ∀ (T : Array Value) (w' : World), T.size = 27 → T[2]? = some (.bool true) → Below W.heap.size W w' → K ((base 3).at ⟨T, []⟩ [.code .ret]) cs w')
    (x1 x2 x3 x7 x8 x9 x10 x11 x12 x13 x14 x15 x16 x17 x18 x19 x20 x21 x22 x23 x24 x25 x26 : Value) :
    Lo K ((base 3).at ⟨#[.slice A0 l0.length c0, x1, x2, x3, .int .i64 x, .slice A1 r.length c1, .int .i64 x, x7, x8, x9, x10, x11, x12, x13, x14, x15, x16, x17, x18, x19, x20, x21, x22, x23, x24, x25, x26], []⟩ [.code s8]) cs W := by
  simp only [s8, body3, f3, Option.getD_some]
  refine lo_go (stepG_seq) ?_
  refine lo_go (stepG_seq) ?_
  refine lo_go (stepG_region) ?_
  simp only [List.size_toArray, List.length_cons, List.length_nil, Nat.reduceAdd, Nat.zero_add, List.range, List.range.loop]
  refine lo_val (b := base 3) (es := #[]) (.int .i64 x) W (by rfl) (by rfl) (by decide) (by kernel_rfl) ?_
  walk_nrm
  refine lo_val (b := base 3) (es := #[]) (.int .i64 x) W (by rfl) (by rfl) (by decide) (by kernel_rfl) ?_
  walk_nrm
  refine lo_val (b := base 3) (es := #[]) (.bool false) W (by rfl) (by rfl) (by decide) (by go_simp) ?_
  walk_nrm
  refine lo_go (stepG_region_end) ?_
  refine lo_go (stepG_cond (t := false) rfl) ?_
  simp only [if_true, if_false, Bool.false_eq_true, ↓reduceIte]
  refine lo_go (stepG_skip) ?_
  refine lo_go (stepG_seq) ?_
  refine lo_go (stepG_seq) ?_
  refine lo_go (stepG_region) ?_
  simp only [List.size_toArray, List.length_cons, List.length_nil, Nat.reduceAdd, Nat.zero_add, List.range, List.range.loop]
  refine lo_val (b := base 3) (es := #[]) (.slice A1 r.length c1) W (by rfl) (by rfl) (by decide) (by kernel_rfl) ?_
  walk_nrm
  refine lo_val (b := base 3) (es := #[]) (.slice A0 l0.length c0) W (by rfl) (by rfl) (by decide) (by kernel_rfl) ?_
  walk_nrm
  refine lo_call (b := base 3) (fn := f6) (c := (f6.body).getD .skip) (vals := #[.slice A0 l0.length c0]) (by rfl) (by rfl) (by decide) (by rfl) func6 (by kernel_rfl) (by kernel_rfl) (by kernel_rfl) (laws_toBlockS.calls k A0 c0 l0 r W hr0 hc0 hto) ?_
  rintro e W2 ⟨v2, rfl, hS2, hb2⟩
  obtain ⟨A2, c2, rfl, hc2, hr2⟩ := Kd.R_reads (Kd.S_R hS2)
  refine ⟨_, rfl, ?_⟩
  have hr1 := Kd.C_below hr1 hb2
  walk_nrm
  refine lo_call (b := base 3) (fn := f8) (c := (f8.body).getD .skip) (vals := #[.slice A1 r.length c1, .slice A2 r.length c2]) (by rfl) (by rfl) (by decide) (by rfl) func8 (by kernel_rfl) (by kernel_rfl) (by kernel_rfl) (laws_eqBlockS.calls k A1 c1 r A2 c2 r true W2 hr1 hc1 hr2 hc2 heq) ?_
  rintro e W3 ⟨rfl, hb3⟩
  refine ⟨_, rfl, ?_⟩
  have hb := hb2.trans (hb3.mono hb2.size)
  walk_nrm
  refine lo_val (b := base 3) (es := #[]) (.bool false) W3 (by rfl) (by rfl) (by decide) (by kernel_rfl) ?_
  walk_nrm
  refine lo_go (stepG_region_end) ?_
  refine lo_go (stepG_cond (t := false) rfl) ?_
  simp only [if_true, if_false, Bool.false_eq_true, ↓reduceIte]
  refine lo_go (stepG_skip) ?_
  refine lo_go (stepG_seq) ?_
  refine lo_go (stepG_region) ?_
  simp only [List.size_toArray, List.length_cons, List.length_nil, Nat.reduceAdd, Nat.zero_add, List.range, List.range.loop]
  refine lo_val (b := base 3) (es := #[]) (.bool true) W3 (by rfl) (by rfl) (by decide) (by kernel_rfl) ?_
  walk_nrm
  refine lo_go (stepG_region_end) ?_
  exact lo_stop (hK _ _ (by rfl) (by rfl) hb)

set_option maxRecDepth 100000 in
set_option maxHeartbeats 4000000 in
theorem tail3t {A0 : Option Addr} {c0 k : Nat} {l0 : List S32} {r : List S36} {A1 : Option Addr} {c1 : Nat} {x : Int} {W : World} (hr0 : Kd.C k32 W A0 l0.length l0) (hc0 : l0.length ≤ c0) (hr1 : Kd.C k36 W A1 r.length r) (hc1 : r.length ≤ c1)
    (hto : laws_toBlockS.f k l0 = some r) (heq : laws_eqBlockS.f k r r = some true)
    (hK : ∀ (T : Array Value) (w' : World), T.size = 27 → T[2]? = some (.bool true) → Below W.heap.size W w' → K ((base 3).at ⟨T, []⟩ [.code .ret]) cs w')
    (x1 x2 x3 x7 x8 x9 x10 x11 x12 x13 x14 x15 x16 x17 x18 x19 x20 x21 x22 x23 x24 x25 x26 : Value) :
    Lt K ((base 3).at ⟨#[.slice A0 l0.length c0, x1, x2, x3, .int .i64 x, .slice A1 r.length c1, .int .i64 x, x7, x8, x9, x10, x11, x12, x13, x14, x15, x16, x17, x18, x19, x20, x21, x22, x23, x24, x25, x26], []⟩ [.code s8]) cs W := by
  simp only [s8, body3, f3, Option.getD_some]
  refine lt_go (stepG_seq) ?_
  refine lt_go (stepG_seq) ?_
  refine lt_go (stepG_region) ?_
  simp only [List.size_toArray, List.length_cons, List.length_nil, Nat.reduceAdd, Nat.zero_add, List.range, List.range.loop]
  refine lt_val (b := base 3) (es := #[]) (.int .i64 x) W (by rfl) (by kernel_rfl) (by rfl) (by decide) (by kernel_rfl) ?_
  walk_nrm
  refine lt_val (b := base 3) (es := #[]) (.int .i64 x) W (by rfl) (by kernel_rfl) (by rfl) (by decide) (by kernel_rfl) ?_
  walk_nrm
  refine lt_val (b := base 3) (es := #[]) (.bool false) W (by rfl) (by kernel_rfl) (by rfl) (by decide) (by go_simp) ?_
  walk_nrm
  refine lt_go (stepG_region_end) ?_
  refine lt_go (stepG_cond (t := false) rfl) ?_
  simp only [if_true, if_false, Bool.false_eq_true, ↓reduceIte]
  refine lt_go (stepG_skip) ?_
  refine lt_go (stepG_seq) ?_
  refine lt_go (stepG_seq) ?_
  refine lt_go (stepG_region) ?_
  simp only [List.size_toArray, List.length_cons, List.length_nil, Nat.reduceAdd, Nat.zero_add, List.range, List.range.loop]
  refine lt_val (b := base 3) (es := #[]) (.slice A1 r.length c1) W (by rfl) (by kernel_rfl) (by rfl) (by decide) (by kernel_rfl) ?_
  walk_nrm
  refine lt_val (b := base 3) (es := #[]) (.slice A0 l0.length c0) W (by rfl) (by kernel_rfl) (by rfl) (by decide) (by kernel_rfl) ?_
  walk_nrm
  refine lt_call plainP (by kernel_rfl) (b := base 3) (fn := f6) (c := (f6.body).getD .skip) (vals := #[.slice A0 l0.length c0]) (by rfl) (by rfl) (by decide) (by rfl) func6 (by kernel_rfl) (by kernel_rfl) (by kernel_rfl) (laws_toBlockS.calls k A0 c0 l0 r W hr0 hc0 hto) ?_
  rintro e W2 ⟨v2, rfl, hS2, hb2⟩
  obtain ⟨A2, c2, rfl, hc2, hr2⟩ := Kd.R_reads (Kd.S_R hS2)
  refine ⟨_, rfl, ?_⟩
  have hr1 := Kd.C_below hr1 hb2
  walk_nrm
  refine lt_call plainP (by kernel_rfl) (b := base 3) (fn := f8) (c := (f8.body).getD .skip) (vals := #[.slice A1 r.length c1, .slice A2 r.length c2]) (by rfl) (by rfl) (by decide) (by rfl) func8 (by kernel_rfl) (by kernel_rfl) (by kernel_rfl) (laws_eqBlockS.calls k A1 c1 r A2 c2 r true W2 hr1 hc1 hr2 hc2 heq) ?_
  rintro e W3 ⟨rfl, hb3⟩
  refine ⟨_, rfl, ?_⟩
  have hb := hb2.trans (hb3.mono hb2.size)
  walk_nrm
  refine lt_val (b := base 3) (es := #[]) (.bool false) W3 (by rfl) (by kernel_rfl) (by rfl) (by decide) (by kernel_rfl) ?_
  walk_nrm
  refine lt_go (stepG_region_end) ?_
  refine lt_go (stepG_cond (t := false) rfl) ?_
  simp only [if_true, if_false, Bool.false_eq_true, ↓reduceIte]
  refine lt_go (stepG_skip) ?_
  refine lt_go (stepG_seq) ?_
  refine lt_go (stepG_region) ?_
  simp only [List.size_toArray, List.length_cons, List.length_nil, Nat.reduceAdd, Nat.zero_add, List.range, List.range.loop]
  refine lt_val (b := base 3) (es := #[]) (.bool true) W3 (by rfl) (by kernel_rfl) (by rfl) (by decide) (by kernel_rfl) ?_
  walk_nrm
  refine lt_go (stepG_region_end) ?_
  exact lt_stop (hK _ _ (by rfl) (by rfl) hb)

noncomputable def ops7 : Array Oper := match body3 with | .seq _ (.seq _ (.seq _ (.seq _ (.seq _ (.seq _ (.seq (.region _ ops _) _)))))) => ops | _ => #[]
noncomputable def body7 : Code := (f7.body).getD .skip
noncomputable def ops4 : Array Oper := match body7 with | .seq _ (.seq _ (.seq _ (.seq (.seq (.region _ ops _) _) _))) => ops | _ => #[]
noncomputable def blk7 : Code := match body7 with | .seq _ (.seq _ (.seq _ (.seq (.seq _ c) _))) => c | _ => .skip
noncomputable def end7 : Code := match body7 with | .seq _ (.seq _ (.seq _ (.seq _ c))) => c | _ => .skip
noncomputable def from13 : Code := match body13 with | .seq _ (.seq _ c) => c | _ => .skip
/-- What stands in memory when the first worker is about to be started. -/
structure Fork (W : World) (r : List S36) (FB c1 B : Nat) (w : World) : Prop where
  below : Below W.heap.size W w
  hge : W.heap.size ≤ FB
  hlt : FB < B
  row : ∃ w1, Kd.S k36 36 w1 W.heap.size (fun k => k < w1.heap.size) (.slice (some ⟨FB, 0, none⟩) r.length c1) r ∧ w1.heap.size ≤ B ∧ Below w1.heap.size w1 w
  size : w.heap.size = B + 3
  hB : w.heap[B]? = some (.cells #[.slice (some ⟨FB, 0, none⟩) r.length c1] 25 (0, 0))
  hC : w.heap[B + 1]? = some (.cells #[.int .i64 0, .int .i64 0, .int .i64 0, .int .i64 0, .int .i64 0, .int .i64 0, .int .i64 0, .int .i64 0] 41 (0, 0))
  hV : w.heap[B + 2]? = some (.cells #[.slice (some ⟨B + 1, 0, none⟩) 4 4] 38 (0, 0))
set_option maxRecDepth 100000 in
set_option maxHeartbeats 8000000 in
theorem pre3 {A0 : Option Addr} {c0 k : Nat} {l0 : List S32} {left : Int} {W : World} (hr0 : Kd.C k32 W A0 l0.length l0) (hc0 : l0.length ≤ c0) (hsz : laws_szBlockS.f k l0 1048576 = some left)
    (hgo : 0 ≤ left → ∃ (r : List S36) (sw : Int) (fl : Bool), laws_toBlockS.f k l0 = some r ∧ spec_WearAll.f k r = some sw ∧ impl_FlashOk.f r = some fl ∧ laws_eqBlockS.f k r r = some true ∧ (fl = false → sw = -1) ∧ (fl = true → r.length = 4))
    (hK : ∀ (T : Array Value) (k' : List Item) (w' : World), T.size = 27 → T[2]? = some (.bool true) → Below W.heap.size W w' → K ((base 3).at ⟨T, []⟩ (.code .ret :: k')) cs w')
    (hF : ∀ (r : List S36) (sw : Int) (FB c1 B : Nat) (w' : World) (x0 x2 x4 x5 x6 x7 x8 x9 x10 x11 x12 x13 x14 x15 x16 x17 x18 y0 y1 y2 y4 y5 y6 y7 y8 y9 y10 y11 y12 y13 y14 y15 y16 y17 y18 y19 y20 y21 z1 z3 z6 z7 z8 z9 z10 z11 z12 z13 z14 z15 z16 z17 z18 z19 z20 z21 z22 z23 z24 z25 z26 : Value), laws_toBlockS.f k l0 = some r → spec_WearAll.f k r = some sw → impl_FlashOk.f r = some true → laws_eqBlockS.f k r r = some true → r.length = 4 → Fork W r FB c1 B w' → r.length ≤ c1 →
      K ((base 13).at ⟨#[x0, .pointer (some ⟨B, 0, none⟩), x2, .pointer (some ⟨B + 2, 0, none⟩), x4, x5, x6, x7, x8, x9, x10, x11, x12, x13, x14, x15, x16, x17, x18], []⟩ [.code from13]) ((base 7).at ⟨#[y0, y1, y2, .int .i64 0, y4, y5, y6, y7, y8, y9, y10, y11, y12, y13, y14, y15, y16, y17, y18, y19, y20, y21], []⟩ [.inRegion ops4 [1, 2, 3], .code blk7, .code end7] :: (base 3).at ⟨#[.slice A0 l0.length c0, z1, .bool false, z3, .int .i64 sw, .slice (some ⟨FB, 0, none⟩) r.length c1, z6, z7, z8, z9, z10, z11, z12, z13, z14, z15, z16, z17, z18, z19, z20, z21, z22, z23, z24, z25, z26], []⟩ [.inRegion ops7 [1, 2], .code s8] :: cs) w') :
    Lt K ((base 3).at ⟨#[.slice A0 l0.length c0] ++ Array.replicate 26 undef, []⟩ [.code body3]) cs W := by
  walk_nrm
  simp only [body3, f3, Option.getD_some]
  refine lt_go (stepG_seq) ?_
  refine lt_go (stepG_region) ?_
  simp only [List.size_toArray, List.length_cons, List.length_nil, Nat.reduceAdd, Nat.zero_add, List.range, List.range.loop]
  refine lt_val (b := base 3) (es := #[]) (.bool false) W (by rfl) (by kernel_rfl) (by rfl) (by decide) (by kernel_rfl) ?_
  walk_nrm
  refine lt_go (stepG_region_end) ?_
  refine lt_go (stepG_seq) ?_
  refine lt_go (stepG_region) ?_
  simp only [List.size_toArray, List.length_cons, List.length_nil, Nat.reduceAdd, Nat.zero_add, List.range, List.range.loop]
  refine lt_val (b := base 3) (es := #[]) (.int .i64 1048576) W (by rfl) (by kernel_rfl) (by rfl) (by decide) (by kernel_rfl) ?_
  walk_nrm
  refine lt_go (stepG_region_end) ?_
  refine lt_go (stepG_seq) ?_
  refine lt_go (stepG_region) ?_
  simp only [List.size_toArray, List.length_cons, List.length_nil, Nat.reduceAdd, Nat.zero_add, List.range, List.range.loop]
  refine lt_val (b := base 3) (es := #[]) (.slice A0 l0.length c0) W (by rfl) (by kernel_rfl) (by rfl) (by decide) (by kernel_rfl) ?_
  walk_nrm
  refine lt_val (b := base 3) (es := #[]) (.int .i64 1048576) W (by rfl) (by kernel_rfl) (by rfl) (by decide) (by kernel_rfl) ?_
  walk_nrm
  refine lt_call plainP (by kernel_rfl) (b := base 3) (fn := f4) (c := (f4.body).getD .skip) (vals := #[.slice A0 l0.length c0, .int .i64 1048576]) (by rfl) (by rfl) (by decide) (by rfl) func4 (by kernel_rfl) (by kernel_rfl) (by kernel_rfl) (laws_szBlockS.calls k A0 c0 l0 1048576 left W hr0 hc0 hsz) ?_
  rintro e W1 ⟨rfl, hb1⟩
  refine ⟨_, rfl, ?_⟩
  have hr0 := Kd.C_below hr0 hb1
  walk_nrm
  refine lt_val (b := base 3) (es := #[]) (.int .i64 left) W1 (by rfl) (by kernel_rfl) (by rfl) (by decide) (by kernel_rfl) ?_
  walk_nrm
  refine lt_go (stepG_region_end) ?_
  refine lt_go (stepG_seq) ?_
  refine lt_go (stepG_seq) ?_
  refine lt_go (stepG_region) ?_
  simp only [List.size_toArray, List.length_cons, List.length_nil, Nat.reduceAdd, Nat.zero_add, List.range, List.range.loop]
  refine lt_val (b := base 3) (es := #[]) (.int .i64 left) W1 (by rfl) (by kernel_rfl) (by rfl) (by decide) (by kernel_rfl) ?_
  walk_nrm
  by_cases hl : left < 0
  · refine lt_val (b := base 3) (es := #[]) (.bool true) W1 (by rfl) (by kernel_rfl) (by rfl) (by decide) (by go_simp) ?_
    walk_nrm
    refine lt_go (stepG_region_end) ?_
    refine lt_go (stepG_cond (t := true) rfl) ?_
    simp only [if_true, if_false, Bool.false_eq_true, ↓reduceIte]
    refine lt_go (stepG_seq) ?_
    refine lt_go (stepG_region) ?_
    simp only [List.size_toArray, List.length_cons, List.length_nil, Nat.reduceAdd, Nat.zero_add, List.range, List.range.loop]
    refine lt_val (b := base 3) (es := #[]) (.bool true) W1 (by rfl) (by kernel_rfl) (by rfl) (by decide) (by kernel_rfl) ?_
    walk_nrm
    refine lt_go (stepG_region_end) ?_
    exact lt_stop (hK _ _ _ (by rfl) (by rfl) hb1)
  · obtain ⟨r, sw, fl, hto, hsp, hfl, heq, hf0, hf1⟩ := hgo (by omega)
    refine lt_val (b := base 3) (es := #[]) (.bool false) W1 (by rfl) (by kernel_rfl) (by rfl) (by decide) (by go_simp; try omega) ?_
    walk_nrm
    refine lt_go (stepG_region_end) ?_
    refine lt_go (stepG_cond (t := false) rfl) ?_
    simp only [if_true, if_false, Bool.false_eq_true, ↓reduceIte]
    refine lt_go (stepG_skip) ?_
    refine lt_go (stepG_seq) ?_
    refine lt_go (stepG_region) ?_
    simp only [List.size_toArray, List.length_cons, List.length_nil, Nat.reduceAdd, Nat.zero_add, List.range, List.range.loop]
    refine lt_val (b := base 3) (es := #[]) (.slice A0 l0.length c0) W1 (by rfl) (by kernel_rfl) (by rfl) (by decide) (by kernel_rfl) ?_
    walk_nrm
    refine lt_call plainP (by kernel_rfl) (b := base 3) (fn := f6) (c := (f6.body).getD .skip) (vals := #[.slice A0 l0.length c0]) (by rfl) (by rfl) (by decide) (by rfl) func6 (by kernel_rfl) (by kernel_rfl) (by kernel_rfl) (laws_toBlockS.calls k A0 c0 l0 r W1 hr0 hc0 hto) ?_
    rintro e W2 ⟨v2, rfl, hS2, hb2⟩
    obtain ⟨A2, c2, rfl, hc2, hr2⟩ := Kd.R_reads (Kd.S_R hS2)
    refine ⟨_, rfl, ?_⟩
    have hr0 := Kd.C_below hr0 hb2
    have hb := hb1.trans (hb2.mono hb1.size)
    clear hb1
    walk_nrm
    refine lt_call plainP (by kernel_rfl) (b := base 3) (fn := f5) (c := (f5.body).getD .skip) (vals := #[.slice A2 r.length c2]) (by rfl) (by rfl) (by decide) (by rfl) func5 (by kernel_rfl) (by kernel_rfl) (by kernel_rfl) (spec_WearAll.calls k A2 c2 r sw W2 hr2 hc2 hsp) ?_
    rintro e W3 ⟨rfl, hb3⟩
    refine ⟨_, rfl, ?_⟩
    have hr0 := Kd.C_below hr0 hb3
    replace hb := hb.trans (hb3.mono hb.size)
    clear hb2 hb3 hS2 hr2
    walk_nrm
    refine lt_val (b := base 3) (es := #[]) (.int .i64 sw) W3 (by rfl) (by kernel_rfl) (by rfl) (by decide) (by kernel_rfl) ?_
    walk_nrm
    refine lt_go (stepG_region_end) ?_
    refine lt_go (stepG_seq) ?_
    refine lt_go (stepG_region) ?_
    simp only [List.size_toArray, List.length_cons, List.length_nil, Nat.reduceAdd, Nat.zero_add, List.range, List.range.loop]
    refine lt_val (b := base 3) (es := #[]) (.slice A0 l0.length c0) W3 (by rfl) (by kernel_rfl) (by rfl) (by decide) (by kernel_rfl) ?_
    walk_nrm
    refine lt_call plainP (by kernel_rfl) (b := base 3) (fn := f6) (c := (f6.body).getD .skip) (vals := #[.slice A0 l0.length c0]) (by rfl) (by rfl) (by decide) (by rfl) func6 (by kernel_rfl) (by kernel_rfl) (by kernel_rfl) (laws_toBlockS.calls k A0 c0 l0 r W3 hr0 hc0 hto) ?_
    rintro e W4 ⟨v4, rfl, hS4, hb4⟩
    obtain ⟨A4, c4, rfl, hc4, hr4⟩ := Kd.R_reads (Kd.S_R hS4)
    refine ⟨_, rfl, ?_⟩
    have hr0 := Kd.C_below hr0 hb4
    have hsz3 := hb.size
    replace hb := hb.trans (hb4.mono hb.size)
    walk_nrm
    refine lt_val (b := base 3) (es := #[]) (.slice A4 r.length c4) W4 (by rfl) (by kernel_rfl) (by rfl) (by decide) (by kernel_rfl) ?_
    walk_nrm
    refine lt_go (stepG_region_end) ?_
    refine lt_go (stepG_seq) ?_
    refine lt_go (stepG_region) ?_
    simp only [List.size_toArray, List.length_cons, List.length_nil, Nat.reduceAdd, Nat.zero_add, List.range, List.range.loop]
    refine lt_val (b := base 3) (es := #[]) (.slice A4 r.length c4) W4 (by rfl) (by kernel_rfl) (by rfl) (by decide) (by kernel_rfl) ?_
    walk_nrm
    refine lt_enter (b := base 3) (fn := f7) (c := (f7.body).getD .skip) (vals := #[.slice A4 r.length c4]) (n := 21) (by rfl) (by rfl) (by decide) (by rfl) func7 (by kernel_rfl) (by kernel_rfl) (by kernel_rfl) (by rfl) ?_
    simp only [f7, Option.getD_some]
    walk_nrm
    refine lt_go (stepG_seq) ?_
    refine lt_go (stepG_region) ?_
    simp only [List.size_toArray, List.length_cons, List.length_nil, Nat.reduceAdd, Nat.zero_add, List.range, List.range.loop]
    refine lt_val (b := base 7) (es := #[]) (.int .i64 0) W4 (by rfl) (by kernel_rfl) (by rfl) (by decide) (by kernel_rfl) ?_
    walk_nrm
    refine lt_go (stepG_region_end) ?_
    refine lt_go (stepG_seq) ?_
    refine lt_go (stepG_seq) ?_
    refine lt_go (stepG_region) ?_
    simp only [List.size_toArray, List.length_cons, List.length_nil, Nat.reduceAdd, Nat.zero_add, List.range, List.range.loop]
    refine lt_val (b := base 7) (es := #[]) (.slice A4 r.length c4) W4 (by rfl) (by kernel_rfl) (by rfl) (by decide) (by kernel_rfl) ?_
    walk_nrm
    refine lt_call plainP (by kernel_rfl) (b := base 7) (fn := f12) (c := (f12.body).getD .skip) (vals := #[.slice A4 r.length c4]) (by rfl) (by rfl) (by decide) (by rfl) func12 (by kernel_rfl) (by kernel_rfl) (by kernel_rfl) (impl_FlashOk.calls A4 c4 r fl W4 hr4 hc4 hfl) ?_
    rintro e W5 ⟨rfl, hb5⟩
    refine ⟨_, rfl, ?_⟩
    have hr0 := Kd.C_below hr0 hb5
    have hr4 := Kd.C_below hr4 hb5
    have hb45 := hb4.trans (hb5.mono hb4.size)
    replace hb := hb.trans (hb5.mono hb.size)
    walk_nrm
    cases fl with
    | false =>
      obtain rfl := hf0 rfl
      refine lt_val (b := base 7) (es := #[]) (.bool true) W5 (by rfl) (by kernel_rfl) (by rfl) (by decide) (by kernel_rfl) ?_
      walk_nrm
      refine lt_go (stepG_region_end) ?_
      refine lt_go (stepG_cond (t := true) rfl) ?_
      simp only [if_true, if_false, Bool.false_eq_true, ↓reduceIte]
      refine lt_go (stepG_seq) ?_
      refine lt_go (stepG_region) ?_
      simp only [List.size_toArray, List.length_cons, List.length_nil, Nat.reduceAdd, Nat.zero_add, List.range, List.range.loop]
      refine lt_val (b := base 7) (es := #[]) (.int .i64 (-1)) W5 (by rfl) (by kernel_rfl) (by rfl) (by decide) (by kernel_rfl) ?_
      walk_nrm
      refine lt_go (stepG_region_end) ?_
      refine lt_go (stepG_ret') ?_
      refine lt_leave (fn := f7) (x := .int .i64 (-1)) (by rfl) (by rfl) (by rfl) (by rfl) (by kernel_rfl) ?_
      rw [Frame.finish_at]
      walk_nrm
      refine lt_val (b := base 3) (es := #[]) (.int .i64 (-1)) W5 (by rfl) (by kernel_rfl) (by rfl) (by decide) (by kernel_rfl) ?_
      walk_nrm
      refine lt_go (stepG_region_end) ?_
      exact tail3t hr0 hc0 hr4 hc4 hto heq (fun T w' h1 h2 h3 => hK T _ w' h1 h2 (hb.trans (h3.mono hb.size))) _ _ _ _ _ _ _ _ _ _ _ _ _ _ _ _ _ _ _ _ _ _ _
    | true =>
      have hr4l := hf1 rfl
      refine lt_val (b := base 7) (es := #[]) (.bool false) W5 (by rfl) (by kernel_rfl) (by rfl) (by decide) (by kernel_rfl) ?_
      walk_nrm
      refine lt_go (stepG_region_end) ?_
      refine lt_go (stepG_cond (t := false) rfl) ?_
      simp only [if_true, if_false, Bool.false_eq_true, ↓reduceIte]
      refine lt_go (stepG_skip) ?_
      refine lt_go (stepG_seq) ?_
      refine lt_go (stepG_region) ?_
      simp only [List.size_toArray, List.length_cons, List.length_nil, Nat.reduceAdd, Nat.zero_add, List.range, List.range.loop]
      refine lt_val (b := base 7) (es := #[]) (.int .i64 0) W5 (by rfl) (by kernel_rfl) (by rfl) (by decide) (by kernel_rfl) ?_
      walk_nrm
      refine lt_go (stepG_region_end) ?_
      refine lt_go (stepG_seq) ?_
      refine lt_go (stepG_seq) ?_
      refine lt_go (stepG_region) ?_
      simp only [List.size_toArray, List.length_cons, List.length_nil, Nat.reduceAdd, Nat.zero_add, List.range, List.range.loop]
      refine lt_val (b := base 7) (es := #[]) (.slice A4 r.length c4) W5 (by rfl) (by kernel_rfl) (by rfl) (by decide) (by kernel_rfl) ?_
      walk_nrm
      have e4 : ((r.length : Nat) : Int) = 4 := by rw [hr4l]; rfl
      obtain ⟨FB, rfl, hFB, hFBs⟩ : ∃ FB, A4 = some ⟨FB, 0, none⟩ ∧ W3.heap.size ≤ FB ∧ FB < W4.heap.size := by
        obtain ⟨inner, _, ho⟩ := Kd.R_own (Kd.S_R hS4)
        rcases ho with ⟨h, h0⟩ | ⟨g, cap, cur, h, hg, hh, _⟩
        · omega
        · simp only [Value.slice.injEq] at h
          exact ⟨g, h.1, hg, (Array.getElem?_eq_some_iff.1 hh).1⟩
      refine lt_enter (b := base 7) (fn := f13) (c := (f13.body).getD .skip) (vals := #[.slice (some ⟨FB, 0, none⟩) r.length c4]) (n := 18) (by rfl) (by rfl) (by decide) (by rfl) func13 (by kernel_rfl) (by kernel_rfl) (by kernel_rfl) (by rfl) ?_
      simp only [f13, Option.getD_some]
      walk_nrm
      refine lt_go (stepG_seq) ?_
      refine lt_go (stepG_region) ?_
      simp only [List.size_toArray, List.length_cons, List.length_nil, Nat.reduceAdd, Nat.zero_add, List.range, List.range.loop]
      obtain ⟨B, hBs⟩ : ∃ B, W5.heap.size = B := ⟨_, rfl⟩
      obtain ⟨W6, hW6⟩ : ∃ W6 : World, W6 = { W5 with heap := W5.heap.push (.cells #[.slice (some ⟨FB, 0, none⟩) r.length c4] 25 (0, 0)) } := ⟨_, rfl⟩
      refine lt_val (b := base 13) (es := #[]) (.pointer (some ⟨B, 0, none⟩)) W6 (by rfl) (by kernel_rfl) (by rfl) (by decide) (by rw [← hBs, hW6]; exact run_box _ W5) ?_
      walk_nrm
      refine lt_val (b := base 13) (es := #[]) (.slice none 0 0) W6 (by rfl) (by kernel_rfl) (by rfl) (by decide) (by kernel_rfl) ?_
      walk_nrm
      refine lt_go (stepG_region_end) ?_
      refine lt_go (stepG_seq) ?_
      refine lt_go (stepG_region) ?_
      simp only [List.size_toArray, List.length_cons, List.length_nil, Nat.reduceAdd, Nat.zero_add, List.range, List.range.loop]
      refine lt_val (b := base 13) (es := #[⟨.cell ⟨B, 0, none⟩, false, false⟩]) (.slice (some ⟨FB, 0, none⟩) r.length c4) W6 (by rfl) (by kernel_rfl) (by rfl) (by decide) (by exact runT_v (runT_loadOne underlying25 rfl (by rw [hW6, ← hBs]; simp [World.cell?]))) ?_
      walk_nrm
      refine lt_val (b := base 13) (es := #[]) (.int .i64 4) W6 (by rfl) (by kernel_rfl) (by rfl) (by decide) (by rw [← e4]; kernel_rfl) ?_
      walk_nrm
      obtain ⟨W7, hW7⟩ : ∃ W7 : World, W7 = { W6 with heap := W6.heap.push (.cells #[.int .i64 0, .int .i64 0, .int .i64 0, .int .i64 0, .int .i64 0, .int .i64 0, .int .i64 0, .int .i64 0] 41 (0, 0)) } := ⟨_, rfl⟩
      have hs6 : W6.heap.size = B + 1 := by rw [hW6, ← hBs]; simp
      refine lt_val (b := base 13) (es := #[]) (.slice (some ⟨B + 1, 0, none⟩) 4 4) W7 (by rfl) (by kernel_rfl) (by rfl) (by decide) (by rw [← hs6, hW7]; exact run_mk38 W6) ?_
      walk_nrm
      obtain ⟨W8, hW8⟩ : ∃ W8 : World, W8 = { W7 with heap := W7.heap.push (.cells #[.slice none 0 0] 38 (0, 0)) } := ⟨_, rfl⟩
      have hs7 : W7.heap.size = B + 2 := by rw [hW7]; simp [hs6]
      refine lt_val (b := base 13) (es := #[]) (.pointer (some ⟨B + 2, 0, none⟩)) W8 (by rfl) (by kernel_rfl) (by rfl) (by decide) (by rw [← hs7, hW8]; exact run_alloc zeroValue38 W7) ?_
      walk_nrm
      obtain ⟨W9, hst9, hc9, hk9⟩ := runT_storeS (P := prog) (t := 38) sizeOf38 (w := W8) (b := B + 2) (u := .slice none 0 0) (e := 38) (ad := some ⟨B + 1, 0, none⟩) (n := 4) (c := 4) (by rw [hW8, ← hs7]; simp)
      refine lt_skip (b := base 13) W9 (by rfl) (by kernel_rfl) (by rfl) (by decide) (by exact runT_u hst9) ?_
      walk_nrm
      refine lt_go (stepG_region_end) ?_
      have hs8 : W8.heap.size = B + 3 := by rw [hW8]; simp [hs7]
      have hs9 : W9.heap.size = B + 3 := by rw [hk9.size, hs8]
      have old : ∀ x, x ≠ B + 2 → x < B + 3 → W9.heap[x]? = W8.heap[x]? := fun x h1 h2 => hk9.block x h1
      have old8 : ∀ x, x < B + 2 → W8.heap[x]? = W7.heap[x]? := fun x h1 => by
        rw [hW8]
        simp only [Array.getElem?_push]
        rw [if_neg (by omega)]
      have old7 : ∀ x, x < B + 1 → W7.heap[x]? = W6.heap[x]? := fun x h1 => by
        rw [hW7]
        simp only [Array.getElem?_push]
        rw [if_neg (by omega)]
      have old6 : ∀ x, x < B → W6.heap[x]? = W5.heap[x]? := fun x h1 => by
        rw [hW6]
        simp only [Array.getElem?_push]
        rw [if_neg (by omega)]
      have cB : W9.heap[B]? = some (.cells #[.slice (some ⟨FB, 0, none⟩) r.length c4] 25 (0, 0)) := by
        rw [old B (by omega) (by omega), old8 B (by omega), old7 B (by omega), hW6, ← hBs]
        simp
      have hbA : Below B W5 W9 := by
        refine ⟨?_, ?_, ?_, ?_, fun x hx => ?_⟩
        · rw [hk9.os, hW8, hW7, hW6]
        · rw [hk9.tape, hW8, hW7, hW6]
        · rw [hk9.output, hW8, hW7, hW6]
        · rw [hBs, hs9]; omega
        · rw [old x (by omega) (by omega), old8 x (by omega), old7 x (by omega), old6 x hx]
      refine lt_stop (hF r sw FB c4 B W9 _ _ _ _ _ _ _ _ _ _ _ _ _ _ _ _ _ _ _ _ _ _ _ _ _ _ _ _ _ _ _ _ _ _ _ _ _ _ _ _ _ _ _ _ _ _ _ _ _ _ _ _ _ _ _ _ _ _ _ _ _ hto hsp hfl heq hr4l ⟨?_, ?_, ?_, ?_, hs9, cB, ?_, hc9⟩ hc4)
      · exact hb.trans (hbA.mono (by have := hb.size; omega))
      · omega
      · have := hb5.size; omega
      · have h45 := hb5.size
        exact ⟨W4, Kd.S_lower (Kd.S_mono (Kd.S_bound hS4) (fun k hk => hk.2.2.1)) hsz3, by omega, hb5.trans (hbA.mono (by omega))⟩
      · rw [old (B + 1) (by omega) (by omega), old8 _ (by omega), hW7, ← hs6]
        simp
end
end Go.Proofs.YtgdlakhfkmhlnaaWear
namespace Go.Proofs.YtgdlakhfkmhlnaaWear
open Go.Conc Go.ConcN Go.RowKit Go.Conc.Lib Go.ConcR.Gen Go.Proofs.Try
open Go.ConcR (KK wgBlock WgAt stA smA rd wr mk Payload Aside2 DC0)
variable [Payload]

open Go.Proofs.Ytgdlakhfkmhlnaa.Pa Go.Proofs.YtgdlakhfkmhlnaaW.PrintWords Go.Proofs.YtgdlakhfkmhlnaaW.PrintLast Go.Proofs.YtgdlakhfkmhlnaaW.PrintMore
/-! ### behind the join: the lone run to the law's end -/
section
variable {K K' : Frame → List Frame → World → Prop} {cs : List Frame}
theorem lo_bind {fr : Frame} {w : World} (h : Lo K' fr cs w) (h' : ∀ fr' cs' w', K' fr' cs' w' → Lo K fr' cs' w') : Lo K fr cs w :=
  let ⟨a, b, c, h1, h2⟩ := h; lo_steps h1 (h' a b c h2)
theorem push_store {B0 N : Nat} {w v v' : World} {x : Obj} (hb : Below B0 w v) (hN : v.heap.size = N) (h0 : B0 ≤ N) (hk : Kept N { v with heap := v.heap.push x } v') : Below B0 w v' ∧ v'.heap.size = N + 1 := by
  refine ⟨⟨hk.os.trans hb.os, hk.tape.trans hb.tape, hk.output.trans hb.output, ?_, fun y hy => ?_⟩, ?_⟩
  · rw [hk.size]; have := hb.size; simp; omega
  · rw [hk.block y (by omega)]
    simp only [Array.getElem?_push]
    rw [if_neg (by omega)]
    exact hb.block y hy
  · rw [hk.size]; simp [hN]
set_option maxRecDepth 100000 in
set_option maxHeartbeats 8000000 in
theorem suf3 {A0 : Option Addr} {c0 k : Nat} {l0 : List S32} {r : List S36} {A1 : Option Addr} {c1 B : Nat} {sw x0 x1 x2 x3 u0 u1 u2 u3 s1 s2 s3 : Int} {V0 : World} (hr0 : Kd.C k32 V0 A0 l0.length l0) (hc0 : l0.length ≤ c0) (hr1 : Kd.C k36 V0 A1 r.length r) (hc1 : r.length ≤ c1)
    (hto : laws_toBlockS.f k l0 = some r) (heq : laws_eqBlockS.f k r r = some true)
    (hV : V0.cell? ⟨B + 2, 0, none⟩ = some (.slice (some ⟨B + 1, 0, none⟩) 4 4)) (hBs : B + 4 ≤ V0.heap.size)
    (g0 : V0.cell? ⟨B + 1, 0, none⟩ = some (.int .i64 x0)) (k0 : V0.cell? ⟨B + 1, 1, none⟩ = some (.int .i64 u0)) (g1 : V0.cell? ⟨B + 1, 2, none⟩ = some (.int .i64 x1)) (k1 : V0.cell? ⟨B + 1, 3, none⟩ = some (.int .i64 u1))
    (g2 : V0.cell? ⟨B + 1, 4, none⟩ = some (.int .i64 x2)) (k2 : V0.cell? ⟨B + 1, 5, none⟩ = some (.int .i64 u2)) (g3 : V0.cell? ⟨B + 1, 6, none⟩ = some (.int .i64 x3)) (k3 : V0.cell? ⟨B + 1, 7, none⟩ = some (.int .i64 u3))
    (h1 : IntKind.i64.wrap (0 + x0) = s1) (h2 : IntKind.i64.wrap (s1 + x1) = s2) (h3 : IntKind.i64.wrap (s2 + x2) = s3) (h4 : IntKind.i64.wrap (s3 + x3) = sw)
    (hK : ∀ (T : Array Value) (todo : List Item) (w' : World), T.size = 27 → T[2]? = some (.bool true) → Below V0.heap.size V0 w' → K { (base 3).at ⟨T, []⟩ todo with mode := .returning } cs w')
    (a0 a2 a5 a6 a7 a8 a9 a12 a13 a14 a15 a16 a18 y0 y1 y2 y4 y5 y6 y7 y8 y9 y10 y11 y12 y13 y14 y15 y16 y17 y18 y19 y20 y21 z1 z3 z6 z7 z8 z9 z10 z11 z12 z13 z14 z15 z16 z17 z18 z19 z20 z21 z22 z23 z24 z25 z26 : Value) :
    Lo K ((base 13).at ⟨#[a0, .pointer (some ⟨B, 0, none⟩), a2, .pointer (some ⟨B + 2, 0, none⟩), .pointer (some ⟨B + 3, 0, none⟩), a5, a6, a7, a8, a9, .int .i64 4, .int .i64 4, a12, a13, a14, a15, a16, .tuple #[], a18], []⟩ [.code rest13]) ((base 7).at ⟨#[y0, y1, y2, .int .i64 0, y4, y5, y6, y7, y8, y9, y10, y11, y12, y13, y14, y15, y16, y17, y18, y19, y20, y21], []⟩ [.inRegion ops4 [1, 2, 3], .code blk7, .code end7] :: (base 3).at ⟨#[.slice A0 l0.length c0, z1, .bool false, z3, .int .i64 sw, .slice A1 r.length c1, z6, z7, z8, z9, z10, z11, z12, z13, z14, z15, z16, z17, z18, z19, z20, z21, z22, z23, z24, z25, z26], []⟩ [.inRegion ops7 [1, 2], .code s8] :: cs) V0 := by
  simp only [ops9, rest13, tail13, body13, f13, ops4, blk7, end7, body7, f7, Option.getD_some]
  refine lo_go (stepG_seq) ?_
  refine lo_go (stepG_region) ?_
  simp only [List.size_toArray, List.length_cons, List.length_nil, Nat.reduceAdd, Nat.zero_add, List.range, List.range.loop]
  refine lo_val (b := base 13) (es := #[⟨.cell ⟨B + 2, 0, none⟩, false, false⟩]) (.slice (some ⟨B + 1, 0, none⟩) 4 4) V0 (by rfl) (by rfl) (by decide) (by exact runT_v (runT_loadOne underlying38 rfl hV)) ?_
  walk_nrm
  refine lo_val (b := base 13) (es := #[]) (.slice (some ⟨B + 1, 0, none⟩) 4 4) V0 (by rfl) (by rfl) (by decide) (by kernel_rfl) ?_
  walk_nrm
  refine lo_go (stepG_region_end) ?_
  refine lo_go (stepG_ret') ?_
  refine lo_leave (fn := f13) (x := .slice (some ⟨B + 1, 0, none⟩) 4 4) (by rfl) (by rfl) (by rfl) (by rfl) (by kernel_rfl) ?_
  rw [Frame.finish_at]
  walk_nrm
  refine lo_val (b := base 7) (es := #[]) (.int .i64 4) V0 (by rfl) (by rfl) (by decide) (by kernel_rfl) ?_
  walk_nrm
  refine lo_val (b := base 7) (es := #[]) (.int .i64 0) V0 (by rfl) (by rfl) (by decide) (by kernel_rfl) ?_
  walk_nrm
  refine lo_go (stepG_region_end) ?_
  refine lo_go (stepG_block) ?_
  refine lo_go (stepG_loop) ?_
  have hb0 : Below V0.heap.size V0 V0 := Below.refl _ _
  have cellC : ∀ (v : World) (j : Nat), Below V0.heap.size V0 v → v.cell? ⟨B + 1, j, none⟩ = V0.cell? ⟨B + 1, j, none⟩ := fun v j h => cell_of_block (h.block (B + 1) (by omega)) j
  refine lo_go (stepG_seq) ?_
  refine lo_go (stepG_region) ?_
  simp only [List.size_toArray, List.length_cons, List.length_nil, Nat.reduceAdd, Nat.zero_add, List.range, List.range.loop]
  refine lo_val (b := base 7) (es := #[]) (.bool true) V0 (by rfl) (by rfl) (by decide) (by kernel_rfl) ?_
  walk_nrm
  refine lo_go (stepG_region_end) ?_
  refine lo_go (stepG_seq) ?_
  refine lo_go (stepG_cond (t := true) rfl) ?_
  simp only [if_true, if_false, Bool.false_eq_true, ↓reduceIte]
  refine lo_go (stepG_skip) ?_
  refine lo_go (stepG_seq) ?_
  refine lo_go (stepG_block) ?_
  refine lo_go (stepG_seq) ?_
  refine lo_go (stepG_region) ?_
  simp only [List.size_toArray, List.length_cons, List.length_nil, Nat.reduceAdd, Nat.zero_add, List.range, List.range.loop]
  refine lo_val (b := base 7) (es := #[]) (.pointer (some ⟨B + 1, 0, none⟩)) V0 (by rfl) (by rfl) (by decide) (by kernel_rfl) ?_
  walk_nrm
  obtain ⟨es0, q0, _⟩ := runT_loadAgg (P := prog) (t := 41) (n := 2) underlying41 sizeOf41 (w := V0) (a := ⟨B + 1, 0, none⟩) (c := fun j => (#[.int .i64 x0, .int .i64 u0] : Array Value).getD j undef) (fun j hj => by
    rw [add_none, cellC V0 _ hb0]
    match j, hj with
    | 0, _ => exact g0
    | 1, _ => exact k0)
  refine lo_val (b := base 7) (es := es0) (.agg #[.int .i64 x0, .int .i64 u0]) V0 (by rfl) (by rfl) (by decide) (by exact runT_v q0) ?_
  walk_nrm
  obtain ⟨N0, hN0⟩ : ∃ N, V0.heap.size = N := ⟨_, rfl⟩
  have lN0 : V0.heap.size ≤ N0 := by have := hb0.size; omega
  obtain ⟨P0, hP0⟩ : ∃ P : World, P = { V0 with heap := V0.heap.push (.cells #[.int .i64 0, .int .i64 0] 41 (0, 0)) } := ⟨_, rfl⟩
  refine lo_val (b := base 7) (es := #[]) (.pointer (some ⟨N0, 0, none⟩)) P0 (by rfl) (by rfl) (by decide) (by rw [← hN0, hP0]; exact run_alloc zeroValue41 V0) ?_
  walk_nrm
  obtain ⟨V1, et0, st0, ct0, kt0, _⟩ := runT_storeAt (P := prog) (t := 41) (n := 2) (b := N0) (off := 0) (e := 41) (w := P0) (cs := #[.int .i64 0, .int .i64 0]) (v := .agg #[.int .i64 x0, .int .i64 u0]) sizeOf41 (by rw [hP0, ← hN0]; simp) rfl (by simp) (by simp [Value.cells])
  refine lo_skip (b := base 7) (es := et0) V1 (by rfl) (by rfl) (by decide) (by exact runT_u st0) ?_
  walk_nrm
  obtain ⟨hb1, hz1⟩ := push_store hb0 hN0 lN0 (hP0 ▸ kt0)
  refine lo_go (stepG_region_end) ?_
  refine lo_go (stepG_region) ?_
  simp only [List.size_toArray, List.length_cons, List.length_nil, Nat.reduceAdd, Nat.zero_add, List.range, List.range.loop]
  refine lo_val (b := base 7) (es := #[]) (.int .i64 0) V1 (by rfl) (by rfl) (by decide) (by kernel_rfl) ?_
  walk_nrm
  refine lo_val (b := base 7) (es := #[]) (.pointer (some ⟨N0, 0, none⟩)) V1 (by rfl) (by rfl) (by decide) (by kernel_rfl) ?_
  walk_nrm
  refine lo_val (b := base 7) (es := #[⟨.cell ⟨N0, 0, none⟩, false, false⟩]) (.int .i64 x0) V1 (by rfl) (by rfl) (by decide) (by exact runT_v (runT_loadOne underlying3 rfl (by rw [cell2 ct0]; rfl))) ?_
  walk_nrm
  refine lo_val (b := base 7) (es := #[]) (.int .i64 s1) V1 (by rfl) (by rfl) (by decide) (by rw [← h1]; kernel_rfl) ?_
  walk_nrm
  refine lo_val (b := base 7) (es := #[]) (.int .i64 s1) V1 (by rfl) (by rfl) (by decide) (by kernel_rfl) ?_
  walk_nrm
  refine lo_go (stepG_region_end) ?_
  refine lo_go (stepG_inBlock) ?_
  refine lo_go (stepG_region) ?_
  simp only [List.size_toArray, List.length_cons, List.length_nil, Nat.reduceAdd, Nat.zero_add, List.range, List.range.loop]
  refine lo_val (b := base 7) (es := #[]) (.int .i64 1) V1 (by rfl) (by rfl) (by decide) (by kernel_rfl) ?_
  walk_nrm
  refine lo_val (b := base 7) (es := #[]) (.int .i64 1) V1 (by rfl) (by rfl) (by decide) (by kernel_rfl) ?_
  walk_nrm
  refine lo_go (stepG_region_end) ?_
  refine lo_go (stepG_inLoop) ?_
  refine lo_go (stepG_seq) ?_
  refine lo_go (stepG_region) ?_
  simp only [List.size_toArray, List.length_cons, List.length_nil, Nat.reduceAdd, Nat.zero_add, List.range, List.range.loop]
  refine lo_val (b := base 7) (es := #[]) (.bool true) V1 (by rfl) (by rfl) (by decide) (by kernel_rfl) ?_
  walk_nrm
  refine lo_go (stepG_region_end) ?_
  refine lo_go (stepG_seq) ?_
  refine lo_go (stepG_cond (t := true) rfl) ?_
  simp only [if_true, if_false, Bool.false_eq_true, ↓reduceIte]
  refine lo_go (stepG_skip) ?_
  refine lo_go (stepG_seq) ?_
  refine lo_go (stepG_block) ?_
  refine lo_go (stepG_seq) ?_
  refine lo_go (stepG_region) ?_
  simp only [List.size_toArray, List.length_cons, List.length_nil, Nat.reduceAdd, Nat.zero_add, List.range, List.range.loop]
  refine lo_val (b := base 7) (es := #[]) (.pointer (some ⟨B + 1, 2, none⟩)) V1 (by rfl) (by rfl) (by decide) (by kernel_rfl) ?_
  walk_nrm
  obtain ⟨es1, q1, _⟩ := runT_loadAgg (P := prog) (t := 41) (n := 2) underlying41 sizeOf41 (w := V1) (a := ⟨B + 1, 2, none⟩) (c := fun j => (#[.int .i64 x1, .int .i64 u1] : Array Value).getD j undef) (fun j hj => by
    rw [add_none, cellC V1 _ hb1]
    match j, hj with
    | 0, _ => exact g1
    | 1, _ => exact k1)
  refine lo_val (b := base 7) (es := es1) (.agg #[.int .i64 x1, .int .i64 u1]) V1 (by rfl) (by rfl) (by decide) (by exact runT_v q1) ?_
  walk_nrm
  obtain ⟨N1, hN1⟩ : ∃ N, V1.heap.size = N := ⟨_, rfl⟩
  have lN1 : V0.heap.size ≤ N1 := by have := hb1.size; omega
  obtain ⟨P1, hP1⟩ : ∃ P : World, P = { V1 with heap := V1.heap.push (.cells #[.int .i64 0, .int .i64 0] 41 (0, 0)) } := ⟨_, rfl⟩
  refine lo_val (b := base 7) (es := #[]) (.pointer (some ⟨N1, 0, none⟩)) P1 (by rfl) (by rfl) (by decide) (by rw [← hN1, hP1]; exact run_alloc zeroValue41 V1) ?_
  walk_nrm
  obtain ⟨V2, et1, st1, ct1, kt1, _⟩ := runT_storeAt (P := prog) (t := 41) (n := 2) (b := N1) (off := 0) (e := 41) (w := P1) (cs := #[.int .i64 0, .int .i64 0]) (v := .agg #[.int .i64 x1, .int .i64 u1]) sizeOf41 (by rw [hP1, ← hN1]; simp) rfl (by simp) (by simp [Value.cells])
  refine lo_skip (b := base 7) (es := et1) V2 (by rfl) (by rfl) (by decide) (by exact runT_u st1) ?_
  walk_nrm
  obtain ⟨hb2, hz2⟩ := push_store hb1 hN1 lN1 (hP1 ▸ kt1)
  refine lo_go (stepG_region_end) ?_
  refine lo_go (stepG_region) ?_
  simp only [List.size_toArray, List.length_cons, List.length_nil, Nat.reduceAdd, Nat.zero_add, List.range, List.range.loop]
  refine lo_val (b := base 7) (es := #[]) (.int .i64 s1) V2 (by rfl) (by rfl) (by decide) (by kernel_rfl) ?_
  walk_nrm
  refine lo_val (b := base 7) (es := #[]) (.pointer (some ⟨N1, 0, none⟩)) V2 (by rfl) (by rfl) (by decide) (by kernel_rfl) ?_
  walk_nrm
  refine lo_val (b := base 7) (es := #[⟨.cell ⟨N1, 0, none⟩, false, false⟩]) (.int .i64 x1) V2 (by rfl) (by rfl) (by decide) (by exact runT_v (runT_loadOne underlying3 rfl (by rw [cell2 ct1]; rfl))) ?_
  walk_nrm
  refine lo_val (b := base 7) (es := #[]) (.int .i64 s2) V2 (by rfl) (by rfl) (by decide) (by rw [← h2]; kernel_rfl) ?_
  walk_nrm
  refine lo_val (b := base 7) (es := #[]) (.int .i64 s2) V2 (by rfl) (by rfl) (by decide) (by kernel_rfl) ?_
  walk_nrm
  refine lo_go (stepG_region_end) ?_
  refine lo_go (stepG_inBlock) ?_
  refine lo_go (stepG_region) ?_
  simp only [List.size_toArray, List.length_cons, List.length_nil, Nat.reduceAdd, Nat.zero_add, List.range, List.range.loop]
  refine lo_val (b := base 7) (es := #[]) (.int .i64 2) V2 (by rfl) (by rfl) (by decide) (by kernel_rfl) ?_
  walk_nrm
  refine lo_val (b := base 7) (es := #[]) (.int .i64 2) V2 (by rfl) (by rfl) (by decide) (by kernel_rfl) ?_
  walk_nrm
  refine lo_go (stepG_region_end) ?_
  refine lo_go (stepG_inLoop) ?_
  refine lo_go (stepG_seq) ?_
  refine lo_go (stepG_region) ?_
  simp only [List.size_toArray, List.length_cons, List.length_nil, Nat.reduceAdd, Nat.zero_add, List.range, List.range.loop]
  refine lo_val (b := base 7) (es := #[]) (.bool true) V2 (by rfl) (by rfl) (by decide) (by kernel_rfl) ?_
  walk_nrm
  refine lo_go (stepG_region_end) ?_
  refine lo_go (stepG_seq) ?_
  refine lo_go (stepG_cond (t := true) rfl) ?_
  simp only [if_true, if_false, Bool.false_eq_true, ↓reduceIte]
  refine lo_go (stepG_skip) ?_
  refine lo_go (stepG_seq) ?_
  refine lo_go (stepG_block) ?_
  refine lo_go (stepG_seq) ?_
  refine lo_go (stepG_region) ?_
  simp only [List.size_toArray, List.length_cons, List.length_nil, Nat.reduceAdd, Nat.zero_add, List.range, List.range.loop]
  refine lo_val (b := base 7) (es := #[]) (.pointer (some ⟨B + 1, 4, none⟩)) V2 (by rfl) (by rfl) (by decide) (by kernel_rfl) ?_
  walk_nrm
  obtain ⟨es2, q2, _⟩ := runT_loadAgg (P := prog) (t := 41) (n := 2) underlying41 sizeOf41 (w := V2) (a := ⟨B + 1, 4, none⟩) (c := fun j => (#[.int .i64 x2, .int .i64 u2] : Array Value).getD j undef) (fun j hj => by
    rw [add_none, cellC V2 _ hb2]
    match j, hj with
    | 0, _ => exact g2
    | 1, _ => exact k2)
  refine lo_val (b := base 7) (es := es2) (.agg #[.int .i64 x2, .int .i64 u2]) V2 (by rfl) (by rfl) (by decide) (by exact runT_v q2) ?_
  walk_nrm
  obtain ⟨N2, hN2⟩ : ∃ N, V2.heap.size = N := ⟨_, rfl⟩
  have lN2 : V0.heap.size ≤ N2 := by have := hb2.size; omega
  obtain ⟨P2, hP2⟩ : ∃ P : World, P = { V2 with heap := V2.heap.push (.cells #[.int .i64 0, .int .i64 0] 41 (0, 0)) } := ⟨_, rfl⟩
  refine lo_val (b := base 7) (es := #[]) (.pointer (some ⟨N2, 0, none⟩)) P2 (by rfl) (by rfl) (by decide) (by rw [← hN2, hP2]; exact run_alloc zeroValue41 V2) ?_
  walk_nrm
  obtain ⟨V3, et2, st2, ct2, kt2, _⟩ := runT_storeAt (P := prog) (t := 41) (n := 2) (b := N2) (off := 0) (e := 41) (w := P2) (cs := #[.int .i64 0, .int .i64 0]) (v := .agg #[.int .i64 x2, .int .i64 u2]) sizeOf41 (by rw [hP2, ← hN2]; simp) rfl (by simp) (by simp [Value.cells])
  refine lo_skip (b := base 7) (es := et2) V3 (by rfl) (by rfl) (by decide) (by exact runT_u st2) ?_
  walk_nrm
  obtain ⟨hb3, hz3⟩ := push_store hb2 hN2 lN2 (hP2 ▸ kt2)
  refine lo_go (stepG_region_end) ?_
  refine lo_go (stepG_region) ?_
  simp only [List.size_toArray, List.length_cons, List.length_nil, Nat.reduceAdd, Nat.zero_add, List.range, List.range.loop]
  refine lo_val (b := base 7) (es := #[]) (.int .i64 s2) V3 (by rfl) (by rfl) (by decide) (by kernel_rfl) ?_
  walk_nrm
  refine lo_val (b := base 7) (es := #[]) (.pointer (some ⟨N2, 0, none⟩)) V3 (by rfl) (by rfl) (by decide) (by kernel_rfl) ?_
  walk_nrm
  refine lo_val (b := base 7) (es := #[⟨.cell ⟨N2, 0, none⟩, false, false⟩]) (.int .i64 x2) V3 (by rfl) (by rfl) (by decide) (by exact runT_v (runT_loadOne underlying3 rfl (by rw [cell2 ct2]; rfl))) ?_
  walk_nrm
  refine lo_val (b := base 7) (es := #[]) (.int .i64 s3) V3 (by rfl) (by rfl) (by decide) (by rw [← h3]; kernel_rfl) ?_
  walk_nrm
  refine lo_val (b := base 7) (es := #[]) (.int .i64 s3) V3 (by rfl) (by rfl) (by decide) (by kernel_rfl) ?_
  walk_nrm
  refine lo_go (stepG_region_end) ?_
  refine lo_go (stepG_inBlock) ?_
  refine lo_go (stepG_region) ?_
  simp only [List.size_toArray, List.length_cons, List.length_nil, Nat.reduceAdd, Nat.zero_add, List.range, List.range.loop]
  refine lo_val (b := base 7) (es := #[]) (.int .i64 3) V3 (by rfl) (by rfl) (by decide) (by kernel_rfl) ?_
  walk_nrm
  refine lo_val (b := base 7) (es := #[]) (.int .i64 3) V3 (by rfl) (by rfl) (by decide) (by kernel_rfl) ?_
  walk_nrm
  refine lo_go (stepG_region_end) ?_
  refine lo_go (stepG_inLoop) ?_
  refine lo_go (stepG_seq) ?_
  refine lo_go (stepG_region) ?_
  simp only [List.size_toArray, List.length_cons, List.length_nil, Nat.reduceAdd, Nat.zero_add, List.range, List.range.loop]
  refine lo_val (b := base 7) (es := #[]) (.bool true) V3 (by rfl) (by rfl) (by decide) (by kernel_rfl) ?_
  walk_nrm
  refine lo_go (stepG_region_end) ?_
  refine lo_go (stepG_seq) ?_
  refine lo_go (stepG_cond (t := true) rfl) ?_
  simp only [if_true, if_false, Bool.false_eq_true, ↓reduceIte]
  refine lo_go (stepG_skip) ?_
  refine lo_go (stepG_seq) ?_
  refine lo_go (stepG_block) ?_
  refine lo_go (stepG_seq) ?_
  refine lo_go (stepG_region) ?_
  simp only [List.size_toArray, List.length_cons, List.length_nil, Nat.reduceAdd, Nat.zero_add, List.range, List.range.loop]
  refine lo_val (b := base 7) (es := #[]) (.pointer (some ⟨B + 1, 6, none⟩)) V3 (by rfl) (by rfl) (by decide) (by kernel_rfl) ?_
  walk_nrm
  obtain ⟨es3, q3, _⟩ := runT_loadAgg (P := prog) (t := 41) (n := 2) underlying41 sizeOf41 (w := V3) (a := ⟨B + 1, 6, none⟩) (c := fun j => (#[.int .i64 x3, .int .i64 u3] : Array Value).getD j undef) (fun j hj => by
    rw [add_none, cellC V3 _ hb3]
    match j, hj with
    | 0, _ => exact g3
    | 1, _ => exact k3)
  refine lo_val (b := base 7) (es := es3) (.agg #[.int .i64 x3, .int .i64 u3]) V3 (by rfl) (by rfl) (by decide) (by exact runT_v q3) ?_
  walk_nrm
  obtain ⟨N3, hN3⟩ : ∃ N, V3.heap.size = N := ⟨_, rfl⟩
  have lN3 : V0.heap.size ≤ N3 := by have := hb3.size; omega
  obtain ⟨P3, hP3⟩ : ∃ P : World, P = { V3 with heap := V3.heap.push (.cells #[.int .i64 0, .int .i64 0] 41 (0, 0)) } := ⟨_, rfl⟩
  refine lo_val (b := base 7) (es := #[]) (.pointer (some ⟨N3, 0, none⟩)) P3 (by rfl) (by rfl) (by decide) (by rw [← hN3, hP3]; exact run_alloc zeroValue41 V3) ?_
  walk_nrm
  obtain ⟨V4, et3, st3, ct3, kt3, _⟩ := runT_storeAt (P := prog) (t := 41) (n := 2) (b := N3) (off := 0) (e := 41) (w := P3) (cs := #[.int .i64 0, .int .i64 0]) (v := .agg #[.int .i64 x3, .int .i64 u3]) sizeOf41 (by rw [hP3, ← hN3]; simp) rfl (by simp) (by simp [Value.cells])
  refine lo_skip (b := base 7) (es := et3) V4 (by rfl) (by rfl) (by decide) (by exact runT_u st3) ?_
  walk_nrm
  obtain ⟨hb4, hz4⟩ := push_store hb3 hN3 lN3 (hP3 ▸ kt3)
  refine lo_go (stepG_region_end) ?_
  refine lo_go (stepG_region) ?_
  simp only [List.size_toArray, List.length_cons, List.length_nil, Nat.reduceAdd, Nat.zero_add, List.range, List.range.loop]
  refine lo_val (b := base 7) (es := #[]) (.int .i64 s3) V4 (by rfl) (by rfl) (by decide) (by kernel_rfl) ?_
  walk_nrm
  refine lo_val (b := base 7) (es := #[]) (.pointer (some ⟨N3, 0, none⟩)) V4 (by rfl) (by rfl) (by decide) (by kernel_rfl) ?_
  walk_nrm
  refine lo_val (b := base 7) (es := #[⟨.cell ⟨N3, 0, none⟩, false, false⟩]) (.int .i64 x3) V4 (by rfl) (by rfl) (by decide) (by exact runT_v (runT_loadOne underlying3 rfl (by rw [cell2 ct3]; rfl))) ?_
  walk_nrm
  refine lo_val (b := base 7) (es := #[]) (.int .i64 sw) V4 (by rfl) (by rfl) (by decide) (by rw [← h4]; kernel_rfl) ?_
  walk_nrm
  refine lo_val (b := base 7) (es := #[]) (.int .i64 sw) V4 (by rfl) (by rfl) (by decide) (by kernel_rfl) ?_
  walk_nrm
  refine lo_go (stepG_region_end) ?_
  refine lo_go (stepG_inBlock) ?_
  refine lo_go (stepG_region) ?_
  simp only [List.size_toArray, List.length_cons, List.length_nil, Nat.reduceAdd, Nat.zero_add, List.range, List.range.loop]
  refine lo_val (b := base 7) (es := #[]) (.int .i64 4) V4 (by rfl) (by rfl) (by decide) (by kernel_rfl) ?_
  walk_nrm
  refine lo_val (b := base 7) (es := #[]) (.int .i64 4) V4 (by rfl) (by rfl) (by decide) (by kernel_rfl) ?_
  walk_nrm
  refine lo_go (stepG_region_end) ?_
  refine lo_go (stepG_inLoop) ?_
  refine lo_go (stepG_seq) ?_
  refine lo_go (stepG_region) ?_
  simp only [List.size_toArray, List.length_cons, List.length_nil, Nat.reduceAdd, Nat.zero_add, List.range, List.range.loop]
  refine lo_val (b := base 7) (es := #[]) (.bool false) V4 (by rfl) (by rfl) (by decide) (by kernel_rfl) ?_
  walk_nrm
  refine lo_go (stepG_region_end) ?_
  refine lo_go (stepG_seq) ?_
  refine lo_go (stepG_cond (t := false) rfl) ?_
  simp only [if_true, if_false, Bool.false_eq_true, ↓reduceIte]
  refine lo_go (stepG_exit rfl) ?_
  refine lo_go (stepG_seq) ?_
  refine lo_go (stepG_region) ?_
  simp only [List.size_toArray, List.length_cons, List.length_nil, Nat.reduceAdd, Nat.zero_add, List.range, List.range.loop]
  refine lo_val (b := base 7) (es := #[]) (.int .i64 sw) V4 (by rfl) (by rfl) (by decide) (by kernel_rfl) ?_
  walk_nrm
  refine lo_val (b := base 7) (es := #[]) (.int .i64 sw) V4 (by rfl) (by rfl) (by decide) (by kernel_rfl) ?_
  walk_nrm
  refine lo_go (stepG_region_end) ?_
  refine lo_go (stepG_ret') ?_
  refine lo_leave (fn := f7) (x := .int .i64 sw) (by rfl) (by rfl) (by rfl) (by rfl) (by kernel_rfl) ?_
  rw [Frame.finish_at]
  walk_nrm
  simp only [ops7, body3, f3, Option.getD_some]
  refine lo_val (b := base 3) (es := #[]) (.int .i64 sw) V4 (by rfl) (by rfl) (by decide) (by kernel_rfl) ?_
  walk_nrm
  refine lo_go (stepG_region_end) ?_
  refine lo_bind (tail3 (K := fun fr cs' w' => cs' = cs ∧ ∃ T, T.size = 27 ∧ T[2]? = some (.bool true) ∧ Below V0.heap.size V0 w' ∧ fr = (base 3).at ⟨T, []⟩ [.code .ret]) (Kd.C_below hr0 hb4) hc0 (Kd.C_below hr1 hb4) hc1 hto heq (fun T w' e1 e2 e3 => ⟨rfl, T, e1, e2, hb4.trans (e3.mono hb4.size), rfl⟩) _ _ _ _ _ _ _ _ _ _ _ _ _ _ _ _ _ _ _ _ _ _ _) ?_
  rintro fr' cs' w' ⟨rfl, T, e1, e2, e3, rfl⟩
  refine lo_go stepG_ret' ?_
  exact lo_stop (hK T _ w' e1 e2 e3)
end
end Go.Proofs.YtgdlakhfkmhlnaaWear
