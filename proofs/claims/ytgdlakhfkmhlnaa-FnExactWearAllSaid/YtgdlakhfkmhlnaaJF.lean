/- The whole worker; the four rounds of the starter. -/
import Derived.Test.YtgdlakhfkmhlnaaJC
import Derived.Test.YtgdlakhfkmhlnaaJD
import Derived.Conc.CompanyDraw
set_option linter.unusedVariables false
set_option linter.unusedSimpArgs false
set_option linter.unusedSectionVars false
namespace Go.Proofs.YtgdlakhfkmhlnaaWear
open Go.Proofs
abbrev wgl : Go.Conc.Lib.WgLink := { add := 21, done := 23, wait := 25, relMerge := 30, disable := 31, enable := 32, inBubble := 33, associate := 34, fatal := 35, uOr := 36, uAdd := 37, raceRead := 38, uLoad := 39, uStore := 40, disassociate := 41, semrelease := 42, acquire := 43, isAssociated := 44, uCas := 45, raceWrite := 46, semacquire := 47, orU64 := 53, addU64 := 54, loadU64 := 55, storeU64 := 56, casU64 := 57, tWgP := 72, tUP := 74, tAssoc := 76, tWg := 63, tAU := 60, tU64 := 58, tUint := 80, tU32 := 61, tPU32 := 81, tPAU := 95, tPU64 := 97, tNoCopy := 55, tANoCopy := 56, tAlign64 := 57 }
theorem wgLib : Go.Conc.Lib.WgLib Try.prog wgl :=
  ⟨Try.func21, Try.func23, Try.func25, Try.func30, Try.func31, Try.func32, Try.func33, Try.func34, Try.func35, Try.func36, Try.func37, Try.func38, Try.func39, Try.func40, Try.func41, Try.func42, Try.func43, Try.func44, Try.func45, Try.func46, Try.func47, Try.func53, Try.func54, Try.func55, Try.func56, Try.func57, Try.underlying72, Try.runUnderlying72, Try.sizeOf72, Try.isAgg72, Try.zeroValue72, Try.underlying74, Try.runUnderlying74, Try.sizeOf74, Try.isAgg74, Try.zeroValue74, Try.underlying76, Try.runUnderlying76, Try.sizeOf76, Try.isAgg76, Try.zeroValue76, Try.underlying63, Try.runUnderlying63, Try.sizeOf63, Try.isAgg63, Try.zeroValue63, Try.underlying60, Try.runUnderlying60, Try.sizeOf60, Try.isAgg60, Try.zeroValue60, Try.underlying58, Try.runUnderlying58, Try.sizeOf58, Try.isAgg58, Try.zeroValue58, Try.underlying80, Try.runUnderlying80, Try.sizeOf80, Try.isAgg80, Try.zeroValue80, Try.underlying61, Try.runUnderlying61, Try.sizeOf61, Try.isAgg61, Try.zeroValue61, Try.underlying81, Try.runUnderlying81, Try.sizeOf81, Try.isAgg81, Try.zeroValue81, Try.underlying95, Try.runUnderlying95, Try.sizeOf95, Try.isAgg95, Try.zeroValue95, Try.underlying97, Try.runUnderlying97, Try.sizeOf97, Try.isAgg97, Try.zeroValue97, Try.underlying0, Try.runUnderlying0, Try.sizeOf0, Try.isAgg0, Try.zeroValue0, Try.underlying3, Try.runUnderlying3, Try.sizeOf3, Try.isAgg3, Try.zeroValue3, Try.underlying4, Try.runUnderlying4, Try.sizeOf4, Try.isAgg4, Try.zeroValue4, Try.underlying9, Try.runUnderlying9, Try.sizeOf9, Try.isAgg9, Try.zeroValue9, Try.underlying20, Try.runUnderlying20, Try.sizeOf20, Try.isAgg20, Try.zeroValue20, Try.underlying21, Try.runUnderlying21, Try.sizeOf21, Try.isAgg21, Try.zeroValue21, (by kernel_rfl), (by kernel_rfl)⟩
instance : Go.ConcR.Payload := ⟨41⟩
end Go.Proofs.YtgdlakhfkmhlnaaWear
namespace Go.Proofs.YtgdlakhfkmhlnaaWear
open Go.Conc Go.ConcN Go.RowKit Go.Conc.Lib Go.ConcR.Gen Go.Proofs.Try
open Go.ConcR (KK wgBlock WgAt stA smA rd wr mk Payload Aside2 DC0)
variable [Payload]
section
variable {Wg C Low i : Nat} {w₀ : World} {v : Value}
variable {b : Frame} {a : Act} {k : List Item} {cs : List Frame}
theorem wk_valT {e : Nat} {own : List (Nat × Obj)} {ops : Array Oper} {j : Nat} {rest : List Nat} {o : Oper} (x : Value) (ho : ops[j]? = some o) (hw : Region.wanted o (yielded ops a.tmps) = true) (hk : b.kind ≠ .early)
    (hr : ∀ w, (execOp a.eval o).runT prog w #[] = (.ok (.value x) w, #[])) (hn : (Wk Wg C Low i w₀ v) e own (G (b.at (a.put o.dst x) (.inRegion ops rest :: k)) cs)) : (Wk Wg C Low i w₀ v) (e + 1) own (G (b.at a (.inRegion ops (j :: rest) :: k)) cs) :=
  wk_go rfl (fun w => by rw [act_val ho hw hk (hr w), seen_none]) hn
theorem wk_call {e : Nat} {own : List (Nat × Obj)} {ops : Array Oper} {j : Nat} {rest : List Nat} {o : Oper} {f : FuncId} {fn : Func} {c : Code} {args : Array Operand} {ats : Array TypeId}
    (ho : ops[j]? = some o) (hw : Region.wanted o (yielded ops a.tmps) = true) (hk : b.kind ≠ .early) (hop : o.op = .call { callee := .value (.func f), args, argTypes := ats })
    (hf : prog.funcs[f]? = some fn) (hname : (fn.name == "runtime.NumGoroutine") = false) (hb : fn.body = some c)
    (hn : (Wk Wg C Low i w₀ v) e own (G ((base f).at { tmps := args.map a.eval ++ Array.replicate (fn.ntmps - (args.map a.eval).size) undef, defers := [] } [.code c]) (b.at a (.inRegion ops (j :: rest) :: k) :: cs))) : (Wk Wg C Low i w₀ v) (e + 1) own (G (b.at a (.inRegion ops (j :: rest) :: k)) cs) :=
  wk_go rfl (fun w => by
    have := goes_call (P := prog) (main := false) (w := w) (K := fun g' w' es' => g' = G ((base f).at { tmps := args.map a.eval ++ Array.replicate (fn.ntmps - (args.map a.eval).size) undef, defers := [] } [.code c]) (b.at a (.inRegion ops (j :: rest) :: k) :: cs) ∧ w' = w ∧ es' = #[]) (cs := cs) (k := k) ho hw hk hop hf hname hb ⟨rfl, rfl, rfl⟩
    revert this
    cases stepG prog false (G (b.at a (.inRegion ops (j :: rest) :: k)) cs) w <;> intro h <;> first | exact h.elim | (obtain ⟨rfl, rfl, rfl⟩ := h; rfl)) hn
theorem run_idx25 {FB fc i : Nat} (hi : i < 4) (w : World) : (do pure (.value (← Instr.indexAt 25 (.slice (some ⟨FB, 0, none⟩) 4 fc) (.int .i64 i))) : Sem Next).runT prog w #[] = (.ok (.value (.pointer (some ⟨FB, 2 * i, none⟩))) w, #[]) :=
  match i, hi with
  | 0, _ => by kernel_rfl
  | 1, _ => by kernel_rfl
  | 2, _ => by kernel_rfl
  | 3, _ => by kernel_rfl
theorem run_idx38 {FB fc i : Nat} (hi : i < 4) (w : World) : (do pure (.value (← Instr.indexAt 38 (.slice (some ⟨FB, 0, none⟩) 4 fc) (.int .i64 i))) : Sem Next).runT prog w #[] = (.ok (.value (.pointer (some ⟨FB, 2 * i, none⟩))) w, #[]) :=
  match i, hi with
  | 0, _ => by kernel_rfl
  | 1, _ => by kernel_rfl
  | 2, _ => by kernel_rfl
  | 3, _ => by kernel_rfl
end

/-! ### the last store and what follows -/
section
variable {Wg C Low i : Nat}
structure KE (Wg C i : Nat) (x y : Int) (w : World) : Prop where
  live : WgLive 63 Wg w
  h0 : Has C (2 * i) (.int .i64 x) w
  h1 : Has C (2 * i + 1) (.int .i64 y) w
theorem KE.rely {x y : Int} {o : List Nat} {w w₁ : World} (h : KE Wg C i x y w) (r : RK 63 Wg C Low 4 i o w w₁) : KE Wg C i x y w₁ :=
  ⟨r.ra.live h.live, r.c0.trans h.h0, r.c1.trans h.h1⟩
theorem quitsTail (T : Array Value) (bot : Frame) (hb : bot = { bornOf (wearD 0 0 0 0) with defers := [] }) : QuitsD prog 2 0 (G { (baseD 22).at ⟨T, []⟩ [] with mode := .returning } [bot]) := by
  subst hb
  refine QuitsD.ctl (g' := G { bornOf (wearD 0 0 0 0) with defers := [] } []) rfl (fun w => ?_) ?_
  · simp [G, stepG, unwind, doReturn, results, Frame.at, baseD, bornOf, func22, f22, seen, GStep.after, goexitEntry]
  refine QuitsD.ctl (g' := { G { bornOf (wearD 0 0 0 0) with defers := [] } [] with status := .finished }) rfl (fun w => ?_) ⟨rfl, rfl⟩
  simp [G, stepG, unwind, bornOf, goexitEntry, Frame.catches]
  rfl
end
end Go.Proofs.YtgdlakhfkmhlnaaWear
namespace Go.Proofs.YtgdlakhfkmhlnaaWear
open Go.Conc Go.ConcN Go.RowKit Go.Conc.Lib Go.ConcR.Gen Go.Proofs.Try
open Go.ConcR (KK wgBlock WgAt stA smA rd wr mk Payload Aside2 DC0)
variable [Payload]

/-- What the worker's memory holds at its birth. -/
structure KI (Wg C Low i B V FB fc PB pc : Nat) (worn : Int) (pg : Nat → Nat → Int) (w₀ : World) : Prop where
  hi : i < 4
  lB : B < Low ∧ B ≠ Wg ∧ B ≠ C
  lV : V < Low ∧ V ≠ Wg ∧ V ≠ C
  lF : FB < Low ∧ FB ≠ Wg ∧ FB ≠ C
  lP : PB < Low ∧ PB ≠ Wg ∧ PB ≠ C
  hB : w₀.cell? ⟨B, 0, none⟩ = some (.slice (some ⟨FB, 0, none⟩) 4 fc)
  hV : w₀.cell? ⟨V, 0, none⟩ = some (.slice (some ⟨C, 0, none⟩) 4 4)
  hF0 : w₀.cell? ⟨FB, 2 * i, none⟩ = some (.slice (some ⟨PB, 0, none⟩) 4 pc)
  hF1 : w₀.cell? ⟨FB, 2 * i + 1, none⟩ = some (.int .i64 worn)
  hP : ∀ k, k < 4 → ∀ j, j < 5 → w₀.cell? ⟨PB, 5 * k + j, none⟩ = some (.int .i64 (pg k j))
noncomputable def bot22 : Frame := { bornOf (wearD 0 0 0 0) with defers := [] }
def T22 (Wg B X V : Nat) (b0 b1 b2 b3 b4 b5 b6 b7 : Bool) (v0 v1 v2 v3 v4 v5 v6 v7 : Value) : Array Value := #[.pointer (some ⟨Wg, 0, none⟩), .pointer (some ⟨B, 0, none⟩), .pointer (some ⟨X, 0, none⟩), .pointer (some ⟨V, 0, none⟩), bif b0 then v0 else undef, bif b1 then v1 else undef, bif b2 then v2 else undef, bif b3 then v3 else undef, bif b4 then v4 else undef, bif b5 then v5 else undef, bif b6 then v6 else undef, bif b7 then v7 else undef]
noncomputable def G22 (Wg B X V : Nat) (b0 b1 b2 b3 b4 b5 b6 b7 : Bool) (v0 v1 v2 v3 v4 v5 v6 v7 : Value) (L : List Nat) : Goroutine := G ((baseD 22).at ⟨T22 Wg B X V b0 b1 b2 b3 b4 b5 b6 b7 v0 v1 v2 v3 v4 v5 v6 v7, [dcall 23 #[.pointer (some ⟨Wg, 0, none⟩)]]⟩ [.inRegion ops22 L]) [bot22]
def c1 (b : Bool) : Nat := bif b then 0 else 1
noncomputable def c22 (pg : Nat → Nat → Int) (b0 b1 b2 b3 b4 b5 b6 b7 : Bool) : Nat := c1 b0 + c1 b1 + c1 b2 + c1 b3 + c1 b4 + c1 b5 + (bif b6 then 0 else costOf pg + 1) + c1 b7 + 1

section
variable {Wg C Low i : Nat} {w₀ : World}
theorem cell2 {C : Nat} {w : World} {cs : Array Value} {e : TypeId} (h : w.heap[C]? = some (.cells cs e (0, 0))) (j : Nat) : w.cell? ⟨C, j, none⟩ = cs[j]? := by
  simp [World.cell?, h]
/-- The deferred Done. -/
theorem goesDone {x y : Int} {o : List Nat} (T : Array Value) (w : World) (h : KE Wg C i x y w) :
    Goes prog false (RK 63 Wg C Low 4 i o) DC0 (AtLib prog 63 Wg C 4 i (.int .i64 x) o) 2 (G ((baseD 22).at ⟨T, [dcall 23 #[.pointer (some ⟨Wg, 0, none⟩)]]⟩ [.inRegion ops22 []]) [bot22]) w := by
  have rl : ∀ {w w₁ : World}, KE Wg C i x y w → RK 63 Wg C Low 4 i o w w₁ → KE Wg C i x y w₁ := fun h r => h.rely r
  u_c stepG_region_end rl h
  u_c stepG_end rl h
  refine Goes.stop fun w₁ h₁ => ?_
  replace h := rl h h₁
  have hd : f23.body = some (body_done wgl) := by kernel_rfl
  have hn : (f23.name == "runtime.NumGoroutine") = false := by kernel_rfl
  have ht : f23.ntmps = 4 := by kernel_rfl
  refine ⟨rfl, ⟨y, h.h1⟩, _, stepG_unwind_enter (b := baseD 22) (a := ⟨T, [dcall 23 #[.pointer (some ⟨Wg, 0, none⟩)]]⟩) (ds := []) rfl func23 hn hd, 23, ?_⟩
  have key := Go.ConcN.Gen.doneN (P := prog) (L := wgl) wgLib (Own := NoP) (Rd := NoP) (Wg := Wg) (C := C) (n := 2 * 4) (Low := 0) (k := 2 * i + 1) (val := .int .i64 x) (c := { (baseD 22).at ⟨T, []⟩ [] with mode := .returning }) (cs := [bot22]) (qt := 2) rfl (quitsTail T bot22 rfl) w₁ ⟨h.live, h.h0⟩
  rw [ht]
  exact key
set_option maxRecDepth 100000 in
theorem last22 (hG : Plan Wg C Low) {B X V : Nat} {x y : Int} {own : List (Nat × Obj)} {v0 v1 v2 v3 v4 v5 v6 v7 : Value} (hi : i < 4) (hv6 : v6 = .agg #[.int .i64 x, .int .i64 y]) (hv7 : v7 = .pointer (some ⟨C, 2 * i, none⟩)) (hge : ∀ p, p ∈ own → Low ≤ p.1) :
    Wk Wg C Low i w₀ (.int .i64 x) (0 + 1) own (G22 Wg B X V true true true true true true true true v0 v1 v2 v3 v4 v5 v6 v7 [8]) := by
  subst hv6 hv7
  intro w hw
  refine ⟨0, fun w₁ h₁ => ⟨rfl, ?_⟩⟩
  have hw := hw.rely h₁
  obtain ⟨cs, hcs, hsz⟩ := hw.pay
  obtain ⟨w', es, g1, g2, g3, g4⟩ := runT_storeAt (P := prog) (t := 41) (n := 2) (b := C) (off := 2 * i) (v := .agg #[.int .i64 x, .int .i64 y]) sizeOf41 hcs rfl (by omega) (by simp [Value.cells])
  have hCn : C ∉ own.map Prod.fst := fun hm => by
    obtain ⟨p, hp, e⟩ := List.mem_map.1 hm
    have := hge p hp; have := hG.hC; omega
  have hcel : ∀ c, c ≠ 2 * i → c ≠ 2 * i + 1 → w'.cell? ⟨C, c, none⟩ = w₁.cell? ⟨C, c, none⟩ := by
    intro c n1 n2
    rw [cell2 g2, cell2 hcs]
    simp [Value.cells, setFrom, Array.getElem?_setIfInBounds, Ne.symm n1, Ne.symm n2]
  have hs : stepG prog false (G22 Wg B X V true true true true true true true true v0 v1 v2 v3 v4 v5 (.agg #[.int .i64 x, .int .i64 y]) (.pointer (some ⟨C, 2 * i, none⟩)) [8]) w₁ = .go (G22 Wg B X V true true true true true true true true v0 v1 v2 v3 v4 v5 (.agg #[.int .i64 x, .int .i64 y]) (.pointer (some ⟨C, 2 * i, none⟩)) []) w' (seen prog 22 es) := by
    simp only [G22, ops22, body22, f22, Option.getD_some]
    refine (act_skip (P := prog) (main := false) (b := baseD 22) (w' := w') (es := es) (by rfl) (by rfl) (by decide) (by exact runT_u g1)).trans ?_
    rfl
  refine ⟨_, w', _, own.map Prod.fst, hs, .inl ⟨rfl, ⟨g3.tape, g3.os, g3.output, g3.size, fun b _ hb => g3.block b hb, fun _ => ⟨_, g2, ?_⟩, hcel, fun e he => ?_⟩⟩, 2, ?_⟩
  · rw [setFrom_size]; exact hsz
  · obtain ⟨j, hj, rfl⟩ := g4 e (Go.Conc.mem_seen he)
    exact ⟨_, true, rfl, .inr (.inl ⟨rfl, by simp only; omega⟩)⟩
  · refine goesDone (y := y) _ w' ⟨?_, ?_, ?_⟩
    · exact live_block (g3.block Wg (Ne.symm hG.hCW)) hw.live
    · show w'.cell? _ = _
      rw [cell2 g2]
      simp [Value.cells, setFrom, Array.getElem?_setIfInBounds, hsz]
      omega
    · show w'.cell? _ = _
      rw [cell2 g2]
      simp [Value.cells, setFrom, Array.getElem?_setIfInBounds, hsz]
      omega
end

section
variable {Wg C Low i B X V FB fc PB pc : Nat} {w₀ : World} {worn : Int} {pg : Nat → Nat → Int}
set_option maxRecDepth 100000 in
set_option maxHeartbeats 4000000 in
theorem run22 (hG : Plan Wg C Low) (hLow : Low = Wg + 1) (K : KI Wg C Low i B V FB fc PB pc worn pg w₀) : ∀ (n : Nat) (b0 b1 b2 b3 b4 b5 b6 b7 : Bool) (L : List Nat) (own : List (Nat × Obj)) (torn : Int), Sched .any ops22 n #[b0, b1, b2, b3, b4, b5, b6, b7, false] L → n = c1 b0 + c1 b1 + c1 b2 + c1 b3 + c1 b4 + c1 b5 + c1 b6 + c1 b7 + 1 →
    (∀ p, p ∈ own → Low ≤ p.1) → (X, Obj.cells #[.int .i64 i] 3 (0, 0)) ∈ own → Wk Wg C Low i w₀ (.int .i64 worn) (c22 pg b0 b1 b2 b3 b4 b5 b6 b7) own (G22 Wg B X V b0 b1 b2 b3 b4 b5 b6 b7 (.slice (some ⟨C, 0, none⟩) 4 4) (.int .i64 i) (.slice (some ⟨FB, 0, none⟩) 4 fc) (.int .i64 i) (.pointer (some ⟨FB, 2 * i, none⟩)) (.agg #[.slice (some ⟨PB, 0, none⟩) 4 pc, .int .i64 worn]) (.agg #[.int .i64 worn, .int .i64 torn]) (.pointer (some ⟨C, 2 * i, none⟩)) L) := by
  have lowc : ∀ (w : World) (own' : List (Nat × Obj)) (bb : Nat), (bb < Low ∧ bb ≠ Wg ∧ bb ≠ C) → KW Wg C Low w₀ own' w → ∀ off, w.cell? ⟨bb, off, none⟩ = w₀.cell? ⟨bb, off, none⟩ := fun w own' bb h hw off => cell_of_block (hw.low bb h.1 h.2.1 h.2.2) off
  intro n
  induction n with
  | zero => intro b0 b1 b2 b3 b4 b5 b6 b7 L own torn _ hn; omega
  | succ n ih =>
    intro b0 b1 b2 b3 b4 b5 b6 b7 L own torn hS hn hge hX
    cases hS with
    | dead hd =>
      have := (ready22 b0 b1 b2 b3 b4 b5 b6 b7 false).2 (by rw [hd]; rfl)
      simp at this
    | @take _ j _ rest hj hrest =>
      rcases take22 hj with ⟨rfl, rfl⟩ | ⟨rfl, rfl⟩ | ⟨rfl, rfl⟩ | ⟨rfl, rfl⟩ | ⟨rfl, rfl, rfl, rfl⟩ | ⟨rfl, rfl, rfl⟩ | ⟨rfl, rfl, rfl⟩ | ⟨rfl, rfl, rfl, rfl, rfl, rfl, rfl, rfl, rfl⟩ | ⟨rfl, rfl, rfl, rfl, rfl, rfl, rfl, rfl, rfl, _⟩
      · have ihk := fun own' torn' => ih true b1 b2 b3 b4 b5 b6 b7 rest own' torn' hrest (by simp only [c1, cond_true, cond_false] at hn ⊢; omega)
        rw [show c22 pg false b1 b2 b3 b4 b5 b6 b7 = c22 pg true b1 b2 b3 b4 b5 b6 b7 + 1 from by simp only [c22, c1, cond_true, cond_false] <;> omega]
        simp only [G22, ops22, body22, f22, Option.getD_some] at ihk ⊢
        refine wk_load (b := baseD 22) (.slice (some ⟨C, 0, none⟩) 4 4) (by rfl) (by rfl) (by decide) (fun w hw => ⟨_, by exact runT_v (runT_loadOne (a := ⟨V, 0, none⟩) underlying38 rfl (by rw [lowc w _ V K.lV hw]; exact K.hV)), fun y hy => by rw [Array.mem_singleton] at hy; subst hy; exact ⟨_, false, rfl, .inr (.inr ⟨rfl, K.lV⟩)⟩⟩) ?_
        exact ihk own torn hge hX
      · have ihk := fun own' torn' => ih b0 true b2 b3 b4 b5 b6 b7 rest own' torn' hrest (by simp only [c1, cond_true, cond_false] at hn ⊢; omega)
        rw [show c22 pg b0 false b2 b3 b4 b5 b6 b7 = c22 pg b0 true b2 b3 b4 b5 b6 b7 + 1 from by simp only [c22, c1, cond_true, cond_false] <;> omega]
        simp only [G22, ops22, body22, f22, Option.getD_some] at ihk ⊢
        refine wk_load (b := baseD 22) (.int .i64 i) (by rfl) (by rfl) (by decide) (fun w hw => ⟨_, by exact runT_v (runT_loadOne (a := ⟨X, 0, none⟩) underlying3 rfl (by have := hw.own _ hX; simp only [World.cell?] at this ⊢; rw [this]; rfl)), fun y hy => by rw [Array.mem_singleton] at hy; subst hy; exact ⟨_, false, rfl, .inl (List.mem_map.2 ⟨_, hX, rfl⟩)⟩⟩) ?_
        exact ihk own torn hge hX
      · have ihk := fun own' torn' => ih b0 b1 true b3 b4 b5 b6 b7 rest own' torn' hrest (by simp only [c1, cond_true, cond_false] at hn ⊢; omega)
        rw [show c22 pg b0 b1 false b3 b4 b5 b6 b7 = c22 pg b0 b1 true b3 b4 b5 b6 b7 + 1 from by simp only [c22, c1, cond_true, cond_false] <;> omega]
        simp only [G22, ops22, body22, f22, Option.getD_some] at ihk ⊢
        refine wk_load (b := baseD 22) (.slice (some ⟨FB, 0, none⟩) 4 fc) (by rfl) (by rfl) (by decide) (fun w hw => ⟨_, by exact runT_v (runT_loadOne (a := ⟨B, 0, none⟩) underlying25 rfl (by rw [lowc w _ B K.lB hw]; exact K.hB)), fun y hy => by rw [Array.mem_singleton] at hy; subst hy; exact ⟨_, false, rfl, .inr (.inr ⟨rfl, K.lB⟩)⟩⟩) ?_
        exact ihk own torn hge hX
      · have ihk := fun own' torn' => ih b0 b1 b2 true b4 b5 b6 b7 rest own' torn' hrest (by simp only [c1, cond_true, cond_false] at hn ⊢; omega)
        rw [show c22 pg b0 b1 b2 false b4 b5 b6 b7 = c22 pg b0 b1 b2 true b4 b5 b6 b7 + 1 from by simp only [c22, c1, cond_true, cond_false] <;> omega]
        simp only [G22, ops22, body22, f22, Option.getD_some] at ihk ⊢
        refine wk_load (b := baseD 22) (.int .i64 i) (by rfl) (by rfl) (by decide) (fun w hw => ⟨_, by exact runT_v (runT_loadOne (a := ⟨X, 0, none⟩) underlying3 rfl (by have := hw.own _ hX; simp only [World.cell?] at this ⊢; rw [this]; rfl)), fun y hy => by rw [Array.mem_singleton] at hy; subst hy; exact ⟨_, false, rfl, .inl (List.mem_map.2 ⟨_, hX, rfl⟩)⟩⟩) ?_
        exact ihk own torn hge hX
      · have ihk := fun own' torn' => ih b0 b1 true true true b5 b6 b7 rest own' torn' hrest (by simp only [c1, cond_true, cond_false] at hn ⊢; omega)
        rw [show c22 pg b0 b1 true true false b5 b6 b7 = c22 pg b0 b1 true true true b5 b6 b7 + 1 from by simp only [c22, c1, cond_true, cond_false] <;> omega]
        simp only [G22, ops22, body22, f22, Option.getD_some] at ihk ⊢
        refine wk_valT (b := baseD 22) (.pointer (some ⟨FB, 2 * i, none⟩)) (by rfl) (by rfl) (by decide) (fun w => by exact run_idx25 K.hi w) ?_
        exact ihk own torn hge hX
      · have ihk := fun own' torn' => ih b0 b1 b2 b3 true true b6 b7 rest own' torn' hrest (by simp only [c1, cond_true, cond_false] at hn ⊢; omega)
        rw [show c22 pg b0 b1 b2 b3 true false b6 b7 = c22 pg b0 b1 b2 b3 true true b6 b7 + 1 from by simp only [c22, c1, cond_true, cond_false] <;> omega]
        simp only [G22, ops22, body22, f22, Option.getD_some] at ihk ⊢
        refine wk_load (b := baseD 22) (.agg #[.slice (some ⟨PB, 0, none⟩) 4 pc, .int .i64 worn]) (by rfl) (by rfl) (by decide) (fun w hw => ?_) ?_
        · obtain ⟨es, g5, g6⟩ := runT_loadAgg (P := prog) (t := 36) (n := 2) underlying36 sizeOf36 (w := w) (a := ⟨FB, 2 * i, none⟩) (c := fun j => (#[.slice (some ⟨PB, 0, none⟩) 4 pc, .int .i64 worn] : Array Value).getD j undef) (fun j hj => by
            rw [add_none, lowc w _ FB K.lF hw]
            match j, hj with
            | 0, _ => exact K.hF0
            | 1, _ => exact K.hF1)
          refine ⟨es, by exact runT_v g5, fun y hy => ?_⟩
          obtain ⟨j, hj, rfl⟩ := g6 y hy
          exact ⟨_, false, rfl, .inr (.inr ⟨rfl, by rw [add_none]; exact K.lF⟩)⟩
        exact ihk own torn hge hX
      · have ihk := fun own' torn' => ih b0 b1 b2 b3 b4 true true b7 rest own' torn' hrest (by simp only [c1, cond_true, cond_false] at hn ⊢; omega)
        rw [show c22 pg b0 b1 b2 b3 b4 true false b7 = c22 pg b0 b1 b2 b3 b4 true true b7 + costOf pg + 1 from by simp only [c22, c1, cond_true, cond_false] <;> omega]
        simp only [G22, ops22, body22, f22, Option.getD_some] at ihk ⊢
        refine wk_call (b := baseD 22) (c := body24) (by rfl) (by rfl) (by decide) (by rfl) func24 (by kernel_rfl) (by kernel_rfl) ?_
        walk_nrmf f24
        have hw24 := @wearOf _ Wg C Low i w₀ (.int .i64 worn) hG hLow PB pc worn pg K.lP K.hP own
        refine hw24 _ _ _ hge (fun own' torn' hge' hsub => ?_)
        exact ihk own' torn' hge' (hsub _ hX)
      · have ihk := fun own' torn' => ih true true true true true true true true rest own' torn' hrest (by simp only [c1, cond_true, cond_false] at hn ⊢; omega)
        rw [show c22 pg true true true true true true true false = c22 pg true true true true true true true true + 1 from by simp only [c22, c1, cond_true, cond_false] <;> omega]
        simp only [G22, ops22, body22, f22, Option.getD_some] at ihk ⊢
        refine wk_valT (b := baseD 22) (.pointer (some ⟨C, 2 * i, none⟩)) (by rfl) (by rfl) (by decide) (fun w => by exact run_idx38 K.hi w) ?_
        exact ihk own torn hge hX
      · have hn0 : n = 0 := by simp only [c1, cond_true, cond_false] at hn; omega
        subst hn0
        cases hrest
        exact last22 hG K.hi rfl rfl hge
theorem KW.drew {own : List (Nat × Obj)} {w : World} {d : Nat} (h : KW Wg C Low w₀ own w) : KW Wg C Low w₀ own { w with drawn := d } := ⟨h.low, h.live, h.pay, h.own⟩
/-- The worker's whole script, up to Done. -/
theorem works22 (hG : Plan Wg C Low) (hLow : Low = Wg + 1) (K : KI Wg C Low i B V FB fc PB pc worn pg w₀) (hX : Low ≤ X) :
    Wk Wg C Low i w₀ (.int .i64 worn) (c22 pg false false false false false false false false + 6) [(X, Obj.cells #[.int .i64 i] 3 (0, 0))] (G (bornOf (wearD Wg B X V)) []) := by
  have hge : ∀ p, p ∈ [(X, Obj.cells #[.int .i64 i] 3 (0, 0))] → Low ≤ p.1 := by
    intro p hp
    rcases List.mem_cons.1 hp with rfl | hp
    · exact hX
    · simp at hp
  refine wk_go rfl (fun w => step_born Wg B X V w) ?_
  have hob : ∃ o : Oper, o.dst = none ∧ o.op = .defer { callee := .value (.func 23), args := #[.tmp 0], argTypes := #[63] } ∧ o.guard = none ∧ body22 = .seq (.region 0 #[o] false) (.region 1 ops22 true) :=
    ⟨(match body22 with | .seq (.region _ ops _) _ => ops[0]?.getD default | _ => default), by kernel_rfl, by kernel_rfl, by kernel_rfl, by kernel_rfl⟩
  obtain ⟨o, ho1, ho2, ho3, hb⟩ := hob
  rw [hb]
  refine wk_go rfl (fun _ => stepG_seq) ?_
  refine wk_go rfl (fun _ => stepG_region) ?_
  refine wk_go rfl (fun _ => stepG_defer (b := baseD 22) (o := o) (by rfl) (by unfold Region.wanted; rw [ho3]) (by decide) (f := 23) («as» := #[.tmp 0]) (ats := #[63]) ho2) ?_
  refine wk_go rfl (fun _ => stepG_region_end) ?_
  refine wk_step rfl (fun w hw => ⟨_, _, #[], _, stepG_region_draw, .inl ⟨rfl, ⟨rfl, rfl, rfl, rfl, fun _ _ _ => rfl, id, fun _ _ _ => rfl, by simp⟩⟩, hw.drew, ?_⟩)
  rw [ho1]
  simp only [List.map_toArray, List.map_cons, List.map_nil]
  exact run22 hG hLow K 9 false false false false false false false false _ _ 0 (sched22 _) rfl hge List.mem_cons_self
end
end Go.Proofs.YtgdlakhfkmhlnaaWear
namespace Go.Proofs.YtgdlakhfkmhlnaaWear
open Go.Conc Go.ConcN Go.RowKit Go.Conc.Lib Go.ConcR.Gen Go.Proofs.Try
open Go.ConcR (KK wgBlock WgAt stA smA rd wr mk Payload Aside2 DC0)
variable [Payload]

/-! ### the starter's own calculus -/
structure KS (Wg C Low : Nat) (w₀ : World) (own : List (Nat × Obj)) (w : World) : Prop where
  low : ∀ b, b < Low → b ≠ Wg → b ≠ C → w.heap[b]? = w₀.heap[b]?
  live : WgLive 63 Wg w
  own : ∀ p, p ∈ own → w.heap[p.1]? = some p.2
section
variable {Wg C Low : Nat} {w₀ : World} {Stop : List Nat → Goroutine → World → Prop}
theorem KS.rely {own : List (Nat × Obj)} {w w₁ : World} (h : KS Wg C Low w₀ own w) (r : RA 63 Wg C Low (own.map Prod.fst) w w₁) : KS Wg C Low w₀ own w₁ :=
  ⟨fun b h1 h2 h3 => (r.low b h1 h2 h3).trans (h.low b h1 h2 h3), r.live h.live, fun p hp => (r.own p.1 (List.mem_map.2 ⟨p, hp, rfl⟩)).trans (h.own p hp)⟩
theorem KS.wg {own : List (Nat × Obj)} {w : World} (h : KS Wg C Low w₀ own w) : Wg < w.heap.size := by
  obtain ⟨_, _, hl⟩ := h.live
  exact (Array.getElem?_eq_some_iff.1 hl).1
variable (Wg C Low w₀ Stop) in
def Sk (e : Nat) (own : List (Nat × Obj)) (g : Goroutine) : Prop :=
  ∀ w, KS Wg C Low w₀ own w → ∃ m, Ph prog true (RA 63 Wg C Low) (XS Wg C Low) Stop e (own.map Prod.fst) m g w
theorem ds_refl (o : List Nat) (w : World) : DS Wg C Low o w w #[] := ⟨rfl, rfl, rfl, rfl, fun _ _ => rfl, by simp⟩
theorem sk_step {e : Nat} {own : List (Nat × Obj)} {g : Goroutine} (hg : g.status = .running) (h : ∀ w, KS Wg C Low w₀ own w → ∃ g' w' es own', stepG prog true g w = .go g' w' es ∧ XS Wg C Low (own.map Prod.fst) (own'.map Prod.fst) w w' es ∧ KS Wg C Low w₀ own' w' ∧ Sk Wg C Low w₀ Stop e own' g') : Sk Wg C Low w₀ Stop (e + 1) own g := by
  intro w hw
  refine ⟨0, fun w₁ h₁ => ⟨hg, ?_⟩⟩
  obtain ⟨g', w', es, own', hs, hx, hk, hn⟩ := h w₁ (hw.rely h₁)
  obtain ⟨m, hm⟩ := hn w' hk
  exact ⟨g', w', es, own'.map Prod.fst, hs, hx, m, hm⟩
theorem sk_go {e : Nat} {own : List (Nat × Obj)} {g g' : Goroutine} (hg : g.status = .running) (h : ∀ w, stepG prog true g w = .go g' w #[]) (hn : Sk Wg C Low w₀ Stop e own g') : Sk Wg C Low w₀ Stop (e + 1) own g :=
  sk_step hg fun w hw => ⟨g', w, #[], own, h w, .inl ⟨rfl, ds_refl _ _⟩, hw, hn⟩
theorem sk_new (hLow : Low = Wg + 1) (hC : C < Low) {e : Nat} {own : List (Nat × Obj)} {g : Goroutine} {g' : Nat → Goroutine} {x : Obj} (hg : g.status = .running) (h : ∀ w, stepG prog true g w = .go (g' w.heap.size) { w with heap := w.heap.push x } #[]) (hn : ∀ b, Low ≤ b → (∀ p, p ∈ own → p.1 ≠ b) → Sk Wg C Low w₀ Stop e ((b, x) :: own) (g' b)) : Sk Wg C Low w₀ Stop (e + 1) own g :=
  sk_step hg fun w hw => ⟨_, _, #[], (w.heap.size, x) :: own, h w, .inr ⟨rfl, rfl, x, rfl⟩, by
    have hwg := hw.wg
    refine ⟨fun b h1 h2 h3 => (push_old (by omega)).trans (hw.low b h1 h2 h3), live_block (push_old hwg) hw.live, fun p hp => ?_⟩
    rcases List.mem_cons.1 hp with rfl | hp
    · simp
    · have := hw.own p hp
      exact (push_old (Array.getElem?_eq_some_iff.1 this).1).trans this, hn _ (by have := hw.wg; omega) fun p hp => by
      have := (Array.getElem?_eq_some_iff.1 (hw.own p hp)).1
      omega⟩
theorem sk_write {e : Nat} {own own' : List (Nat × Obj)} {g g' : Goroutine} (hown : own'.map Prod.fst = own.map Prod.fst) (hge : ∀ p, p ∈ own → Low ≤ p.1) (hC : C < Low) (hW : Wg < Low) (hg : g.status = .running)
    (h : ∀ w, KS Wg C Low w₀ own w → ∃ w' es, stepG prog true g w = .go g' w' es ∧ (∀ x ∈ es, EvS Wg C Low (own.map Prod.fst) x) ∧ w'.tape = w.tape ∧ w'.os = w.os ∧ w'.output = w.output ∧ w'.heap.size = w.heap.size ∧ (∀ b, b ∉ own.map Prod.fst → w'.heap[b]? = w.heap[b]?) ∧ ∀ p, p ∈ own' → w'.heap[p.1]? = some p.2) (hn : Sk Wg C Low w₀ Stop e own' g') : Sk Wg C Low w₀ Stop (e + 1) own g :=
  sk_step hg fun w hw => by
    obtain ⟨w', es, h1, h2, h3, h4, h5, h6, h7, h8⟩ := h w hw
    have nin : ∀ b, b < Low → b ∉ own.map Prod.fst := fun b hb hm => by
      obtain ⟨p, hp, rfl⟩ := List.mem_map.1 hm
      have := hge p hp; omega
    exact ⟨g', w', es, own', h1, .inl ⟨hown, ⟨h3, h4, h5, h6, h7, h2⟩⟩,
      ⟨fun b g1 g2 g3 => (h7 b (nin b g1)).trans (hw.low b g1 g2 g3), live_block (h7 Wg (nin Wg hW)) hw.live, h8⟩, hn⟩
variable {b : Frame} {a : Act} {k : List Item} {cs : List Frame}
theorem sk_valT {e : Nat} {own : List (Nat × Obj)} {ops : Array Oper} {j : Nat} {rest : List Nat} {o : Oper} (x : Value) (ho : ops[j]? = some o) (hw : Region.wanted o (yielded ops a.tmps) = true) (hk : b.kind ≠ .early)
    (hr : ∀ w, (execOp a.eval o).runT prog w #[] = (.ok (.value x) w, #[])) (hn : Sk Wg C Low w₀ Stop e own (G (b.at (a.put o.dst x) (.inRegion ops rest :: k)) cs)) : Sk Wg C Low w₀ Stop (e + 1) own (G (b.at a (.inRegion ops (j :: rest) :: k)) cs) :=
  sk_go rfl (fun w => by rw [act_val ho hw hk (hr w), seen_none]) hn
theorem sk_alloc (hLow : Low = Wg + 1) (hC : C < Low) {e : Nat} {own : List (Nat × Obj)} {ops : Array Oper} {j : Nat} {rest : List Nat} {o : Oper} (x : Obj) (ho : ops[j]? = some o) (hw : Region.wanted o (yielded ops a.tmps) = true) (hk : b.kind ≠ .early)
    (hr : ∀ w, (execOp a.eval o).runT prog w #[] = (.ok (.value (.pointer (some ⟨w.heap.size, 0, none⟩))) { w with heap := w.heap.push x }, #[])) (hn : ∀ n, Low ≤ n → (∀ p, p ∈ own → p.1 ≠ n) → Sk Wg C Low w₀ Stop e ((n, x) :: own) (G (b.at (a.put o.dst (.pointer (some ⟨n, 0, none⟩))) (.inRegion ops rest :: k)) cs)) : Sk Wg C Low w₀ Stop (e + 1) own (G (b.at a (.inRegion ops (j :: rest) :: k)) cs) :=
  sk_new (x := x) (g' := fun n => G (b.at (a.put o.dst (.pointer (some ⟨n, 0, none⟩))) (.inRegion ops rest :: k)) cs) hLow hC rfl (fun w => by rw [act_val ho hw hk (hr w), seen_none]) hn
theorem sk_store {e : Nat} {own own' : List (Nat × Obj)} {ops : Array Oper} {j : Nat} {rest : List Nat} {o : Oper} {t n bb off : Nat} {ety : TypeId} {cs0 : Array Value} {x : Value} (hG : Plan Wg C Low) (ho : ops[j]? = some o) (hw : Region.wanted o (yielded ops a.tmps) = true) (hk : b.kind ≠ .early)
    (hop : execOp a.eval o = (do Instr.storeAt t (.pointer (some ⟨bb, off, none⟩)) x; pure .skip)) (hs : ∀ w, (sizeOf t).run prog w = .ok n w) (hn' : x.cells.size = n) (hsz : off + n ≤ cs0.size) (hv : ∀ y ∈ x.cells.toList, ∃ n, y = .int .i64 n)
    (hmem : (bb, Obj.cells cs0 ety (0, 0)) ∈ own) (hge : ∀ p, p ∈ own → Low ≤ p.1) (hown : own'.map Prod.fst = own.map Prod.fst) (hown2 : ∀ p, p ∈ own' → (p.1 ≠ bb ∧ p ∈ own) ∨ p = (bb, .cells (setFrom cs0 off x.cells.toList) ety (0, 0)))
    (hn : Sk Wg C Low w₀ Stop e own' (G (b.at (a.put o.dst undef) (.inRegion ops rest :: k)) cs)) : Sk Wg C Low w₀ Stop (e + 1) own (G (b.at a (.inRegion ops (j :: rest) :: k)) cs) :=
  sk_write (own' := own') hown hge hG.hC hG.hW rfl (fun w hkw => by
    obtain ⟨w', es, h1, h2, h3, h4⟩ := runT_storeAt (P := prog) hs (hkw.own _ hmem) hn' hsz hv
    refine ⟨w', _, act_skip ho hw hk (by rw [hop]; exact runT_u h1), fun y hy => ?_, h3.tape, h3.os, h3.output, h3.size, fun z hz => h3.block z fun e => hz (List.mem_map.2 ⟨_, hmem, e.symm⟩), fun p hp => ?_⟩
    · obtain ⟨q, _, rfl⟩ := h4 y (Go.Conc.mem_seen hy)
      exact .inl ⟨_, true, rfl, .inl (List.mem_map.2 ⟨_, hmem, rfl⟩)⟩
    · rcases hown2 p hp with ⟨hne, hp'⟩ | rfl
      · rw [h3.block p.1 hne]; exact hkw.own p hp'
      · exact h2) hn
theorem sk_call {e : Nat} {own : List (Nat × Obj)} {ops : Array Oper} {j : Nat} {rest : List Nat} {o : Oper} {f : FuncId} {fn : Func} {c : Code} {args : Array Operand} {ats : Array TypeId} {vals : Array Value} {n : Nat}
    (ho : ops[j]? = some o) (hw : Region.wanted o (yielded ops a.tmps) = true) (hk : b.kind ≠ .early) (hop : o.op = .call { callee := .value (.func f), args, argTypes := ats })
    (hf : prog.funcs[f]? = some fn) (hname : (fn.name == "runtime.NumGoroutine") = false) (hb : fn.body = some c) (hv : args.map a.eval = vals) (hnt : fn.ntmps - vals.size = n)
    (hn : Sk Wg C Low w₀ Stop e own (G ((base f).at ⟨vals ++ Array.replicate n undef, []⟩ [.code c]) (b.at a (.inRegion ops (j :: rest) :: k) :: cs))) : Sk Wg C Low w₀ Stop (e + 1) own (G (b.at a (.inRegion ops (j :: rest) :: k)) cs) :=
  sk_go rfl (fun w => by
    subst hv hnt
    have := goes_call (P := prog) (main := true) (w := w) (K := fun g' w' es' => g' = G ((base f).at { tmps := args.map a.eval ++ Array.replicate (fn.ntmps - (args.map a.eval).size) undef, defers := [] } [.code c]) (b.at a (.inRegion ops (j :: rest) :: k) :: cs) ∧ w' = w ∧ es' = #[]) (cs := cs) (k := k) ho hw hk hop hf hname hb ⟨rfl, rfl, rfl⟩
    revert this
    cases stepG prog true (G (b.at a (.inRegion ops (j :: rest) :: k)) cs) w <;> intro h <;> first | exact h.elim | (obtain ⟨rfl, rfl, rfl⟩ := h; rfl)) hn
end
end Go.Proofs.YtgdlakhfkmhlnaaWear
namespace Go.Proofs.YtgdlakhfkmhlnaaWear
open Go.Conc Go.ConcN Go.RowKit Go.Conc.Lib Go.ConcR.Gen Go.Proofs.Try
open Go.ConcR (KK wgBlock WgAt stA smA rd wr mk Payload Aside2 DC0)
variable [Payload]

noncomputable def body13 : Code := (f13.body).getD .skip
noncomputable def loop13 : Code := match body13 with | .seq _ (.seq _ (.seq _ (.seq (.seq _ (.block _ (.loop c))) _))) => c | _ => .skip
noncomputable def tail13 : Code := match body13 with | .seq _ (.seq _ (.seq _ (.seq _ r))) => r | _ => .skip
/-- The record behind Wait. -/
noncomputable def ops9 : Array Oper := match tail13 with | .seq (.region _ ops _) _ => ops | _ => #[]
noncomputable def rest13 : Code := match tail13 with | .seq _ r => r | _ => .skip
noncomputable def head13 (B V Wg j : Nat) (x0 x2 x5 x6 x7 x8 x9 x12 x13 x14 x15 x16 x17 x18 : Value) (cs : List Frame) : Goroutine := G ((base 13).at ⟨#[x0, .pointer (some ⟨B, 0, none⟩), x2, .pointer (some ⟨V, 0, none⟩), .pointer (some ⟨Wg, 0, none⟩), x5, x6, x7, x8, x9, .int .i64 4, .int .i64 (j : Nat), x12, x13, x14, x15, x16, x17, x18], []⟩ [.code loop13, .inLoop loop13, .inBlock 0, .code tail13]) cs
/-- Behind Wait: the records that may be. -/
def behind13 (B V Wg : Nat) (cs : List Frame) (g : Goroutine) : Prop := ∃ x0 x2 x5 x6 x7 x8 x9 x12 x13 x14 x15 x16 x17 x18 : Value, g = G ((base 13).at ⟨#[x0, .pointer (some ⟨B, 0, none⟩), x2, .pointer (some ⟨V, 0, none⟩), .pointer (some ⟨Wg, 0, none⟩), x5, x6, x7, x8, x9, .int .i64 4, .int .i64 4, x12, x13, x14, x15, x16, .tuple #[], x18], []⟩ [.inRegion ops9 [], .code rest13]) cs
section
variable {P : Program} {ty : TypeId} {Wg C Low n : Nat} {A A' : List Nat → Goroutine → World → Prop} {E E' : Goroutine → World → Prop}
theorem Ph.mono {main : Bool} {R : List Nat → World → World → Prop} {X : List Nat → List Nat → World → World → Array Event → Prop} {S S' : List Nat → Goroutine → World → Prop} (h : ∀ o g w, S o g w → S' o g w) : ∀ {e : Nat} {o : List Nat} {m : Nat} {g : Goroutine} {w : World}, Ph P main R X S e o m g w → Ph P main R X S' e o m g w
  | 0, _, _, _, _, hp => Goes.weaken (fun _ _ h => h) (fun _ _ _ h => h) (fun g w hs => h _ g w hs) hp
  | e + 1, _, _, _, _, hp => Goes.weaken (fun _ _ h => h) (fun _ _ _ h => h) (fun g w hs => let ⟨h1, g', w', es, o', h2, h3, m', h4⟩ := hs; ⟨h1, g', w', es, o', h2, h3, m', Ph.mono h h4⟩) hp
theorem PX.mono {S S' : List Nat → Goroutine → World → Prop} (h : ∀ o g w, S o g w → S' o g w) {o : List Nat} {g : Goroutine} {w : World} : PX P ty Wg C Low S o g w → PX P ty Wg C Low S' o g w := fun ⟨e, m, hp⟩ => ⟨e, m, hp.mono h⟩
theorem SAcq.mono (hE : ∀ g w, E g w → E' g w) {o : List Nat} {g : Goroutine} {w : World} : SAcq P Wg E o g w → SAcq P Wg E' o g w := fun ⟨h1, g', h2, h3⟩ => ⟨h1, g', h2, hE _ _ h3⟩
theorem SKe.mono (hE : ∀ g w, E g w → E' g w) {o : List Nat} {g : Goroutine} {w : World} : SKe P ty Wg C Low E o g w → SKe P ty Wg C Low E' o g w := fun ⟨h1, g', h2, h3⟩ => ⟨h1, g', h2, h3.mono fun _ _ _ h => h.mono hE⟩
theorem SW4.mono (hE : ∀ g w, E g w → E' g w) {o : List Nat} {g : Goroutine} {w : World} : SW4 P ty Wg C Low E o g w → SW4 P ty Wg C Low E' o g w := fun ⟨h1, h⟩ => ⟨h1, fun hw => let ⟨g', h2, h3⟩ := h hw; ⟨g', h2, h3.mono fun _ _ _ h => h.mono hE⟩⟩
theorem SW3.mono (hE : ∀ g w, E g w → E' g w) {o : List Nat} {g : Goroutine} {w : World} : SW3 P ty Wg C Low E o g w → SW3 P ty Wg C Low E' o g w := fun ⟨h1, h2, h3, h⟩ => ⟨h1, h2, h3, fun hw => let ⟨g', h4, h5⟩ := h hw; ⟨g', h4, h5.mono fun _ _ _ h => h.mono hE⟩⟩
theorem SW2.mono (hA : ∀ o g w, A o g w → A' o g w) (hE : ∀ g w, E g w → E' g w) {vs : Nat} {o : List Nat} {g : Goroutine} {w : World} : SW2 P ty Wg C Low n A E vs o g w → SW2 P ty Wg C Low n A' E' vs o g w := fun ⟨h1, h⟩ => ⟨h1, fun v hv hw => let ⟨h2, h3⟩ := h v hv hw; ⟨fun e => let ⟨g', h4, h5⟩ := h2 e; ⟨g', h4, h5.mono fun _ _ _ h => h.mono hE⟩, fun e => let ⟨g', h4, h5⟩ := h3 e; ⟨g', h4, h5.mono hA⟩⟩⟩
theorem SW1.mono (hA : ∀ o g w, A o g w → A' o g w) (hE : ∀ g w, E g w → E' g w) {o : List Nat} {g : Goroutine} {w : World} : SW1 P ty Wg C Low n A E o g w → SW1 P ty Wg C Low n A' E' o g w := fun ⟨h1, h⟩ => ⟨h1, fun v hv hw => let ⟨g', h2, h3, h4⟩ := h v hv hw; ⟨g', h2, fun e => (h3 e).mono fun _ _ _ h => h.mono hE, fun e => (h4 e).mono fun _ _ _ h => h.mono hA hE⟩⟩
theorem SKd.mono (hA : ∀ o g w, A o g w → A' o g w) {o : List Nat} {g : Goroutine} {w : World} : SKd P ty Wg C Low A o g w → SKd P ty Wg C Low A' o g w := fun ⟨h1, g', h2, h3⟩ => ⟨h1, g', h2, h3.mono hA⟩
end
section
variable {Wg C Low B V FB fc : Nat} {w₀ : World} {PB pc : Nat → Nat} {worn : Nat → Int} {pg : Nat → Nat → Nat → Int} {cs : List Frame}
def AnchY (Wg B V : Nat) (cs : List Frame) (o : List Nat) (g : Goroutine) (w : World) : Prop :=
  ∃ x0 x2 x5 x6 x7 x8 x9 x12 x13 x14 x15 x16 x17 x18 : Value, AnchX wgl (fun _ => True) Wg ((base 13).at ⟨#[x0, .pointer (some ⟨B, 0, none⟩), x2, .pointer (some ⟨V, 0, none⟩), .pointer (some ⟨Wg, 0, none⟩), x5, x6, x7, x8, x9, .int .i64 4, .int .i64 4, x12, x13, x14, x15, x16, x17, x18], []⟩ [.inRegion ops9 [0], .code rest13]) cs o g w
def EndY (Wg B V : Nat) (cs : List Frame) (g : Goroutine) (w : World) : Prop := ∃ gR, behind13 B V Wg cs gR ∧ EndX prog gR g w
variable (Wg C Low w₀ B V cs worn) in
def StopOf : Nat → List Nat → Goroutine → World → Prop
  | 0 => SKd prog 63 Wg C Low (AnchY Wg B V cs)
  | r + 1 => SKdS prog 63 Wg C Low 4 (fun i => .int .i64 (worn i)) (4 - (r + 1)) (Spawn prog 63 Wg C Low 4 (fun i => .int .i64 (worn i)) (AnchY Wg B V cs) r)
theorem spawn_of {r e : Nat} {o : List (Nat × Obj)} {g : Goroutine} {w : World} (h : Sk Wg C Low w₀ (StopOf Wg C Low B V worn cs r) e o g) (hw : KS Wg C Low w₀ o w) : Spawn prog 63 Wg C Low 4 (fun i => .int .i64 (worn i)) (AnchY Wg B V cs) r (o.map Prod.fst) g w := by
  cases r with
  | zero => exact ⟨e, h w hw⟩
  | succ r => exact ⟨e, h w hw⟩

set_option maxRecDepth 100000 in
set_option maxHeartbeats 4000000 in
theorem lastRound (hG : Plan Wg C Low) : ∀ x0 x2 x5 x6 x7 x8 x9 x12 x13 x14 x15 x16 x17 x18 : Value, Sk Wg C Low w₀ (StopOf Wg C Low B V worn cs 0) 10 [] (head13 B V Wg 4 x0 x2 x5 x6 x7 x8 x9 x12 x13 x14 x15 x16 x17 x18 cs) := by
  intro x0 x2 x5 x6 x7 x8 x9 x12 x13 x14 x15 x16 x17 x18
  simp only [head13, loop13, tail13, body13, f13, Option.getD_some]
  refine sk_go rfl (fun _ => stepG_seq) ?_
  refine sk_go rfl (fun _ => stepG_region) ?_
  simp only [List.size_toArray, List.length_cons, List.length_nil, Nat.reduceAdd, Nat.zero_add, List.range, List.range.loop]
  refine sk_valT (b := base 13) (.bool false) (by rfl) (by rfl) (by decide) (fun w => by kernel_rfl) ?_
  walk_nrm
  refine sk_go rfl (fun _ => stepG_region_end) ?_
  refine sk_go rfl (fun _ => stepG_seq) ?_
  refine sk_go rfl (fun _ => stepG_cond (t := false) rfl) ?_
  simp only [if_true, if_false, Bool.false_eq_true, ↓reduceIte]
  refine sk_go rfl (fun _ => stepG_exit rfl) ?_
  refine sk_go rfl (fun _ => stepG_seq) ?_
  refine sk_go rfl (fun _ => stepG_region) ?_
  simp only [List.size_toArray, List.length_cons, List.length_nil, Nat.reduceAdd, Nat.zero_add, List.range, List.range.loop]
  refine sk_call (b := base 13) (c := body_wait wgl) (fn := waitFn wgl) (vals := #[.pointer (some ⟨Wg, 0, none⟩)]) (n := 83) (by rfl) (by rfl) (by decide) (by rfl) wgLib.f_wait (nm_wait wgl) rfl (by kernel_rfl) (by rfl) ?_
  intro w hw
  refine ⟨5, ?_⟩
  have key := waitStart (P := prog) (L := wgl) wgLib (Wg := Wg) (C := C) (Low := Low) (o := []) (F := fun _ => True) (cs := cs) (c := (base 13).at ⟨#[x0, .pointer (some ⟨B, 0, none⟩), x2, .pointer (some ⟨V, 0, none⟩), .pointer (some ⟨Wg, 0, none⟩), x5, x6, x7, x8, x9, .int .i64 4, .int .i64 (4 : Nat), .bool false, x13, x14, x15, x16, x17, x18], []⟩ [.inRegion ops9 [0], .code rest13]) (fun _ _ _ h => h) w ⟨trivial, hw.live⟩
  refine Goes.weaken (fun _ _ h => h) (fun _ _ _ h => h) (fun g w₁ h => SKd.mono (fun _ _ _ h => ?_) h) key
  exact ⟨_, _, _, _, _, _, _, _, _, _, _, _, _, _, h⟩
set_option maxRecDepth 100000 in
set_option maxHeartbeats 4000000 in
theorem rounds (hG : Plan Wg C Low) (hLow : Low = Wg + 1) (K : ∀ i, i < 4 → KI Wg C Low i B V FB fc (PB i) (pc i) (worn i) (pg i) w₀) : ∀ (r j : Nat), j + r = 4 → ∃ e, ∀ x0 x2 x5 x6 x7 x8 x9 x12 x13 x14 x15 x16 x17 x18 : Value, Sk Wg C Low w₀ (StopOf Wg C Low B V worn cs r) e [] (head13 B V Wg j x0 x2 x5 x6 x7 x8 x9 x12 x13 x14 x15 x16 x17 x18 cs) := by
  intro r
  induction r with
  | zero =>
    intro j hj
    obtain rfl : j = 4 := by omega
    exact ⟨10, lastRound hG⟩
  | succ r ih =>
    intro j hj
    obtain ⟨e, he⟩ := ih (j + 1) (by omega)
    have hj4 : j = 0 ∨ j = 1 ∨ j = 2 ∨ j = 3 := by omega
    refine ⟨18, ?_⟩
    intro x0 x2 x5 x6 x7 x8 x9 x12 x13 x14 x15 x16 x17 x18
    simp only [head13, loop13, tail13, body13, f13, Option.getD_some] at he ⊢
    refine sk_go rfl (fun _ => stepG_seq) ?_
    refine sk_go rfl (fun _ => stepG_region) ?_
    simp only [List.size_toArray, List.length_cons, List.length_nil, Nat.reduceAdd, Nat.zero_add, List.range, List.range.loop]
    refine sk_valT (b := base 13) (.bool true) (by rfl) (by rfl) (by decide) (fun w => by rcases hj4 with rfl | rfl | rfl | rfl <;> kernel_rfl) ?_
    walk_nrm
    refine sk_go rfl (fun _ => stepG_region_end) ?_
    refine sk_go rfl (fun _ => stepG_seq) ?_
    refine sk_go rfl (fun _ => stepG_cond (t := true) rfl) ?_
    simp only [if_true, if_false, Bool.false_eq_true, ↓reduceIte]
    refine sk_go rfl (fun _ => stepG_skip) ?_
    refine sk_go rfl (fun _ => stepG_seq) ?_
    refine sk_go rfl (fun _ => stepG_block) ?_
    refine sk_go rfl (fun _ => stepG_seq) ?_
    refine sk_go rfl (fun _ => stepG_region) ?_
    simp only [List.size_toArray, List.length_cons, List.length_nil, Nat.reduceAdd, Nat.zero_add, List.range, List.range.loop]
    refine sk_valT (b := base 13) (.int .i64 (j : Nat)) (by rfl) (by rfl) (by decide) (fun w => by rfl) ?_
    walk_nrm
    refine sk_alloc (b := base 13) hLow hG.hC (.cells #[.int .i64 0] 3 (0, 0)) (by rfl) (by rfl) (by decide) (fun w => by exact run_alloc zeroValue3 w) (fun X hX hne => ?_)
    walk_nrm
    have hge : ∀ p, p ∈ [(X, Obj.cells #[.int .i64 0] 3 (0, 0))] → Low ≤ p.1 := by
      intro p hp
      rcases List.mem_cons.1 hp with rfl | hp
      · exact hX
      · simp at hp
    refine sk_store (b := base 13) (own' := [(X, .cells #[.int .i64 (j : Nat)] 3 (0, 0))]) (t := 3) (n := 1) (bb := X) (off := 0) (ety := 3) (cs0 := #[.int .i64 0]) (x := .int .i64 (j : Nat)) hG (by rfl) (by rfl) (by decide) (by rfl) sizeOf3 (by rfl) (by simp) (by simp [Value.cells]) List.mem_cons_self hge (by rfl) (by
        intro p hp
        rcases List.mem_cons.1 hp with rfl | hp
        · exact .inr (by rfl)
        · simp at hp) ?_
    walk_nrm
    refine sk_go rfl (fun _ => stepG_region_end) ?_
    refine sk_go rfl (fun _ => stepG_seq) ?_
    refine sk_go rfl (fun _ => stepG_region) ?_
    simp only [List.size_toArray, List.length_cons, List.length_nil, Nat.reduceAdd, Nat.zero_add, List.range, List.range.loop]
    refine sk_call (b := base 13) (c := body_add wgl) (fn := addFn wgl) (vals := #[.pointer (some ⟨Wg, 0, none⟩), .int .i64 1]) (n := 115) (by rfl) (by rfl) (by decide) (by rfl) wgLib.f_add (nm_add wgl) rfl (by kernel_rfl) (by rfl) ?_
    intro w hw
    refine ⟨20, ?_⟩
    have hXW : X ≠ Wg := by have := hG.hW; omega
    have hF2 : ∀ w w' : World, RA 63 Wg C Low [X] w w' → ((∀ b, b < Low → b ≠ Wg → b ≠ C → w.heap[b]? = w₀.heap[b]?) ∧ w.heap[X]? = some (.cells #[.int .i64 (j : Nat)] 3 (0, 0))) → ((∀ b, b < Low → b ≠ Wg → b ≠ C → w'.heap[b]? = w₀.heap[b]?) ∧ w'.heap[X]? = some (.cells #[.int .i64 (j : Nat)] 3 (0, 0))) := fun w w' h hf =>
      ⟨fun b h1 h2 h3 => (h.low b h1 h2 h3).trans (hf.1 b h1 h2 h3), (h.own X List.mem_cons_self).trans hf.2⟩
    refine addPos (P := prog) (L := wgl) wgLib (Wg := Wg) (C := C) (Low := Low) (val := fun i => .int .i64 (worn i)) (j := 4 - (r + 1)) (Next := Spawn prog 63 Wg C Low 4 (fun i => .int .i64 (worn i)) (AnchY Wg B V cs) r) (o := [X])
      (F := fun w => (∀ b, b < Low → b ≠ Wg → b ≠ C → w.heap[b]? = w₀.heap[b]?) ∧ w.heap[X]? = some (.cells #[.int .i64 (j : Nat)] 3 (0, 0))) (mT := 9) hF2 (fun w v hf => ?_) (fun w hf hl => ?_) w ⟨⟨hw.low, hw.own _ List.mem_cons_self⟩, hw.live⟩
    · exact ⟨fun b h1 h2 h3 => (Below.heap_setCell w (stA Wg) v b h2).trans (hf.1 b h1 h2 h3), (Below.heap_setCell w (stA Wg) v X hXW).trans hf.2⟩
    · clear hw
      have hF : ((∀ b, b < Low → b ≠ Wg → b ≠ C → w.heap[b]? = w₀.heap[b]?) ∧ w.heap[X]? = some (.cells #[.int .i64 (j : Nat)] 3 (0, 0))) ∧ WgLive 63 Wg w := ⟨hf, hl⟩
      clear hf hl
      walk_nrm
      u_c stepG_region_end (fr_rely hF2) hF
      u_reg (fr_rely hF2) hF
      u_op (fr_rely hF2) hF
      refine Goes.stop (fun w₁ h₁ => ?_)
      replace hF := fr_rely hF2 hF h₁
      clear h₁
      refine ⟨rfl, _, _, (stepG_spawn (d := wearD Wg B X V) (w' := w₁) (f := .func 22) (c := #[.pointer (some ⟨Wg, 0, none⟩), .pointer (some ⟨B, 0, none⟩), .pointer (some ⟨X, 0, none⟩), .pointer (some ⟨V, 0, none⟩)]) (by rfl) (by rfl) (by decide) (by kernel_rfl) (by rfl)).trans (by rfl), by rfl, fun hp => ?_, ?_⟩
      · have hjr : 4 - (r + 1) = j := by omega
        obtain ⟨m, hm⟩ := works22 hG hLow (K j (by omega)) hX w₁ ⟨hF.1.1, hF.2, hp, fun p hp => by
          rcases List.mem_cons.1 hp with rfl | hp
          · exact hF.1.2
          · simp at hp⟩
        rw [hjr]
        exact ⟨_, m, hm⟩
      · refine spawn_of (w₀ := w₀) (o := []) (e := e + 7) ?_ ⟨hF.1.1, hF.2, fun p hp => by simp at hp⟩
        walk_nrm
        refine sk_go rfl (fun _ => stepG_region_end) ?_
        refine sk_go rfl (fun _ => stepG_inBlock) ?_
        refine sk_go rfl (fun _ => stepG_region) ?_
        simp only [List.size_toArray, List.length_cons, List.length_nil, Nat.reduceAdd, Nat.zero_add, List.range, List.range.loop]
        refine sk_valT (b := base 13) (.int .i64 ((j + 1 : Nat))) (by rfl) (by rfl) (by decide) (fun w => by rcases hj4 with rfl | rfl | rfl | rfl <;> kernel_rfl) ?_
        walk_nrm
        refine sk_valT (b := base 13) (.int .i64 ((j + 1 : Nat))) (by rfl) (by rfl) (by decide) (fun w => by rfl) ?_
        walk_nrm
        refine sk_go rfl (fun _ => stepG_region_end) ?_
        refine sk_go rfl (fun _ => stepG_inLoop) ?_
        exact he _ _ _ _ _ _ _ _ _ _ _ _ _ _
end
end Go.Proofs.YtgdlakhfkmhlnaaWear
