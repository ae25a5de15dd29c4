/- The whole run. -/
import Derived.Test.YtgdlakhfkmhlnaaJG
import Derived.Test.YtgdlakhfkmhlnaaJE
set_option linter.unusedVariables false
set_option linter.unusedSimpArgs false
set_option linter.unusedSectionVars false
namespace Go.Proofs.YtgdlakhfkmhlnaaWear
open Go.Conc Go.ConcN Go.RowKit Go.Conc.Lib Go.ConcR.Gen Go.Proofs.Try
open Go.ConcR (KK wgBlock WgAt stA smA rd wr mk Payload Aside2 DC0)
variable [Payload]
open Go.Proofs.Ytgdlakhfkmhlnaa.Pa Go.Proofs.YtgdlakhfkmhlnaaW.PrintWords Go.Proofs.YtgdlakhfkmhlnaaW.PrintLast Go.Proofs.YtgdlakhfkmhlnaaW.PrintMore
/-! ### what the rows of blocks hold -/
def pgv (b : S36) (k j : Nat) : Int :=
  match j with
  | 0 => (b.f0.getD k z49).f0
  | 1 => (b.f0.getD k z49).f1.f0
  | 2 => (b.f0.getD k z49).f1.f1
  | 3 => (b.f0.getD k z49).f1.f2
  | _ => (b.f0.getD k z49).f1.f3
theorem row_facts {w1 : World} {base : Nat} {ok : Nat → Prop} {FB c1 : Nat} {r : List S36} (hS : Kd.S k36 36 w1 base ok (.slice (some ⟨FB, 0, none⟩) r.length c1) r) (hl : r.length = 4) (hpg : ∀ i, i < 4 → (r.getD i z36).f0.length = 4) (i : Nat) (hi : i < 4) :
    ∃ PB pc, w1.cell? ⟨FB, 2 * i, none⟩ = some (.slice (some ⟨PB, 0, none⟩) 4 pc) ∧ w1.cell? ⟨FB, 2 * i + 1, none⟩ = some (.int .i64 (r.getD i z36).f1) ∧ PB < w1.heap.size ∧
      ∀ k, k < 4 → ∀ j, j < 5 → w1.cell? ⟨PB, 5 * k + j, none⟩ = some (.int .i64 (pgv (r.getD i z36) k j)) := by
  obtain ⟨c, hcl, hM, hcc, _⟩ := Kd.R_elem (Kd.S_R hS) z36 (i : Int) (by omega) (by omega)
  obtain ⟨v0, rfl, hR⟩ := k36_openM hM
  have e0 := hcc 0 v0 rfl
  have e1 := hcc 1 _ rfl
  simp only [Int.toNat_natCast] at e0 e1 hR
  have hn := hpg i hi
  obtain ⟨inner, _, ho⟩ := Kd.R_own hR
  rcases ho with ⟨h, h0⟩ | ⟨PB, pc, cur, rfl, hg, hh, _⟩
  · omega
  refine ⟨PB, pc, ?_, ?_, (Array.getElem?_eq_some_iff.1 hh).1, fun k hk j hj => ?_⟩
  · rw [← hn, show 2 * i = i * k36.sz + 0 by show 2 * i = i * 2 + 0; omega]; exact e0
  · rw [show 2 * i + 1 = i * k36.sz + 1 by show 2 * i + 1 = i * 2 + 1; omega]; exact e1
  · obtain ⟨c', _, hM', hcc', _⟩ := Kd.R_elem hR z49 (k : Int) (by omega) (by omega)
    obtain rfl := k49_openM hM'
    simp only [Int.toNat_natCast] at hcc'
    rw [show 5 * k + j = k * k49.sz + j by show 5 * k + j = k * 5 + j; omega]
    match j, hj with
    | 0, _ => exact hcc' 0 _ rfl
    | 1, _ => exact hcc' 1 _ rfl
    | 2, _ => exact hcc' 2 _ rfl
    | 3, _ => exact hcc' 3 _ rfl
    | 4, _ => exact hcc' 4 _ rfl

/-! ### the last steps -/
def Conc' (P : Program) (Post : Value → World → Prop) (m : Machine) (t : Trace) : Prop :=
  ∃ N last o w' t', runNT P (N + 1) m t = (.ended o w', t') ∧ runN P N m = .next last ∧ step P last = .ended o w' ∧ Go.Conc.Good P Post last o w' t'
section
variable {P : Program} {Post : Value → World → Prop}
theorem conc_step {m m1 : Machine} {t : Trace} {ops : Array MemOp} (hs : stepT P m = (.next m1, ops)) (h : Conc' P Post m1 (t ++ ops)) : Conc' P Post m t := by
  obtain ⟨N, last, o, w', t', h1, h2, h3, h4⟩ := h
  exact ⟨N + 1, last, o, w', t', by rw [runNT]; simp only [hs]; exact h1, by rw [runN]; simp only [step, hs]; exact h2, h3, h4⟩
theorem conc_run : ∀ (n : Nat) {m m1 : Machine} {t t1 : Trace}, runNT P n m t = (.next m1, t1) → Conc' P Post m1 t1 → Conc' P Post m t
  | 0, m, m1, t, t1, h, h' => by
    simp only [runNT, Prod.mk.injEq, Stepped.next.injEq] at h
    obtain ⟨rfl, rfl⟩ := h
    exact h'
  | n + 1, m, m1, t, t1, h, h' => by
    rw [runNT] at h
    cases hs : stepT P m with
    | mk s ops =>
      rw [hs] at h
      cases s with
      | next m2 => exact conc_step hs (conc_run n h h')
      | ended o w => simp at h
/-- One goroutine alone is at its end. -/
theorem end_one {fr : Frame} {w : World} {t : Trace} {X : Nat} {v : Value} {es : Array Event} (hend : stepG P true (G fr []) w = .ended (.done v) w es) (hes : ∀ e ∈ es, Clean X e) (hpost : Post v w) (hP : PastS X t) : Conc' P Post (solo (G fr []) w) t := by
  have hrunT := runT_many_ended (P := P) (gs := #[G fr []]) (sl := none) (i := 0) (g := G fr []) rfl (show stepG P (0 == 0) (G fr []) w = _ from hend)
  have hstT : stepT P (solo (G fr []) w) = _ := (Go.Conc.stepT_solo rfl).trans hrunT
  have hP' := hP.own (fn := (G fr []).frame.fn) (pos := (G fr []).frame.place) hes
  obtain ⟨B, hB⟩ := low_all (t ++ MemOp.ofEvents 0 (G fr []).frame.fn (G fr []).frame.place es)
  have hPB := hP' B hB
  refine ⟨0, solo (G fr []) w, _, _, _, by rw [runNT]; simp only [hstT], rfl, by rw [step, hstT], v, rfl, hpost, hPB.clean, hPB.over, ⟨fun x hx => ?_, rfl⟩, fun j x hx hj => ?_⟩
  · exact absurd hx (by simp [solo])
  · have := (Array.getElem?_eq_some_iff.1 hx).1
    simp [solo] at this
    omega
end
end Go.Proofs.YtgdlakhfkmhlnaaWear
namespace Go.Proofs.YtgdlakhfkmhlnaaWear
open Go.Conc Go.ConcN Go.RowKit Go.Conc.Lib Go.ConcR.Gen Go.Proofs.Try
open Go.ConcR (KK wgBlock WgAt stA smA rd wr mk Payload Aside2 DC0)
section
variable {P : Program} {Post : Value → World → Prop} {X : Nat}
/-- The starter's last silent steps beside those that leave. -/
theorem goes_ends {gR : Goroutine} {w0 : World}
    (hC : ∀ w', AtRel w0 w' → ∀ (gs : Array Goroutine) (d : Nat) (sl : Option (Nat × Nat)) (t : Trace) (q : Nat → Nat), gs[0]? = some gR → Leavers P t gs q → PastS X t → Conc' P Post (crowd gs (w'.at d) sl) t) :
    ∀ (n : Nat) (a : Goroutine) (w : World), AtRel w0 w → Goes P true AtRel DC0 (fun g₂ w₂ => g₂ = gR ∧ AtRel w0 w₂) n a w →
      ∀ (M : Nat) (gs : Array Goroutine) (d : Nat) (sl : Option (Nat × Nat)) (t : Trace) (q : Nat → Nat), sumTo gs.size q ≤ M → gs[0]? = some a → Leavers P t gs q → PastS X t → Conc' P Post (crowd gs (w.at d) sl) t := by
  intro n
  induction n with
  | zero =>
    intro a w hw hG M gs d sl t q hM h0 hL hP
    obtain ⟨rfl, hw'⟩ := hG w ⟨w.drawn, rfl⟩
    exact hC w hw' gs d sl t q h0 hL hP
  | succ n ih =>
    intro a w hw hG M
    rcases hG with hs | ⟨hrun, hstep⟩
    · intro gs d sl t q hM h0 hL hP
      obtain ⟨rfl, hw'⟩ := hs w ⟨w.drawn, rfl⟩
      exact hC w hw' gs d sl t q h0 hL hP
    · induction M using Nat.strongRecOn with
      | _ M ihM =>
        intro gs d sl t q hM h0 hL hP
        rcases beside_pick (P := P) (w := w.at d) (sl := sl) h0 hrun hL hP with ⟨d', sl', hst⟩ | ⟨d', sl', gs', ops, q', hst, hsz, h0', hL', hP', hlt⟩
        · have hat : AtRel w (w.at d') := ⟨d', rfl⟩
          have hh := hstep (w.at d') hat
          cases hs : stepG P true a (w.at d') with
          | go a' w1 es =>
            rw [hs] at hh
            obtain ⟨⟨rfl, rfl⟩, hG'⟩ := hh
            have hrunT := runT_crowd_go (P := P) (sl := sl') (i := 0) h0 (show stepG P (0 == 0) a ((w.at d).at d') = _ from hs)
            obtain ⟨h0', hsz, hL'⟩ := leavers_step0 (P := P) (a' := a') (w' := w.at d') (fn := a.frame.fn) (pos := a.frame.place) (es := #[]) h0 hL
            exact conc_step (hst.trans hrunT) (ih a' (w.at d') (atRel_trans _ _ _ hw hat) hG' _ _ d' sl' _ q (Nat.le_refl _) h0' hL' (hP.own (es := #[]) (by simp)))
          | _ => rw [hs] at hh; exact hh.elim
        · exact conc_step hst (ihM (sumTo gs'.size q') (by omega) gs' d' sl' _ q' (Nat.le_refl _) h0' hL' hP')
/-- A trace of the starter's alone, that names no place of a block. -/
theorem pastS_alone {u : Trace} (hu : ∀ op ∈ u, op.g = 0 ∧ ∃ e, EvP X e ∧ op.act = .ofEvent e) : PastS X u := by
  intro B hB
  have h0 : Past (ShN X) B #[] := ⟨past_nil.clean, fun i a ha => by simp [touchAt, Trace.act?] at ha, past_nil.over, past_nil.hears, by simp⟩
  have nomark : ∀ op ∈ u, op.act ≠ .mark .disable ∧ op.act ≠ .mark .enable := fun op hop => by
    obtain ⟨_, e, he, hoe⟩ := hu op hop
    rw [hoe]
    have hm := he.1
    obtain ⟨l, a, b⟩ := e
    cases l with
    | mark m =>
      obtain rfl := hm m rfl
      simp [MemAct.ofEvent]
    | _ => cases a <;> cases b <;> simp [MemAct.ofEvent]
  have h1 := h0.app0 (u := u) (fun op hop => (hu op hop).1) (fun op hop b hb hs => ?_) (Deaf_still #[] 0 u nomark) (fun op hop => hB op hop)
  · simpa using h1
  · obtain ⟨_, e, he, hoe⟩ := hu op hop
    obtain ⟨c, hc, hcb⟩ := hs
    exfalso
    rw [hoe] at hb
    have hlow := he.2
    obtain ⟨l, a', b'⟩ := e
    cases l with
    | cell ad =>
      have := hlow.1 ad rfl
      cases a' <;> cases b' <;> (simp [MemAct.ofEvent, MemAct.touch?] at hb; subst hb; simp at hc; subst hc; omega)
    | obj r => cases a' <;> cases b' <;> simp [MemAct.ofEvent, MemAct.touch?] at hb <;> (try subst hb) <;> simp at hc
    | output => cases a' <;> cases b' <;> simp [MemAct.ofEvent, MemAct.touch?] at hb <;> (try subst hb) <;> simp at hc
    | goroutines => cases a' <;> cases b' <;> simp [MemAct.ofEvent, MemAct.touch?] at hb <;> (try subst hb) <;> simp at hc
    | mark m =>
      obtain rfl := he.1 m rfl
      simp [MemAct.ofEvent, MemAct.touch?] at hb
end
end Go.Proofs.YtgdlakhfkmhlnaaWear
namespace Go.Proofs.YtgdlakhfkmhlnaaWear
open Go.Conc Go.ConcN Go.RowKit Go.Conc.Lib Go.ConcR.Gen Go.Proofs.Try
open Go.ConcR (KK wgBlock WgAt stA smA rd wr mk Payload Aside2 DC0)
open Go.Proofs.Ytgdlakhfkmhlnaa.Pa Go.Proofs.YtgdlakhfkmhlnaaW.PrintWords Go.Proofs.YtgdlakhfkmhlnaaW.PrintLast Go.Proofs.YtgdlakhfkmhlnaaW.PrintMore
/-! ### from the group's making to the loop's head -/
def Lq (Bd : Nat) (K : Frame → List Frame → World → Prop) (fr : Frame) (cs : List Frame) (w : World) : Prop :=
  ∃ n fr' cs' w' u, (∀ t, runNT prog n (solo (G fr cs) w) t = (.next (solo (G fr' cs') w'), t ++ u)) ∧ (∀ op ∈ u, op.g = 0 ∧ ∃ e, EvP Bd e ∧ op.act = .ofEvent e) ∧ K fr' cs' w'
section
variable {Bd : Nat} {K : Frame → List Frame → World → Prop} {fr fr' : Frame} {cs cs' : List Frame} {w w' : World}
theorem lq_stop (h : K fr cs w) : Lq Bd K fr cs w := ⟨0, fr, cs, w, #[], fun t => by simp [runNT], by simp, h⟩
theorem lq_ev {es : Array Event} (h : stepG prog true (G fr cs) w = .go (G fr' cs') w' es) (he : ∀ e ∈ es, EvP Bd e) (h' : Lq Bd K fr' cs' w') : Lq Bd K fr cs w := by
  obtain ⟨n, f1, c1, w1, u, h1, h2, h4⟩ := h'
  refine ⟨n + 1, f1, c1, w1, MemOp.ofEvents 0 fr.fn fr.place es ++ u, fun t => ?_, fun op hop => ?_, h4⟩
  · have hstT : stepT prog (solo (G fr cs) w) = (.next (solo (G fr' cs') w'), MemOp.ofEvents 0 fr.fn fr.place es) := by
      rw [Go.Conc.stepT_solo rfl, Go.Conc.runT_solo_go h]
      rfl
    simp only [runNT, hstT]
    rw [h1, Array.append_assoc]
  · rcases Array.mem_append.1 hop with hop | hop
    · rw [Go.Conc.ofEvents_eq] at hop
      obtain ⟨e, hm, rfl⟩ := Array.mem_map.1 hop
      exact ⟨rfl, e, he e hm, rfl⟩
    · exact h2 op hop
theorem lo_go' (h : stepG prog true (G fr cs) w = .go (G fr' cs') w #[]) (h' : Lq Bd K fr' cs' w) : Lq Bd K fr cs w := lq_ev h (by simp) h'
variable {b : Frame} {a : Act} {k : List Item} {ops : Array Oper} {j : Nat} {rest : List Nat} {o : Oper}
theorem lq_val {es : Array Event} (x : Value) (w' : World) (ho : ops[j]? = some o) (hw : Region.wanted o (yielded ops a.tmps) = true) (hk : b.kind ≠ .early) (hr : (execOp a.eval o).runT prog w #[] = (.ok (.value x) w', es)) (he : ∀ e ∈ es, EvP Bd e)
    (h : Lq Bd K (b.at (a.put o.dst x) (.inRegion ops rest :: k)) cs w') : Lq Bd K (b.at a (.inRegion ops (j :: rest) :: k)) cs w :=
  lq_ev (act_val ho hw hk hr) (fun e hm => he e (Go.Conc.mem_seen hm)) h
set_option maxRecDepth 100000 in
set_option maxHeartbeats 4000000 in
theorem open13 {W : World} {r : List S36} {FB c1 B : Nat} (hF : Fork W r FB c1 B w) (hl : r.length = 4)
    (hK : ∀ (x0 x2 x5 x6 x7 x8 x9 x12 x13 x14 x15 x16 x17 x18 : Value) (w' : World), w'.os = w.os → w'.tape = w.tape → w'.output = w.output → w'.heap.size = B + 4 → (∀ b, b < B + 3 → w'.heap[b]? = w.heap[b]?) → w'.heap[B + 3]? = some (wgBlock 63 0 0) →
      K ((base 13).at ⟨#[x0, .pointer (some ⟨B, 0, none⟩), x2, .pointer (some ⟨B + 2, 0, none⟩), .pointer (some ⟨B + 3, 0, none⟩), x5, x6, x7, x8, x9, .int .i64 4, .int .i64 (0 : Nat), x12, x13, x14, x15, x16, x17, x18], []⟩ [.code loop13, .inLoop loop13, .inBlock 0, .code tail13]) cs w')
    (x0 x2 x4 x5 x6 x7 x8 x9 x10 x11 x12 x13 x14 x15 x16 x17 x18 : Value) : Lq (B + 3) K ((base 13).at ⟨#[x0, .pointer (some ⟨B, 0, none⟩), x2, .pointer (some ⟨B + 2, 0, none⟩), x4, x5, x6, x7, x8, x9, x10, x11, x12, x13, x14, x15, x16, x17, x18], []⟩ [.code from13]) cs w := by
  have e4 : ((r.length : Nat) : Int) = 4 := by rw [hl]; rfl
  have hs := hF.size
  obtain ⟨WA, hWA⟩ : ∃ WA : World, WA = { w with heap := w.heap.push (.cells #[.int .u64 0, .int .u32 0] 63 (0, 0)) } := ⟨_, rfl⟩
  have old : ∀ x, x < B + 3 → WA.heap[x]? = w.heap[x]? := fun x h1 => by
    rw [hWA]
    simp only [Array.getElem?_push]
    rw [if_neg (by omega)]
  simp only [from13, loop13, tail13, body13, f13, Option.getD_some] at hK ⊢
  refine lo_go' (stepG_seq) ?_
  refine lo_go' (stepG_region) ?_
  simp only [List.size_toArray, List.length_cons, List.length_nil, Nat.reduceAdd, Nat.zero_add, List.range, List.range.loop]
  refine lq_val (b := base 13) (es := #[]) (.pointer (some ⟨B + 3, 0, none⟩)) WA (by rfl) (by rfl) (by decide) (by rw [← hs, hWA]; exact run_alloc zeroValue63 w) (by simp) ?_
  walk_nrm
  refine lo_go' (stepG_region_end) ?_
  refine lo_go' (stepG_seq) ?_
  refine lo_go' (stepG_seq) ?_
  refine lo_go' (stepG_region) ?_
  simp only [List.size_toArray, List.length_cons, List.length_nil, Nat.reduceAdd, Nat.zero_add, List.range, List.range.loop]
  refine lq_val (b := base 13) (es := #[⟨.cell ⟨B, 0, none⟩, false, false⟩]) (.slice (some ⟨FB, 0, none⟩) r.length c1) WA (by rfl) (by rfl) (by decide) (by exact runT_v (runT_loadOne underlying25 rfl (by rw [cell2 ((old B (by omega)).trans hF.hB)]; rfl))) (fun e he => by rw [Array.mem_singleton] at he; subst he; exact ⟨fun m h => (by cases h), LowE.cell (by simp only; omega)⟩) ?_
  walk_nrm
  refine lq_val (b := base 13) (es := #[]) (.int .i64 4) WA (by rfl) (by rfl) (by decide) (by rw [← e4]; kernel_rfl) (by simp) ?_
  walk_nrm
  refine lq_val (b := base 13) (es := #[]) (.int .i64 (0 : Nat)) WA (by rfl) (by rfl) (by decide) (by kernel_rfl) (by simp) ?_
  walk_nrm
  refine lo_go' (stepG_region_end) ?_
  refine lo_go' (stepG_block) ?_
  refine lo_go' (stepG_loop) ?_
  refine lq_stop (hK _ _ _ _ _ _ _ _ _ _ _ _ _ _ WA (by rw [hWA]) (by rw [hWA]) (by rw [hWA]) (by rw [hWA]; simp [hs]) old ?_)
  rw [hWA, ← hs]
  simp [wgBlock]
end
end Go.Proofs.YtgdlakhfkmhlnaaWear
namespace Go.Proofs.YtgdlakhfkmhlnaaWear
open Go.Conc Go.ConcN Go.RowKit Go.Conc.Lib Go.ConcR.Gen Go.Proofs.Try
open Go.ConcR (KK wgBlock WgAt stA smA rd wr mk Payload Aside2 DC0)
open Go.Proofs.Ytgdlakhfkmhlnaa.Pa Go.Proofs.YtgdlakhfkmhlnaaW.PrintWords Go.Proofs.YtgdlakhfkmhlnaaW.PrintLast Go.Proofs.YtgdlakhfkmhlnaaW.PrintMore
/-! ### the anchors -/
section
variable {Wg C Low B V : Nat} {cs : List Frame}
theorem anchY_runs : ∀ o g w, AnchY Wg B V cs o g w → g.status = .running := by
  rintro o g w ⟨_, _, _, _, _, _, _, _, _, _, _, _, _, _, T, rfl, _⟩
  rfl
theorem anchY_next : ∀ o g w, AnchY Wg B V cs o g w → PX prog 63 Wg C Low (SW1 prog 63 Wg C Low 4 (AnchY Wg B V cs) (EndY Wg B V cs)) o g w := by
  rintro o g w ⟨x0, x2, x5, x6, x7, x8, x9, x12, x13, x14, x15, x16, x17, x18, h⟩
  have key := waitRound (P := prog) (L := wgl) wgLib (Wg := Wg) (C := C) (Low := Low) (o := o) (F := fun _ => True) (fun _ _ _ h => h) (fun _ _ h => h) (fun _ _ h => h) g w h
  exact PX.mono (fun o' g' w' h' => SW1.mono (fun o'' g'' w'' h'' => ⟨_, _, _, _, _, _, _, _, _, _, _, _, _, _, h''⟩) (fun g'' w'' h'' => ⟨_, ⟨x0, x2, x5, x6, x7, x8, x9, x12, x13, x14, x15, x16, x17, x18, by kernel_rfl⟩, h''⟩) h') key
end
section
variable {B FB c1 sz : Nat} {r : List S36}
def wornOf (r : List S36) (i : Nat) : Int := (r.getD i z36).f1

theorem ki_of {W w wA : World} (hF : Fork W r FB c1 B w) (hl : r.length = 4) (hpg : ∀ i, i < 4 → (r.getD i z36).f0.length = 4) (hold : ∀ b, b < B + 3 → wA.heap[b]? = w.heap[b]?) :
    ∃ (PB pc : Nat → Nat) (pg : Nat → Nat → Nat → Int), ∀ i, i < 4 → KI (B + 3) (B + 1) (B + 4) i B (B + 2) FB c1 (PB i) (pc i) (wornOf r i) (pg i) wA := by
  obtain ⟨w1, hS, hw1, hb1⟩ := hF.row
  have hFB := hF.hlt
  have cell1 : ∀ (b off : Nat), b < w1.heap.size → wA.cell? ⟨b, off, none⟩ = w1.cell? ⟨b, off, none⟩ := fun b off hb =>
    cell_of_block (((hold b (by omega)).trans (hb1.block b hb))) off
  have hFBs : FB < w1.heap.size := by
    obtain ⟨inner, _, ho⟩ := Kd.R_own (Kd.S_R hS)
    rcases ho with ⟨h, h0⟩ | ⟨g, cap, cur, h, hg, hh, _⟩
    · omega
    · simp only [Value.slice.injEq, Option.some.injEq, Addr.mk.injEq] at h
      obtain ⟨⟨rfl, _⟩, _⟩ := h
      exact (Array.getElem?_eq_some_iff.1 hh).1
  have hrow := fun i hi => row_facts hS hl hpg i hi
  classical
  refine ⟨fun i => if h : i < 4 then (hrow i h).choose else 0, fun i => if h : i < 4 then (hrow i h).choose_spec.choose else 0, fun i k j => pgv (r.getD i z36) k j, fun i hi => ?_⟩
  obtain ⟨h1, h2, h3, h4⟩ := (hrow i hi).choose_spec.choose_spec
  simp only [hi, dif_pos]
  refine ⟨hi, ⟨by omega, by omega, by omega⟩, ⟨by omega, by omega, by omega⟩, ⟨by omega, by omega, by omega⟩, ⟨by omega, by omega, by omega⟩, ?_, ?_, ?_, ?_, ?_⟩
  · rw [cell2 ((hold B (by omega)).trans hF.hB)]; rw [hl]; rfl
  · rw [cell2 ((hold (B + 2) (by omega)).trans hF.hV)]; rfl
  · rw [cell1 _ _ hFBs]; exact h1
  · rw [cell1 _ _ hFBs]; exact h2
  · intro k hk j hj
    rw [cell1 _ _ h3]; exact h4 k hk j hj
/-- The crowd before the first worker: all that holds. -/
theorem inv13 {W w wA : World} {cs : List Frame} {u : Trace} (hF : Fork W r FB c1 B w) (hl : r.length = 4) (hpg : ∀ i, i < 4 → (r.getD i z36).f0.length = 4)
    (hs : wA.heap.size = B + 4) (hold : ∀ b, b < B + 3 → wA.heap[b]? = w.heap[b]?) (hW : wA.heap[B + 3]? = some (wgBlock 63 0 0)) (hu : ∀ op ∈ u, op.g = 0 ∧ ∃ e, EvP (B + 3) e ∧ op.act = .ofEvent e)
    (x0 x2 x5 x6 x7 x8 x9 x12 x13 x14 x15 x16 x17 x18 : Value) :
    ∃ μ, Inv prog 63 (B + 3) (B + 1) (B + 4) 4 (fun i => .int .i64 (wornOf r i)) (AnchY (B + 3) B (B + 2) cs) (EndY (B + 3) B (B + 2) cs) wA μ (solo (head13 B (B + 2) (B + 3) 0 x0 x2 x5 x6 x7 x8 x9 x12 x13 x14 x15 x16 x17 x18 cs) wA) u := by
  obtain ⟨PB, pc, pg, hK⟩ := ki_of hF hl hpg hold
  have hG : Plan (B + 3) (B + 1) (B + 4) := ⟨by omega, by omega, by omega⟩
  have hlive : WgLive 63 (B + 3) wA := ⟨0, 0, hW⟩
  have hpay : PayAt (B + 1) (2 * 4) wA := ⟨_, (hold (B + 1) (by omega)).trans hF.hC, by rfl⟩
  obtain ⟨e, he⟩ := rounds (cs := cs) hG rfl hK 4 0 rfl
  obtain ⟨m, hm⟩ := he x0 x2 x5 x6 x7 x8 x9 x12 x13 x14 x15 x16 x17 x18 wA ⟨fun _ _ _ _ => rfl, hlive, fun p hp => by simp at hp⟩
  have touchN : ∀ n, B + 3 ≤ n → ∀ op ∈ u, ∀ x, op.act.touch? = some x → x.loc.low n := fun n hn op hop x hx => by
    obtain ⟨_, ev, hev, hoe⟩ := hu op hop
    rw [hoe] at hx
    obtain ⟨l, a', b'⟩ := ev
    cases l with
    | cell ad =>
      have := Nat.lt_of_lt_of_le (hev.2.1 ad rfl) hn
      cases a' <;> cases b' <;> (simp [MemAct.ofEvent, MemAct.touch?] at hx; subst hx; exact this)
    | obj q =>
      have := Nat.lt_of_lt_of_le (hev.2.2 q rfl) hn
      cases a' <;> cases b' <;> simp [MemAct.ofEvent, MemAct.touch?] at hx <;> (try subst hx) <;> exact this
    | mark mm =>
      obtain rfl := hev.1 mm rfl
      simp [MemAct.ofEvent, MemAct.touch?] at hx
    | output => cases a' <;> cases b' <;> simp [MemAct.ofEvent, MemAct.touch?] at hx <;> (try subst hx) <;> trivial
    | goroutines => cases a' <;> cases b' <;> simp [MemAct.ofEvent, MemAct.touch?] at hx <;> (try subst hx) <;> trivial
  have nosh : ∀ op ∈ u, ∀ x, op.act.touch? = some x → ¬ ShN (B + 3) x.loc := fun op hop x hx hsh => by
    obtain ⟨ad, e1, e2⟩ := hsh
    have := touchN (B + 3) (Nat.le_refl _) op hop x hx
    rw [e1] at this
    have h3 : ad.block < B + 3 := this
    omega
  have nomark : ∀ op ∈ u, ∀ mm, op.act = .mark mm → mm = .noRoom := fun op hop mm hmm => by
    obtain ⟨_, ev, hev, hoe⟩ := hu op hop
    rw [hoe] at hmm
    obtain ⟨l, a', b'⟩ := ev
    cases l with
    | mark m' =>
      obtain rfl := hev.1 m' rfl
      simp [MemAct.ofEvent] at hmm
      exact hmm.symm
    | _ => cases a' <;> cases b' <;> simp [MemAct.ofEvent] at hmm
  refine ⟨_, #[head13 B (B + 2) (B + 3) 0 x0 x2 x5 x6 x7 x8 x9 x12 x13 x14 x15 x16 x17 x18 cs], wA, none, 0, fun _ => ⟨7, 0, 0⟩, fun _ => 0, fun _ => [], [], .sp 3 5, e, m, 0, _, 0, 0, rfl, rfl, .skd (r := 3) (by omega) hm, ?_, hW, ?_, rfl⟩
  · refine ⟨rfl, fun i hi => by omega, fun _ _ => rfl, ⟨fun i b hb => by simp at hb, fun b hb => by simp at hb, fun i i' b hb => by simp at hb, fun i b hb => by simp at hb⟩, by omega,
      CT.lone (fun op hop => (hu op hop).1) nosh, fun op hop x hx => ?_, fun op hop hne => absurd (hu op hop).1 hne, ?_, ?_, fun i hi => by omega, fun i hi => by omega, fun i hi => by omega, fun i hi => by omega, hpay, ⟨rfl, rfl, rfl, fun _ _ _ _ => rfl⟩⟩
    · exact touchN _ (by omega) op hop x hx
    · have := NoRelease.app (a := stA (B + 3)) (t := #[]) (u := u) (fun i hi => by simp [Trace.act?] at hi) (fun op hop hm => by have := nomark op hop _ hm; cases this)
      simpa using this
    · have := Go.ConcN.Deaf_still #[] 0 u (fun op hop => ⟨fun hm => (by have := nomark op hop _ hm; cases this), fun hm => (by have := nomark op hop _ hm; cases this)⟩)
      simp only [Array.empty_append] at this
      exact this.trans (by rfl)
  · exact (show ConcN.Mode 0 (fun _ => (⟨7, 0, 0⟩ : WD)) (.sp 3 5) 0 0 from ConcN.Mode.opn (tag := .sp 3 5) trivial (fun i hi => by omega) (fun vs h => by cases h))
end
end Go.Proofs.YtgdlakhfkmhlnaaWear
namespace Go.Proofs.YtgdlakhfkmhlnaaWear
open Go.Conc Go.ConcN Go.RowKit Go.Conc.Lib Go.ConcR.Gen Go.Proofs.Try
open Go.ConcR (KK wgBlock WgAt stA smA rd wr mk Payload Aside2 DC0)
open Go.Proofs.Ytgdlakhfkmhlnaa.Pa Go.Proofs.YtgdlakhfkmhlnaaW.PrintWords Go.Proofs.YtgdlakhfkmhlnaaW.PrintLast Go.Proofs.YtgdlakhfkmhlnaaW.PrintMore
/-! ### the law's end -/
def PostW (W : World) (v : Value) (w' : World) : Prop := v = .bool true ∧ Below W.heap.size W { w' with tape := W.tape }
def FinW (W : World) (fr : Frame) (w' : World) : Prop := ∃ (T : Array Value) (todo : List Item), T.size = 27 ∧ T[2]? = some (.bool true) ∧ Below W.heap.size W { w' with tape := W.tape } ∧ fr = { (base 3).at ⟨T, []⟩ todo with mode := .returning }
theorem end3 (T : Array Value) (todo : List Item) (w : World) (h : T[2]? = some (.bool true)) : stepG prog true (G { (base 3).at ⟨T, []⟩ todo with mode := .returning } []) w = .ended (.done (.bool true)) w #[] := by
  have hr : f3.results = #[.tmp 2] := by kernel_rfl
  have hg : T.getD 2 undef = .bool true := by simp [Array.getD_eq_getD_getElem?, h]
  have hi : prog.inits.idxOf? 3 = none := by decide +kernel
  have e1 : (results f3 T).runT prog w #[] = (.ok (.bool true) w, #[]) := by
    rw [Sem.runT_eq, events_results_tmp hr, show (results f3 T).run prog w = .ok (T.getD 2 undef) w from by simp [results, hr], hg]
  simp only [stepG, G, unwind, Frame.at, base, func3, e1, doReturn, hi, GStep.after, seen_none]
  rfl
theorem ok_at {F : FuncId → Bool} {f : FuncId} {fn : Func} {a : Act} {todo : List Item} (hf : prog.funcs[f]? = some fn) (hd : a.defers = []) (h : (todo.all (okItem F false)) = true) : OkFrame prog F false ((base f).at a todo) :=
  ⟨fun x hx => List.all_eq_true.1 h x hx, hd, rfl, rfl, fn, hf⟩
section
variable {A0 : Option Addr} {c0 k : Nat} {l0 : List S32} {r : List S36} {FB c1 B : Nat} {sw s1 s2 s3 : Int} {W w wA : World}
set_option maxRecDepth 100000 in
theorem joined_ends (hr0 : Kd.C k32 W A0 l0.length l0) (hc0 : l0.length ≤ c0) (hF : Fork W r FB c1 B w) (hl : r.length = 4) (hc1 : r.length ≤ c1)
    (ho : wA.os = w.os) (ht : wA.tape = w.tape) (hout : wA.output = w.output) (hs : wA.heap.size = B + 4) (hold : ∀ b, b < B + 3 → wA.heap[b]? = w.heap[b]?)
    (hto : laws_toBlockS.f k l0 = some r) (heq : laws_eqBlockS.f k r r = some true)
    (h1 : IntKind.i64.wrap (0 + wornOf r 0) = s1) (h2 : IntKind.i64.wrap (s1 + wornOf r 1) = s2) (h3 : IntKind.i64.wrap (s2 + wornOf r 2) = s3) (h4 : IntKind.i64.wrap (s3 + wornOf r 3) = sw)
    (y0 y1 y2 y4 y5 y6 y7 y8 y9 y10 y11 y12 y13 y14 y15 y16 y17 y18 y19 y20 y21 z1 z3 z6 z7 z8 z9 z10 z11 z12 z13 z14 z15 z16 z17 z18 z19 z20 z21 z22 z23 z24 z25 z26 : Value) {m : Machine} {t : Trace}
    (hJ : Joined prog 63 (B + 3) (B + 1) (B + 4) 4 (fun i => .int .i64 (wornOf r i)) (EndY (B + 3) B (B + 2) [(base 7).at ⟨#[y0, y1, y2, .int .i64 0, y4, y5, y6, y7, y8, y9, y10, y11, y12, y13, y14, y15, y16, y17, y18, y19, y20, y21], []⟩ [.inRegion ops4 [1, 2, 3], .code blk7, .code end7], (base 3).at ⟨#[.slice A0 l0.length c0, z1, .bool false, z3, .int .i64 sw, .slice (some ⟨FB, 0, none⟩) r.length c1, z6, z7, z8, z9, z10, z11, z12, z13, z14, z15, z16, z17, z18, z19, z20, z21, z22, z23, z24, z25, z26], []⟩ [.inRegion ops7 [1, 2], .code s8]]) wA m t) : Conc' prog (PostW W) m t := by
  obtain ⟨gs, v, sl, a, q, rfl, h0, ⟨gR, ⟨x0, x2, x5, x6, x7, x8, x9, x12, x13, x14, x15, x16, x17, x18, rfl⟩, n, hGoes⟩, hL, hP, hbase, hhas, hpay, hwg, hlow⟩ := hJ
  have hWB : W.heap.size ≤ B := by have := hF.hge; have := hF.hlt; omega
  -- the world of the lone run: the group's block is emptied
  have spot : ∀ (v' : World), AtRel v v' → ∀ σ : Nat → Question → Nat, ∃ V0 : World, Alike (B + 3) v' V0 ∧ (∀ i, V0.tape (V0.drawn + i) = σ i) ∧ V0.os = W.os ∧ V0.output = W.output ∧ V0.heap.size = v.heap.size ∧ ∀ b, b ≠ B + 3 → V0.heap[b]? = v.heap[b]? := by
    rintro v' ⟨d, rfl⟩ σ
    have hlt : B + 3 < v.heap.size := by omega
    refine ⟨{ v.at d with tape := fun i => σ (i - d), heap := v.heap.setIfInBounds (B + 3) (.cells #[] 63 (0, 0)) }, ⟨rfl, rfl, ?_, fun b hb => ?_, ⟨_, _, _, hwg, ?_⟩⟩, fun i => ?_, ?_, ?_, ?_, fun b hb => ?_⟩
    · simp [World.at]
    · simp only [World.at]; rw [Array.getElem?_setIfInBounds_ne (Ne.symm hb)]
    · simp [hlt]
    · simp [World.at]
    · show v.os = _; rw [hbase.os, ho, hF.below.os]
    · show v.output = _; rw [hbase.output, hout, hF.below.output]
    · simp
    · rw [Array.getElem?_setIfInBounds_ne (Ne.symm hb)]
  have lowV : ∀ b, b < B + 4 → b ≠ B + 3 → b ≠ B + 1 → v.heap[b]? = w.heap[b]? := fun b g1 g2 g3 => (hbase.low b g1 g2 g3).trans (hold b (by omega))
  have ends : ∀ v', AtRel v v' → ∀ (gs : Array Goroutine) (d : Nat) (sl : Option (Nat × Nat)) (t : Trace) (q : Nat → Nat), gs[0]? = some (G ((base 13).at ⟨#[x0, .pointer (some ⟨B, 0, none⟩), x2, .pointer (some ⟨B + 2, 0, none⟩), .pointer (some ⟨B + 3, 0, none⟩), x5, x6, x7, x8, x9, .int .i64 4, .int .i64 4, x12, x13, x14, x15, x16, .tuple #[], x18], []⟩ [.code rest13]) [(base 7).at ⟨#[y0, y1, y2, .int .i64 0, y4, y5, y6, y7, y8, y9, y10, y11, y12, y13, y14, y15, y16, y17, y18, y19, y20, y21], []⟩ [.inRegion ops4 [1, 2, 3], .code blk7, .code end7], (base 3).at ⟨#[.slice A0 l0.length c0, z1, .bool false, z3, .int .i64 sw, .slice (some ⟨FB, 0, none⟩) r.length c1, z6, z7, z8, z9, z10, z11, z12, z13, z14, z15, z16, z17, z18, z19, z20, z21, z22, z23, z24, z25, z26], []⟩ [.inRegion ops7 [1, 2], .code s8]]) → Leavers prog t gs q → PastS (B + 3) t → Conc' prog (PostW W) (crowd gs (v'.at d) sl) t := by
    intro v' hv' gs d sl t q g0 gL gP
    have hLone : LoneTo prog (B + 3) (FinW W) ((base 13).at ⟨#[x0, .pointer (some ⟨B, 0, none⟩), x2, .pointer (some ⟨B + 2, 0, none⟩), .pointer (some ⟨B + 3, 0, none⟩), x5, x6, x7, x8, x9, .int .i64 4, .int .i64 4, x12, x13, x14, x15, x16, .tuple #[], x18], []⟩ [.code rest13]) [(base 7).at ⟨#[y0, y1, y2, .int .i64 0, y4, y5, y6, y7, y8, y9, y10, y11, y12, y13, y14, y15, y16, y17, y18, y19, y20, y21], []⟩ [.inRegion ops4 [1, 2, 3], .code blk7, .code end7], (base 3).at ⟨#[.slice A0 l0.length c0, z1, .bool false, z3, .int .i64 sw, .slice (some ⟨FB, 0, none⟩) r.length c1, z6, z7, z8, z9, z10, z11, z12, z13, z14, z15, z16, z17, z18, z19, z20, z21, z22, z23, z24, z25, z26], []⟩ [.inRegion ops7 [1, 2], .code s8]] v' := by
      intro σ
      obtain ⟨V0, hA, hσ, e1, e2, e3, e4⟩ := spot v' hv' σ
      refine ⟨V0, hA, hσ, ?_⟩
      have hbW : Below W.heap.size W { V0 with tape := W.tape } := ⟨e1, rfl, e2, by show _ ≤ V0.heap.size; omega, fun b hb => (e4 b (by omega)).trans ((lowV b (by omega) (by omega) (by omega)).trans (hF.below.block b hb))⟩
      have hr0w : Kd.C k32 { V0 with tape := W.tape } A0 l0.length l0 := Kd.C_below hr0 hbW
      have hr0' : Kd.C k32 V0 A0 l0.length l0 := hr0w
      obtain ⟨w1, hS, hw1, hb1⟩ := hF.row
      obtain ⟨A1, c1', he1, _, hr1⟩ := Kd.R_reads (Kd.S_R hS)
      simp only [Value.slice.injEq] at he1
      obtain ⟨rfl, _, rfl⟩ := he1
      have hbR : Below w1.heap.size w1 { V0 with tape := w1.tape } := ⟨e1.trans (hF.below.os.symm.trans hb1.os), rfl, e2.trans (hF.below.output.symm.trans hb1.output), by show _ ≤ V0.heap.size; omega, fun b hb => (e4 b (by omega)).trans ((lowV b (by omega) (by omega) (by omega)).trans (hb1.block b hb))⟩
      have hr1w : Kd.C k36 { V0 with tape := w1.tape } (some ⟨FB, 0, none⟩) r.length r := Kd.C_below hr1 hbR
      have hr1' : Kd.C k36 V0 (some ⟨FB, 0, none⟩) r.length r := hr1w
      have cellC : ∀ j u, v.cell? ⟨B + 1, j, none⟩ = some u → V0.cell? ⟨B + 1, j, none⟩ = some u := fun j u h => (cell_of_block (e4 (B + 1) (by omega)) j).trans h
      obtain ⟨a0, u0, b0⟩ := hhas 0 (by decide)
      obtain ⟨a1, u1, b1⟩ := hhas 1 (by decide)
      obtain ⟨a2, u2, b2⟩ := hhas 2 (by decide)
      obtain ⟨a3, u3, b3⟩ := hhas 3 (by decide)
      have hlo := suf3 (K := fun fr cs' w' => cs' = [trap prog] ∧ FinW W fr w') (cs := [trap prog]) (B := B) (sw := sw) hr0' hc0 hr1' hc1 hto heq
        (by rw [cell2 ((e4 (B + 2) (by omega)).trans ((lowV (B + 2) (by omega) (by omega) (by omega)).trans hF.hV))]; rfl) (by omega)
        (cellC 0 _ a0) (cellC 1 _ b0) (cellC 2 _ a1) (cellC 3 _ b1) (cellC 4 _ a2) (cellC 5 _ b2) (cellC 6 _ a3) (cellC 7 _ b3) h1 h2 h3 h4
        (fun T todo w' f1 f2 f3 => ⟨rfl, T, todo, f1, f2, ⟨f3.os.trans e1, rfl, f3.output.trans e2, by show _ ≤ w'.heap.size; have := f3.size; omega, fun b hb => (f3.block b (by omega)).trans (hbW.block b hb)⟩, rfl⟩) x0 x2 x5 x6 x7 x8 x9 x12 x13 x14 x15 x16 x18 y0 y1 y2 y4 y5 y6 y7 y8 y9 y10 y11 y12 y13 y14 y15 y16 y17 y18 y19 y20 y21 z1 z3 z6 z7 z8 z9 z10 z11 z12 z13 z14 z15 z16 z17 z18 z19 z20 z21 z22 z23 z24 z25 z26
      obtain ⟨fr', cs', w', hst, rfl, hfin⟩ := hlo
      obtain ⟨N, hN⟩ := hst
      exact ⟨N, fr', w', hN, hfin⟩
    have hWill := will_of_lone plainS (fun fr w h => by obtain ⟨T, todo, _, _, _, rfl⟩ := h; rfl) hLone (ok_at func13 rfl (by kernel_rfl)) (.inl rfl) (fun c hc => by
      rcases List.mem_cons.1 hc with rfl | hc
      · refine ⟨⟨fun x => ?_, rfl, _, func7⟩, rfl⟩
        rw [Frame.finish_at]
        exact ok_at func7 (by kernel_rfl) (by kernel_rfl)
      · rcases List.mem_cons.1 hc with rfl | hc
        · refine ⟨⟨fun x => ?_, rfl, _, func3⟩, rfl⟩
          rw [Frame.finish_at]
          exact ok_at func3 (by kernel_rfl) (by kernel_rfl)
        · simp at hc)
    exact will_ends (P := prog) (X := B + 3) (Post := PostW W) (fun fr w1 w0 hA hfin => by
      obtain ⟨T, todo, f1, f2, f3, rfl⟩ := hfin
      exact ⟨_, _, end3 T todo w1 f2, by simp, rfl, ⟨hA.os.symm.trans f3.os, rfl, hA.output.symm.trans f3.output, by have := f3.size; have h9 := hA.size; show _ ≤ w1.heap.size; simp only at this; omega, fun b hb => (hA.block b (by omega)).symm.trans (f3.block b hb)⟩⟩) hWill _ gs d v'.tape sl t q (Nat.le_refl _) g0 gL gP
  have step1 : ∀ v', AtRel v v' → ∀ (gs : Array Goroutine) (d : Nat) (sl : Option (Nat × Nat)) (t : Trace) (q : Nat → Nat), gs[0]? = some (G ((base 13).at ⟨#[x0, .pointer (some ⟨B, 0, none⟩), x2, .pointer (some ⟨B + 2, 0, none⟩), .pointer (some ⟨B + 3, 0, none⟩), x5, x6, x7, x8, x9, .int .i64 4, .int .i64 4, x12, x13, x14, x15, x16, .tuple #[], x18], []⟩ [.inRegion ops9 [], .code rest13]) [(base 7).at ⟨#[y0, y1, y2, .int .i64 0, y4, y5, y6, y7, y8, y9, y10, y11, y12, y13, y14, y15, y16, y17, y18, y19, y20, y21], []⟩ [.inRegion ops4 [1, 2, 3], .code blk7, .code end7], (base 3).at ⟨#[.slice A0 l0.length c0, z1, .bool false, z3, .int .i64 sw, .slice (some ⟨FB, 0, none⟩) r.length c1, z6, z7, z8, z9, z10, z11, z12, z13, z14, z15, z16, z17, z18, z19, z20, z21, z22, z23, z24, z25, z26], []⟩ [.inRegion ops7 [1, 2], .code s8]]) → Leavers prog t gs q → PastS (B + 3) t → Conc' prog (PostW W) (crowd gs (v'.at d) sl) t := by
    intro v' hv' gs d sl t q g0 gL gP
    refine goes_ends (w0 := v') (gR := G ((base 13).at ⟨#[x0, .pointer (some ⟨B, 0, none⟩), x2, .pointer (some ⟨B + 2, 0, none⟩), .pointer (some ⟨B + 3, 0, none⟩), x5, x6, x7, x8, x9, .int .i64 4, .int .i64 4, x12, x13, x14, x15, x16, .tuple #[], x18], []⟩ [.code rest13]) [(base 7).at ⟨#[y0, y1, y2, .int .i64 0, y4, y5, y6, y7, y8, y9, y10, y11, y12, y13, y14, y15, y16, y17, y18, y19, y20, y21], []⟩ [.inRegion ops4 [1, 2, 3], .code blk7, .code end7], (base 3).at ⟨#[.slice A0 l0.length c0, z1, .bool false, z3, .int .i64 sw, .slice (some ⟨FB, 0, none⟩) r.length c1, z6, z7, z8, z9, z10, z11, z12, z13, z14, z15, z16, z17, z18, z19, z20, z21, z22, z23, z24, z25, z26], []⟩ [.inRegion ops7 [1, 2], .code s8]]) (fun v'' hv'' => ends v'' (atRel_trans _ _ _ hv' hv'')) 1 _ v' ⟨v'.drawn, rfl⟩ (Goes.step rfl fun w₁ hw₁ => ?_) _ gs d sl t q (Nat.le_refl _) g0 gL gP
    rw [stepG_region_end]
    exact ⟨⟨rfl, rfl⟩, Goes.stop fun w₂ hw₂ => ⟨rfl, atRel_trans _ _ _ hw₁ hw₂⟩⟩
  exact goes_ends (w0 := v) (gR := G ((base 13).at ⟨#[x0, .pointer (some ⟨B, 0, none⟩), x2, .pointer (some ⟨B + 2, 0, none⟩), .pointer (some ⟨B + 3, 0, none⟩), x5, x6, x7, x8, x9, .int .i64 4, .int .i64 4, x12, x13, x14, x15, x16, .tuple #[], x18], []⟩ [.inRegion ops9 [], .code rest13]) [(base 7).at ⟨#[y0, y1, y2, .int .i64 0, y4, y5, y6, y7, y8, y9, y10, y11, y12, y13, y14, y15, y16, y17, y18, y19, y20, y21], []⟩ [.inRegion ops4 [1, 2, 3], .code blk7, .code end7], (base 3).at ⟨#[.slice A0 l0.length c0, z1, .bool false, z3, .int .i64 sw, .slice (some ⟨FB, 0, none⟩) r.length c1, z6, z7, z8, z9, z10, z11, z12, z13, z14, z15, z16, z17, z18, z19, z20, z21, z22, z23, z24, z25, z26], []⟩ [.inRegion ops7 [1, 2], .code s8]]) step1 n a v ⟨v.drawn, rfl⟩ hGoes _ gs v.drawn sl t q (Nat.le_refl _) h0 hL hP
end
end Go.Proofs.YtgdlakhfkmhlnaaWear
namespace Go.Proofs.YtgdlakhfkmhlnaaWear
open Go.Conc Go.ConcN Go.RowKit Go.Conc.Lib Go.ConcR.Gen Go.Proofs.Try
open Go.ConcR (KK wgBlock WgAt stA smA rd wr mk Payload Aside2 DC0)
open Go.Proofs.Ytgdlakhfkmhlnaa.Pa Go.Proofs.YtgdlakhfkmhlnaaW.PrintWords Go.Proofs.YtgdlakhfkmhlnaaW.PrintLast Go.Proofs.YtgdlakhfkmhlnaaW.PrintMore
section
variable {A0 : Option Addr} {c0 k : Nat} {l0 : List S32} {left : Int} {W : World}
def KK3 (k : Nat) (l0 : List S32) (A0 : Option Addr) (c0 : Nat) (W : World) (fr : Frame) (cs : List Frame) (w' : World) : Prop :=
  (cs = [] ∧ ∃ (T : Array Value) (k' : List Item), T.size = 27 ∧ T[2]? = some (.bool true) ∧ Below W.heap.size W w' ∧ fr = (base 3).at ⟨T, []⟩ (.code .ret :: k')) ∨
  (∃ (r : List S36) (sw : Int) (FB c1 B : Nat) (x0 x2 x4 x5 x6 x7 x8 x9 x10 x11 x12 x13 x14 x15 x16 x17 x18 y0 y1 y2 y4 y5 y6 y7 y8 y9 y10 y11 y12 y13 y14 y15 y16 y17 y18 y19 y20 y21 z1 z3 z6 z7 z8 z9 z10 z11 z12 z13 z14 z15 z16 z17 z18 z19 z20 z21 z22 z23 z24 z25 z26 : Value), laws_toBlockS.f k l0 = some r ∧ spec_WearAll.f k r = some sw ∧ impl_FlashOk.f r = some true ∧ laws_eqBlockS.f k r r = some true ∧ r.length = 4 ∧ Fork W r FB c1 B w' ∧ r.length ≤ c1 ∧
    fr = (base 13).at ⟨#[x0, .pointer (some ⟨B, 0, none⟩), x2, .pointer (some ⟨B + 2, 0, none⟩), x4, x5, x6, x7, x8, x9, x10, x11, x12, x13, x14, x15, x16, x17, x18], []⟩ [.code from13] ∧ cs = [(base 7).at ⟨#[y0, y1, y2, .int .i64 0, y4, y5, y6, y7, y8, y9, y10, y11, y12, y13, y14, y15, y16, y17, y18, y19, y20, y21], []⟩ [.inRegion ops4 [1, 2, 3], .code blk7, .code end7], (base 3).at ⟨#[.slice A0 l0.length c0, z1, .bool false, z3, .int .i64 sw, .slice (some ⟨FB, 0, none⟩) r.length c1, z6, z7, z8, z9, z10, z11, z12, z13, z14, z15, z16, z17, z18, z19, z20, z21, z22, z23, z24, z25, z26], []⟩ [.inRegion ops7 [1, 2], .code s8]])
set_option maxRecDepth 100000 in
theorem the_run (hr0 : Kd.C k32 W A0 l0.length l0) (hc0 : l0.length ≤ c0) (hsz : laws_szBlockS.f k l0 1048576 = some left)
    (hgo : 0 ≤ left → ∃ (r : List S36) (sw : Int) (fl : Bool), laws_toBlockS.f k l0 = some r ∧ spec_WearAll.f k r = some sw ∧ impl_FlashOk.f r = some fl ∧ laws_eqBlockS.f k r r = some true ∧ (fl = false → sw = -1) ∧ (fl = true → r.length = 4))
    (hfl : ∀ (r : List S36) (sw : Int), spec_WearAll.f k r = some sw → impl_FlashOk.f r = some true → (∀ i, i < 4 → (r.getD i z36).f0.length = 4) ∧
      IntKind.i64.wrap (IntKind.i64.wrap (IntKind.i64.wrap (IntKind.i64.wrap (0 + wornOf r 0) + wornOf r 1) + wornOf r 2) + wornOf r 3) = sw) :
    Conc' prog (PostW W) (solo (G (Frame.enter prog 3 #[.slice A0 l0.length c0] .normal) []) W) #[] := by
  obtain ⟨n, fr, cs', w, u, h1, h2, h3, hk⟩ := pre3 (K := KK3 k l0 A0 c0 W) (cs := []) hr0 hc0 hsz hgo (fun T k' w' g1 g2 g3 => .inl ⟨rfl, T, k', g1, g2, g3, rfl⟩)
    (fun r sw FB c1 B w' x0 x2 x4 x5 x6 x7 x8 x9 x10 x11 x12 x13 x14 x15 x16 x17 x18 y0 y1 y2 y4 y5 y6 y7 y8 y9 y10 y11 y12 y13 y14 y15 y16 y17 y18 y19 y20 y21 z1 z3 z6 z7 z8 z9 z10 z11 z12 z13 z14 z15 z16 z17 z18 z19 z20 z21 z22 z23 z24 z25 z26 g1 g2 g3 g4 g5 g6 g7 => .inr ⟨r, sw, FB, c1, B, x0, x2, x4, x5, x6, x7, x8, x9, x10, x11, x12, x13, x14, x15, x16, x17, x18, y0, y1, y2, y4, y5, y6, y7, y8, y9, y10, y11, y12, y13, y14, y15, y16, y17, y18, y19, y20, y21, z1, z3, z6, z7, z8, z9, z10, z11, z12, z13, z14, z15, z16, z17, z18, z19, z20, z21, z22, z23, z24, z25, z26, g1, g2, g3, g4, g5, g6, g7, rfl, rfl⟩)
  rw [enter_at (P := prog) #[.slice A0 l0.length c0] func3 (show f3.body = some body3 by kernel_rfl), show f3.ntmps - (#[Value.slice A0 l0.length c0] : Array Value).size = 26 by kernel_rfl]
  have h1' := h1 #[]
  simp only [Array.empty_append] at h1'
  refine conc_run n h1' ?_
  rcases hk with ⟨rfl, T, k', g1, g2, g3, rfl⟩ | ⟨r, sw, FB, c1, B, x0, x2, x4, x5, x6, x7, x8, x9, x10, x11, x12, x13, x14, x15, x16, x17, x18, y0, y1, y2, y4, y5, y6, y7, y8, y9, y10, y11, y12, y13, y14, y15, y16, y17, y18, y19, y20, y21, z1, z3, z6, z7, z8, z9, z10, z11, z12, z13, z14, z15, z16, z17, z18, z19, z20, z21, z22, z23, z24, z25, z26, g1, g2, g3, g4, g5, g6, g7, rfl, rfl⟩
  · have hstT : stepT prog (solo (G ((base 3).at ⟨T, []⟩ (.code .ret :: k')) []) w) = (.next (solo (G { (base 3).at ⟨T, []⟩ (.code .ret :: k') with mode := .returning } []) w), MemOp.ofEvents 0 3 ((base 3).at ⟨T, []⟩ (.code .ret :: k')).place #[]) := by
      rw [Go.Conc.stepT_solo rfl, Go.Conc.runT_solo_go stepG_ret']
      rfl
    refine conc_step hstT (end_one (X := w.heap.size) (end3 T _ w g2) (by simp) ⟨rfl, ⟨g3.os, rfl, g3.output, g3.size, g3.block⟩⟩ ?_)
    exact (pastS_alone h2).own (es := #[]) (by simp)
  · obtain ⟨hpg, hsum⟩ := hfl r sw g2 g3
    obtain ⟨n2, f2, c2, wA, u2, e1, e2, e3⟩ := open13 (K := fun fr cs w' => cs = [(base 7).at ⟨#[y0, y1, y2, .int .i64 0, y4, y5, y6, y7, y8, y9, y10, y11, y12, y13, y14, y15, y16, y17, y18, y19, y20, y21], []⟩ [.inRegion ops4 [1, 2, 3], .code blk7, .code end7], (base 3).at ⟨#[.slice A0 l0.length c0, z1, .bool false, z3, .int .i64 sw, .slice (some ⟨FB, 0, none⟩) r.length c1, z6, z7, z8, z9, z10, z11, z12, z13, z14, z15, z16, z17, z18, z19, z20, z21, z22, z23, z24, z25, z26], []⟩ [.inRegion ops7 [1, 2], .code s8]] ∧ w'.os = w.os ∧ w'.tape = w.tape ∧ w'.output = w.output ∧ w'.heap.size = B + 4 ∧ (∀ b, b < B + 3 → w'.heap[b]? = w.heap[b]?) ∧ w'.heap[B + 3]? = some (wgBlock 63 0 0) ∧
        ∃ x0 x2 x5 x6 x7 x8 x9 x12 x13 x14 x15 x16 x17 x18, G fr cs = head13 B (B + 2) (B + 3) 0 x0 x2 x5 x6 x7 x8 x9 x12 x13 x14 x15 x16 x17 x18 cs)
      g6 g5 (fun x0 x2 x5 x6 x7 x8 x9 x12 x13 x14 x15 x16 x17 x18 w' q1 q2 q3 q4 q5 q6 => ⟨rfl, q1, q2, q3, q4, q5, q6, x0, x2, x5, x6, x7, x8, x9, x12, x13, x14, x15, x16, x17, x18, rfl⟩) x0 x2 x4 x5 x6 x7 x8 x9 x10 x11 x12 x13 x14 x15 x16 x17 x18
    obtain ⟨rfl, q1, q2, q3, q4, q5, q6, v0, v1, v2, v3, v4, v5, v6, v7, v8, v9, v10, v11, v12, v13, hh⟩ := e3
    refine conc_run n2 (e1 u) ?_
    rw [hh]
    have hu : ∀ op ∈ u ++ u2, op.g = 0 ∧ ∃ e, EvP (B + 3) e ∧ op.act = .ofEvent e := fun op hop => by
      rcases Array.mem_append.1 hop with hop | hop
      · have := h2 op hop
        rw [g6.size] at this
        exact this
      · exact e2 op hop
    obtain ⟨μ, hI⟩ := inv13 (cs := [(base 7).at ⟨#[y0, y1, y2, .int .i64 0, y4, y5, y6, y7, y8, y9, y10, y11, y12, y13, y14, y15, y16, y17, y18, y19, y20, y21], []⟩ [.inRegion ops4 [1, 2, 3], .code blk7, .code end7], (base 3).at ⟨#[.slice A0 l0.length c0, z1, .bool false, z3, .int .i64 sw, .slice (some ⟨FB, 0, none⟩) r.length c1, z6, z7, z8, z9, z10, z11, z12, z13, z14, z15, z16, z17, z18, z19, z20, z21, z22, z23, z24, z25, z26], []⟩ [.inRegion ops7 [1, 2], .code s8]]) g6 g5 hpg q4 q5 q6 hu v0 v1 v2 v3 v4 v5 v6 v7 v8 v9 v10 v11 v12 v13
    have hG : Plan (B + 3) (B + 1) (B + 4) := ⟨by omega, by omega, by omega⟩
    obtain ⟨N, m', t', hrun, hJ⟩ := crowdJoins hG (by decide) anchY_runs anchY_next μ _ _ hI
    exact conc_run N hrun (joined_ends hr0 hc0 g6 g5 g7 q1 q2 q3 q4 q5 g1 g4 rfl rfl rfl hsum y0 y1 y2 y4 y5 y6 y7 y8 y9 y10 y11 y12 y13 y14 y15 y16 y17 y18 y19 y20 y21 z1 z3 z6 z7 z8 z9 z10 z11 z12 z13 z14 z15 z16 z17 z18 z19 z20 z21 z22 z23 z24 z25 z26 hJ)
end
end Go.Proofs.YtgdlakhfkmhlnaaWear
