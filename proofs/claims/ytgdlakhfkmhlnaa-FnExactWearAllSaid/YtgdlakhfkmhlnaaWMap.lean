/- A map from whole numbers to whole numbers that holds 1 at the numbers of a list, and a map from whole numbers to records: by what they answer. -/
import Derived.Maps.Own
import Derived.Maps.OwnOps
import Derived.Maps.OwnSet
import Derived.Maps.Views
import Derived.Below
import Derived.WalkKit
import Derived.Deep.Draws
import Derived.Deep.QuietTactic
namespace Go.Proofs.YtgdlakhfkmhlnaaW
open Go.RowKit Go.Maps

def SeenIs (P : Program) (K E : TypeId) (w : World) (B n : Nat) (S : List Int) : Prop :=
  ∃ D : DataW Unit, w.ownsMap P K (plainElem P E) B n D ∧ ∀ x, (Lit.int .i64 x).wf = true → D.atKey (.int .i64 x) (.lit (.int .i64 0)) = .lit (.int .i64 (if x ∈ S then 1 else 0))
section
variable {P : Program} {K E : TypeId} {w : World} {B n : Nat} {S : List Int}
theorem SeenIs.made (w : World) : SeenIs P K E (w.alloc (.map #[] 0)) w.heap.size 0 [] :=
  ⟨_, World.ownsMap_made w P K _, fun x _ => by simp [DataW.atKey]⟩
theorem SeenIs.kept {w' : World} {row : Option Nat} (h : SeenIs P K E w B n S) (hg : w.grownBy w' row) (hne : some B ≠ row) : SeenIs P K E w' B n S := by
  obtain ⟨D, h1, h2⟩ := h
  exact ⟨D, h1.kept hg hne, h2⟩
theorem SeenIs.below {w' : World} (h : SeenIs P K E w B n S) (hb : Below w.heap.size w w') : SeenIs P K E w' B n S :=
  h.kept (row := none) ⟨hb.os, hb.tape, hb.output, hb.size, fun i hi _ => hb.block i hi⟩ (by simp)
theorem SeenIs.far {p : Addr} (h : SeenIs P K E w B n S) (hne : B ≠ p.block) (u : Value) : SeenIs P K E (w.setCell p u) B n S :=
  h.kept (row := some p.block) ⟨rfl, rfl, rfl, by simp [World.setCell], fun i _ hn => Below.heap_setCell w p u i (fun e => hn (by rw [e]))⟩ (by simpa using hne)
theorem SeenIs.lt (h : SeenIs P K E w B n S) : B < w.heap.size := by
  obtain ⟨D, h1, _⟩ := h
  exact h1.lt
theorem SeenIs.mono {m : Nat} (h : SeenIs P K E w B n S) (hm : n ≤ m) : SeenIs P K E w B m S := by
  obtain ⟨D, h1, h2⟩ := h
  exact ⟨D, h1.mono hm, h2⟩
theorem SeenIs.add {T : TypeId} (h : SeenIs P K E w B n S) (hk : P.underlying K = some (.int .i64)) (he : P.underlying E = some (.int .i64)) (ht : P.underlying T = some (.map K E)) (hn : n < maxLen) {x : Int} (hx : (Lit.int .i64 x).wf = true) :
    ∃ w', (Instr.mapUpdate T (.map (some B)) (.int .i64 x) (.int .i64 1)).run P w = .ok () w' ∧ SeenIs P K E w' B (n + 1) (x :: S) ∧ w.grownBy w' (some B) := by
  obtain ⟨D, h1, h2⟩ := h
  obtain ⟨w', hr, h3, hg⟩ := h1.update (int_keyed hk) ht hn (keyOf_int_mk hk hx) (plainElem_int (H := Unit) he (a := 1) (by decide))
  refine ⟨w', hr, ⟨_, h3, fun y hy => ?_⟩, hg⟩
  by_cases e : y = x
  · subst e
    rw [atKey_put_same h1.isMap (by simp [WideAt.IsKeyLit])]
    simp
  · rw [atKey_put_other (by intro h; injection h with _ h; exact e h), h2 y hy]
    simp [e]
theorem SeenIs.look {T : TypeId} (h : SeenIs P K E w B n S) (hk : P.underlying K = some (.int .i64)) (he : P.underlying E = some (.int .i64)) (ht : P.underlying T = some (.map K E)) (hz : (zeroValue E).run P w = .ok (.int .i64 0) w) {x : Int} (hx : (Lit.int .i64 x).wf = true) :
    (Instr.lookup T (.map (some B)) (.int .i64 x) false).run P w = .ok (.int .i64 (if x ∈ S then 1 else 0)) w := by
  obtain ⟨D, h1, h2⟩ := h
  obtain ⟨c, hr, hat, _⟩ := h1.lookup_int (int_keyed hk) ht he hz (keyOf_int_mk hk hx)
  rw [h2 x hx] at hat
  injection hat with hat
  injection hat with _ hat
  rw [hr, hat]
end
section
variable {P : Program} {ops : Array Oper} {rest : List Oper} {o : Oper} {a : Act} {Q : Exit → Act → World → Prop}
theorem wpList_seen_look (w : World) (hg : o.guard = none) (m x : Operand) (T : TypeId) (hop : o.op = Op.lookup T m x false) (K E : TypeId) (hk : P.underlying K = some (.int .i64)) (he : P.underlying E = some (.int .i64)) (ht : P.underlying T = some (.map K E))
    (hz : ∀ w, (zeroValue E).run P w = .ok (.int .i64 0) w) (B n : Nat) (S : List Int) (hm : a.eval m = .map (some B)) (hs : SeenIs P K E w B n S) (key : Int) (hx : a.eval x = .int .i64 key) (hw : (Lit.int .i64 key).wf = true)
    (hK : wpList P ops Q rest (a.put o.dst (.int .i64 (if key ∈ S then 1 else 0))) w) : wpList P ops Q (o :: rest) a w := by
  refine wpList_plain hg fun K' hK' => ?_
  have hrun := hs.look hk he ht (hz w) hw
  unfold Oper.wp
  simp [execOp, hop, hm, hx, hrun, Result.andThen]
  exact hK' _ _ hK
theorem wpList_seen_add (w : World) (hg : o.guard = none) (m x v : Operand) (T : TypeId) (hop : o.op = Op.mapUpdate T m x v) (K E : TypeId) (hk : P.underlying K = some (.int .i64)) (he : P.underlying E = some (.int .i64)) (ht : P.underlying T = some (.map K E))
    (B n : Nat) (S : List Int) (hm : a.eval m = .map (some B)) (hs : SeenIs P K E w B n S) (hn : n < maxLen) (key : Int) (hx : a.eval x = .int .i64 key) (hv : a.eval v = .int .i64 1) (hw : (Lit.int .i64 key).wf = true)
    (hK : ∀ w', SeenIs P K E w' B (n + 1) (key :: S) → w.grownBy w' (some B) → wpList P ops Q rest (a.put o.dst undef) w') : wpList P ops Q (o :: rest) a w := by
  refine wpList_plain hg fun K' hK' => ?_
  obtain ⟨w', hrun, r1, r2⟩ := hs.add hk he ht hn hw
  unfold Oper.wp
  simp [execOp, hop, hm, hx, hv, hrun, Result.andThen]
  exact hK' _ _ (hK w' r1 r2)
end

abbrev R4 := Int × Int × Int × Int
def recVal (r : R4) : Value := .agg #[.int .i64 r.1, .int .i64 r.2.1, .int .i64 r.2.2.1, .int .i64 r.2.2.2]
def recDat (r : R4) : DataW Unit := .agg [.lit (.int .i64 r.1), .lit (.int .i64 r.2.1), .lit (.int .i64 r.2.2.1), .lit (.int .i64 r.2.2.2)]
def recElem : Value → Option (DataW Unit × List MemPlace)
  | .agg ⟨[.int .i64 a, .int .i64 b, .int .i64 c, .int .i64 d]⟩ => some (recDat (a, b, c, d), [])
  | _ => none
theorem recElem_mk (r : R4) : recElem (recVal r) = some (recDat r, []) := rfl
theorem recElem_inv {v : Value} {r : R4} {ps : List MemPlace} (h : recElem v = some (recDat r, ps)) : v = recVal r := by
  unfold recElem at h
  split at h
  · simp only [Option.some.injEq, Prod.mk.injEq, recDat, DataW.agg.injEq, List.cons.injEq, DataW.lit.injEq, Lit.int.injEq, true_and, and_true] at h
    obtain ⟨⟨h1, h2, h3, h4⟩, _⟩ := h
    simp [recVal, h1, h2, h3, h4]
  · cases h
def RecsIs (P : Program) (K : TypeId) (w : World) (B n : Nat) (M : Int → Option R4) : Prop :=
  ∃ D : DataW Unit, w.ownsMap P K recElem B n D ∧ ∀ x, (Lit.int .i64 x).wf = true → Maps.has D (.int .i64 x) = (M x).isSome ∧ D.atKey (.int .i64 x) (recDat (0, 0, 0, 0)) = recDat ((M x).getD (0, 0, 0, 0))
def putM (M : Int → Option R4) (x : Int) (r : R4) : Int → Option R4 := fun y => if y = x then some r else M y
section
variable {P : Program} {K E : TypeId} {w : World} {B n : Nat} {M : Int → Option R4}
theorem RecsIs.made (w : World) : RecsIs P K (w.alloc (.map #[] 0)) w.heap.size 0 (fun _ => none) :=
  ⟨_, World.ownsMap_made w P K _, fun x _ => by simp [DataW.atKey, Maps.has]⟩
theorem RecsIs.kept {w' : World} {row : Option Nat} (h : RecsIs P K w B n M) (hg : w.grownBy w' row) (hne : some B ≠ row) : RecsIs P K w' B n M := by
  obtain ⟨D, h1, h2⟩ := h
  exact ⟨D, h1.kept hg hne, h2⟩
theorem RecsIs.below {w' : World} (h : RecsIs P K w B n M) (hb : Below w.heap.size w w') : RecsIs P K w' B n M :=
  h.kept (row := none) ⟨hb.os, hb.tape, hb.output, hb.size, fun i hi _ => hb.block i hi⟩ (by simp)
theorem RecsIs.alloc (h : RecsIs P K w B n M) (o : Obj) : RecsIs P K (w.alloc o) B n M := h.kept (World.grownBy_alloc w o none) (by simp)
theorem RecsIs.drew (h : RecsIs P K w B n M) : RecsIs P K w.drew B n M := h
theorem RecsIs.drewN (h : RecsIs P K w B n M) (m : Nat) : RecsIs P K (w.drewN m) B n M := by
  obtain ⟨D, h1, h2⟩ := h
  exact ⟨D, h1, h2⟩
theorem RecsIs.setCell {a : Addr} (h : RecsIs P K w B n M) (ha : B ≠ a.block) (u : Value) : RecsIs P K (w.setCell a u) B n M := by
  obtain ⟨D, h1, h2⟩ := h
  exact ⟨D, h1.setCell ha u, h2⟩
theorem RecsIs.lt (h : RecsIs P K w B n M) : B < w.heap.size := by
  obtain ⟨D, h1, _⟩ := h
  exact h1.lt
theorem RecsIs.put {T : TypeId} (h : RecsIs P K w B n M) (hk : P.underlying K = some (.int .i64)) (ht : P.underlying T = some (.map K E)) (hn : n < maxLen) {x : Int} (hx : (Lit.int .i64 x).wf = true) (r : R4) :
    ∃ w', (Instr.mapUpdate T (.map (some B)) (.int .i64 x) (recVal r)).run P w = .ok () w' ∧ RecsIs P K w' B (n + 1) (putM M x r) ∧ w.grownBy w' (some B) := by
  obtain ⟨D, h1, h2⟩ := h
  obtain ⟨w', hr, h3, hg⟩ := h1.update (int_keyed hk) ht hn (keyOf_int_mk hk hx) (recElem_mk r)
  refine ⟨w', hr, ⟨_, h3, fun y hy => ?_⟩, hg⟩
  by_cases e : y = x
  · subst e
    rw [atKey_put_same h1.isMap (by simp [WideAt.IsKeyLit]), has_put_same h1.isMap (by simp [WideAt.IsKeyLit])]
    simp [putM]
  · have hne : Lit.int .i64 y ≠ Lit.int .i64 x := by intro h; injection h with _ h; exact e h
    rw [atKey_put_other hne, has_put_other hne]
    simpa [putM, e] using h2 y hy
theorem RecsIs.look {T : TypeId} (h : RecsIs P K w B n M) (hk : P.underlying K = some (.int .i64)) (ht : P.underlying T = some (.map K E)) (hz : (zeroValue E).run P w = .ok (recVal (0, 0, 0, 0)) w) {x : Int} (hx : (Lit.int .i64 x).wf = true) :
    (Instr.lookup T (.map (some B)) (.int .i64 x) false).run P w = .ok (recVal ((M x).getD (0, 0, 0, 0))) w := by
  obtain ⟨D, h1, h2⟩ := h
  obtain ⟨v, ps, hr, hv⟩ := h1.lookup (int_keyed hk) ht hz (recElem_mk _) (keyOf_int_mk hk hx)
  rw [(h2 x hx).2] at hv
  rw [hr, recElem_inv hv]
end
end Go.Proofs.YtgdlakhfkmhlnaaW
