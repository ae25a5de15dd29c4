/- The law FnExactStepsFlush holds: for every input that the statement's guards let in, the law's function laws.FnExactStepsFlush returns true and leaves its input as it was. Conditions: those of the given statement alone. -/
import Derived.Test.YtoedphbikgoapaaRows
import Derived.Test.YtoedphbikgoapaaHead
import Derived.Test.YtoedphbikgoapaaRe13
import Derived.Test.YtoedphbikgoapaaRePure
import Derived.Test.YtoedphbikgoapaaWArg
import Derived.WalkKit
import Derived.ProofKit
import Derived.OpenShut
import Derived.ShutString
import Derived.ChangeOld
import Derived.Below
import Derived.SizedLaws
namespace Go.Proofs.Ytoedphbikgoapaa
namespace LFnExactStepsFlush
open Go.ChangeShapes Go.WideShapes Go.ChangeAt Go.RowKit Go.Proofs.Ytoedphbikgoapaa.Re Go.Proofs.YtoedphbikgoapaaW.PrintWords
open Go.ChangeMaps (open_string shut_string)
set_option linter.unusedVariables false
theorem rdRec : Rd Try.prog 24 k24 := Rd.iso (Rd.struct4 Try.underlying24 (by kernel_rfl) (Rd.int Try.underlying3 (by kernel_rfl)) (Rd.int Try.underlying3 (by kernel_rfl)) (Rd.int Try.underlying3 (by kernel_rfl)) (Rd.int Try.underlying3 (by kernel_rfl)) (by kernel_rfl) (by kernel_rfl) (by kernel_rfl) (by kernel_rfl)) (fun a => ⟨⟨a.1, a.2.1, a.2.2.1, a.2.2.2⟩, rfl⟩)
theorem rdPage : Rd Try.prog 113 k113 := Rd.iso (Rd.struct2 Try.underlying113 (by kernel_rfl) (Rd.int Try.underlying3 (by kernel_rfl)) rdRec (by kernel_rfl) (by kernel_rfl)) (fun a => ⟨⟨a.1, a.2⟩, rfl⟩)
theorem rdPages : Rd Try.prog 56 (Kd.slice 113 k113) := Rd.slice Try.underlying56 (by kernel_rfl) rdPage
theorem rdBlock : Rd Try.prog 58 k58 := Rd.iso (Rd.struct2 Try.underlying58 (by kernel_rfl) rdPages (Rd.int Try.underlying3 (by kernel_rfl)) (by kernel_rfl) (by kernel_rfl)) (fun a => ⟨⟨a.1, a.2⟩, rfl⟩)
theorem rdBlocks : Rd Try.prog 22 (Kd.slice 58 k58) := Rd.slice Try.underlying22 (by kernel_rfl) rdBlock
theorem rdInts : Rd Try.prog 35 (Kd.slice 3 (Kd.int .i64)) := Rd.slice Try.underlying35 (by kernel_rfl) (Rd.int Try.underlying3 (by kernel_rfl))
theorem rdStore : Rd Try.prog 37 (Kd.pair (Kd.slice 58 k58) (Kd.slice 3 (Kd.int .i64))) := Rd.struct2 Try.underlying37 (by kernel_rfl) rdBlocks rdInts (by kernel_rfl) (by kernel_rfl)
theorem own : ownKnob Try.prog.godebug = none := by kernel_rfl
theorem laidOut : laidOutB Try.prog = true := by kernel_rfl
set_option maxRecDepth 100000 in
theorem lifted (os : Os) (started : os.Started) (H : Type) (enc : TypeId × Value → H) :
    ReturnsInHanded {} Try.checked os 8 .any (Rows.fnExactStepsFlushSpec.pre6 enc Try.prog Try.f8 Rows.fnExactStepsFlushRow.domain false) (Rows.fnExactStepsFlushSpec.post enc Try.prog Try.f8 false true false false) := by
  refine returnsInHanded_of_change_sized (C := Try.checked) own started (by kernel_rfl) Try.func8
    (ChangeSpec.witness6 (enc := enc) (C := Try.checked) false ⟨#[], #[.agg #[.slice none 0 0, .slice none 0 0], .int .i64 0], []⟩ 8 (by kernel_rfl) (by kernel_rfl) (by kernel_rfl) (by kernel_rfl)) ?_
  intro W base args ds gs before hval0 hW hcnd hsz0 _
  have hval : ∀ (j : Nat) t v, Try.f8.params[j]? = some t → args[j]? = some v → Value.okWide Try.prog W .any base t v := hval0
  have hW' := hW
  obtain ⟨p, q, hA0, hV, rfl, hfz, hnd⟩ := hW
  have hA : DataW.TrodAll enc Try.prog W 0 (fun _ => true) true Try.f8.params.toList args.toList ds p := hA0
  rw [Try.params8] at hA hval
  obtain ⟨v0, vs0, d0, ds0, p0, q0, hargs, rfl, rfl, h0, r0⟩ := trodAll_cons hA
  obtain ⟨v1, vs1, d1, ds1, p1, q1, rfl, rfl, rfl, h1, r1⟩ := trodAll_cons r0
  obtain ⟨rfl, rfl, rfl⟩ := trodAll_nil r1
  obtain rfl : args = #[v0, v1] := by cases args; simp_all
  obtain ⟨rfl, rfl⟩ := trodVars_none hV
  have k0 := h0
  have lt0 : ∀ x ∈ p0, x.block < W.heap.size := by obtain ⟨m, hm⟩ := k0; exact DataW.trod_lt m _ _ _ hm
  have k1 := h1
  have lt1 : ∀ x ∈ p1, x.block < W.heap.size := by obtain ⟨m, hm⟩ := k1; exact DataW.trod_lt m _ _ _ hm
  obtain ⟨cs0, rfl, _⟩ := okWide_struct Try.underlying37 (hval 0 37 v0 rfl rfl)
  obtain ⟨l0_0, A0_0, c0_0, l0_1, A0_1, c0_1, e0, hc0_0, hr0_0, hc0_1, hr0_1⟩ : ∃ l A c l' A' c', cs0 = #[.slice A l.length c, .slice A' l'.length c'] ∧ l.length ≤ c ∧ Kd.C k58 W A l.length l ∧ l'.length ≤ c' ∧ Kd.C (Kd.int .i64) W A' l'.length l' := by
    obtain ⟨m, hm⟩ := h0
    obtain ⟨l, ca, cb, e, ⟨A, c, ea, h1, h2⟩, A', c', eb, h3, h4⟩ := rdStore.out hm
    subst ea eb
    exact ⟨l.1, A, c, l.2, A', c', by cases cs0; simp_all [Value.cells], h1, h2, h3, h4⟩
  subst e0
  obtain ⟨x1, rfl⟩ := okWide_int Try.underlying3 (hval 1 3 v1 rfl rfl)
  clear hA0 hval0 hsz0
  obtain ⟨k, hp⟩ := Pure.FnExactStepsFlush l0_0 l0_1 (Pure.fits_of hr0_0) (Kd.C_max hr0_1) x1
  refine (Re.laws_FnExactStepsFlush.calls k _ _ l0_0 _ _ l0_1 x1 true W hr0_0 hc0_0 hr0_1 hc0_1 hp).mono fun e W' ⟨he, bel⟩ => ?_
  subst he
  exact ⟨_, rfl, _, _, _, [], _, [], hW', trodAll_mk1 (shut_bool Try.underlying4 _), (trodAll_cons_mk (Below.trod laidOut (by kernel_rfl) (of_decide_eq_true (by kernel_rfl)) k0 bel lt0) (trodAll_cons_mk (Below.trod laidOut (by kernel_rfl) (of_decide_eq_true (by kernel_rfl)) k1 bel lt1) trodAll_mk0)), rfl, bel.frame _, fun h => by cases h⟩
theorem closed : joinedFacts Try.prog 8 Try.f8 Rows.fnExactStepsFlushSpec Rows.fnExactStepsFlushRow = true := by
  unfold joinedFacts
  rw [Head.may, Head.lifts, Head.make]
  kernel_rfl
theorem over : Rows.fnExactStepsFlushRow.holds Try.pinned (OpenSpec.ofChange Rows.fnExactStepsFlushSpec) :=
  OpenClaim.holds_of_wide 8 Try.f8 rfl rfl rfl rfl rfl rfl rfl ⟨rfl, rfl, rfl, rfl, rfl⟩ rfl rfl rfl rfl rfl (by kernel_rfl) Try.func8 closed
    (of_decide_eq_true (by kernel_rfl)) (by unfold Func.isWrapper; first | (rw [if_pos (by decide +kernel)]; kernel_rfl) | (rw [if_neg (by decide +kernel)]; exact ⟨rfl, rfl⟩))
    (fun os started H enc _ => lifted os started H enc)
end LFnExactStepsFlush

theorem fnExactStepsFlush_holds : Rows.FnExactStepsFlushSaid := LFnExactStepsFlush.over
#print axioms fnExactStepsFlush_holds
end Go.Proofs.Ytoedphbikgoapaa
