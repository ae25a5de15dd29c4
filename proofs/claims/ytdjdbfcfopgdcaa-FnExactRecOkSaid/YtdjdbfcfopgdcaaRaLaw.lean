/- The program's RecOk answers as the reference's RecOk: for every input that the statement's guards let in, the law's function laws.FnExactRecOk returns true and leaves its input as it was. Conditions: those of the given statement alone. -/
import Derived.Test.YtdjdbfcfopgdcaaRows
import Derived.Test.YtdjdbfcfopgdcaaHead
import Derived.Test.YtdjdbfcfopgdcaaRa3
import Derived.Test.YtdjdbfcfopgdcaaRaPure
import Derived.Test.YtdjdbfcfopgdcaaWArg
import Derived.WalkKit
import Derived.ProofKit
import Derived.OpenShut
import Derived.ShutString
import Derived.ChangeOld
import Derived.Below
import Derived.SizedLaws
namespace Go.Proofs.Ytdjdbfcfopgdcaa
namespace LFnExactRecOk
open Go.ChangeShapes Go.WideShapes Go.ChangeAt Go.RowKit Go.Proofs.Ytdjdbfcfopgdcaa.Ra Go.Proofs.YtdjdbfcfopgdcaaW.PrintWords
open Go.ChangeMaps (open_string shut_string)
set_option linter.unusedVariables false
theorem rdRecF : Rd Try.prog 24 (Kd.pair (Kd.int .i64) (Kd.pair (Kd.int .i64) (Kd.pair (Kd.int .i64) (Kd.int .i64)))) := Rd.struct4 Try.underlying24 (by kernel_rfl) (Rd.int Try.underlying3 (by kernel_rfl)) (Rd.int Try.underlying3 (by kernel_rfl)) (Rd.int Try.underlying3 (by kernel_rfl)) (Rd.int Try.underlying3 (by kernel_rfl)) (by kernel_rfl) (by kernel_rfl) (by kernel_rfl) (by kernel_rfl)
theorem own : ownKnob Try.prog.godebug = none := by kernel_rfl
theorem laidOut : laidOutB Try.prog = true := by kernel_rfl
set_option maxRecDepth 100000 in
theorem lifted (os : Os) (started : os.Started) (H : Type) (enc : TypeId × Value → H) :
    ReturnsInHanded {} Try.checked os 4 .any (Rows.fnExactRecOkSpec.pre6 enc Try.prog Try.f4 Rows.fnExactRecOkRow.domain false) (Rows.fnExactRecOkSpec.post enc Try.prog Try.f4 false true false false) := by
  refine returnsInHanded_of_change_sized (C := Try.checked) own started (by kernel_rfl) Try.func4
    (ChangeSpec.witness6 (enc := enc) (C := Try.checked) false ⟨#[], #[.agg #[.int .i64 0, .int .i64 0, .int .i64 0, .int .i64 0]], []⟩ 8 (by kernel_rfl) (by kernel_rfl) (by kernel_rfl) (by kernel_rfl)) ?_
  intro W base args ds gs before hval0 hW hcnd hsz0 _
  have hval : ∀ (j : Nat) t v, Try.f4.params[j]? = some t → args[j]? = some v → Value.okWide Try.prog W .any base t v := hval0
  have hW' := hW
  obtain ⟨p, q, hA0, hV, rfl, hfz, hnd⟩ := hW
  have hA : DataW.TrodAll enc Try.prog W 0 (fun _ => true) true Try.f4.params.toList args.toList ds p := hA0
  rw [Try.params4] at hA hval
  obtain ⟨v0, vs0, d0, ds0, p0, q0, hargs, rfl, rfl, h0, r0⟩ := trodAll_cons hA
  obtain ⟨rfl, rfl, rfl⟩ := trodAll_nil r0
  obtain rfl : args = #[v0] := by cases args; simp_all
  obtain ⟨rfl, rfl⟩ := trodVars_none hV
  have k0 := h0
  have lt0 : ∀ x ∈ p0, x.block < W.heap.size := by obtain ⟨m, hm⟩ := k0; exact DataW.trod_lt m _ _ _ hm
  obtain ⟨cs0, rfl, _⟩ := okWide_struct Try.underlying24 (hval 0 24 v0 rfl rfl)
  obtain ⟨x0_0, x0_1, x0_2, x0_3, e0⟩ : ∃ x y z u : Int, cs0 = #[.int .i64 x, .int .i64 y, .int .i64 z, .int .i64 u] := by
    obtain ⟨m, hm⟩ := h0
    obtain ⟨l, ca, cb, e, ea, cc, cd, e2, ec, cf, cg, e3, ef, eg⟩ := rdRecF.out hm
    cases (show ca = _ from ea)
    cases (show cc = _ from ec)
    cases (show cf = _ from ef)
    cases (show cg = _ from eg)
    subst e3
    subst e2
    exact ⟨_, _, _, _, Array.ext' e⟩
  subst e0
  clear hA0 hval0 hsz0
  have hp := Pure.FnExactRecOk x0_0 x0_1 x0_2 x0_3
  refine (Ra.laws_FnExactRecOk.calls x0_0 x0_1 x0_2 x0_3 true W  hp).mono fun e W' ⟨he, bel⟩ => ?_
  subst he
  exact ⟨_, rfl, _, _, _, [], _, [], hW', trodAll_mk1 (shut_bool Try.underlying4 _), (trodAll_cons_mk (Below.trod laidOut (by kernel_rfl) (of_decide_eq_true (by kernel_rfl)) k0 bel lt0) trodAll_mk0), rfl, bel.frame _, fun h => by cases h⟩
theorem closed : joinedFacts Try.prog 4 Try.f4 Rows.fnExactRecOkSpec Rows.fnExactRecOkRow = true := by
  unfold joinedFacts
  rw [Head.may, Head.lifts, Head.make]
  kernel_rfl
theorem over : Rows.fnExactRecOkRow.holds Try.pinned (OpenSpec.ofChange Rows.fnExactRecOkSpec) :=
  OpenClaim.holds_of_wide 4 Try.f4 rfl rfl rfl rfl rfl rfl rfl ⟨rfl, rfl, rfl, rfl, rfl⟩ rfl rfl rfl rfl rfl (by kernel_rfl) Try.func4 closed
    (of_decide_eq_true (by kernel_rfl)) (by unfold Func.isWrapper; first | (rw [if_pos (by decide +kernel)]; kernel_rfl) | (rw [if_neg (by decide +kernel)]; exact ⟨rfl, rfl⟩))
    (fun os started H enc _ => lifted os started H enc)
end LFnExactRecOk

/-- The given statement, under a short name. -/
theorem fnExactRecOk_holds : Rows.FnExactRecOkSaid := LFnExactRecOk.over
#print axioms fnExactRecOk_holds
end Go.Proofs.Ytdjdbfcfopgdcaa
