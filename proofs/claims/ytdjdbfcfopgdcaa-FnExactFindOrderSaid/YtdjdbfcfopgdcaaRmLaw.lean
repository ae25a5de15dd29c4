/- The law FnExactFindOrder holds: for every input that the statement's guards let in, the law's function laws.FnExactFindOrder returns true and leaves its input as it was. Conditions: those of the given statement alone. -/
import Derived.Test.YtdjdbfcfopgdcaaRows
import Derived.Test.YtdjdbfcfopgdcaaHead
import Derived.Test.YtdjdbfcfopgdcaaRm22
import Derived.Test.YtdjdbfcfopgdcaaRmPure
import Derived.Test.YtdjdbfcfopgdcaaWArg
import Derived.WalkKit
import Derived.ProofKit
import Derived.OpenShut
import Derived.ShutString
import Derived.ChangeOld
import Derived.Below
import Derived.SizedLaws
namespace Go.Proofs.Ytdjdbfcfopgdcaa
namespace LFnExactFindOrder
open Go.ChangeShapes Go.WideShapes Go.ChangeAt Go.RowKit Go.Proofs.Ytdjdbfcfopgdcaa.Rm Go.Proofs.YtdjdbfcfopgdcaaW.PrintWords
open Go.ChangeMaps (open_string shut_string)
set_option linter.unusedVariables false
theorem rdRec : Rd Try.prog 24 k24 := Rd.iso (Rd.struct4 Try.underlying24 (by kernel_rfl) (Rd.int Try.underlying3 (by kernel_rfl)) (Rd.int Try.underlying3 (by kernel_rfl)) (Rd.int Try.underlying3 (by kernel_rfl)) (Rd.int Try.underlying3 (by kernel_rfl)) (by kernel_rfl) (by kernel_rfl) (by kernel_rfl) (by kernel_rfl)) (fun a => ⟨⟨a.1, a.2.1, a.2.2.1, a.2.2.2⟩, rfl⟩)
theorem rdPage : Rd Try.prog 136 k136 := Rd.iso (Rd.struct2 Try.underlying136 (by kernel_rfl) (Rd.int Try.underlying3 (by kernel_rfl)) rdRec (by kernel_rfl) (by kernel_rfl)) (fun a => ⟨⟨a.1, a.2⟩, rfl⟩)
theorem rdPages : Rd Try.prog 83 (Kd.slice 136 k136) := Rd.slice Try.underlying83 (by kernel_rfl) rdPage
theorem rdBlock : Rd Try.prog 85 k85 := Rd.iso (Rd.struct2 Try.underlying85 (by kernel_rfl) rdPages (Rd.int Try.underlying3 (by kernel_rfl)) (by kernel_rfl) (by kernel_rfl)) (fun a => ⟨⟨a.1, a.2⟩, rfl⟩)
theorem rdBlocks : Rd Try.prog 32 (Kd.slice 85 k85) := Rd.slice Try.underlying32 (by kernel_rfl) rdBlock
theorem own : ownKnob Try.prog.godebug = none := by kernel_rfl
theorem laidOut : laidOutB Try.prog = true := by kernel_rfl
set_option maxRecDepth 100000 in
theorem lifted (os : Os) (started : os.Started) (H : Type) (enc : TypeId × Value → H) :
    ReturnsInHanded {} Try.checked os 13 .any (Rows.fnExactFindOrderSpec.pre6 enc Try.prog Try.f13 Rows.fnExactFindOrderRow.domain false) (Rows.fnExactFindOrderSpec.post enc Try.prog Try.f13 false true false false) := by
  refine returnsInHanded_of_change_sized (C := Try.checked) own started (by kernel_rfl) Try.func13
    (ChangeSpec.witness6 (enc := enc) (C := Try.checked) false ⟨#[], #[.slice none 0 0], []⟩ 8 (by kernel_rfl) (by kernel_rfl) (by kernel_rfl) (by kernel_rfl)) ?_
  intro W base args ds gs before hval0 hW hcnd hsz0 _
  have hval : ∀ (j : Nat) t v, Try.f13.params[j]? = some t → args[j]? = some v → Value.okWide Try.prog W .any base t v := hval0
  have hW' := hW
  obtain ⟨p, q, hA0, hV, rfl, hfz, hnd⟩ := hW
  have hA : DataW.TrodAll enc Try.prog W 0 (fun _ => true) true Try.f13.params.toList args.toList ds p := hA0
  rw [Try.params13] at hA hval
  obtain ⟨v0, vs0, d0, ds0, p0, q0, hargs, rfl, rfl, h0, r0⟩ := trodAll_cons hA
  obtain ⟨rfl, rfl, rfl⟩ := trodAll_nil r0
  obtain rfl : args = #[v0] := by cases args; simp_all
  obtain ⟨rfl, rfl⟩ := trodVars_none hV
  have k0 := h0
  have lt0 : ∀ x ∈ p0, x.block < W.heap.size := by obtain ⟨m, hm⟩ := k0; exact DataW.trod_lt m _ _ _ hm
  obtain ⟨a0, len0, cap0, rfl⟩ := okWide_slice Try.underlying32 (hval 0 32 v0 rfl rfl)
  obtain ⟨l0, A0, c0, e0, hc0, hr0⟩ : ∃ l A c, Value.slice a0 len0 cap0 = .slice A l.length c ∧ l.length ≤ c ∧ Kd.C k85 W A l.length l := by
    obtain ⟨m, hm⟩ := h0
    obtain ⟨l, A, c, e, h1, h2⟩ := rdBlocks.out hm
    exact ⟨l, A, c, (List.cons.inj e).1, h1, h2⟩
  cases e0
  clear hA0 hval0 hsz0
  obtain ⟨k, hp⟩ := Pure.FnExactFindOrder l0 (Pure.fits_of hr0)
  refine (Rm.laws_FnExactFindOrder.calls k _ _ l0 true W hr0 hc0 hp).mono fun e W' ⟨he, bel⟩ => ?_
  subst he
  exact ⟨_, rfl, _, _, _, [], _, [], hW', trodAll_mk1 (shut_bool Try.underlying4 _), (trodAll_cons_mk (Below.trod laidOut (by kernel_rfl) (of_decide_eq_true (by kernel_rfl)) k0 bel lt0) trodAll_mk0), rfl, bel.frame _, fun h => by cases h⟩
theorem closed : joinedFacts Try.prog 13 Try.f13 Rows.fnExactFindOrderSpec Rows.fnExactFindOrderRow = true := by
  unfold joinedFacts
  rw [Head.may, Head.lifts, Head.make]
  kernel_rfl
theorem over : Rows.fnExactFindOrderRow.holds Try.pinned (OpenSpec.ofChange Rows.fnExactFindOrderSpec) :=
  OpenClaim.holds_of_wide 13 Try.f13 rfl rfl rfl rfl rfl rfl rfl ⟨rfl, rfl, rfl, rfl, rfl⟩ rfl rfl rfl rfl rfl (by kernel_rfl) Try.func13 closed
    (of_decide_eq_true (by kernel_rfl)) (by unfold Func.isWrapper; first | (rw [if_pos (by decide +kernel)]; kernel_rfl) | (rw [if_neg (by decide +kernel)]; exact ⟨rfl, rfl⟩))
    (fun os started H enc _ => lifted os started H enc)
end LFnExactFindOrder

/-- The given statement, under a short name. -/
theorem fnExactFindOrder_holds : Rows.FnExactFindOrderSaid := LFnExactFindOrder.over
#print axioms fnExactFindOrder_holds
end Go.Proofs.Ytdjdbfcfopgdcaa
