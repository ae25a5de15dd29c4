/- The law FnExactWearAll holds: for every input that the guards of the statement let in, on every schedule, the law function returns true without a race and leaves its input as it was. -/
import Derived.Test.YtgdlakhfkmhlnaaJH
import Derived.Test.YtgdlakhfkmhlnaaJPure
import Derived.Test.YtgdlakhfkmhlnaaRows
import Derived.Test.YtgdlakhfkmhlnaaHead
import Derived.Test.YtgdlakhfkmhlnaaWArg
import Derived.Conc.LeavingOf
import Derived.WalkKit
import Derived.ProofKit
import Derived.OpenShut
import Derived.ShutString
import Derived.ChangeOld
import Derived.Below
import Derived.SizedLaws
set_option linter.unusedVariables false
set_option linter.unusedSimpArgs false
set_option linter.unusedSectionVars false
namespace Go.Proofs.Ytgdlakhfkmhlnaa
namespace LFnExactWearAll
open Go.ChangeShapes Go.WideShapes Go.ChangeAt Go.RowKit Go.Proofs.Ytgdlakhfkmhlnaa.Pa Go.Proofs.YtgdlakhfkmhlnaaW.PrintWords
open Go.ChangeMaps (open_string shut_string)
theorem rdRec : Rd Try.prog 69 k69 := Rd.iso (Rd.struct4 Try.underlying69 (by kernel_rfl) (Rd.int Try.underlying3 (by kernel_rfl)) (Rd.int Try.underlying3 (by kernel_rfl)) (Rd.int Try.underlying3 (by kernel_rfl)) (Rd.int Try.underlying3 (by kernel_rfl)) (by kernel_rfl) (by kernel_rfl) (by kernel_rfl) (by kernel_rfl)) (fun a => ⟨⟨a.1, a.2.1, a.2.2.1, a.2.2.2⟩, rfl⟩)
theorem rdPage : Rd Try.prog 71 k71 := Rd.iso (Rd.struct2 Try.underlying71 (by kernel_rfl) (Rd.int Try.underlying3 (by kernel_rfl)) rdRec (by kernel_rfl) (by kernel_rfl)) (fun a => ⟨⟨a.1, a.2⟩, rfl⟩)
theorem rdPages : Rd Try.prog 30 (Kd.slice 71 k71) := Rd.slice Try.underlying30 (by kernel_rfl) rdPage
theorem rdBlock : Rd Try.prog 32 k32 := Rd.iso (Rd.struct2 Try.underlying32 (by kernel_rfl) rdPages (Rd.int Try.underlying3 (by kernel_rfl)) (by kernel_rfl) (by kernel_rfl)) (fun a => ⟨⟨a.1, a.2⟩, rfl⟩)
theorem rdBlocks : Rd Try.prog 22 (Kd.slice 32 k32) := Rd.slice Try.underlying22 (by kernel_rfl) rdBlock
theorem own : ownKnob Try.prog.godebug = none := by kernel_rfl
theorem laidOut : laidOutB Try.prog = true := by kernel_rfl
set_option maxRecDepth 100000 in
theorem lifted (os : Os) (started : os.Started) (H : Type) (enc : TypeId × Value → H) :
    ReturnsInLeavingWide {} Try.checked os 3 .any (Rows.fnExactWearAllSpec.pre6 enc Try.prog Try.f3 Rows.fnExactWearAllRow.domain false) (Rows.fnExactWearAllSpec.post enc Try.prog Try.f3 false true false false) := by
  refine returnsInLeavingWide_of_change_sized (C := Try.checked) own started Try.func3
    (ChangeSpec.witness6 (enc := enc) (C := Try.checked) false ⟨#[], #[.slice none 0 0], []⟩ 8 (by kernel_rfl) (by kernel_rfl) (by kernel_rfl) (by kernel_rfl)) ?_
  intro W base args ds gs before hval0 hW hcnd hsz0 _
  have hval : ∀ (j : Nat) t v, Try.f3.params[j]? = some t → args[j]? = some v → Value.okWide Try.prog W .any base t v := hval0
  have hW' := hW
  obtain ⟨p, q, hA0, hV, rfl, hfz, hnd⟩ := hW
  have hA : DataW.TrodAll enc Try.prog W 0 (fun _ => true) true Try.f3.params.toList args.toList ds p := hA0
  rw [Try.params3] at hA hval
  obtain ⟨v0, vs0, d0, ds0, p0, q0, hargs, rfl, rfl, h0, r0⟩ := trodAll_cons hA
  obtain ⟨rfl, rfl, rfl⟩ := trodAll_nil r0
  obtain rfl : args = #[v0] := by cases args; simp_all
  obtain ⟨rfl, rfl⟩ := trodVars_none hV
  have k0 := h0
  have lt0 : ∀ x ∈ p0, x.block < W.heap.size := by obtain ⟨m, hm⟩ := k0; exact DataW.trod_lt m _ _ _ hm
  obtain ⟨a0, len0, cap0, rfl⟩ := okWide_slice Try.underlying22 (hval 0 22 v0 rfl rfl)
  obtain ⟨l0, A0, c0, e0, hc0, hr0⟩ : ∃ l A c, Value.slice a0 len0 cap0 = .slice A l.length c ∧ l.length ≤ c ∧ Kd.C k32 W A l.length l := by
    obtain ⟨m, hm⟩ := h0
    obtain ⟨l, A, c, e, h1, h2⟩ := rdBlocks.out hm
    exact ⟨l, A, c, (List.cons.inj e).1, h1, h2⟩
  cases e0
  clear hA0 hval0 hsz0
  obtain ⟨k, left, p1, p2, p3⟩ := Pure.FnExactWearAll l0 (Pure.fits_of hr0)
  obtain ⟨M, last, o, w', t', h1, h2, h3, h4⟩ := Go.Proofs.YtgdlakhfkmhlnaaWear.the_run hr0 hc0 p1 p2 p3
  refine ⟨M, last, o, w', t', h1, h2, h3, h4.mono fun v hF => ?_⟩
  obtain ⟨rfl, bel⟩ := hF
  have kT := Below.trod (W' := { w' with tape := W.tape }) laidOut (by kernel_rfl) (of_decide_eq_true (by kernel_rfl)) k0 bel lt0
  have kT' : DataW.Trod enc Try.prog w' 0 (fun b => decide (b < W.heap.size)) true 22 (Value.slice a0 l0.length cap0) d0 p0 := DataW.Trod.of_heap (w := { w' with tape := W.tape }) (w' := w') rfl kT
  have kF : ∀ may, W.keptBut w' may := fun may => ⟨bel.os, bel.output, (bel.frame may).2.2⟩
  exact ⟨_, _, _, [], _, [], hW', trodAll_mk1 (shut_bool Try.underlying4 _), (trodAll_cons_mk kT' trodAll_mk0), rfl, kF _, fun h => by cases h⟩
theorem closed : joinedFacts Try.prog 3 Try.f3 Rows.fnExactWearAllSpec Rows.fnExactWearAllRow = true := by
  unfold joinedFacts
  rw [Head.may, Head.lifts, Head.make]
  kernel_rfl
theorem over : Rows.fnExactWearAllRow.holds Try.pinned (OpenSpec.ofChange Rows.fnExactWearAllSpec) :=
  OpenClaim.holds_of_wide_leaving 3 Try.f3 rfl rfl rfl rfl rfl rfl rfl ⟨rfl, rfl, rfl, rfl, rfl⟩ rfl rfl rfl rfl rfl (by kernel_rfl) Try.func3 closed
    (of_decide_eq_true (by kernel_rfl)) (by unfold Func.isWrapper; first | (rw [if_pos (by decide +kernel)]; kernel_rfl) | (rw [if_neg (by decide +kernel)]; exact ⟨rfl, rfl⟩))
    (fun os started H enc _ => lifted os started H enc)
end LFnExactWearAll

/-- The given statement, under a short name. -/
theorem fnExactWearAll_holds : Rows.FnExactWearAllSaid := LFnExactWearAll.over
#print axioms fnExactWearAll_holds
end Go.Proofs.Ytgdlakhfkmhlnaa
