/- The law FnExactFlashWrite holds: for every input that the statement's guards let in, the law's function laws.FnExactFlashWrite returns true and leaves its input as it was. Conditions: those of the given statement alone. -/
import Derived.Test.YtfamgmnlflgblaaRows
import Derived.Test.YtfamgmnlflgblaaHead
import Derived.Test.YtfamgmnlflgblaaFW5
import Derived.Test.YtfamgmnlflgblaaFW5
import Derived.Test.YtfamgmnlflgblaaWArg
import Derived.WalkKit
import Derived.ProofKit
import Derived.OpenShut
import Derived.ShutString
import Derived.ChangeOld
import Derived.Below
import Derived.SizedLaws
namespace Go.Proofs.Ytfamgmnlflgblaa
namespace LFnExactFlashWrite
open Go.ChangeShapes Go.WideShapes Go.ChangeAt Go.RowKit Go.Proofs.Ytfamgmnlflgblaa.Rf Go.Proofs.YtfamgmnlflgblaaW.PrintWords
open Go.ChangeMaps (open_string shut_string)
set_option linter.unusedVariables false
theorem rdRec : Rd Try.prog 24 k24 := Rd.iso (Rd.struct4 Try.underlying24 (by kernel_rfl) (Rd.int Try.underlying3 (by kernel_rfl)) (Rd.int Try.underlying3 (by kernel_rfl)) (Rd.int Try.underlying3 (by kernel_rfl)) (Rd.int Try.underlying3 (by kernel_rfl)) (by kernel_rfl) (by kernel_rfl) (by kernel_rfl) (by kernel_rfl)) (fun a => ⟨⟨a.1, a.2.1, a.2.2.1, a.2.2.2⟩, rfl⟩)
theorem rdPage : Rd Try.prog 67 k67 := Rd.iso (Rd.struct2 Try.underlying67 (by kernel_rfl) (Rd.int Try.underlying3 (by kernel_rfl)) rdRec (by kernel_rfl) (by kernel_rfl)) (fun a => ⟨⟨a.1, a.2⟩, rfl⟩)
theorem rdPages : Rd Try.prog 36 (Kd.slice 67 k67) := Rd.slice Try.underlying36 (by kernel_rfl) rdPage
theorem rdBlock : Rd Try.prog 38 k38 := Rd.iso (Rd.struct2 Try.underlying38 (by kernel_rfl) rdPages (Rd.int Try.underlying3 (by kernel_rfl)) (by kernel_rfl) (by kernel_rfl)) (fun a => ⟨⟨a.1, a.2⟩, rfl⟩)
theorem rdBlocks : Rd Try.prog 22 (Kd.slice 38 k38) := Rd.slice Try.underlying22 (by kernel_rfl) rdBlock
theorem rdRecF : Rd Try.prog 24 (Kd.pair (Kd.int .i64) (Kd.pair (Kd.int .i64) (Kd.pair (Kd.int .i64) (Kd.int .i64)))) := Rd.struct4 Try.underlying24 (by kernel_rfl) (Rd.int Try.underlying3 (by kernel_rfl)) (Rd.int Try.underlying3 (by kernel_rfl)) (Rd.int Try.underlying3 (by kernel_rfl)) (Rd.int Try.underlying3 (by kernel_rfl)) (by kernel_rfl) (by kernel_rfl) (by kernel_rfl) (by kernel_rfl)
theorem own : ownKnob Try.prog.godebug = none := by kernel_rfl
theorem laidOut : laidOutB Try.prog = true := by kernel_rfl
set_option maxRecDepth 100000 in
theorem lifted (os : Os) (started : os.Started) (H : Type) (enc : TypeId × Value → H) :
    ReturnsInHanded {} Try.checked os 3 .any (Rows.fnExactFlashWriteSpec.pre6 enc Try.prog Try.f3 Rows.fnExactFlashWriteRow.domain false) (Rows.fnExactFlashWriteSpec.post enc Try.prog Try.f3 false true false false) := by
  refine returnsInHanded_of_change_sized (C := Try.checked) own started (by kernel_rfl) Try.func3
    (ChangeSpec.witness6 (enc := enc) (C := Try.checked) false ⟨#[], #[.slice none 0 0, .int .i64 0, .agg #[.int .i64 0, .int .i64 0, .int .i64 0, .int .i64 0], .bool false], []⟩ 8 (by kernel_rfl) (by kernel_rfl) (by kernel_rfl) (by kernel_rfl)) ?_
  intro W base args ds gs before hval0 hW hcnd hsz0 _
  have hval : ∀ (j : Nat) t v, Try.f3.params[j]? = some t → args[j]? = some v → Value.okWide Try.prog W .any base t v := hval0
  have hW' := hW
  obtain ⟨p, q, hA0, hV, rfl, hfz, hnd⟩ := hW
  have hA : DataW.TrodAll enc Try.prog W 0 (fun _ => true) true Try.f3.params.toList args.toList ds p := hA0
  rw [Try.params3] at hA hval
  obtain ⟨v0, vs0, d0, ds0, p0, q0, hargs, rfl, rfl, h0, r0⟩ := trodAll_cons hA
  obtain ⟨v1, vs1, d1, ds1, p1, q1, rfl, rfl, rfl, h1, r1⟩ := trodAll_cons r0
  obtain ⟨v2, vs2, d2, ds2, p2, q2, rfl, rfl, rfl, h2, r2⟩ := trodAll_cons r1
  obtain ⟨v3, vs3, d3, ds3, p3, q3, rfl, rfl, rfl, h3, r3⟩ := trodAll_cons r2
  obtain ⟨rfl, rfl, rfl⟩ := trodAll_nil r3
  obtain rfl : args = #[v0, v1, v2, v3] := by cases args; simp_all
  obtain ⟨rfl, rfl⟩ := trodVars_none hV
  have k0 := h0
  have lt0 : ∀ x ∈ p0, x.block < W.heap.size := by obtain ⟨m, hm⟩ := k0; exact DataW.trod_lt m _ _ _ hm
  have k1 := h1
  have lt1 : ∀ x ∈ p1, x.block < W.heap.size := by obtain ⟨m, hm⟩ := k1; exact DataW.trod_lt m _ _ _ hm
  have k2 := h2
  have lt2 : ∀ x ∈ p2, x.block < W.heap.size := by obtain ⟨m, hm⟩ := k2; exact DataW.trod_lt m _ _ _ hm
  have k3 := h3
  have lt3 : ∀ x ∈ p3, x.block < W.heap.size := by obtain ⟨m, hm⟩ := k3; exact DataW.trod_lt m _ _ _ hm
  obtain ⟨a0, len0, cap0, rfl⟩ := okWide_slice Try.underlying22 (hval 0 22 v0 rfl rfl)
  obtain ⟨l0, A0, c0, e0, hc0, hr0⟩ : ∃ l A c, Value.slice a0 len0 cap0 = .slice A l.length c ∧ l.length ≤ c ∧ Kd.C k38 W A l.length l := by
    obtain ⟨m, hm⟩ := h0
    obtain ⟨l, A, c, e, h1, h2⟩ := rdBlocks.out hm
    exact ⟨l, A, c, (List.cons.inj e).1, h1, h2⟩
  cases e0
  obtain ⟨x1, rfl⟩ := okWide_int Try.underlying3 (hval 1 3 v1 rfl rfl)
  obtain ⟨cs2, rfl, _⟩ := okWide_struct Try.underlying24 (hval 2 24 v2 rfl rfl)
  obtain ⟨x2_0, x2_1, x2_2, x2_3, e2⟩ : ∃ x y z u : Int, cs2 = #[.int .i64 x, .int .i64 y, .int .i64 z, .int .i64 u] := by
    obtain ⟨m, hm⟩ := h2
    obtain ⟨l, ca, cb, e, ea, cc, cd, e2, ec, cf, cg, e3, ef, eg⟩ := rdRecF.out hm
    cases (show ca = _ from ea)
    cases (show cc = _ from ec)
    cases (show cf = _ from ef)
    cases (show cg = _ from eg)
    subst e3
    subst e2
    exact ⟨_, _, _, _, Array.ext' e⟩
  subst e2
  obtain ⟨x3, rfl⟩ := okWide_bool Try.underlying4 (hval 3 4 v3 rfl rfl)
  clear hA0 hval0 hsz0
  obtain ⟨k, hp⟩ := Pure.FnExactFlashWrite l0 (Pure.fits_of hr0) x1 x2_0 x2_1 x2_2 x2_3 x3
  refine (Rf.laws_FnExactFlashWrite.calls k _ _ l0 x1 x2_0 x2_1 x2_2 x2_3 x3 true W hr0 hc0 hp).mono fun e W' ⟨he, bel⟩ => ?_
  subst he
  exact ⟨_, rfl, _, _, _, [], _, [], hW', trodAll_mk1 (shut_bool Try.underlying4 _), (trodAll_cons_mk (Below.trod laidOut (by kernel_rfl) (of_decide_eq_true (by kernel_rfl)) k0 bel lt0) (trodAll_cons_mk (Below.trod laidOut (by kernel_rfl) (of_decide_eq_true (by kernel_rfl)) k1 bel lt1) (trodAll_cons_mk (Below.trod laidOut (by kernel_rfl) (of_decide_eq_true (by kernel_rfl)) k2 bel lt2) (trodAll_cons_mk (Below.trod laidOut (by kernel_rfl) (of_decide_eq_true (by kernel_rfl)) k3 bel lt3) trodAll_mk0)))), rfl, bel.frame _, fun h => by cases h⟩
theorem closed : joinedFacts Try.prog 3 Try.f3 Rows.fnExactFlashWriteSpec Rows.fnExactFlashWriteRow = true := by
  unfold joinedFacts
  rw [Head.may, Head.lifts, Head.make]
  kernel_rfl
theorem over : Rows.fnExactFlashWriteRow.holds Try.pinned (OpenSpec.ofChange Rows.fnExactFlashWriteSpec) :=
  OpenClaim.holds_of_wide 3 Try.f3 rfl rfl rfl rfl rfl rfl rfl ⟨rfl, rfl, rfl, rfl, rfl⟩ rfl rfl rfl rfl rfl (by kernel_rfl) Try.func3 closed
    (of_decide_eq_true (by kernel_rfl)) (by unfold Func.isWrapper; first | (rw [if_pos (by decide +kernel)]; kernel_rfl) | (rw [if_neg (by decide +kernel)]; exact ⟨rfl, rfl⟩))
    (fun os started H enc _ => lifted os started H enc)
end LFnExactFlashWrite

/-- The given statement, under a short name. -/
theorem fnExactFlashWrite_holds : Rows.FnExactFlashWriteSaid := LFnExactFlashWrite.over
#print axioms fnExactFlashWrite_holds
end Go.Proofs.Ytfamgmnlflgblaa
