/- RecOk, in plain Lean: the reference's answer and the program's answer are one predicate. -/
import Derived.Test.YtdjdbfcfopgdcaaRa3
namespace Go.Proofs.Ytdjdbfcfopgdcaa.Pure
open Go.RowKit Go.Proofs.Ytdjdbfcfopgdcaa.Ra
theorem l6In_eq (a b c : Int) : spec_l6In.f a b c = some (decide (b ≤ a ∧ a ≤ c)) := by
  unfold spec_l6In.f
  by_cases h : a ≥ b
  · rw [if_pos h]
    exact congrArg some (decide_eq_decide.2 ⟨fun h2 => ⟨h, h2⟩, fun h2 => h2.2⟩)
  · rw [if_neg h]
    exact congrArg some (decide_eq_false (fun h2 => h h2.1)).symm
theorem specRecOk_eq (a b c d : Int) : spec_RecOk.f a b c d = some (recOkB a b c d) := by
  unfold spec_RecOk.f recOkB
  simp only [l6In_eq, Option.bind_some]
  repeat' split
  all_goals simp_all
  all_goals omega
theorem FnExactRecOk (a b c d : Int) : laws_FnExactRecOk.f a b c d = some true := by
  unfold laws_FnExactRecOk.f laws_toRec.f
  simp [specRecOk_eq, impl_RecOk.f]
end Go.Proofs.Ytdjdbfcfopgdcaa.Pure
