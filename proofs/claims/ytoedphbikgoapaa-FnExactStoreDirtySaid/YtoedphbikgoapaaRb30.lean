-- printed by wip/pp/pp.py
import Derived.Test.YtoedphbikgoapaaRb0
namespace Go.Proofs.Ytoedphbikgoapaa.Rb
open Go.RowKit Go.Proofs.YtoedphbikgoapaaW.PrintWords Go.Proofs.YtoedphbikgoapaaW.PrintLast Go.Proofs.YtoedphbikgoapaaW.PrintMore
attribute [local go_sem] max2_int min2_int max_two min_two max_three min_three max_four min_four   -- for this text's walks alone
set_option linter.unusedVariables false
set_option linter.unusedSimpArgs false

def laws_FnExactStoreDirty.f (k : Nat) (_l0 : List S58) (_l1 : List Int) : Option Bool := some true

end Go.Proofs.Ytoedphbikgoapaa.Rb
