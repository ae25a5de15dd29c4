-- printed by wip/pp/pp.py
import Derived.Test.YtoedphbikgoapaaDoorTa0
import Derived.Test.YtoedphbikgoapaaDoorTa1
import Derived.Test.YtoedphbikgoapaaDoorTa2
import Derived.Test.YtoedphbikgoapaaDoorTa3
import Derived.Test.YtoedphbikgoapaaDoorTa4
import Derived.Test.YtoedphbikgoapaaDoorTa5
import Derived.Test.YtoedphbikgoapaaDoorTa6
import Derived.Test.YtoedphbikgoapaaDoorTa7
namespace Go.Proofs.YtoedphbikgoapaaDoor.Ta
open Go.RowKit Go.Proofs.YtoedphbikgoapaaDoorW.PrintWords Go.Proofs.YtoedphbikgoapaaDoorW.PrintLast Go.Proofs.YtoedphbikgoapaaDoorW.PrintMore
attribute [local go_sem] max2_int min2_int max_two min_two max_three min_three max_four min_four   -- for this text's walks alone
set_option linter.unusedVariables false
set_option linter.unusedSimpArgs false

end Go.Proofs.YtoedphbikgoapaaDoor.Ta
