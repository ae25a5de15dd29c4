-- printed by wip/pp/pp.py
import Derived.Test.YtddagnomnamfdaaDoorTc0
import Derived.Test.YtddagnomnamfdaaDoorTc1
import Derived.Test.YtddagnomnamfdaaDoorTc2
import Derived.Test.YtddagnomnamfdaaDoorTc3
import Derived.Test.YtddagnomnamfdaaDoorTc4
namespace Go.Proofs.YtddagnomnamfdaaDoor.Tc
open Go.RowKit Go.Proofs.YtddagnomnamfdaaDoorW.PrintWords Go.Proofs.YtddagnomnamfdaaDoorW.PrintLast Go.Proofs.YtddagnomnamfdaaDoorW.PrintMore
attribute [local go_sem] max2_int min2_int max_two min_two max_three min_three max_four min_four   -- for this text's walks alone
set_option linter.unusedVariables false
set_option linter.unusedSimpArgs false

end Go.Proofs.YtddagnomnamfdaaDoor.Tc
