-- printed by wip/pp/pp.py
import Derived.Test.YtddagnomnamfdaaDoorTa0
import Derived.Test.YtddagnomnamfdaaDoorTa1
import Derived.Test.YtddagnomnamfdaaDoorTa2
import Derived.Test.YtddagnomnamfdaaDoorTa3
import Derived.Test.YtddagnomnamfdaaDoorTa4
import Derived.Test.YtddagnomnamfdaaDoorTa5
import Derived.Test.YtddagnomnamfdaaDoorTa6
import Derived.Test.YtddagnomnamfdaaDoorTa7
namespace Go.Proofs.YtddagnomnamfdaaDoor.Ta
open Go.RowKit Go.Proofs.YtddagnomnamfdaaDoorW.PrintWords Go.Proofs.YtddagnomnamfdaaDoorW.PrintLast Go.Proofs.YtddagnomnamfdaaDoorW.PrintMore
attribute [local go_sem] max2_int min2_int max_two min_two max_three min_three max_four min_four   -- for this text's walks alone
set_option linter.unusedVariables false
set_option linter.unusedSimpArgs false

end Go.Proofs.YtddagnomnamfdaaDoor.Ta
