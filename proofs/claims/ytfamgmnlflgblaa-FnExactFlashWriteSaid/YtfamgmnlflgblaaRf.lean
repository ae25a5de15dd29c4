-- printed by wip/pp/pp.py
import Derived.Test.YtfamgmnlflgblaaRf0
import Derived.Test.YtfamgmnlflgblaaRf1
import Derived.Test.YtfamgmnlflgblaaRf2
import Derived.Test.YtfamgmnlflgblaaRf3
import Derived.Test.YtfamgmnlflgblaaRf4
import Derived.Test.YtfamgmnlflgblaaRf5
import Derived.Test.YtfamgmnlflgblaaRf6
import Derived.Test.YtfamgmnlflgblaaRf7
import Derived.Test.YtfamgmnlflgblaaRf8
import Derived.Test.YtfamgmnlflgblaaRf9
import Derived.Test.YtfamgmnlflgblaaRf10
import Derived.Test.YtfamgmnlflgblaaRf11
import Derived.Test.YtfamgmnlflgblaaRf12
import Derived.Test.YtfamgmnlflgblaaRf13
import Derived.Test.YtfamgmnlflgblaaRf14
import Derived.Test.YtfamgmnlflgblaaRf15
import Derived.Test.YtfamgmnlflgblaaRf16
import Derived.Test.YtfamgmnlflgblaaRf17
namespace Go.Proofs.Ytfamgmnlflgblaa.Rf
open Go.RowKit Go.Proofs.YtfamgmnlflgblaaW.PrintWords Go.Proofs.YtfamgmnlflgblaaW.PrintLast Go.Proofs.YtfamgmnlflgblaaW.PrintMore
attribute [local go_sem] max2_int min2_int max_two min_two max_three min_three max_four min_four   -- for this text's walks alone
set_option linter.unusedVariables false
set_option linter.unusedSimpArgs false

end Go.Proofs.Ytfamgmnlflgblaa.Rf
