-- PRINTED by print.py (a twelfth state) out of the translation. Not trusted: Lean checks it.
import Derived.Test.YtjhmcepcealelaaA0
import Derived.Test.YtjhmcepcealelaaA1
import Derived.Test.YtjhmcepcealelaaA2
import Derived.Test.YtjhmcepcealelaaA3
import Derived.Test.YtjhmcepcealelaaA4
import Derived.Test.YtjhmcepcealelaaA5
import Derived.Test.YtjhmcepcealelaaA6
import Derived.Test.YtjhmcepcealelaaA7
import Derived.Test.YtjhmcepcealelaaA8
import Derived.Test.YtjhmcepcealelaaA9
import Derived.Test.YtjhmcepcealelaaA10
import Derived.Test.YtjhmcepcealelaaA11
import Derived.Test.YtjhmcepcealelaaA12
import Derived.Test.YtjhmcepcealelaaA13
import Derived.Test.YtjhmcepcealelaaA14
import Derived.Test.YtjhmcepcealelaaA15
namespace Go.Proofs.Ytjhmcepcealelaa.A
open Go.RowKit Go.Proofs.YtjhmcepcealelaaW.PrintWords Go.Proofs.YtjhmcepcealelaaW.PrintLast Go.Proofs.YtjhmcepcealelaaW.PrintMore
attribute [local go_sem] max2_int min2_int max_two min_two max_three min_three max_four min_four   -- for this text's walks alone
set_option linter.unusedVariables false
set_option linter.unusedSimpArgs false

end Go.Proofs.Ytjhmcepcealelaa.A
