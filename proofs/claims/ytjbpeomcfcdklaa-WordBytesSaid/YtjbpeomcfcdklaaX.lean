-- Written by a program of this session (wip/tools/rp.py) out of the translation and the hand texts. Lean checks it.
import Derived.Test.YtjbpeomcfcdklaaX0
import Derived.Test.YtjbpeomcfcdklaaX1
import Derived.Test.YtjbpeomcfcdklaaX2
import Derived.Test.YtjbpeomcfcdklaaX3
import Derived.Test.YtjbpeomcfcdklaaX4
import Derived.Test.YtjbpeomcfcdklaaX5
import Derived.Test.YtjbpeomcfcdklaaX6
import Derived.Test.YtjbpeomcfcdklaaX7
import Derived.Test.YtjbpeomcfcdklaaX8
import Derived.Test.YtjbpeomcfcdklaaX9
import Derived.Test.YtjbpeomcfcdklaaX10
import Derived.Test.YtjbpeomcfcdklaaX11
import Derived.Test.YtjbpeomcfcdklaaX12
import Derived.Test.YtjbpeomcfcdklaaX13
import Derived.Test.YtjbpeomcfcdklaaX14
import Derived.Test.YtjbpeomcfcdklaaX15
namespace Go.Proofs.Ytjbpeomcfcdklaa.X
open Go.RowKit Go.Proofs.YtjbpeomcfcdklaaW.PrintWords Go.Proofs.YtjbpeomcfcdklaaW.PrintLast Go.Proofs.YtjbpeomcfcdklaaW.PrintMore
attribute [local go_sem] max2_int min2_int max_two min_two max_three min_three max_four min_four   -- for this text's walks alone
set_option linter.unusedVariables false
set_option linter.unusedSimpArgs false

end Go.Proofs.Ytjbpeomcfcdklaa.X
