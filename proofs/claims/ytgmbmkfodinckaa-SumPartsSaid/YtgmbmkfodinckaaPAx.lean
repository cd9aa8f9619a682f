-- Written for the seat Ytgmbmkfodinckaa by this session's program hyb.py (the print's functions, with externals typed by hand).
import Derived.Test.YtgmbmkfodinckaaPAx0
import Derived.Test.YtgmbmkfodinckaaPAx1
import Derived.Test.YtgmbmkfodinckaaPAx2
import Derived.Test.YtgmbmkfodinckaaPAx3
import Derived.Test.YtgmbmkfodinckaaPAx4
import Derived.Test.YtgmbmkfodinckaaPAx5
namespace Go.Proofs.Ytgmbmkfodinckaa.PA
open Go.RowKit Go.Proofs.YtgmbmkfodinckaaW.PrintWords Go.Proofs.YtgmbmkfodinckaaW.PrintLast Go.Proofs.YtgmbmkfodinckaaW.PrintMore
attribute [local go_sem] max2_int min2_int max_two min_two max_three min_three max_four min_four   -- for this text's walks alone
set_option linter.unusedVariables false
set_option linter.unusedSimpArgs false

end Go.Proofs.Ytgmbmkfodinckaa.PA
