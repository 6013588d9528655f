-- A copy, with what one law needs, of a text that print.sh or a program of ours wrote
import Derived.Test.YtpgfmpmppnmmcaaDoorZ1G0
import Derived.Test.YtpgfmpmppnmmcaaDoorZ1GQ01a
import Derived.Test.YtpgfmpmppnmmcaaDoorZ1GQ02a
import Derived.Test.YtpgfmpmppnmmcaaDoorZ1GQ02b
namespace Go.Proofs.YtpgfmpmppnmmcaaDoor.G
open Go.RowKit Go.Proofs.YtpgfmpmppnmmcaaDoorW.PrintWords Go.Proofs.YtpgfmpmppnmmcaaDoorW.PrintLast Go.Proofs.YtpgfmpmppnmmcaaDoorW.PrintMore
attribute [local go_sem] max2_int min2_int max_two min_two max_three min_three max_four min_four   -- for this text's walks alone
set_option linter.unusedVariables false
set_option linter.unusedSimpArgs false
end Go.Proofs.YtpgfmpmppnmmcaaDoor.G
