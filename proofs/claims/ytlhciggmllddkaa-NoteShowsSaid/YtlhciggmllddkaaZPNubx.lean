/- Part of the proof of NoteShows: on every float64 the program and the document's answer show the same. No condition. -/
import Derived.Test.YtlhciggmllddkaaZPNubx0
import Derived.Test.YtlhciggmllddkaaZPNubx1
import Derived.Test.YtlhciggmllddkaaZPNubx2
namespace Go.Proofs.Ytlhciggmllddkaa.PNub
open Go.Proofs.Ytlhciggmllddkaa.PNum
open Go.RowKit Go.Proofs.YtlhciggmllddkaaW.PrintWords Go.Proofs.YtlhciggmllddkaaW.PrintLast Go.Proofs.YtlhciggmllddkaaW.PrintMore
attribute [local go_sem] max2_int min2_int max_two min_two max_three min_three max_four min_four   -- for this text's walks alone
set_option linter.unusedVariables false
set_option linter.unusedSimpArgs false
end Go.Proofs.Ytlhciggmllddkaa.PNub
