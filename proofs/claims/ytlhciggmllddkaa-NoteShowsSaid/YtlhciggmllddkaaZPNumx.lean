/- Part of the proof of NoteShows: on every float64 the program and the document's answer show the same. No condition. -/
import Derived.Test.YtlhciggmllddkaaZPNumx0
import Derived.Test.YtlhciggmllddkaaZPNumx1
import Derived.Test.YtlhciggmllddkaaZPNumx2
import Derived.Test.YtlhciggmllddkaaZPNumx3
import Derived.Test.YtlhciggmllddkaaZPNumx4
import Derived.Test.YtlhciggmllddkaaZPNumx5
import Derived.Test.YtlhciggmllddkaaZPNumx6
import Derived.Test.YtlhciggmllddkaaZPNumx7
import Derived.Test.YtlhciggmllddkaaZPNumx8
import Derived.Test.YtlhciggmllddkaaZPNumx9
import Derived.Test.YtlhciggmllddkaaZPNumx10
import Derived.Test.YtlhciggmllddkaaZPNumx11
import Derived.Test.YtlhciggmllddkaaZPNumx12
namespace Go.Proofs.Ytlhciggmllddkaa.PNum
attribute [local go_sem] Go.Proofs.YtlhciggmllddkaaW.PrintWords.run_fb Go.Proofs.YtlhciggmllddkaaW.PrintWords.run_fbb
open Go.RowKit Go.Proofs.YtlhciggmllddkaaW.PrintWords Go.Proofs.YtlhciggmllddkaaW.PrintLast Go.Proofs.YtlhciggmllddkaaW.PrintMore
attribute [local go_sem] max2_int min2_int max_two min_two max_three min_three max_four min_four   -- for this text's walks alone
set_option linter.unusedVariables false
set_option linter.unusedSimpArgs false
end Go.Proofs.Ytlhciggmllddkaa.PNum
