/- matrix.Mul: the product, with its walk. (The part behind the checks made by this session's own program out of what the kit's print wrote; no text of the print.) -/
import Derived.Test.YtfdkhkajehopkaaMb0
import Derived.Test.YtfdkhkajehopkaaMb2
import Derived.Test.YtfdkhkajehopkaaMb3
import Derived.Test.YtfdkhkajehopkaaMbG2
namespace Go.Proofs.Ytfdkhkajehopkaa.Mb
open Go.RowKit Go.Proofs.YtfdkhkajehopkaaW.PrintWords Go.Proofs.YtfdkhkajehopkaaW.PrintLast Go.Proofs.YtfdkhkajehopkaaW.PrintMore
attribute [local go_sem] max2_int min2_int max_two min_two max_three min_three max_four min_four   -- for this text's walks alone
set_option linter.unusedVariables false
set_option linter.unusedSimpArgs false
/-! ### matrix_Mul: function 37 -/
theorem und86 : Try.prog.underlying 86 = some (.array 2 23) := by kernel_rfl
theorem idx86 (a0 b0 : Option Addr) (l1 c1 l2 c2 : Nat) (w : World) : (Instr.index 86 (.agg #[.slice a0 l1 c1, .slice b0 l2 c2]) (.int .i64 0)).run Try.prog w = .ok (.slice a0 l1 c1) w := by
 simp [Instr.index, run_underlying und86, run_underlying Try.underlying23, asIntOf, part, isAgg, go_sem]
theorem idx86b (a0 b0 : Option Addr) (l1 c1 l2 c2 : Nat) (w : World) : (Instr.index 86 (.agg #[.slice a0 l1 c1, .slice b0 l2 c2]) (.int .i64 1)).run Try.prog w = .ok (.slice b0 l2 c2) w := by
 simp [Instr.index, run_underlying und86, run_underlying Try.underlying23, asIntOf, part, isAgg, go_sem]
attribute [local go_sem] idx86 idx86b
end Go.Proofs.Ytfdkhkajehopkaa.Mb
