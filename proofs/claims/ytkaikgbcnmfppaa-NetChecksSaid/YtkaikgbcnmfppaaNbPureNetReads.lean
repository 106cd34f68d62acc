/- NetReads, in plain lists: both tell the first n numbers, or the error. -/
import Derived.Test.YtkaikgbcnmfppaaNbTie3
import Derived.Test.YtkaikgbcnmfppaaNb0
import Derived.Test.YtkaikgbcnmfppaaNbAlive
import Derived.Test.YtkaikgbcnmfppaaNbFNetRead
import Derived.Test.YtkaikgbcnmfppaaNbFRef1Is
import Derived.Test.YtkaikgbcnmfppaaNbFRef1Same
namespace Go.Proofs.Ytkaikgbcnmfppaa.Nb
open Go Go.RowKit Go.Proofs.YtkaikgbcnmfppaaW.PrintWords Go.Proofs.YtkaikgbcnmfppaaW.PrintLast Go.Proofs.YtkaikgbcnmfppaaW.PrintMore
open Go.Proofs.Ytkaikgbcnmfppaa.Num Go.Proofs.Ytkaikgbcnmfppaa.Arith
set_option linter.unusedVariables false
theorem alive_ev : Ev (fun k => juntolaw17_alive.f k) true := ⟨0, fun _ _ => rfl⟩
end Go.Proofs.Ytkaikgbcnmfppaa.Nb
