/- The reference's Reduce. -/
import Derived.Test.YtfdkhkajehopkaaMbG1
import Derived.Test.YtfdkhkajehopkaaMbR1
import Derived.BigRegion
import Derived.RegionTactic
import Derived.Test.YtfdkhkajehopkaaMb0
import Derived.Test.YtfdkhkajehopkaaMbG2
import Derived.Deep.DeepMust
import Derived.OwnWalk
namespace Go.Proofs.Ytfdkhkajehopkaa.Mb
open Go.RowKit Go.Proofs.YtfdkhkajehopkaaW.PrintWords Go.Proofs.YtfdkhkajehopkaaW.PrintLast Go.Proofs.YtfdkhkajehopkaaW.PrintMore
set_option linter.unusedVariables false
set_option linter.unusedSimpArgs false
theorem RowAt.drew {w : World} {base : Nat} {vr : Value} {rows : List (List Int)} {i : Nat} {row : List Int} {g cap : Nat} {A : Option Addr} {c : Nat} (h : RowAt w base vr rows i row g cap A c) : RowAt w.drew base vr rows i row g cap A c := ⟨h.vr_, h.gb, h.ty, h.head, h.free, h.room⟩

end Go.Proofs.Ytfdkhkajehopkaa.Mb
