/- What the law's helpers come to. -/
import Derived.Test.YtfdkhkajehopkaaMbTieM
import Derived.Test.YtfdkhkajehopkaaMbLawF
namespace Go.Proofs.Ytfdkhkajehopkaa.Mb
open Go.RowKit Go.Proofs.YtfdkhkajehopkaaW.PrintWords Go.Proofs.YtfdkhkajehopkaaW.PrintLast Go.Proofs.YtfdkhkajehopkaaW.PrintMore
open Go.Proofs.Ytfdkhkajehopkaa.Num Go.Proofs.Ytfdkhkajehopkaa.Arith
set_option linter.unusedVariables false
theorem is_ok (l want : List (List Int)) (e : l = want) (hl : l.length < 9223372036854775807) (hr : ∀ r ∈ l, r.length < 9223372036854775807) : Ev (fun k => juntolaw03_is.f k l 0 want 0) true := by
 subst e
 unfold juntolaw03_is.f
 exact Ev.pos rfl (Ev.pos rfl (Ev.bind (Ev.same (sameM_ev l l hl hr) (decide_eq_true rfl)) (Ev.now _)))
theorem is_bad (want : List (List Int)) (e bad : Int) (h : bad ≠ 0) (he : e = bad) : Ev (fun k => juntolaw03_is.f k [] e want bad) true := by
 unfold juntolaw03_is.f
 exact Ev.neg h (Ev.pos he (Ev.now _))
end Go.Proofs.Ytfdkhkajehopkaa.Mb
