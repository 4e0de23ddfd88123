/- The statement PrimeSums over numbers alone: the program's sums, products and halves are the reference's; conditions: none. -/
import Derived.Test.YtmgjjdodjamomaaPrs
namespace Go.Proofs.Ytmgjjdodjamomaa.Pure
open Go.RowKit Go.Proofs.Ytmgjjdodjamomaa.PA Go.Proofs.YtmgjjdodjamomaaW.PrintWords Go.Proofs.YtmgjjdodjamomaaW.PrintLast

theorem PrimeSums : primroselaw05_PrimeSums.Pure := by
  intro a b p _ _ _
  refine Ev.rounds (g := fun k => primroselaw05_PrimeSums.f k a b p) ?_
  unfold primroselaw05_PrimeSums.f
  refine Ev.bind awake_ok ?_
  simp only [if_true]
  refine Ev.bind (prime_add a b p) (Ev.bind (ref_add a b p) ?_)
  simp only [if_true]
  refine Ev.bind (prime_mul a b p) (Ev.bind (ref_mul a b p) ?_)
  simp only [if_true]
  refine Ev.bind (prime_half a p) (Ev.bind (ref_half a p) ?_)
  simp only [beq_self_eq_true]
  exact Ev.now _

end Go.Proofs.Ytmgjjdodjamomaa.Pure
