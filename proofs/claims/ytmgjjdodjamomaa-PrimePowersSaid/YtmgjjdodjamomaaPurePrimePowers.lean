/- The statement PrimePowers over numbers alone: the program's powers and inverses are the reference's; conditions: the numbers are ints. -/
import Derived.Test.YtmgjjdodjamomaaPrn
namespace Go.Proofs.Ytmgjjdodjamomaa.Pure
open Go.RowKit Go.Proofs.Ytmgjjdodjamomaa.PA Go.Proofs.YtmgjjdodjamomaaW.PrintWords Go.Proofs.YtmgjjdodjamomaaW.PrintLast

theorem PrimePowers : primroselaw05_PrimePowers.Pure := by
  intro a n p _ hn _
  have hn := i64_of hn
  refine Ev.rounds (g := fun k => primroselaw05_PrimePowers.f k a n p) ?_
  unfold primroselaw05_PrimePowers.f
  refine Ev.bind awake_ok ?_
  simp only [if_true]
  refine Ev.bind (prime_pow a n p) (Ev.bind (ref_pow a n p hn.2) ?_)
  simp only [if_true]
  obtain ⟨v, hv, h⟩ := prime_inv a p
  obtain ⟨w, hw, h'⟩ := ref_inv a p
  have e := h.unique h'
  subst e
  refine Ev.bind hv (Ev.bind hw ?_)
  simp only [beq_self_eq_true]
  exact Ev.now _

end Go.Proofs.Ytmgjjdodjamomaa.Pure
