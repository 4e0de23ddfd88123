/- The statement PrimeIs over numbers alone: the program's test and next prime are the reference's; conditions: the number is an int. -/
import Derived.Test.YtmgjjdodjamomaaPrn
namespace Go.Proofs.Ytmgjjdodjamomaa.Pure
open Go.RowKit Go.Proofs.Ytmgjjdodjamomaa.PA Go.Proofs.YtmgjjdodjamomaaW.PrintWords Go.Proofs.YtmgjjdodjamomaaW.PrintLast

theorem PrimeIs : primroselaw05_PrimeIs.Pure := by
  intro n _
  refine Ev.rounds (g := fun k => primroselaw05_PrimeIs.f k n) ?_
  unfold primroselaw05_PrimeIs.f
  refine Ev.bind (prime_is n) (Ev.bind (ref_is n) ?_)
  simp only [bne_self_eq_false, Bool.false_eq_true, if_false]
  obtain ⟨r, h1, h2⟩ := after_same n
  have key : ∀ b : Bool, Ev (fun k => primroselaw05_PrimeIs.j0 k n b) true := by
    intro b
    cases b with
    | true =>
      refine Ev.step (f := fun k => (primroselaw05_awake.f k).bind fun t => some t) (fun k => ?_) (Ev.bind awake_ok (Ev.now _))
      simp only [primroselaw05_PrimeIs.j0, if_true]
    | false =>
      refine Ev.step (f := fun k => (primroselaw05_awake.f k).bind fun t121 => (if t121 = true then ((prime_After.f k n).bind fun t122 => ((primroseref05_After.f k n).bind fun t123 => (some (t122 == t123)))) else (some false))) (fun k => ?_) (Ev.bind awake_ok ?_)
      · simp only [primroselaw05_PrimeIs.j0, Bool.false_eq_true, if_false]
      · simp only [if_true]
        refine Ev.bind h1 (Ev.bind h2 ?_)
        simp only [beq_self_eq_true]
        exact Ev.now _
  by_cases c : n > 1048576
  · simp only [if_pos c]; exact key _
  · simp only [if_neg c]; exact key _

end Go.Proofs.Ytmgjjdodjamomaa.Pure
