/- The statement PrimeGaps over numbers alone: between a number and the next prime there is none; conditions: the numbers are ints. -/
import Derived.Test.YtmgjjdodjamomaaPrs
namespace Go.Proofs.Ytmgjjdodjamomaa.Pure
open Go.RowKit Go.Proofs.Ytmgjjdodjamomaa.PA Go.Proofs.YtmgjjdodjamomaaW.PrintWords Go.Proofs.YtmgjjdodjamomaaW.PrintLast

theorem PrimeGaps : primroselaw05_PrimeGaps.Pure := by
  intro n x hn _
  have hn := i64_of hn
  refine Ev.rounds (g := fun k => primroselaw05_PrimeGaps.f k n x) ?_
  unfold primroselaw05_PrimeGaps.f
  refine Ev.bind awake_ok ?_
  simp only [if_true]
  have out : Ev (fun k => primroselaw05_PrimeGaps.j0 k n x true true) true := by
    refine Ev.step (f := fun _ => some true) (fun k => ?_) (Ev.now _)
    simp only [primroselaw05_PrimeGaps.j0, if_true]
  by_cases h0 : n < 0
  · simp only [if_pos h0]; exact out
  · simp only [if_neg h0]
    by_cases hb : n > 16777216
    · simp only [hb, decide_true]; exact out
    · simp only [hb, decide_false]
      have hbig : isP 16777259 = true := isP_of (k := 1000) (by decide +kernel)
      obtain ⟨r, hr, hnx⟩ := prime_after (show n ≤ 9223372036854775806 by omega)
      refine Ev.step (f := fun k => (prime_After.f k n).bind fun t139 => (if t139 ≤ n then (some false) else ((prime_Is.f k t139).bind fun t140 => (if t140 = true then (if x ≤ n then (some true) else (if x ≥ t139 then (some true) else ((prime_Is.f k x).bind fun t141 => (some (!t141))))) else (some false))))) (fun k => ?_) (Ev.bind hr ?_)
      · simp only [primroselaw05_PrimeGaps.j0, Bool.false_eq_true, if_false, if_true]
      · rcases hnx with ⟨_, h⟩ | ⟨a, b, c⟩
        · exact absurd (isP_true.mp hbig) (h _ (by omega))
        · simp only [if_neg (show ¬ r ≤ n by omega)]
          refine Ev.bind (prime_is r) ?_
          rw [isP_true.mpr b]
          simp only [if_true]
          by_cases c1 : x ≤ n
          · simp only [if_pos c1]; exact Ev.now _
          · simp only [if_neg c1]
            by_cases c2 : x ≥ r
            · simp only [if_pos c2]; exact Ev.now _
            · simp only [if_neg c2]
              have hx : isP x = false := by
                refine isP_false.mpr fun hx => ?_
                by_cases e : x = 1
                · subst e; have := hx.1; omega
                · exact c x (by omega) (by omega) hx
              refine Ev.bind (prime_is x) ?_
              rw [hx]; exact Ev.now _

end Go.Proofs.Ytmgjjdodjamomaa.Pure
