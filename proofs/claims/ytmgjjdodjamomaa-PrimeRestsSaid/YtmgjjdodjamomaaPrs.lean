/- What sums, products and halves by a prime are, in the program and in the reference; conditions: none but that the numbers are ints. -/
import Derived.Test.YtmgjjdodjamomaaPAx7
import Derived.Test.YtmgjjdodjamomaaPAx8
import Derived.Test.YtmgjjdodjamomaaPrn
namespace Go.Proofs.Ytmgjjdodjamomaa.Pure
open Go.RowKit Go.Proofs.Ytmgjjdodjamomaa.PA Go.Proofs.YtmgjjdodjamomaaW.PrintWords Go.Proofs.YtmgjjdodjamomaaW.PrintLast
open Go.Proofs.Ytmgjjdodjamomaa.Num

noncomputable def addS (a b p : Int) : Int := if isP p = true then (a + b) % p else 0
noncomputable def mulS (a b p : Int) : Int := if isP p = true then (a * b) % p else 0
noncomputable def halfS (a p : Int) : Int := if isP p = true then (if a % p > p / 2 then a % p - p else a % p) else 0

theorem add_mod (a b p : Int) : (a % p + b % p) % p = (a + b) % p := (Int.add_emod a b p).symm
theorem mul_mod (a b p : Int) : (a % p * (b % p)) % p = (a * b) % p := (Int.mul_emod a b p).symm

theorem prime_add (a b p : Int) : Ev (fun k => prime_Add.f k a b p) (addS a b p) := by
  unfold prime_Add.f
  refine Ev.bind (prime_is p) ?_
  cases hp : isP p with
  | false => simp only [addS, hp]; exact Ev.now _
  | true =>
    have hb := prb_pos (isP_true.mp hp)
    have m1 := @mod_bd a p (by omega)
    have m2 := @mod_bd b p (by omega)
    simp only [addS, hp, if_true, rest_eq (show 0 < p by omega) (show p ≤ 9223372036854775807 by omega), Option.bind_some]
    rw [if_neg (by omega), w64 (by omega) (by omega), tm (by omega), add_mod]
    exact Ev.now _

theorem ref_add (a b p : Int) : Ev (fun k => primroseref05_Add.f k a b p) (addS a b p) := by
  unfold primroseref05_Add.f
  refine Ev.bind (ref_is p) ?_
  cases hp : isP p with
  | false => simp only [addS, hp]; exact Ev.now _
  | true =>
    have hb := prb_pos (isP_true.mp hp)
    have m1 := @mod_bd a p (by omega)
    have m2 := @mod_bd b p (by omega)
    simp only [addS, hp, if_true, Rest_eq (show 0 < p by omega) (show p ≤ 9223372036854775807 by omega), Option.bind_some]
    rw [w64 (by omega) (by omega), add_mod]
    exact Ev.now _

theorem prime_mul (a b p : Int) : Ev (fun k => prime_Mul.f k a b p) (mulS a b p) := by
  unfold prime_Mul.f
  refine Ev.bind (prime_is p) ?_
  cases hp : isP p with
  | false => simp only [mulS, hp]; exact Ev.now _
  | true =>
    have hb := prb_pos (isP_true.mp hp)
    have m1 := @mod_bd a p (by omega)
    have m2 := @mod_bd b p (by omega)
    have m3 := mul_lt31 m1.1 m1.2 m2.1 m2.2 hb.2
    simp only [mulS, hp, if_true, rest_eq (show 0 < p by omega) (show p ≤ 9223372036854775807 by omega), Option.bind_some]
    rw [if_neg (by omega), w64 (by omega) (by omega), tm (by omega), mul_mod]
    exact Ev.now _

theorem ref_mul (a b p : Int) : Ev (fun k => primroseref05_Mul.f k a b p) (mulS a b p) := by
  unfold primroseref05_Mul.f
  refine Ev.bind (ref_is p) ?_
  cases hp : isP p with
  | false => simp only [mulS, hp]; exact Ev.now _
  | true =>
    have hb := prb_pos (isP_true.mp hp)
    have m1 := @mod_bd a p (by omega)
    have m2 := @mod_bd b p (by omega)
    have m3 := mul_lt31 m1.1 m1.2 m2.1 m2.2 hb.2
    simp only [mulS, hp, if_true, Rest_eq (show 0 < p by omega) (show p ≤ 9223372036854775807 by omega), Option.bind_some]
    rw [w64 (by omega) (by omega), mul_mod]
    exact Ev.now _

theorem prime_half (a p : Int) : Ev (fun k => prime_Half.f k a p) (halfS a p) := by
  unfold prime_Half.f
  refine Ev.bind (prime_is p) ?_
  cases hp : isP p with
  | false => simp only [halfS, hp]; exact Ev.now _
  | true =>
    have hb := prb_pos (isP_true.mp hp)
    have m1 := @mod_bd a p (by omega)
    simp only [halfS, hp, if_true, rest_eq (show 0 < p by omega) (show p ≤ 9223372036854775807 by omega), Option.bind_some]
    rw [Int.tdiv_eq_ediv_of_nonneg (by omega), w64 (x := p / 2) (by omega) (by omega), w64 (x := a % p - p) (by omega) (by omega)]
    by_cases c : a % p > p / 2
    · simp only [if_pos c]; exact Ev.now _
    · simp only [if_neg c]; exact Ev.now _

theorem ref_half (a p : Int) : Ev (fun k => primroseref05_Half.f k a p) (halfS a p) := by
  unfold primroseref05_Half.f
  refine Ev.bind (ref_is p) ?_
  cases hp : isP p with
  | false => simp only [halfS, hp]; exact Ev.now _
  | true =>
    have hb := prb_pos (isP_true.mp hp)
    have m1 := @mod_bd a p (by omega)
    simp only [halfS, hp, if_true, Rest_eq (show 0 < p by omega) (show p ≤ 9223372036854775807 by omega), Option.bind_some]
    rw [Int.tdiv_eq_ediv_of_nonneg (by omega), w64 (x := p / 2) (by omega) (by omega), w64 (x := a % p - p) (by omega) (by omega)]
    by_cases c : a % p > p / 2
    · simp only [if_pos c]; exact Ev.now _
    · simp only [if_neg c]; exact Ev.now _

theorem isP_of {p : Int} {k : Nat} (h : prime_Is.f k p = some true) : isP p = true :=
  ev_unique (prime_is p) (Ev.of (g := fun k => prime_Is.f k p) (prime_Is.mono p) h)

theorem pick_ok (p : Int) : ∃ q, Ev (fun k => primroselaw05_pick.f k p) q ∧ isP q = true := by
  unfold primroselaw05_pick.f
  cases hp : isP p with
  | true =>
    refine ⟨p, Ev.bind (prime_is p) ?_, hp⟩
    rw [hp]; exact Ev.now _
  | false =>
    have h2 : isP 2 = true := isP_of (k := 5) (by decide +kernel)
    have h3 : isP 3 = true := isP_of (k := 5) (by decide +kernel)
    have h5 : isP 5 = true := isP_of (k := 5) (by decide +kernel)
    refine ⟨2 + p % 2 + 2 * (p % 2) * (p / 2 % 2), Ev.bind (prime_is p) ?_, ?_⟩
    · rw [hp, i64_and1, i64_and1]
      rcases Int.emod_two_eq p with e | e <;> rcases Int.emod_two_eq (p / 2) with e' | e' <;> rw [e, e'] <;> exact ⟨0, fun _ _ => by simp only [Bool.false_eq_true, if_false]; decide +kernel⟩
    · rcases Int.emod_two_eq p with e | e <;> rcases Int.emod_two_eq (p / 2) with e' | e' <;> rw [e, e']
      · exact h2
      · exact h2
      · exact h3
      · exact h5

end Go.Proofs.Ytmgjjdodjamomaa.Pure
