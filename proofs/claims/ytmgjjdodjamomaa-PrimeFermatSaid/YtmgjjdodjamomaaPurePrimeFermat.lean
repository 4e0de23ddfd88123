/- The statement PrimeFermat over numbers alone: a number to the power of a prime has its own rest, and powers add up; conditions: the numbers are ints. -/
import Derived.Test.YtmgjjdodjamomaaPAx10
import Derived.Test.YtmgjjdodjamomaaPrs
namespace Go.Proofs.Ytmgjjdodjamomaa.Pure
open Go.RowKit Go.Proofs.Ytmgjjdodjamomaa.PA Go.Proofs.YtmgjjdodjamomaaW.PrintWords Go.Proofs.YtmgjjdodjamomaaW.PrintLast
open Go.Proofs.Ytmgjjdodjamomaa.Num

theorem fermat_all {p : Int} (h : PrB p) (a : Int) : a ^ p.toNat % p = a % p := by
  have hb := prb_pos h
  have m := @mod_bd a p (by omega)
  have hf := h.2.2.fermat' (a % p).toNat
  have : (((a % p).toNat ^ p.toNat % p.toNat : Nat) : Int) = (((a % p).toNat % p.toNat : Nat) : Int) := by rw [hf]
  rw [Int.natCast_emod, Int.natCast_emod, Int.natCast_pow, Int.toNat_of_nonneg m.1, Int.toNat_of_nonneg (show 0 ≤ p by omega), Int.emod_emod, pow_emod] at this
  exact this

theorem powS_of {a n p : Int} (h : isP p = true) (hn : 0 ≤ n) : powS a n p = a ^ n.toNat % p := by unfold powS; rw [if_pos ⟨h, hn⟩]

theorem fermat_ev {a p : Int} (hp : isP p = true) : powS a p p = addS a 0 p := by
  have h := isP_true.mp hp
  have hb := prb_pos h
  rw [powS_of hp (by omega), fermat_all h]
  unfold addS; rw [if_pos hp, Int.add_zero]

theorem fermat_true {a n m p : Int} (hp : isP p = true) : Ev (fun k => primroselaw05_PrimeFermat.j0 k a n m p true true) true := by
  refine Ev.step (f := fun k => (prime_Pow.f k a p p).bind fun t188 => ((prime_Add.f k a 0 p).bind fun t189 => (some (t188 == t189)))) (fun k => ?_) (Ev.bind (prime_pow a p p) (Ev.bind (prime_add a 0 p) ?_))
  · simp only [primroselaw05_PrimeFermat.j0, if_true]
  · rw [fermat_ev hp, beq_self_eq_true]; exact Ev.now _

theorem fermat_false {a n m p : Int} (hp : isP p = true) (hn : 0 ≤ n) (hm : 0 ≤ m) (hn2 : n ≤ 1152921504606846976) (hm2 : m ≤ 1152921504606846976) : Ev (fun k => primroselaw05_PrimeFermat.j0 k a n m p true false) true := by
  have e1 : wrap64 (n + m) = n + m := w64 (by omega) (by omega)
  refine Ev.step (f := fun k => (prime_Pow.f k a p p).bind fun t190 => ((prime_Add.f k a 0 p).bind fun t191 => (if t190 = t191 then ((prime_Pow.f k a (n + m) p).bind fun t192 => ((prime_Pow.f k a n p).bind fun t193 => ((prime_Pow.f k a m p).bind fun t194 => ((prime_Mul.f k t193 t194 p).bind fun t195 => (some (t192 == t195)))))) else (some false)))) (fun k => ?_) (Ev.bind (prime_pow a p p) (Ev.bind (prime_add a 0 p) ?_))
  · simp only [primroselaw05_PrimeFermat.j0, if_true, Bool.false_eq_true, if_false, e1]
  · rw [fermat_ev hp]
    simp only [if_true]
    refine Ev.bind (prime_pow a (n + m) p) (Ev.bind (prime_pow a n p) (Ev.bind (prime_pow a m p) (Ev.bind (prime_mul _ _ p) ?_)))
    have : powS a (n + m) p = mulS (powS a n p) (powS a m p) p := by
      rw [powS_of hp (by omega), powS_of hp hn, powS_of hp hm]
      unfold mulS
      rw [if_pos hp, mul_mod]
      have e : (n + m).toNat = n.toNat + m.toNat := by omega
      rw [e, Int.pow_add]
    rw [this, beq_self_eq_true]; exact Ev.now _

theorem PrimeFermat : primroselaw05_PrimeFermat.Pure := by
  intro a n m q _ _ _ _
  refine Ev.rounds (g := fun k => primroselaw05_PrimeFermat.f k a n m q) ?_
  unfold primroselaw05_PrimeFermat.f
  refine Ev.bind awake_ok ?_
  simp only [if_true]
  obtain ⟨p, hpk, hp⟩ := pick_ok q
  refine Ev.bind hpk ?_
  by_cases c1 : n < 0
  · simp only [if_pos c1]; exact fermat_true hp
  · simp only [if_neg c1]
    by_cases c2 : m < 0
    · simp only [if_pos c2]; exact fermat_true hp
    · simp only [if_neg c2]
      by_cases c3 : n > 1152921504606846976
      · simp only [if_pos c3]; exact fermat_true hp
      · simp only [if_neg c3]
        by_cases c4 : m > 1152921504606846976
        · simp only [c4, decide_true]; exact fermat_true hp
        · simp only [c4, decide_false]; exact fermat_false hp (by omega) (by omega) (by omega) (by omega)

end Go.Proofs.Ytmgjjdodjamomaa.Pure
