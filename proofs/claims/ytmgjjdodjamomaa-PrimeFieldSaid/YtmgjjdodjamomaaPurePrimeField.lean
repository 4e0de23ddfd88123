/- The statement PrimeField over numbers alone: the rests by a prime are a field; conditions: the numbers are ints. -/
import Derived.Test.YtmgjjdodjamomaaPAx9
import Derived.Test.YtmgjjdodjamomaaPrs
namespace Go.Proofs.Ytmgjjdodjamomaa.Pure
open Go.RowKit Go.Proofs.Ytmgjjdodjamomaa.PA Go.Proofs.YtmgjjdodjamomaaW.PrintWords Go.Proofs.YtmgjjdodjamomaaW.PrintLast

theorem addS_of {a b p : Int} (h : isP p = true) : addS a b p = (a + b) % p := by unfold addS; rw [if_pos h]
theorem mulS_of {a b p : Int} (h : isP p = true) : mulS a b p = (a * b) % p := by unfold mulS; rw [if_pos h]
theorem add_em_l (a b p : Int) : (a % p + b) % p = (a + b) % p := Int.emod_add_emod a p b
theorem add_em_r (a b p : Int) : (a + b % p) % p = (a + b) % p := by rw [Int.add_comm, add_em_l, Int.add_comm]
theorem mul_em_l (a b p : Int) : (a % p * b) % p = (a * b) % p := by rw [Int.mul_emod, Int.emod_emod, ← Int.mul_emod]
theorem mul_em_r (a b p : Int) : (a * (b % p)) % p = (a * b) % p := by rw [Int.mul_comm, mul_em_l, Int.mul_comm]

theorem field_j1 {a p : Int} (hp : isP p = true) : Ev (fun k => primroselaw05_PrimeField.j1 k a p true false) true := by
  have hb := prb_pos (isP_true.mp hp)
  obtain ⟨v, hv, h⟩ := prime_inv a p
  refine Ev.step (f := fun k => (prime_Inv.f k a p).bind fun t182 => ((prime_Add.f k a 0 p).bind fun t183 => (if t183 = 0 then (if true = true then (some (t182 == 0)) else (some false)) else (if true = true then ((prime_Mul.f k a t182 p).bind fun t184 => ((prime_Add.f k 1 0 p).bind fun t185 => (some (t184 == t185)))) else (some false))))) (fun k => ?_) (Ev.bind hv (Ev.bind (prime_add a 0 p) ?_))
  · simp only [primroselaw05_PrimeField.j1, Bool.false_eq_true, if_false]
  · rw [addS_of hp, Int.add_zero]
    unfold InvS at h
    by_cases c : a % p = 0
    · rw [if_neg (by simp [c])] at h
      subst h
      simp only [if_pos c, if_true]
      exact Ev.now _
    · rw [if_pos ⟨hp, c⟩] at h
      simp only [if_neg c, if_true]
      refine Ev.bind (prime_mul a v p) (Ev.bind (prime_add 1 0 p) ?_)
      rw [addS_of hp, mulS_of hp, Int.mul_comm, h.2.2, Int.add_zero, one_mod hb.1]
      exact Ev.now _

theorem field_j0 {a b c p s m : Int} (hp : isP p = true) (hs : s = (a + b) % p) (hm : m = (a * b) % p) : Ev (fun k => primroselaw05_PrimeField.j0 k a b c p true s m false) true := by
  have hb := prb_pos (isP_true.mp hp)
  have m1 := @mod_bd (a + b) p (by omega)
  have m2 := @mod_bd (a * b) p (by omega)
  refine Ev.step (f := fun k => (prime_Mul.f k s c p).bind fun t178 => ((prime_Mul.f k a c p).bind fun t179 => ((prime_Mul.f k b c p).bind fun t180 => ((prime_Add.f k t179 t180 p).bind fun t181 => (if t178 = t181 then primroselaw05_PrimeField.j1 k a p true false else (primroselaw05_PrimeField.j1 k a p true true)))))) (fun k => ?_) (Ev.bind (prime_mul s c p) (Ev.bind (prime_mul a c p) (Ev.bind (prime_mul b c p) (Ev.bind (prime_add _ _ p) ?_))))
  · simp only [primroselaw05_PrimeField.j0, Bool.false_eq_true, if_false]
    rw [hs, hm]
    simp only [if_neg (show ¬ (a + b) % p < 0 by omega), if_neg (show ¬ (a + b) % p ≥ p by omega), if_neg (show ¬ (a * b) % p < 0 by omega), decide_eq_false (show ¬ (a * b) % p ≥ p by omega)]
  · rw [addS_of hp, mulS_of hp, mulS_of hp, mulS_of hp, hs]
    have e : ((a + b) % p * c) % p = (a * c % p + b * c % p) % p := by
      rw [mul_em_l, add_em_l, add_em_r, Int.add_mul]
    simp only [if_pos e]
    exact field_j1 hp

theorem PrimeField : primroselaw05_PrimeField.Pure := by
  intro a b c n _ _ _ _
  refine Ev.rounds (g := fun k => primroselaw05_PrimeField.f k a b c n) ?_
  unfold primroselaw05_PrimeField.f
  refine Ev.bind awake_ok ?_
  simp only [if_true]
  obtain ⟨p, hpk, hp⟩ := pick_ok n
  refine Ev.bind hpk (Ev.bind (prime_add a b p) (Ev.bind (prime_mul a b p) (Ev.bind (prime_add b a p) ?_)))
  simp only [addS_of hp, mulS_of hp]
  simp only [if_pos (show (a + b) % p = (b + a) % p by rw [Int.add_comm])]
  refine Ev.bind (prime_add _ c p) (Ev.bind (prime_add b c p) (Ev.bind (prime_add a _ p) ?_))
  simp only [addS_of hp]
  simp only [if_pos (show ((a + b) % p + c) % p = (a + (b + c) % p) % p by rw [add_em_l, add_em_r, Int.add_assoc])]
  refine Ev.bind (prime_mul b a p) ?_
  simp only [mulS_of hp]
  simp only [if_pos (show (a * b) % p = (b * a) % p by rw [Int.mul_comm])]
  refine Ev.bind (prime_mul _ c p) (Ev.bind (prime_mul b c p) (Ev.bind (prime_mul a _ p) ?_))
  simp only [mulS_of hp]
  have e : ((a * b) % p * c) % p = (a * ((b * c) % p)) % p := by rw [mul_em_l, mul_em_r, Int.mul_assoc]
  simp only [e, bne_self_eq_false]
  exact field_j0 hp rfl rfl

end Go.Proofs.Ytmgjjdodjamomaa.Pure
