/- The statement PrimeRests over numbers and lists alone: rests of sums and products are sums and products of rests; conditions: limbs are below 2^32. -/
import Derived.Test.YtmgjjdodjamomaaPAx18
import Derived.Test.YtmgjjdodjamomaaMod
namespace Go.Proofs.Ytmgjjdodjamomaa.Pure
open Go.RowKit Go.Proofs.Ytmgjjdodjamomaa.PA Go.Proofs.YtmgjjdodjamomaaW.PrintWords Go.Proofs.YtmgjjdodjamomaaW.PrintLast
open Go.Proofs.Ytmgjjdodjamomaa.Limb

theorem modS_of {z p : Int} (h : isP p = true) : modS z p = (z % p, 0) := by unfold modS; rw [if_pos h]

theorem natAbs_add_lt {x y : Int} {n m : Nat} (hx : x.natAbs < pw n) (hy : y.natAbs < pw m) : (x + y).natAbs < pw (max n m + 1) := by
  have h1 := pw_le (show n ≤ max n m by omega)
  have h2 := pw_le (show m ≤ max n m by omega)
  rw [pw_succ]; omega

theorem natAbs_mul_lt {x y : Int} {n m : Nat} (hx : x.natAbs < pw n) (hy : y.natAbs < pw m) : (x * y).natAbs < pw (n + m) := by
  rw [Int.natAbs_mul, pw_add]; exact Nat.mul_lt_mul'' hx hy

theorem rests_j0 {p : Int} {b : Bool} (hp : isP p = true) {x y : Bool} {l m : List Int} (hl : Ok l) (hm : Ok m) (hb : b = false → l.length ≤ 20 ∧ m.length ≤ 20) :
    Ev (fun k => primroselaw05_PrimeRests.j0 k p true b x l y m) true := by
  cases b with
  | true =>
    refine Ev.step (f := fun _ => some true) (fun k => ?_) (Ev.now _)
    simp only [primroselaw05_PrimeRests.j0, if_true]
  | false =>
    have hlen := hb rfl
    have v1 := val_lt hl
    have v2 := val_lt hm
    rw [← zval_natAbs x l] at v1
    rw [← zval_natAbs y m] at v2
    have l1 : (mg (zval x l + zval y m)).length < 4611686018427387904 := by
      have := dig_len_le (natAbs_add_lt v1 v2)
      unfold mg; omega
    have l2 : (mg (zval x l * zval y m)).length < 4611686018427387904 := by
      have := dig_len_le (natAbs_mul_lt v1 v2)
      unfold mg; omega
    have a1 := prime_mod hl (by omega) x p
    have a2 := prime_mod hm (by omega) y p
    have a3 := ref_zadd (p := x) (q := y) hl hm (by omega) (by omega)
    have a4 := prime_mod (mg_ok (zval x l + zval y m)) l1 (sg (zval x l + zval y m)) p
    have a5 := ref_zmul (p := x) (q := y) hl hm (by omega) (by omega)
    have a6 := prime_mod (mg_ok (zval x l * zval y m)) l2 (sg (zval x l * zval y m)) p
    rw [zval_of, modS_of hp] at a4 a6
    rw [modS_of hp] at a1 a2
    generalize zval x l = u at *
    generalize zval y m = v at *
    refine Ev.step (f := fun k => (prime_Mod.f k x l p).bind fun bt303 => ((prime_Mod.f k y m p).bind fun bt305 => ((primroseref02_Add.f k x l y m).bind fun bt307 => ((prime_Mod.f k bt307.1 bt307.2 p).bind fun bt311 => ((primroseref02_Mul.f k x l y m).bind fun bt313 => ((prime_Mod.f k bt313.1 bt313.2 p).bind fun bt317 => (if bt303.2 = 0 then (if bt305.2 = 0 then (if bt311.2 = 0 then (if bt317.2 = 0 then ((prime_Add.f k bt303.1 bt305.1 p).bind fun t319 => (if bt311.1 = t319 then ((prime_Mul.f k bt303.1 bt305.1 p).bind fun t320 => (some (bt317.1 == t320))) else (some false))) else (some false)) else (some false)) else (some false)) else (some false)))))))) (fun k => ?_)
      (Ev.bind a1 (Ev.bind a2 (Ev.bind a3 (Ev.bind a4 (Ev.bind a5 (Ev.bind a6 ?_))))))
    · simp only [primroselaw05_PrimeRests.j0, Bool.false_eq_true, if_false, if_true]
    · simp only [if_true]
      refine Ev.bind (prime_add _ _ p) ?_
      have e1 : (u + v) % p = addS (u % p) (v % p) p := by unfold addS; rw [if_pos hp, add_mod]
      simp only [if_pos e1]
      refine Ev.bind (prime_mul _ _ p) ?_
      have e2 : (u * v) % p = mulS (u % p) (v % p) p := by unfold mulS; rw [if_pos hp, mul_mod]
      rw [e2, beq_self_eq_true]
      exact Ev.now _

theorem PrimeRests (x : Bool) (l : List Int) (y : Bool) (m : List Int) (q : Int) (hl : Ok l) (hm : Ok m) : ∃ k, primroselaw05_PrimeRests.f k x l y m q = some true := by
  refine Ev.rounds (g := fun k => primroselaw05_PrimeRests.f k x l y m q) ?_
  unfold primroselaw05_PrimeRests.f
  refine Ev.bind awake_ok ?_
  simp only [if_true]
  obtain ⟨p, hpk, hp⟩ := pick_ok q
  refine Ev.bind hpk ?_
  by_cases c : (l.length : Int) > 20
  · simp only [if_pos c]; exact rests_j0 hp hl hm (fun h => by cases h)
  · simp only [if_neg c]
    by_cases c2 : (m.length : Int) > 20
    · simp only [c2, decide_true]; exact rests_j0 hp hl hm (fun h => by cases h)
    · simp only [c2, decide_false]; exact rests_j0 hp hl hm (fun _ => ⟨by omega, by omega⟩)

end Go.Proofs.Ytmgjjdodjamomaa.Pure
