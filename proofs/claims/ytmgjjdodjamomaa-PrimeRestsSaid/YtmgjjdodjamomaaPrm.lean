/- What the program's and the reference's tests for primes answer: whether a number is a prime below 2^31; conditions: the number is an int. -/
import Derived.Test.YtmgjjdodjamomaaPAx1
import Derived.Test.YtmgjjdodjamomaaPAx2
import Derived.Test.YtmgjjdodjamomaaNum
namespace Go.Proofs.Ytmgjjdodjamomaa.Pure
open Go.RowKit Go.Proofs.Ytmgjjdodjamomaa.PA Go.Proofs.YtmgjjdodjamomaaW.PrintWords Go.Proofs.YtmgjjdodjamomaaW.PrintLast
open Go.Proofs.Ytmgjjdodjamomaa.Num

theorem w64 {x : Int} (h0 : -9223372036854775808 ≤ x) (h1 : x ≤ 9223372036854775807) : wrap64 x = x := by
  unfold wrap64; omega

theorem i64_of {a : Int} (h : (Lit.int .i64 a).wf = true) : -9223372036854775808 ≤ a ∧ a ≤ 9223372036854775807 := by
  have h1 : IntKind.i64.min = -9223372036854775808 := rfl
  have h2 : IntKind.i64.max = 9223372036854775807 := rfl
  simp only [Lit.wf, h1, h2, Bool.and_eq_true, decide_eq_true_eq] at h
  exact h

/-- is it a prime below 2^31? -/
def PrB (n : Int) : Prop := 2 ≤ n ∧ n < 2147483648 ∧ Pr n.toNat
noncomputable def isP (n : Int) : Bool := @decide (PrB n) (Classical.propDecidable _)
theorem isP_true {n : Int} : isP n = true ↔ PrB n := by unfold isP; exact @decide_eq_true_iff _ (Classical.propDecidable _)
theorem isP_false {n : Int} : isP n = false ↔ ¬ PrB n := by unfold isP; exact @decide_eq_false_iff_not _ (Classical.propDecidable _)

theorem prb_dvd {n d : Int} (h : PrB n) (h2 : 2 ≤ d) (hd : d ∣ n) : d = n := by
  have hn := h.1
  have h3 : d.toNat ∣ n.toNat := by
    have : ((d.toNat : Nat) : Int) ∣ ((n.toNat : Nat) : Int) := by
      rw [Int.toNat_of_nonneg (by omega), Int.toNat_of_nonneg (by omega)]; exact hd
    exact Int.natCast_dvd_natCast.mp this
  rcases h.2.2.2 _ h3 with e | e <;> omega

theorem prb_of {n : Int} (h2 : 2 ≤ n) (hn : n < 2147483648) (h : ∀ e : Int, 2 ≤ e → e * e ≤ n → ¬ e ∣ n) : PrB n := by
  refine ⟨h2, hn, pr_of_no_small (by omega) fun d hd hm hv => ?_⟩
  refine h d (by omega) ?_ ?_
  · have : ((d * d : Nat) : Int) ≤ ((n.toNat : Nat) : Int) := Int.ofNat_le.mpr hm
    rw [Int.toNat_of_nonneg (by omega)] at this
    simpa using this
  · have : ((d : Nat) : Int) ∣ ((n.toNat : Nat) : Int) := Int.natCast_dvd_natCast.mpr hv
    rwa [Int.toNat_of_nonneg (by omega)] at this

theorem not_prb {n d : Int} (h2 : 2 ≤ d) (hlt : d < n) (hd : d ∣ n) : ¬ PrB n := by
  intro h; have := prb_dvd h h2 hd; omega

theorem sq_lt {d : Int} (h0 : 0 ≤ d) (h : d * d ≤ 2147483648) : d ≤ 46341 := by
  refine Int.le_of_not_gt fun hc => ?_
  have : 46342 * 46342 ≤ d * d := Int.mul_le_mul (by omega) (by omega) (by omega) (by omega)
  omega

theorem sq_ge {d : Int} (h0 : 2 ≤ d) : 2 * d ≤ d * d := Int.mul_le_mul_of_nonneg_right h0 (by omega)

theorem lt_of_sq {d e n : Int} (h0 : 0 ≤ d) (h2 : e * e ≤ n) (h : n < d * d) : e < d := by
  refine Int.lt_of_not_ge fun hc => ?_
  have : d * d ≤ e * e := Int.mul_le_mul hc hc (by omega) (by omega)
  omega

theorem tm {a b : Int} (h : 0 ≤ a) : Int.tmod a b = a % b := Int.tmod_eq_emod_of_nonneg h

/-- the loop of the program's test -/
theorem is_loop {n : Int} (hn : n < 2147483648) (h4 : 4 ≤ n) (ho : n % 2 ≠ 0) (ht : n % 3 ≠ 0) :
    ∀ (m : Nat) (d : Int), 5 ≤ d → d % 6 = 5 → d ≤ 46350 → (46350 - d).toNat ≤ m → (∀ e : Int, 2 ≤ e → e < d → ¬ e ∣ n) →
      Ev (fun k => prime_Is.l0 k n d) (isP n) := by
  intro m
  induction m with
  | zero =>
    intro d h5 h6 hb hm hs
    have hd : d = 46350 := by omega
    omega
  | succ m ih =>
    intro d h5 h6 hb hm hs
    have hb1 : d * d ≤ 46350 * 46350 := Int.mul_le_mul hb hb (by omega) (by omega)
    have hb0 : 0 ≤ d * d := Int.mul_nonneg (by omega) (by omega)
    have e1 : wrap64 (d * d) = d * d := w64 (by omega) (by omega)
    have e2 : wrap64 (d + 2) = d + 2 := w64 (by omega) (by omega)
    have e3 : wrap64 (d + 6) = d + 6 := w64 (by omega) (by omega)
    by_cases hsq : d * d ≤ n
    · have hb2 := sq_lt (by omega) (show d * d ≤ 2147483648 by omega)
      have hg := sq_ge (show 2 ≤ d by omega)
      by_cases hd1 : n % d = 0
      · have : isP n = false := isP_false.mpr (not_prb (show 2 ≤ d by omega) (by omega) (Int.dvd_of_emod_eq_zero hd1))
        rw [this]
        refine Ev.step (f := fun _ => some false) (fun k => ?_) (Ev.now _)
        simp only [prime_Is.l0, e1]
        rw [if_pos hsq, if_neg (by omega), tm (by omega), if_pos hd1]
      · by_cases hd2 : n % (d + 2) = 0
        · have : isP n = false := isP_false.mpr (not_prb (show 2 ≤ d + 2 by omega) (by omega) (Int.dvd_of_emod_eq_zero hd2))
          rw [this]
          refine Ev.step (f := fun _ => some false) (fun k => ?_) (Ev.now _)
          simp only [prime_Is.l0, e1, e2]
          rw [if_pos hsq, if_neg (by omega), tm (by omega), if_neg hd1, if_neg (by omega), tm (by omega), if_pos hd2]
        · refine Ev.step (f := fun k => prime_Is.l0 k n (d + 6)) (fun k => ?_) (ih (d + 6) (by omega) (by omega) (by omega) (by omega) ?_)
          · simp only [prime_Is.l0, e1, e2, e3]
            rw [if_pos hsq, if_neg (by omega), tm (by omega), if_neg hd1, if_neg (by omega), tm (by omega), if_neg hd2]
          · intro e he1 he2 hev
            by_cases hlt : e < d
            · exact hs e he1 hlt hev
            have hE : ¬ (2 : Int) ∣ e := fun h => ho (Int.emod_eq_zero_of_dvd (Int.dvd_trans h hev))
            have hT : ¬ (3 : Int) ∣ e := fun h => ht (Int.emod_eq_zero_of_dvd (Int.dvd_trans h hev))
            by_cases c1 : e = d
            · subst c1; exact hd1 (Int.emod_eq_zero_of_dvd hev)
            by_cases c2 : e = d + 2
            · subst c2; exact hd2 (Int.emod_eq_zero_of_dvd hev)
            omega
    · have : isP n = true := isP_true.mpr (prb_of (by omega) hn fun e h2 hm2 hev => hs e h2 (lt_of_sq (by omega) hm2 (by omega)) hev)
      rw [this]
      refine Ev.step (f := fun _ => some true) (fun k => ?_) (Ev.now _)
      simp only [prime_Is.l0, e1]
      rw [if_neg hsq]

theorem prime_is (n : Int) : Ev (fun k => prime_Is.f k n) (isP n) := by
  unfold prime_Is.f
  by_cases h2 : n < 2
  · have : isP n = false := isP_false.mpr fun h => by have := h.1; omega
    rw [this]
    simp only [if_pos h2]
    refine Ev.step (f := fun _ => some false) (fun k => ?_) (Ev.now _)
    simp only [prime_Is.j0, if_true]
  · simp only [if_neg h2]
    by_cases hb : n ≥ 2147483648
    · have : isP n = false := isP_false.mpr fun h => by have := h.2.1; omega
      rw [this]
      refine Ev.step (f := fun _ => some false) (fun k => ?_) (Ev.now _)
      simp only [prime_Is.j0, hb, decide_true, if_true]
    · have hb' : n < 2147483648 := by omega
      by_cases h4 : n < 4
      · have : isP n = true := isP_true.mpr (prb_of (by omega) hb' fun e h2 hm2 hev => by have := sq_ge h2; omega)
        rw [this]
        refine Ev.step (f := fun _ => some true) (fun k => ?_) (Ev.now _)
        simp only [prime_Is.j0]
        rw [if_neg (by simpa using hb), if_pos h4]
      · have e0 : Int.tmod n 2 = n % 2 := tm (by omega)
        have e1 : Int.tmod n 3 = n % 3 := tm (by omega)
        by_cases c2 : n % 2 = 0
        · have : isP n = false := isP_false.mpr (not_prb (show (2 : Int) ≤ 2 by omega) (by omega) (Int.dvd_of_emod_eq_zero c2))
          rw [this]
          refine Ev.step (f := fun k => prime_Is.j1 k n true) (fun k => ?_) (Ev.step (f := fun _ => some false) (fun k => ?_) (Ev.now _))
          · simp only [prime_Is.j0, e0]
            rw [if_neg (by simpa using hb), if_neg h4, if_pos c2]
          · simp only [prime_Is.j1, if_true]
        · by_cases c3 : n % 3 = 0
          · have : isP n = false := isP_false.mpr (not_prb (show (2 : Int) ≤ 3 by omega) (by omega) (Int.dvd_of_emod_eq_zero c3))
            rw [this]
            refine Ev.step (f := fun k => prime_Is.j1 k n true) (fun k => ?_) (Ev.step (f := fun _ => some false) (fun k => ?_) (Ev.now _))
            · simp only [prime_Is.j0, e0, e1]
              rw [if_neg (by simpa using hb), if_neg h4, if_neg c2, c3]; rfl
            · simp only [prime_Is.j1, if_true]
          · refine Ev.step (f := fun k => prime_Is.j1 k n false) (fun k => ?_) (Ev.step (f := fun k => prime_Is.l0 k n 5) (fun k => ?_) ?_)
            · simp only [prime_Is.j0, e0, e1]
              rw [if_neg (by simpa using hb), if_neg h4, if_neg c2, beq_eq_false_iff_ne.mpr c3]
            · simp only [prime_Is.j1]; rfl
            · refine is_loop hb' (by omega) c2 c3 46350 5 (by omega) (by omega) (by omega) (by omega) ?_
              intro e h2 h5 hev
              have : e = 2 ∨ e = 3 ∨ e = 4 := by omega
              rcases this with rfl | rfl | rfl
              · exact c2 (Int.emod_eq_zero_of_dvd hev)
              · exact c3 (Int.emod_eq_zero_of_dvd hev)
              · exact c2 (Int.emod_eq_zero_of_dvd (Int.dvd_trans (by decide) hev))

/-- the loop of the reference's test -/
theorem ref_is_loop {n : Int} (hn : n < 2147483648) (h2 : 2 ≤ n) :
    ∀ (m : Nat) (d : Int), 2 ≤ d → d ≤ 46350 → (46350 - d).toNat ≤ m → (∀ e : Int, 2 ≤ e → e < d → ¬ e ∣ n) →
      Ev (fun k => primroseref05_Is.l0 k n d) (isP n) := by
  intro m
  induction m with
  | zero =>
    intro d h5 hb hm hs
    have hd : d = 46350 := by omega
    subst hd
    have : isP n = true := isP_true.mpr (prb_of (by omega) hn fun e h2 hm2 hev => hs e h2 (lt_of_sq (by omega) hm2 (by omega)) hev)
    rw [this]
    refine Ev.step (f := fun _ => some true) (fun k => ?_) (Ev.now _)
    simp only [primroseref05_Is.l0]
    rw [if_neg (by rw [w64 (by omega) (by omega)]; omega)]
  | succ m ih =>
    intro d h5 hb hm hs
    have hb1 : d * d ≤ 46350 * 46350 := Int.mul_le_mul hb hb (by omega) (by omega)
    have hb0 : 0 ≤ d * d := Int.mul_nonneg (by omega) (by omega)
    have e1 : wrap64 (d * d) = d * d := w64 (by omega) (by omega)
    have e3 : wrap64 (d + 1) = d + 1 := w64 (by omega) (by omega)
    by_cases hsq : d * d ≤ n
    · have hb2 := sq_lt (by omega) (show d * d ≤ 2147483648 by omega)
      have hg := sq_ge (show 2 ≤ d by omega)
      by_cases hd1 : n % d = 0
      · have : isP n = false := isP_false.mpr (not_prb (show 2 ≤ d by omega) (by omega) (Int.dvd_of_emod_eq_zero hd1))
        rw [this]
        refine Ev.step (f := fun _ => some false) (fun k => ?_) (Ev.now _)
        simp only [primroseref05_Is.l0, e1]
        rw [if_pos hsq, if_neg (by omega), tm (by omega), if_pos hd1]
      · refine Ev.step (f := fun k => primroseref05_Is.l0 k n (d + 1)) (fun k => ?_) (ih (d + 1) (by omega) (by omega) (by omega) ?_)
        · simp only [primroseref05_Is.l0, e1, e3]
          rw [if_pos hsq, if_neg (by omega), tm (by omega), if_neg hd1]
        · intro e he1 he2 hev
          by_cases hlt : e < d
          · exact hs e he1 hlt hev
          have c1 : e = d := by omega
          subst c1; exact hd1 (Int.emod_eq_zero_of_dvd hev)
    · have : isP n = true := isP_true.mpr (prb_of (by omega) hn fun e h2 hm2 hev => hs e h2 (lt_of_sq (by omega) hm2 (by omega)) hev)
      rw [this]
      refine Ev.step (f := fun _ => some true) (fun k => ?_) (Ev.now _)
      simp only [primroseref05_Is.l0, e1]
      rw [if_neg hsq]

theorem ref_is (n : Int) : Ev (fun k => primroseref05_Is.f k n) (isP n) := by
  unfold primroseref05_Is.f
  by_cases h2 : n < 2
  · have : isP n = false := isP_false.mpr fun h => by have := h.1; omega
    rw [this]
    simp only [if_pos h2]
    refine Ev.step (f := fun _ => some false) (fun k => ?_) (Ev.now _)
    simp only [primroseref05_Is.j0, if_true]
  · simp only [if_neg h2]
    by_cases hb : n ≥ 2147483648
    · have : isP n = false := isP_false.mpr fun h => by have := h.2.1; omega
      rw [this]
      refine Ev.step (f := fun _ => some false) (fun k => ?_) (Ev.now _)
      simp only [primroseref05_Is.j0, hb, decide_true, if_true]
    · refine Ev.step (f := fun k => primroseref05_Is.l0 k n 2) (fun k => ?_) (ref_is_loop (by omega) (by omega) 46350 2 (by omega) (by omega) (by omega) fun e _ _ => by omega)
      simp only [primroseref05_Is.j0]
      rw [if_neg (by simpa using hb)]

/-- a number's rest by a number above 0 -/
theorem rest_eq {a p : Int} (h0 : 0 < p) (hp : p ≤ 9223372036854775807) : prime_rest.f a p = some (a % p) := by
  unfold prime_rest.f
  rw [if_neg (by omega)]
  have h1 := Int.emod_nonneg a (show p ≠ 0 by omega)
  have h2 := Int.emod_lt_of_pos a h0
  have h3 := @Int.tmod_eq_emod a p
  by_cases hc : 0 ≤ a ∨ p ∣ a
  · rw [if_pos hc] at h3
    rw [if_neg (by omega)]; congr 1; omega
  · rw [if_neg hc] at h3
    have hne : a % p ≠ 0 := fun h => hc (Or.inr (Int.dvd_of_emod_eq_zero h))
    rw [if_pos (by omega), w64 (by omega) (by omega)]; congr 1; omega

end Go.Proofs.Ytmgjjdodjamomaa.Pure
