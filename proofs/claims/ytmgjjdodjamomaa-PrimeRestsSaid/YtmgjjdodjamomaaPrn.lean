/- What the next prime, powers and inverses are, in the program and in the reference; conditions: the numbers are ints. -/
import Derived.Test.YtmgjjdodjamomaaPAx3
import Derived.Test.YtmgjjdodjamomaaPAx4
import Derived.Test.YtmgjjdodjamomaaPAx5
import Derived.Test.YtmgjjdodjamomaaPAx6
import Derived.Test.YtmgjjdodjamomaaPrm
namespace Go.Proofs.Ytmgjjdodjamomaa.Pure
open Go.RowKit Go.Proofs.Ytmgjjdodjamomaa.PA Go.Proofs.YtmgjjdodjamomaaW.PrintWords Go.Proofs.YtmgjjdodjamomaaW.PrintLast
open Go.Proofs.Ytmgjjdodjamomaa.Num

theorem i64_and1 (n : Int) : Go.bits .and .i64 n 1 = n % 2 := by
  have h1 : (BitVec.ofInt 64 1).toNat = 2 ^ 1 - 1 := by decide
  have key : (BitVec.ofInt 64 n &&& BitVec.ofInt 64 1).toNat = (n % ((2 ^ 64 : Nat) : Int)).toNat % 2 ^ 1 := by
    rw [BitVec.toNat_and, BitVec.toNat_ofInt, h1, Nat.and_two_pow_sub_one_eq_mod]
  show IntKind.i64.wrap ((BitVec.ofInt 64 n &&& BitVec.ofInt 64 1).toNat : Nat) = n % 2
  rw [key, IntKind.wrap_i64]
  omega

theorem ev_unique {α : Type} {g : Nat → Option α} {r q : α} (h : Ev g r) (h' : Ev g q) : r = q := by
  obtain ⟨K, hK⟩ := h
  obtain ⟨K', hK'⟩ := h'
  have h1 := hK (max K K') (Nat.le_max_left _ _)
  have h2 := hK' (max K K') (Nat.le_max_right _ _)
  rw [h1] at h2; exact Option.some.inj h2

theorem awake_ok : Ev (fun k => primroselaw05_awake.f k) true :=
  Ev.of primroselaw05_awake.mono (k := 400) (by decide +kernel)

/-! the next prime -/

/-- what the next prime behind x is -/
def NextP (x r : Int) : Prop := (r = 0 ∧ ∀ e, x < e → ¬ PrB e) ∨ (x < r ∧ PrB r ∧ ∀ e, x < e → e < r → ¬ PrB e)

theorem NextP.unique {x r q : Int} (h : NextP x r) (h' : NextP x q) : r = q := by
  rcases h with ⟨e, h⟩ | ⟨a, b, c⟩ <;> rcases h' with ⟨e', h'⟩ | ⟨a', b', c'⟩
  · rw [e, e']
  · exact absurd b' (h _ a')
  · exact absurd b (h' _ a)
  · rcases Int.lt_trichotomy r q with e | e | e
    · exact absurd b (c' _ a e)
    · exact e
    · exact absurd b' (c _ a' e)

theorem after_loop : ∀ (m : Nat) (x : Int), 0 ≤ x → (2147483647 - x).toNat ≤ m → x ≤ 9223372036854775806 →
    ∃ r, Ev (fun k => prime_After.l0 k x) r ∧ NextP x r := by
  intro m
  induction m with
  | zero =>
    intro x h0 hm hx
    refine ⟨0, Ev.step (f := fun _ => some 0) (fun k => ?_) (Ev.now _), Or.inl ⟨rfl, fun e he h => by have := h.2.1; omega⟩⟩
    simp only [prime_After.l0]
    rw [if_neg (by omega)]
  | succ m ih =>
    intro x h0 hm hx
    by_cases hlt : x < 2147483647
    · have e1 : wrap64 (x + 1) = x + 1 := w64 (by omega) (by omega)
      cases hp : isP (x + 1) with
      | true =>
        refine ⟨x + 1, Ev.step (f := fun k => (prime_Is.f k (x + 1)).bind fun t => if t = true then some (x + 1) else prime_After.l0 k (x + 1)) (fun k => ?_) (Ev.bind (prime_is (x + 1)) ?_), Or.inr ⟨by omega, isP_true.mp hp, fun e h1 h2 => by omega⟩⟩
        · simp only [prime_After.l0, e1]; rw [if_pos hlt]
        · rw [hp]; exact Ev.now _
      | false =>
        obtain ⟨r, hr, hn⟩ := ih (x + 1) (by omega) (by omega) (by omega)
        refine ⟨r, Ev.step (f := fun k => (prime_Is.f k (x + 1)).bind fun t => if t = true then some (x + 1) else prime_After.l0 k (x + 1)) (fun k => ?_) (Ev.bind (prime_is (x + 1)) ?_), ?_⟩
        · simp only [prime_After.l0, e1]; rw [if_pos hlt]
        · rw [hp]; exact hr
        · have hnp := isP_false.mp hp
          rcases hn with ⟨e, h⟩ | ⟨a, b, c⟩
          · refine Or.inl ⟨e, fun q hq => ?_⟩
            by_cases hqe : q = x + 1
            · subst hqe; exact hnp
            · exact h q (by omega)
          · refine Or.inr ⟨by omega, b, fun q hq hq2 => ?_⟩
            by_cases hqe : q = x + 1
            · subst hqe; exact hnp
            · exact c q (by omega) hq2
    · refine ⟨0, Ev.step (f := fun _ => some 0) (fun k => ?_) (Ev.now _), Or.inl ⟨rfl, fun e he h => by have := h.2.1; omega⟩⟩
      simp only [prime_After.l0]
      rw [if_neg hlt]

theorem ref_after_loop : ∀ (m : Nat) (x : Int), 0 ≤ x → (2147483647 - x).toNat ≤ m → x ≤ 2147483647 →
    ∃ r, Ev (fun k => primroseref05_After.l0 k (x + 1)) r ∧ NextP x r := by
  intro m
  induction m with
  | zero =>
    intro x h0 hm hx
    refine ⟨0, Ev.step (f := fun _ => some 0) (fun k => ?_) (Ev.now _), Or.inl ⟨rfl, fun e he h => by have := h.2.1; omega⟩⟩
    simp only [primroseref05_After.l0]
    rw [if_neg (by omega)]
  | succ m ih =>
    intro x h0 hm hx
    by_cases hlt : x < 2147483647
    · have e1 : wrap64 (x + 1 + 1) = x + 1 + 1 := w64 (by omega) (by omega)
      cases hp : isP (x + 1) with
      | true =>
        refine ⟨x + 1, Ev.step (f := fun k => (primroseref05_Is.f k (x + 1)).bind fun t => if t = true then some (x + 1) else primroseref05_After.l0 k (x + 1 + 1)) (fun k => ?_) (Ev.bind (ref_is (x + 1)) ?_), Or.inr ⟨by omega, isP_true.mp hp, fun e h1 h2 => by omega⟩⟩
        · simp only [primroseref05_After.l0, e1]; rw [if_pos (by omega)]
        · rw [hp]; exact Ev.now _
      | false =>
        obtain ⟨r, hr, hn⟩ := ih (x + 1) (by omega) (by omega) (by omega)
        refine ⟨r, Ev.step (f := fun k => (primroseref05_Is.f k (x + 1)).bind fun t => if t = true then some (x + 1) else primroseref05_After.l0 k (x + 1 + 1)) (fun k => ?_) (Ev.bind (ref_is (x + 1)) ?_), ?_⟩
        · simp only [primroseref05_After.l0, e1]; rw [if_pos (by omega)]
        · rw [hp]; exact hr
        · have hnp := isP_false.mp hp
          rcases hn with ⟨e, h⟩ | ⟨a, b, c⟩
          · refine Or.inl ⟨e, fun q hq => ?_⟩
            by_cases hqe : q = x + 1
            · subst hqe; exact hnp
            · exact h q (by omega)
          · refine Or.inr ⟨by omega, b, fun q hq hq2 => ?_⟩
            by_cases hqe : q = x + 1
            · subst hqe; exact hnp
            · exact c q (by omega) hq2
    · refine ⟨0, Ev.step (f := fun _ => some 0) (fun k => ?_) (Ev.now _), Or.inl ⟨rfl, fun e he h => by have := h.2.1; omega⟩⟩
      simp only [primroseref05_After.l0]
      rw [if_neg (by omega)]

theorem prime_after {n : Int} (h : n ≤ 9223372036854775806) : ∃ r, Ev (fun k => prime_After.f k n) r ∧ NextP (max n 1) r := by
  have e : mx n 1 = max n 1 := by unfold mx; omega
  unfold prime_After.f
  rw [e]
  exact after_loop _ (max n 1) (by omega) (Nat.le_refl _) (by omega)

theorem prime_after_top {n : Int} (h : 2147483647 ≤ n) : Ev (fun k => prime_After.f k n) 0 := by
  have e : mx n 1 = n := by unfold mx; omega
  unfold prime_After.f
  rw [e]
  refine Ev.step (f := fun _ => some 0) (fun k => ?_) (Ev.now _)
  simp only [prime_After.l0]
  rw [if_neg (by omega)]

theorem after_same (n : Int) : ∃ r, Ev (fun k => prime_After.f k n) r ∧ Ev (fun k => primroseref05_After.f k n) r := by
  by_cases hb : n ≥ 2147483648
  · refine ⟨0, prime_after_top (by omega), ?_⟩
    unfold primroseref05_After.f
    simp only [if_neg (show ¬ n < 1 by omega)]
    refine Ev.step (f := fun _ => some 0) (fun k => ?_) (Ev.now _)
    simp only [primroseref05_After.j0]
    rw [if_pos hb]
  · obtain ⟨r, hr, hn⟩ := prime_after (show n ≤ 9223372036854775806 by omega)
    obtain ⟨q, hq, hm⟩ := ref_after_loop _ (max n 1) (by omega) (Nat.le_refl _) (by omega)
    have := NextP.unique hn hm
    subst this
    refine ⟨r, hr, ?_⟩
    unfold primroseref05_After.f
    by_cases h1 : n < 1
    · simp only [if_pos h1]
      have e : max n 1 = 1 := by omega
      rw [e] at hq
      refine Ev.step (f := fun k => primroseref05_After.l0 k (1 + 1)) (fun k => ?_) hq
      simp only [primroseref05_After.j0]
      rw [if_neg (by omega), w64 (by omega) (by omega)]
    · simp only [if_neg h1]
      have e : max n 1 = n := by omega
      rw [e] at hq
      refine Ev.step (f := fun k => primroseref05_After.l0 k (n + 1)) (fun k => ?_) hq
      simp only [primroseref05_After.j0]
      rw [if_neg hb, w64 (by omega) (by omega)]

/-! powers -/

theorem prb_pos {p : Int} (h : PrB p) : 2 ≤ p ∧ p < 2147483648 := ⟨h.1, h.2.1⟩

theorem mul_lt31 {a b p : Int} (ha : 0 ≤ a) (hap : a < p) (hb : 0 ≤ b) (hbp : b < p) (hp : p < 2147483648) : 0 ≤ a * b ∧ a * b ≤ 4611686018427387904 := by
  refine ⟨Int.mul_nonneg ha hb, ?_⟩
  have : a * b ≤ 2147483648 * 2147483648 := Int.mul_le_mul (by omega) (by omega) hb (by omega)
  omega

theorem mod_bd {a p : Int} (h : 0 < p) : 0 ≤ a % p ∧ a % p < p := ⟨Int.emod_nonneg a (by omega), Int.emod_lt_of_pos a h⟩

theorem pow_step (o x p : Int) (n : Nat) : (o * (x * x % p) ^ n) % p = (o * x ^ (2 * n)) % p := by
  have h : ∀ n : Nat, (x * x % p) ^ n % p = x ^ (2 * n) % p := by
    intro n
    induction n with
    | zero => simp
    | succ n ih =>
      rw [Int.pow_succ, Int.mul_emod, ih, Int.emod_emod, ← Int.mul_emod]
      have : 2 * (n + 1) = 2 * n + 1 + 1 := by omega
      rw [this, Int.pow_succ, Int.pow_succ, Int.mul_assoc]
  rw [Int.mul_emod, h, ← Int.mul_emod]

theorem pow_loop {p : Int} (hp : 2 ≤ p) (hb : p < 2147483648) : ∀ (m : Nat) (n o x : Int), n.toNat ≤ m → 0 ≤ n → 0 ≤ o → o < p → 0 ≤ x → x < p →
    Ev (fun k => prime_Pow.l0 k n p o x) ((o * x ^ n.toNat) % p) := by
  intro m
  induction m with
  | zero =>
    intro n o x hm hn h1 h2 h3 h4
    have : n = 0 := by omega
    subst this
    refine Ev.step (f := fun _ => some ((o * x ^ (0 : Int).toNat) % p)) (fun k => ?_) (Ev.now _)
    simp only [prime_Pow.l0]
    rw [if_neg (by omega)]
    simp [Int.emod_eq_of_lt h1 h2]
  | succ m ih =>
    intro n o x hm hn h1 h2 h3 h4
    by_cases h0 : n > 0
    · have b1 := mul_lt31 h1 h2 h3 h4 hb
      have b2 := mul_lt31 h3 h4 h3 h4 hb
      have e1 : wrap64 (o * x) = o * x := w64 (by omega) (by omega)
      have e2 : wrap64 (x * x) = x * x := w64 (by omega) (by omega)
      have m1 := @mod_bd (x * x) p (by omega)
      have m2 := @mod_bd (o * x) p (by omega)
      by_cases ho : n % 2 = 1
      · have := ih (n / 2) (o * x % p) (x * x % p) (by omega) (by omega) m2.1 m2.2 m1.1 m1.2
        have e : (o * x % p * (x * x % p) ^ (n / 2).toNat) % p = (o * x ^ n.toNat) % p := by
          rw [pow_step, Int.mul_emod, Int.emod_emod, ← Int.mul_emod]
          have : n.toNat = 2 * (n / 2).toNat + 1 := by omega
          rw [this, Int.pow_succ, Int.mul_assoc, Int.mul_comm x]
        rw [e] at this
        refine Ev.step (f := fun k => prime_Pow.l0 k (n / 2) p (o * x % p) (x * x % p)) (fun k => ?_) this
        simp only [prime_Pow.l0, e1, e2, i64_and1]
        rw [if_pos h0, if_pos ho, if_neg (by omega), tm b1.1, tm b2.1]
      · have := ih (n / 2) o (x * x % p) (by omega) (by omega) h1 h2 m1.1 m1.2
        have e : (o * (x * x % p) ^ (n / 2).toNat) % p = (o * x ^ n.toNat) % p := by
          rw [pow_step]
          have : n.toNat = 2 * (n / 2).toNat := by omega
          rw [this]
        rw [e] at this
        refine Ev.step (f := fun k => prime_Pow.l0 k (n / 2) p o (x * x % p)) (fun k => ?_) this
        simp only [prime_Pow.l0, e2, i64_and1]
        rw [if_pos h0, if_neg ho, if_neg (by omega), tm b2.1]
    · have : n = 0 := by omega
      subst this
      refine Ev.step (f := fun _ => some ((o * x ^ (0 : Int).toNat) % p)) (fun k => ?_) (Ev.now _)
      simp only [prime_Pow.l0]
      rw [if_neg (by omega)]
      simp [Int.emod_eq_of_lt h1 h2]

theorem Rest_eq {a p : Int} (h0 : 0 < p) (hp : p ≤ 9223372036854775807) : primroseref05_Rest.f a p = some (a % p) := rest_eq h0 hp

theorem ref_pow_loop {p : Int} (hp : 2 ≤ p) (hb : p < 2147483648) : ∀ (m : Nat) (n o x : Int), n.toNat ≤ m → 0 ≤ n → n ≤ 9223372036854775807 → 0 ≤ o → o < p → 0 ≤ x → x < p →
    Ev (fun k => primroseref05_Pow.l0 k n p o x) ((o * x ^ n.toNat) % p) := by
  intro m
  induction m with
  | zero =>
    intro n o x hm hn hn2 h1 h2 h3 h4
    have : n = 0 := by omega
    subst this
    refine Ev.step (f := fun _ => some ((o * x ^ (0 : Int).toNat) % p)) (fun k => ?_) (Ev.now _)
    simp only [primroseref05_Pow.l0]
    rw [if_neg (by omega)]
    simp [Int.emod_eq_of_lt h1 h2]
  | succ m ih =>
    intro n o x hm hn hn2 h1 h2 h3 h4
    by_cases h0 : n > 0
    · have b1 := mul_lt31 h1 h2 h3 h4 hb
      have b2 := mul_lt31 h3 h4 h3 h4 hb
      have e1 : wrap64 (o * x) = o * x := w64 (by omega) (by omega)
      have e2 : wrap64 (x * x) = x * x := w64 (by omega) (by omega)
      have e3 : Int.tdiv n 2 = n / 2 := Int.tdiv_eq_ediv_of_nonneg hn
      have e4 : wrap64 (n / 2) = n / 2 := w64 (by omega) (by omega)
      have m1 := @mod_bd (x * x) p (by omega)
      have m2 := @mod_bd (o * x) p (by omega)
      by_cases ho : n % 2 = 1
      · have := ih (n / 2) (o * x % p) (x * x % p) (by omega) (by omega) (by omega) m2.1 m2.2 m1.1 m1.2
        have e : (o * x % p * (x * x % p) ^ (n / 2).toNat) % p = (o * x ^ n.toNat) % p := by
          rw [pow_step, Int.mul_emod, Int.emod_emod, ← Int.mul_emod]
          have : n.toNat = 2 * (n / 2).toNat + 1 := by omega
          rw [this, Int.pow_succ, Int.mul_assoc, Int.mul_comm x]
        rw [e] at this
        refine Ev.step (f := fun k => primroseref05_Pow.l0 k (n / 2) p (o * x % p) (x * x % p)) (fun k => ?_) this
        simp only [primroseref05_Pow.l0, e1, e2, e3, e4, tm hn]
        rw [if_pos h0, if_pos ho, Rest_eq (by omega) (by omega), Rest_eq (by omega) (by omega)]; rfl
      · have := ih (n / 2) o (x * x % p) (by omega) (by omega) (by omega) h1 h2 m1.1 m1.2
        have e : (o * (x * x % p) ^ (n / 2).toNat) % p = (o * x ^ n.toNat) % p := by
          rw [pow_step]
          have : n.toNat = 2 * (n / 2).toNat := by omega
          rw [this]
        rw [e] at this
        refine Ev.step (f := fun k => primroseref05_Pow.l0 k (n / 2) p o (x * x % p)) (fun k => ?_) this
        simp only [primroseref05_Pow.l0, e2, e3, e4, tm hn]
        rw [if_pos h0, if_neg ho, Rest_eq (by omega) (by omega)]; rfl
    · have : n = 0 := by omega
      subst this
      refine Ev.step (f := fun _ => some ((o * x ^ (0 : Int).toNat) % p)) (fun k => ?_) (Ev.now _)
      simp only [primroseref05_Pow.l0]
      rw [if_neg (by omega)]
      simp [Int.emod_eq_of_lt h1 h2]

theorem pow_emod (a p : Int) (n : Nat) : (a % p) ^ n % p = a ^ n % p := by
  induction n with
  | zero => simp
  | succ n ih => rw [Int.pow_succ, Int.mul_emod, ih, Int.emod_emod, ← Int.mul_emod, Int.pow_succ]

/-- what a power is -/
noncomputable def powS (a n p : Int) : Int := if isP p = true ∧ 0 ≤ n then a ^ n.toNat % p else 0

theorem one_mod {p : Int} (h : 2 ≤ p) : (1 : Int) % p = 1 := Int.emod_eq_of_lt (by omega) (by omega)

theorem prime_pow (a n p : Int) : Ev (fun k => prime_Pow.f k a n p) (powS a n p) := by
  unfold prime_Pow.f
  refine Ev.bind (prime_is p) ?_
  cases hp : isP p with
  | false =>
    have : powS a n p = 0 := by unfold powS; rw [if_neg (by simp [hp])]
    rw [this]
    refine Ev.step (f := fun _ => some 0) (fun k => ?_) (Ev.now _)
    rfl
  | true =>
    have hb := prb_pos (isP_true.mp hp)
    by_cases hn : n < 0
    · have : powS a n p = 0 := by unfold powS; rw [if_neg (by omega)]
      rw [this]
      refine Ev.step (f := fun _ => some 0) (fun k => ?_) (Ev.now _)
      simp only [if_true, prime_Pow.j0, hn, decide_true]
    · have : powS a n p = a ^ n.toNat % p := by unfold powS; rw [if_pos ⟨hp, by omega⟩]
      rw [this]
      have m := @mod_bd a p (by omega)
      have := pow_loop hb.1 hb.2 n.toNat n 1 (a % p) (Nat.le_refl _) (by omega) (by omega) (by omega) m.1 m.2
      rw [Int.one_mul, pow_emod] at this
      refine Ev.step (f := fun k => prime_Pow.l0 k n p 1 (a % p)) (fun k => ?_) this
      simp only [if_true, prime_Pow.j0]
      rw [if_neg (by simpa using hn), if_neg (by omega), rest_eq (by omega) (by omega), one_mod hb.1]; rfl

theorem ref_pow (a n p : Int) (hn2 : n ≤ 9223372036854775807) : Ev (fun k => primroseref05_Pow.f k a n p) (powS a n p) := by
  unfold primroseref05_Pow.f
  refine Ev.bind (ref_is p) ?_
  cases hp : isP p with
  | false =>
    have : powS a n p = 0 := by unfold powS; rw [if_neg (by simp [hp])]
    rw [this]
    refine Ev.step (f := fun _ => some 0) (fun k => ?_) (Ev.now _)
    rfl
  | true =>
    have hb := prb_pos (isP_true.mp hp)
    by_cases hn : n < 0
    · have : powS a n p = 0 := by unfold powS; rw [if_neg (by omega)]
      rw [this]
      refine Ev.step (f := fun _ => some 0) (fun k => ?_) (Ev.now _)
      simp only [if_true, primroseref05_Pow.j0, hn, decide_true]
    · have : powS a n p = a ^ n.toNat % p := by unfold powS; rw [if_pos ⟨hp, by omega⟩]
      rw [this]
      have m := @mod_bd a p (by omega)
      have := ref_pow_loop hb.1 hb.2 n.toNat n 1 (a % p) (Nat.le_refl _) (by omega) hn2 (by omega) (by omega) m.1 m.2
      rw [Int.one_mul, pow_emod] at this
      refine Ev.step (f := fun k => primroseref05_Pow.l0 k n p 1 (a % p)) (fun k => ?_) this
      simp only [if_true, primroseref05_Pow.j0]
      rw [if_neg (by simpa using hn), Rest_eq (by omega) (by omega), Rest_eq (by omega) (by omega), one_mod hb.1]; rfl

/-! inverses -/

theorem inv_loop {p a : Int} (hb : p < 2147483648) (hpr : ∀ d : Int, 0 < d → d ∣ p → d ∣ a → d = 1) :
    ∀ (m : Nat) (r s x y : Int), s.toNat ≤ m → EucInv p a r s x y → ∃ v, Ev (fun k => prime_inverse.l0 k p r s x y) v ∧ 0 ≤ v ∧ v < p ∧ v * a % p = 1 % p := by
  intro m
  induction m with
  | zero =>
    intro r s x y hm h
    have hs : s = 0 := by have := h.s0; omega
    subst hs
    have hd := h.done hpr
    have hp : 0 < p := by have := h.r0; have := h.rp; omega
    have hmb := @mod_bd x p hp
    refine ⟨x % p, Ev.step (f := fun _ => some (x % p)) (fun k => ?_) (Ev.now _), hmb.1, hmb.2, ?_⟩
    · simp only [prime_inverse.l0, if_true]
      rw [rest_eq hp (by omega)]; rfl
    · rw [Int.mul_emod, Int.emod_emod, ← Int.mul_emod]
      exact Int.emod_eq_emod_iff_emod_sub_eq_zero.mpr (Int.emod_eq_zero_of_dvd hd.2)
  | succ m ih =>
    intro r s x y hm h
    by_cases hs : s = 0
    · subst hs
      have hd := h.done hpr
      have hp : 0 < p := by have := h.r0; have := h.rp; omega
      have hmb := @mod_bd x p hp
      refine ⟨x % p, Ev.step (f := fun _ => some (x % p)) (fun k => ?_) (Ev.now _), hmb.1, hmb.2, ?_⟩
      · simp only [prime_inverse.l0, if_true]
        rw [rest_eq hp (by omega)]; rfl
      · rw [Int.mul_emod, Int.emod_emod, ← Int.mul_emod]
        exact Int.emod_eq_emod_iff_emod_sub_eq_zero.mpr (Int.emod_eq_zero_of_dvd hd.2)
    · have hst := h.step hs
      have q := h.q_bounds hs
      have qs := h.qs_bounds hs
      have qy := h.abs_next hs
      have hr := h.r0
      have hrp := h.rp
      have hs0 := h.s0
      have hlt := hst.sr
      obtain ⟨v, hv, hv2⟩ := ih s (r - r / s * s) y (x - r / s * y) (by omega) hst
      refine ⟨v, Ev.step (f := fun k => prime_inverse.l0 k p s (r - r / s * s) y (x - r / s * y)) (fun k => ?_) hv, hv2⟩
      simp only [prime_inverse.l0]
      rw [if_neg hs, Int.tdiv_eq_ediv_of_nonneg (by omega), w64 (x := r / s) (by omega) (by omega), w64 (x := r / s * s) (by omega) (by omega), w64 (x := r / s * y) (by omega) (by omega), w64 (x := r - r / s * s) (by omega) (by omega), w64 (x := x - r / s * y) (by omega) (by omega)]

theorem prb_one {p a : Int} (h : PrB p) (ha : ¬ p ∣ a) : ∀ d : Int, 0 < d → d ∣ p → d ∣ a → d = 1 := by
  intro d h0 h1 h2
  by_cases hd : 2 ≤ d
  · have := prb_dvd h hd h1
    subst this; exact absurd h2 ha
  · omega

theorem prime_inverse_ok {p a : Int} (h : PrB p) (h0 : 0 < a) (hp : a < p) :
    ∃ v, Ev (fun k => prime_inverse.f k a p) v ∧ 0 ≤ v ∧ v < p ∧ v * a % p = 1 := by
  have hb := prb_pos h
  unfold prime_inverse.f
  have hnd : ¬ p ∣ a := fun hd => by have := Int.le_of_dvd h0 hd; omega
  have := inv_loop hb.2 (prb_one h hnd) a.toNat p a 0 1 (Nat.le_refl _) (EucInv.start h0 hp)
  rwa [one_mod hb.1] at this

theorem fermat_int {p a : Int} (h : PrB p) (h0 : 0 ≤ a) (hnd : ¬ p ∣ a) : a ^ (p - 1).toNat % p = 1 := by
  have hb := prb_pos h
  have hd : ¬ p.toNat ∣ a.toNat := fun hd => hnd (by
    have : ((p.toNat : Nat) : Int) ∣ ((a.toNat : Nat) : Int) := Int.natCast_dvd_natCast.mpr hd
    rwa [Int.toNat_of_nonneg (by omega), Int.toNat_of_nonneg h0] at this)
  have hf := h.2.2.fermat hd
  have : ((a.toNat ^ (p.toNat - 1) % p.toNat : Nat) : Int) = ((1 % p.toNat : Nat) : Int) := by rw [hf]
  rw [Int.natCast_emod, Int.natCast_emod, Int.natCast_pow, Int.toNat_of_nonneg h0, Int.toNat_of_nonneg (show 0 ≤ p by omega)] at this
  have e : (p - 1).toNat = p.toNat - 1 := by omega
  rw [e, this]
  exact one_mod hb.1

theorem cancel_int {p a x y : Int} (h0 : 0 ≤ x) (hx : x < p) (h1 : 0 ≤ y) (hy : y < p) (v : Int) (hv : a * v % p = 1) (he : x * a % p = y * a % p) : x = y := by
  have key : ∀ z : Int, z * a * v % p = z % p := by
    intro z
    rw [Int.mul_assoc, Int.mul_emod, hv, Int.mul_one, Int.emod_emod]
  have e1 := key x
  have e2 := key y
  rw [Int.mul_emod, he, ← Int.mul_emod, e2, Int.emod_eq_of_lt h1 hy, Int.emod_eq_of_lt h0 hx] at e1
  exact e1.symm

/-- what an inverse is -/
def InvS (a p v : Int) : Prop := if isP p = true ∧ a % p ≠ 0 then 0 ≤ v ∧ v < p ∧ v * a % p = 1 else v = 0

theorem InvS.unique {a p v w : Int} (h : InvS a p v) (h' : InvS a p w) : v = w := by
  unfold InvS at h h'
  by_cases c : isP p = true ∧ a % p ≠ 0
  · rw [if_pos c] at h h'
    exact cancel_int h.1 h.2.1 h'.1 h'.2.1 v (by rw [Int.mul_comm]; exact h.2.2) (by rw [h.2.2, h'.2.2])
  · rw [if_neg c] at h h'; omega

theorem prime_inv (a p : Int) : ∃ v, Ev (fun k => prime_Inv.f k a p) v ∧ InvS a p v := by
  unfold prime_Inv.f
  cases hp : isP p with
  | false =>
    refine ⟨0, Ev.bind (prime_is p) ?_, by unfold InvS; rw [if_neg (by simp [hp])]⟩
    rw [hp]
    refine Ev.step (f := fun _ => some 0) (fun k => ?_) (Ev.now _)
    rfl
  | true =>
    have h := isP_true.mp hp
    have hb := prb_pos h
    have m := @mod_bd a p (by omega)
    by_cases h0 : a % p = 0
    · refine ⟨0, Ev.bind (prime_is p) ?_, by unfold InvS; rw [if_neg (by simp [h0])]⟩
      rw [hp]
      refine Ev.step (f := fun _ => some 0) (fun k => ?_) (Ev.now _)
      simp only [if_true]
      rw [rest_eq (by omega) (by omega)]
      simp only [Option.bind_some, h0, prime_Inv.j0]; rfl
    · obtain ⟨v, hv, hv0, hvp, hv1⟩ := prime_inverse_ok h (show 0 < a % p by omega) m.2
      refine ⟨v, Ev.bind (prime_is p) ?_, by
        unfold InvS; rw [if_pos ⟨hp, h0⟩]
        refine ⟨hv0, hvp, ?_⟩
        rw [← hv1, Int.mul_emod v (a % p), Int.emod_emod, ← Int.mul_emod]⟩
      rw [hp]
      refine Ev.step (f := fun k => (prime_inverse.f k (a % p) p).bind fun t => some t) (fun k => ?_) (Ev.bind hv (Ev.now _))
      simp only [if_true]
      rw [rest_eq (by omega) (by omega)]
      simp only [Option.bind_some, prime_Inv.j0]
      rw [if_neg (by simpa using h0), rest_eq (by omega) (by omega)]; rfl

theorem ref_inv (a p : Int) : ∃ v, Ev (fun k => primroseref05_Inv.f k a p) v ∧ InvS a p v := by
  unfold primroseref05_Inv.f
  cases hp : isP p with
  | false =>
    refine ⟨0, Ev.bind (ref_is p) ?_, by unfold InvS; rw [if_neg (by simp [hp])]⟩
    rw [hp]
    exact Ev.now _
  | true =>
    have h := isP_true.mp hp
    have hb := prb_pos h
    have m := @mod_bd a p (by omega)
    by_cases h0 : a % p = 0
    · refine ⟨0, Ev.bind (ref_is p) ?_, by unfold InvS; rw [if_neg (by simp [h0])]⟩
      rw [hp]
      simp only [if_true]
      rw [Rest_eq (by omega) (by omega)]
      simp only [Option.bind_some, h0]
      exact Ev.now _
    · have hv := ref_pow a (p - 2) p (by omega)
      have e : powS a (p - 2) p = a ^ (p - 2).toNat % p := by unfold powS; rw [if_pos ⟨hp, by omega⟩]
      have mb := @mod_bd (a ^ (p - 2).toNat) p (by omega)
      refine ⟨a ^ (p - 2).toNat % p, Ev.bind (ref_is p) ?_, ?_⟩
      · rw [hp]
        simp only [if_true]
        rw [Rest_eq (by omega) (by omega), w64 (by omega) (by omega)]
        simp only [Option.bind_some, if_neg h0]
        rw [e] at hv
        exact Ev.bind hv (Ev.now _)
      · unfold InvS; rw [if_pos ⟨hp, h0⟩]
        refine ⟨mb.1, mb.2, ?_⟩
        rw [Int.mul_emod, Int.emod_emod, ← Int.mul_emod, ← Int.pow_succ]
        have e2 : (p - 2).toNat.succ = (p - 1).toNat := by omega
        rw [e2, ← pow_emod]
        refine fermat_int h m.1 fun hd => ?_
        have := Int.le_of_dvd (by omega) hd
        omega

end Go.Proofs.Ytmgjjdodjamomaa.Pure
