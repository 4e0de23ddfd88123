/- Plain number theory: primes, Euclid's lemma, Fermat's little theorem, over Nat and Int. -/
namespace Go.Proofs.Ytmgjjdodjamomaa.Num

def Pr (p : Nat) : Prop := 2 ≤ p ∧ ∀ d, d ∣ p → d = 1 ∨ d = p

theorem Pr.two_le {p : Nat} (h : Pr p) : 2 ≤ p := h.1

theorem Pr.coprime {p a : Nat} (h : Pr p) (ha : ¬ p ∣ a) : Nat.Coprime p a := by
  rcases h.2 _ (Nat.gcd_dvd_left p a) with e | e
  · exact e
  · exact absurd (e ▸ Nat.gcd_dvd_right p a) ha

theorem Pr.dvd_mul {p a b : Nat} (h : Pr p) (hd : p ∣ a * b) : p ∣ a ∨ p ∣ b := by
  by_cases ha : p ∣ a
  · exact Or.inl ha
  · exact Or.inr ((h.coprime ha).dvd_of_dvd_mul_left hd)

theorem Pr.dvd_pow {p a : Nat} (h : Pr p) : ∀ n, p ∣ a ^ n → p ∣ a := by
  intro n
  induction n with
  | zero => intro hd; have := h.1; have := Nat.le_of_dvd (by simp) hd; simp at this; omega
  | succ n ih => intro hd; rw [Nat.pow_succ] at hd; rcases h.dvd_mul hd with e | e; exact ih e; exact e

/-- a number without a divisor up to its root is a prime -/
theorem pr_of_no_small {n : Nat} (h2 : 2 ≤ n) (h : ∀ d, 2 ≤ d → d * d ≤ n → ¬ d ∣ n) : Pr n := by
  refine ⟨h2, fun d hd => ?_⟩
  obtain ⟨c, rfl⟩ := hd
  have hd0 : d ≠ 0 := by intro e; subst e; simp at h2
  have hc0 : c ≠ 0 := by intro e; subst e; simp at h2
  by_cases hd1 : d = 1
  · exact Or.inl hd1
  by_cases hc1 : c = 1
  · subst hc1; right; simp
  exfalso
  rcases Nat.le_total d c with e | e
  · exact h d (by omega) (Nat.mul_le_mul_left d e) ⟨c, rfl⟩
  · exact h c (by omega) (Nat.mul_le_mul_right c e) ⟨d, Nat.mul_comm _ _⟩

theorem Pr.no_small {n : Nat} (h : Pr n) : ∀ d, 2 ≤ d → d * d ≤ n → ¬ d ∣ n := by
  intro d h2 hm hd
  rcases h.2 d hd with e | e
  · omega
  · subst e
    have := Nat.mul_le_mul_left d h2
    omega

/-- lists without repeats, of equal length, one within the other -/
theorem perm_of_sub : ∀ (l m : List Nat), l.Nodup → (∀ x ∈ l, x ∈ m) → m.length = l.length → m.Perm l
  | [], m, _, _, hl => by
    have : m = [] := List.length_eq_zero_iff.mp (by simpa using hl)
    subst this; exact List.Perm.refl _
  | a :: l, m, hn, hs, hl => by
    have ham : a ∈ m := hs a (by simp)
    have h1 : m.Perm (a :: m.erase a) := List.perm_cons_erase ham
    have hn' := List.nodup_cons.mp hn
    have hlen : (m.erase a).length = l.length := by
      have := h1.length_eq
      simp at this hl; omega
    have h2 := perm_of_sub l (m.erase a) hn'.2 (fun x hx => by
      have hne : x ≠ a := by intro e; subst e; exact hn'.1 hx
      exact (List.mem_erase_of_ne hne).mpr (hs x (by simp [hx]))) hlen
    exact h1.trans (List.Perm.cons a h2)

def prodL : List Nat → Nat
  | [] => 1
  | a :: l => a * prodL l

theorem prodL_perm {l m : List Nat} (h : l.Perm m) : prodL l = prodL m := by
  induction h with
  | nil => rfl
  | cons x _ ih => simp [prodL, ih]
  | swap x y l => simp [prodL, Nat.mul_left_comm]
  | trans _ _ h1 h2 => exact h1.trans h2

theorem prodL_map_mod (a p : Nat) : ∀ l : List Nat, prodL (l.map fun i => a * i % p) % p = (a ^ l.length * prodL l) % p
  | [] => by simp [prodL]
  | i :: l => by
    simp only [List.map_cons, prodL, List.length_cons]
    rw [Nat.mul_mod, prodL_map_mod a p l, Nat.mod_mod, ← Nat.mul_mod]
    congr 1
    rw [Nat.pow_succ]
    simp only [Nat.mul_assoc, Nat.mul_left_comm, Nat.mul_comm]

theorem Pr.prodL_not {p : Nat} (h : Pr p) : ∀ l : List Nat, (∀ x ∈ l, ¬ p ∣ x) → ¬ p ∣ prodL l
  | [], _ => by
    intro hd; have := Nat.le_of_dvd (by simp [prodL]) hd; have := h.1; simp [prodL] at *; omega
  | a :: l, hl => by
    intro hd
    rcases h.dvd_mul hd with e | e
    · exact hl a (by simp) e
    · exact h.prodL_not l (fun x hx => hl x (by simp [hx])) e

theorem mod_eq_of_dvd_sub {p a b : Nat} (h : b ≤ a) (hd : p ∣ a - b) : a % p = b % p := by
  obtain ⟨c, hc⟩ := hd
  have : a = b + p * c := by omega
  rw [this, Nat.add_mul_mod_self_left]

theorem dvd_sub_of_mod {p a b : Nat} (hab : a % p = b % p) : p ∣ a - b :=
  Nat.dvd_of_mod_eq_zero (Nat.sub_mod_eq_zero_of_mod_eq hab)

theorem Pr.cancel {p a x y : Nat} (h : Pr p) (ha : ¬ p ∣ a) (he : a * x % p = a * y % p) : x % p = y % p := by
  have key : ∀ x y : Nat, y ≤ x → a * x % p = a * y % p → x % p = y % p := by
    intro x y hle he
    have h1 := dvd_sub_of_mod he
    rw [← Nat.mul_sub] at h1
    rcases h.dvd_mul h1 with e | e
    · exact absurd e ha
    · exact mod_eq_of_dvd_sub hle e
  rcases Nat.le_total y x with e | e
  · exact key x y e he
  · exact (key y x e he.symm).symm

theorem nodup_map_of {α β : Type} (f : α → β) : ∀ l : List α, l.Nodup → (∀ x ∈ l, ∀ y ∈ l, f x = f y → x = y) → (l.map f).Nodup
  | [], _, _ => by simp
  | a :: l, hn, hi => by
    have hn' := List.nodup_cons.mp hn
    rw [List.map_cons, List.nodup_cons]
    refine ⟨fun hm => ?_, nodup_map_of f l hn'.2 fun x hx y hy => hi x (by simp [hx]) y (by simp [hy])⟩
    obtain ⟨b, hb, e⟩ := List.mem_map.mp hm
    have := hi b (by simp [hb]) a (by simp) e
    subst this; exact hn'.1 hb

theorem Pr.fermat {p a : Nat} (h : Pr p) (ha : ¬ p ∣ a) : a ^ (p - 1) % p = 1 % p := by
  have hp := h.1
  let l := List.range' 1 (p - 1)
  have hmem : ∀ x ∈ l, ¬ p ∣ x := by
    intro x hx hd
    have := List.mem_range'_1.mp hx
    have := Nat.le_of_dvd (by omega) hd
    omega
  have hm : ∀ x ∈ l, 1 ≤ x ∧ x < p := by
    intro x hx; have := List.mem_range'_1.mp hx; omega
  have hnod : l.Nodup := List.nodup_range'
  have hlen : l.length = p - 1 := List.length_range'
  have hP : l.Perm (l.map fun i => a * i % p) := by
    refine perm_of_sub _ _ (nodup_map_of _ _ hnod ?_) ?_ (by simp)
    · intro x hx y hy he
      have := h.cancel ha he
      rw [Nat.mod_eq_of_lt (hm x hx).2, Nat.mod_eq_of_lt (hm y hy).2] at this
      exact this
    · intro x hx
      obtain ⟨i, hi, rfl⟩ := List.mem_map.mp hx
      have hlt : a * i % p < p := Nat.mod_lt _ (by omega)
      have hne : a * i % p ≠ 0 := by
        intro e
        rcases h.dvd_mul (Nat.dvd_of_mod_eq_zero e) with e | e
        · exact ha e
        · exact hmem i hi e
      exact List.mem_range'_1.mpr (by omega)
  have e1 := prodL_map_mod a p l
  rw [← prodL_perm hP, hlen] at e1
  have := h.cancel (a := prodL l) (x := 1) (y := a ^ (p - 1)) (h.prodL_not l hmem) (by rw [Nat.mul_one, e1, Nat.mul_comm])
  exact this.symm

theorem Pr.fermat' {p : Nat} (h : Pr p) (a : Nat) : a ^ p % p = a % p := by
  have hp := h.1
  obtain ⟨q, rfl⟩ : ∃ q, p = q + 1 := ⟨p - 1, by omega⟩
  by_cases ha : (q + 1) ∣ a
  · have h1 : (q + 1) ∣ a ^ (q + 1) := by rw [Nat.pow_succ]; exact Nat.dvd_mul_left_of_dvd ha _
    rw [Nat.mod_eq_zero_of_dvd ha, Nat.mod_eq_zero_of_dvd h1]
  · have := h.fermat ha
    simp only [Nat.add_sub_cancel] at this
    rw [Nat.pow_succ, Nat.mul_mod, this, ← Nat.mul_mod, Nat.one_mul]

/-- what stands at the head of each round of Euclid's way -/
structure EucInv (p a r s x y : Int) : Prop where
  r0 : 0 < r
  s0 : 0 ≤ s
  sr : s < r
  rp : r ≤ p
  dv : ∀ d, d ∣ r → d ∣ s → d ∣ p ∧ d ∣ a
  cx : p ∣ x * a - r
  cy : p ∣ y * a - s
  sg : (x ≤ 0 ∧ 0 ≤ y ∧ r * y - s * x = p) ∨ (0 ≤ x ∧ y ≤ 0 ∧ s * x - r * y = p)
  bx : -p ≤ x ∧ x ≤ p
  by' : -p ≤ y ∧ y ≤ p

theorem EucInv.start {p a : Int} (ha : 0 < a) (hp : a < p) : EucInv p a p a 0 1 where
  r0 := by omega
  s0 := by omega
  sr := hp
  rp := by omega
  dv := fun d h1 h2 => ⟨h1, h2⟩
  cx := by simp
  cy := by simp
  sg := by left; simp
  bx := by omega
  by' := by omega

theorem EucInv.q_bounds {p a r s x y : Int} (h : EucInv p a r s x y) (hs : s ≠ 0) : 1 ≤ r / s ∧ r / s ≤ r := by
  have := h.s0; have := h.sr; have := h.r0
  constructor
  · exact (Int.le_ediv_iff_mul_le (by omega)).mpr (by omega)
  · exact Int.ediv_le_self s (by omega)

theorem EucInv.qs_bounds {p a r s x y : Int} (h : EucInv p a r s x y) (hs : s ≠ 0) : 0 ≤ r / s * s ∧ r / s * s ≤ r := by
  have := h.s0; have := h.sr; have := h.r0
  have h1 := Int.ediv_mul_add_emod r s
  have h2 := Int.emod_nonneg r hs
  have h3 := Int.emod_lt_of_pos r (show 0 < s by omega)
  constructor
  · exact Int.mul_nonneg (by have := h.q_bounds hs; omega) (by omega)
  · omega

theorem EucInv.abs_next {p a r s x y : Int} (h : EucInv p a r s x y) (hs : s ≠ 0) :
    (-p ≤ r / s * y ∧ r / s * y ≤ p) ∧ (-p ≤ x - r / s * y ∧ x - r / s * y ≤ p) := by
  have h0 := h.s0; have hsr := h.sr; have hr := h.r0
  have hq := h.q_bounds hs
  generalize hqe : r / s = q at *
  have h1 : r = q * s + r % s := by have := Int.ediv_mul_add_emod r s; rw [hqe] at this; omega
  have h2 := Int.emod_nonneg r hs
  generalize r % s = t at *
  rcases h.sg with ⟨hx, hy, e⟩ | ⟨hx, hy, e⟩
  · have a1 : 0 ≤ q * y := Int.mul_nonneg (by omega) hy
    have a2 : r * y = s * (q * y) + t * y := by rw [h1, Int.add_mul]; congr 1; simp only [Int.mul_comm, Int.mul_left_comm]
    have a3 : 0 ≤ t * y := Int.mul_nonneg h2 hy
    have a4 : s * (q * y - x) ≤ p := by rw [Int.mul_sub]; omega
    have a5 : 0 ≤ q * y - x := by omega
    have a6 : 1 * (q * y - x) ≤ s * (q * y - x) := Int.mul_le_mul_of_nonneg_right (by omega) a5
    omega
  · have a1 : q * y ≤ 0 := Int.mul_nonpos_of_nonneg_of_nonpos (by omega) hy
    have a2 : r * y = s * (q * y) + t * y := by rw [h1, Int.add_mul]; congr 1; simp only [Int.mul_comm, Int.mul_left_comm]
    have a3 : t * y ≤ 0 := Int.mul_nonpos_of_nonneg_of_nonpos h2 hy
    have a4 : s * (x - q * y) ≤ p := by rw [Int.mul_sub]; omega
    have a5 : 0 ≤ x - q * y := by omega
    have a6 : 1 * (x - q * y) ≤ s * (x - q * y) := Int.mul_le_mul_of_nonneg_right (by omega) a5
    omega

theorem EucInv.step {p a r s x y : Int} (h : EucInv p a r s x y) (hs : s ≠ 0) : EucInv p a s (r - r / s * s) y (x - r / s * y) := by
  have h0 := h.s0; have hsr := h.sr; have hr := h.r0; have hrp := h.rp
  have hb := h.abs_next hs
  have h1 : r - r / s * s = r % s := by have := Int.ediv_mul_add_emod r s; omega
  have h2 := Int.emod_nonneg r hs
  have h3 := Int.emod_lt_of_pos r (show 0 < s by omega)
  refine ⟨by omega, by omega, by omega, by omega, ?_, h.cy, ?_, ?_, h.by', hb.2⟩
  · intro d d1 d2
    have d3 : d ∣ r := by
      have : r = (r - r / s * s) + r / s * s := by omega
      rw [this]; exact Int.dvd_add d2 (Int.dvd_mul_of_dvd_right d1)
    exact h.dv d d3 d1
  · have : (x - r / s * y) * a - (r - r / s * s) = (x * a - r) - r / s * (y * a - s) := by
      rw [Int.sub_mul, Int.mul_sub, Int.mul_assoc]; omega
    rw [this]; exact Int.dvd_sub h.cx (Int.dvd_mul_of_dvd_right h.cy)
  · generalize hqe : r / s = q at *
    have e1 : s * (x - q * y) = s * x - q * (s * y) := by rw [Int.mul_sub]; congr 1; simp only [Int.mul_left_comm]
    have e2 : (r - q * s) * y = r * y - q * (s * y) := by rw [Int.sub_mul, Int.mul_assoc]
    have hq := h.q_bounds hs
    rw [hqe] at hq
    rcases h.sg with ⟨hx, hy, e⟩ | ⟨hx, hy, e⟩
    · right
      have : 0 ≤ q * y := Int.mul_nonneg (by omega) hy
      refine ⟨hy, by omega, ?_⟩
      rw [e1, e2]; omega
    · left
      have : q * y ≤ 0 := Int.mul_nonpos_of_nonneg_of_nonpos (by omega) hy
      refine ⟨hy, by omega, ?_⟩
      rw [e1, e2]; omega

/-- where the second is 0 the first is the greatest common divisor: 1 -/
theorem EucInv.done {p a r x y : Int} (h : EucInv p a r 0 x y) (hpr : ∀ d : Int, 0 < d → d ∣ p → d ∣ a → d = 1) : r = 1 ∧ p ∣ x * a - 1 := by
  have := h.dv r ⟨1, by omega⟩ (Int.dvd_zero r)
  have e := hpr r h.r0 this.1 this.2
  subst e
  exact ⟨rfl, h.cx⟩
end Go.Proofs.Ytmgjjdodjamomaa.Num
