/- Limbs: what a list of limbs is worth, and the one plain list of each number; no conditions. -/
namespace Go.Proofs.Ytmgjjdodjamomaa.Limb

/-- the powers of the base -/
def pw : Nat → Nat
  | 0 => 1
  | k + 1 => 4294967296 * pw k

theorem pw_zero : pw 0 = 1 := rfl
theorem pw_succ (k : Nat) : pw (k + 1) = 4294967296 * pw k := rfl
theorem pw_pos : ∀ k, 0 < pw k
  | 0 => by rw [pw_zero]; omega
  | k + 1 => by have := pw_pos k; rw [pw_succ]; omega
theorem pw_add (m : Nat) : ∀ n, pw (m + n) = pw m * pw n
  | 0 => by rw [Nat.add_zero, pw_zero, Nat.mul_one]
  | n + 1 => by rw [← Nat.add_assoc, pw_succ, pw_add m n, pw_succ, Nat.mul_left_comm]
theorem pw_le {m n : Nat} (h : m ≤ n) : pw m ≤ pw n := by
  obtain ⟨d, rfl⟩ : ∃ d, n = m + d := ⟨n - m, by omega⟩
  rw [pw_add]
  exact Nat.le_mul_of_pos_right _ (pw_pos d)
theorem pw_lt {m n : Nat} (h : m < n) : pw m < pw n := by
  have h1 := pw_le (show m + 1 ≤ n from h)
  rw [pw_succ] at h1
  have := pw_pos m
  omega

/-- what a list of limbs is worth, the lowest first -/
def val : List Int → Nat
  | [] => 0
  | x :: l => x.toNat + 4294967296 * val l

/-- limbs are such -/
def Ok (l : List Int) : Prop := ∀ x ∈ l, 0 ≤ x ∧ x < 4294967296

theorem Ok.nil : Ok [] := by intro x hx; cases hx
theorem Ok.cons {x : Int} {l : List Int} (h0 : 0 ≤ x) (h1 : x < 4294967296) (h : Ok l) : Ok (x :: l) := by
  intro y hy; rcases List.mem_cons.mp hy with e | e; subst e; exact ⟨h0, h1⟩; exact h y e
theorem Ok.head {x : Int} {l : List Int} (h : Ok (x :: l)) : 0 ≤ x ∧ x < 4294967296 := h x (by simp)
theorem Ok.tail {x : Int} {l : List Int} (h : Ok (x :: l)) : Ok l := fun y hy => h y (by simp [hy])
theorem Ok.append {l m : List Int} (h : Ok l) (k : Ok m) : Ok (l ++ m) := by
  intro y hy; rcases List.mem_append.mp hy with e | e; exact h y e; exact k y e
theorem Ok.left {l m : List Int} (h : Ok (l ++ m)) : Ok l := fun y hy => h y (by simp [hy])
theorem Ok.right {l m : List Int} (h : Ok (l ++ m)) : Ok m := fun y hy => h y (by simp [hy])
theorem Ok.take {l : List Int} (h : Ok l) (n : Nat) : Ok (l.take n) := fun y hy => h y (List.mem_of_mem_take hy)
theorem Ok.drop {l : List Int} (h : Ok l) (n : Nat) : Ok (l.drop n) := fun y hy => h y (List.mem_of_mem_drop hy)
theorem Ok.set {l : List Int} (h : Ok l) (n : Nat) {x : Int} (h0 : 0 ≤ x) (h1 : x < 4294967296) : Ok (l.set n x) := by
  intro y hy; rcases List.mem_or_eq_of_mem_set hy with e | e; exact h y e; subst e; exact ⟨h0, h1⟩
theorem Ok.replicate (n : Nat) : Ok (List.replicate n 0) := by
  intro y hy; have := List.eq_of_mem_replicate hy; subst this; omega

theorem val_append : ∀ (l m : List Int), val (l ++ m) = val l + pw l.length * val m
  | [], m => by simp [val, pw_zero]
  | x :: l, m => by
    simp only [List.cons_append, val, val_append l m, List.length_cons, pw_succ]
    rw [Nat.mul_add, Nat.add_assoc, Nat.mul_assoc]

theorem val_lt : ∀ {l : List Int}, Ok l → val l < pw l.length
  | [], _ => by simp [val, pw_zero]
  | x :: l, h => by
    have h1 := val_lt h.tail
    have h2 := h.head
    simp only [val, List.length_cons, pw_succ]
    omega

theorem val_replicate : ∀ n, val (List.replicate n 0) = 0
  | 0 => rfl
  | n + 1 => by simp [List.replicate_succ, val, val_replicate n]

theorem val_zero : ∀ {l : List Int}, Ok l → val l = 0 → l = List.replicate l.length 0
  | [], _, _ => rfl
  | x :: l, h, hv => by
    simp only [val] at hv
    have h1 := h.head
    have : x = 0 := by omega
    subst this
    simp only [List.length_cons, List.replicate_succ]
    rw [← val_zero h.tail (by omega)]

/-- the plain list of a number -/
def dig (n : Nat) : List Int :=
  if h : n = 0 then [] else ((n % 4294967296 : Nat) : Int) :: dig (n / 4294967296)
termination_by n
decreasing_by omega

theorem dig_zero : dig 0 = [] := by rw [dig]; simp
theorem dig_pos {n : Nat} (h : n ≠ 0) : dig n = ((n % 4294967296 : Nat) : Int) :: dig (n / 4294967296) := by
  rw [dig]; simp [h]

theorem val_dig (n : Nat) : val (dig n) = n := by
  induction n using Nat.strongRecOn with
  | ind n ih =>
    by_cases h : n = 0
    · subst h; rw [dig_zero]; rfl
    · rw [dig_pos h, val, ih _ (by omega)]; omega

theorem ok_dig (n : Nat) : Ok (dig n) := by
  induction n using Nat.strongRecOn with
  | ind n ih =>
    by_cases h : n = 0
    · subst h; rw [dig_zero]; exact Ok.nil
    · rw [dig_pos h]; exact Ok.cons (by omega) (by omega) (ih _ (by omega))

/-- a list without a nought at its end -/
def Tr (l : List Int) : Prop := l.getLast? ≠ some 0

theorem Tr.nil : Tr [] := by simp [Tr]
theorem Tr.tail {x : Int} {l : List Int} (h : Tr (x :: l)) : Tr l := by
  cases l with
  | nil => exact Tr.nil
  | cons y l => simpa [Tr, List.getLast?_cons_cons] using h

theorem tr_dig (n : Nat) : Tr (dig n) := by
  induction n using Nat.strongRecOn with
  | ind n ih =>
    by_cases h : n = 0
    · subst h; rw [dig_zero]; exact Tr.nil
    · have h1 := ih (n / 4294967296) (by omega)
      rw [dig_pos h]
      by_cases h2 : n / 4294967296 = 0
      · rw [h2, dig_zero]; simp [Tr]; omega
      · rw [dig_pos h2] at h1 ⊢
        simpa [Tr, List.getLast?_cons_cons] using h1

theorem eq_dig : ∀ {l : List Int}, Ok l → Tr l → l = dig (val l)
  | [], _, _ => by simp [val, dig_zero]
  | x :: l, h, ht => by
    have h1 := eq_dig h.tail ht.tail
    have h2 := h.head
    by_cases h0 : val (x :: l) = 0
    · exfalso
      have := val_zero h h0
      rw [this] at ht
      simp [Tr, List.getLast?_replicate] at ht
    · rw [dig_pos h0]
      simp only [val]
      have e1 : (x.toNat + 4294967296 * val l) % 4294967296 = x.toNat := by omega
      have e2 : (x.toNat + 4294967296 * val l) / 4294967296 = val l := by omega
      rw [e1, e2, ← h1]
      congr 1
      omega

theorem dig_len_pos {n : Nat} : (dig n).length = 0 ↔ n = 0 := by
  constructor
  · intro h; have := val_dig n; rw [List.length_eq_zero_iff.mp h] at this; simpa [val] using this.symm
  · intro h; subst h; rw [dig_zero]; rfl

theorem dig_len_le {n k : Nat} (h : n < pw k) : (dig n).length ≤ k := by
  induction k generalizing n with
  | zero => have : n = 0 := by rw [pw_zero] at h; omega
            subst this; rw [dig_zero]; simp
  | succ k ih =>
    by_cases h0 : n = 0
    · subst h0; rw [dig_zero]; simp
    · rw [dig_pos h0, List.length_cons]
      have : n / 4294967296 < pw k := by
        rw [Nat.div_lt_iff_lt_mul (by omega)]; rwa [pw_succ, Nat.mul_comm] at h
      have := ih this; omega

theorem dig_len_ge {n k : Nat} (h : pw k ≤ n) : k < (dig n).length := by
  have h1 := val_lt (ok_dig n)
  rw [val_dig] at h1
  have h2 := Nat.lt_of_le_of_lt h h1
  refine Nat.lt_of_not_ge fun hc => ?_
  have := pw_le hc
  omega

/-- what has noughts at its end is worth what stands ahead of them -/
theorem val_take {l : List Int} {n : Nat} (h : ∀ x ∈ l.drop n, x = 0) : val (l.take n) = val l := by
  have e : val l = val (l.take n ++ l.drop n) := by rw [List.take_append_drop]
  rw [e, val_append]
  have : l.drop n = List.replicate (l.drop n).length 0 := by
    exact List.eq_replicate_of_mem h
  rw [this, val_replicate]; simp


theorem Ok.getD {l : List Int} (h : Ok l) (k : Nat) : 0 ≤ l.getD k 0 ∧ l.getD k 0 < 4294967296 := by
  by_cases hk : k < l.length
  · rw [List.getD_eq_getElem?_getD, List.getElem?_eq_getElem hk]; exact h _ (List.getElem_mem hk)
  · rw [List.getD_eq_getElem?_getD, List.getElem?_eq_none (by omega)]; simp

theorem val_split (l : List Int) (k : Nat) (hk : k ≤ l.length) : val l = val (l.take k) + pw k * val (l.drop k) := by
  have e : val l = val (l.take k ++ l.drop k) := by rw [List.take_append_drop]
  rw [e, val_append, List.length_take, Nat.min_eq_left hk]

theorem val_drop_succ : ∀ (l : List Int) (k : Nat), val (l.drop k) = (l.getD k 0).toNat + 4294967296 * val (l.drop (k + 1))
  | [], k => by simp [val]
  | x :: l, 0 => by simp [val]
  | x :: l, k + 1 => by simpa using val_drop_succ l k

theorem val_take_succ : ∀ (l : List Int) (k : Nat), val (l.take (k + 1)) = val (l.take k) + pw k * (l.getD k 0).toNat
  | [], k => by simp [val]
  | x :: l, 0 => by simp [val, pw_zero]
  | x :: l, k + 1 => by
    simp only [List.take_succ_cons, val, List.getD_cons_succ, val_take_succ l k, pw_succ]
    grind

theorem val_snoc (l : List Int) (x : Int) : val (l ++ [x]) = val l + pw l.length * x.toNat := by
  rw [val_append]; simp [val]

theorem val_set : ∀ (l : List Int) (n : Nat) (v : Int), n < l.length → val (l.set n v) + pw n * (l.getD n 0).toNat = val l + pw n * v.toNat
  | [], n, v, h => by simp at h
  | x :: l, 0, v, _ => by simp [val, pw_zero]; omega
  | x :: l, n + 1, v, h => by
    have := val_set l n v (by simpa using h)
    simp only [List.set_cons_succ, val, List.getD_cons_succ, pw_succ]
    grind

theorem val_nil_of {l : List Int} (h : l.length = 0) : val l = 0 := by rw [List.length_eq_zero_iff.mp h]; rfl

theorem val_drop_all (l : List Int) {k : Nat} (h : l.length ≤ k) : val (l.drop k) = 0 := by rw [List.drop_eq_nil_of_le h]; rfl

theorem val_take_all (l : List Int) {k : Nat} (h : l.length ≤ k) : val (l.take k) = val l := by rw [List.take_of_length_le h]

theorem dig_inj {n m : Nat} (h : dig n = dig m) : n = m := by rw [← val_dig n, h, val_dig]

theorem dig_eq_nil {n : Nat} : dig n = [] ↔ n = 0 := ⟨fun h => dig_len_pos.mp (by rw [h]; rfl), fun h => by rw [h, dig_zero]⟩

theorem take_dig {l : List Int} (h : Ok l) {n : Nat} (hn : 0 < n) (hl : n ≤ l.length) (hz : ∀ x ∈ l.drop n, x = 0) (hne : l.getD (n - 1) 0 ≠ 0) : l.take n = dig (val l) := by
  rw [← val_take hz]
  refine eq_dig (h.take n) ?_
  unfold Tr
  rw [List.getLast?_eq_getElem?, List.length_take, Nat.min_eq_left hl, List.getElem?_take_of_lt (by omega), List.getElem?_eq_getElem (by omega)]
  rw [List.getD_eq_getElem?_getD, List.getElem?_eq_getElem (by omega)] at hne
  simpa using hne

/-- the whole number of a sign and limbs -/
def zval (b : Bool) (l : List Int) : Int := if b = true then -(val l : Int) else (val l : Int)
/-- a whole number's sign and limbs -/
def sg (z : Int) : Bool := decide (z < 0)
def mg (z : Int) : List Int := dig z.natAbs

theorem mg_ok (z : Int) : Ok (mg z) := ok_dig _
theorem val_mg (z : Int) : val (mg z) = z.natAbs := val_dig _
theorem zval_of (z : Int) : zval (sg z) (mg z) = z := by
  unfold zval sg
  rw [val_mg]
  by_cases h : z < 0
  · rw [if_pos (by simpa using h)]; omega
  · rw [if_neg (by simpa using h)]; omega
theorem zval_natAbs (b : Bool) (l : List Int) : (zval b l).natAbs = val l := by
  unfold zval; split <;> omega
theorem mg_zval (b : Bool) (l : List Int) : mg (zval b l) = dig (val l) := by unfold mg; rw [zval_natAbs]
theorem sg_zval (b : Bool) (l : List Int) : sg (zval b l) = (b && decide (val l ≠ 0)) := by
  unfold zval sg
  cases b with
  | true => simp only [if_true, Bool.true_and]; congr 1; exact propext (by omega)
  | false => simp only [Bool.false_eq_true, if_false, Bool.false_and, decide_eq_false_iff_not]; omega

end Go.Proofs.Ytmgjjdodjamomaa.Limb
