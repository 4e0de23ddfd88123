/- The plain laws: what the functions answer, over numbers and lists alone; conditions: as each says. -/
import Derived.Test.YtmgjjdodjamomaaFW
import Derived.Test.YtmgjjdodjamomaaFx0
import Derived.Test.YtmgjjdodjamomaaFx1
import Derived.Test.YtmgjjdodjamomaaFx10
import Derived.Test.YtmgjjdodjamomaaFx11
import Derived.Test.YtmgjjdodjamomaaFx13
import Derived.Test.YtmgjjdodjamomaaFx16
import Derived.Test.YtmgjjdodjamomaaFx17
import Derived.Test.YtmgjjdodjamomaaFx19
import Derived.Test.YtmgjjdodjamomaaFx2
import Derived.Test.YtmgjjdodjamomaaFx20
import Derived.Test.YtmgjjdodjamomaaFx21
import Derived.Test.YtmgjjdodjamomaaFx24
import Derived.Test.YtmgjjdodjamomaaFx25
import Derived.Test.YtmgjjdodjamomaaFx26
import Derived.Test.YtmgjjdodjamomaaFx27
import Derived.Test.YtmgjjdodjamomaaFx28
import Derived.Test.YtmgjjdodjamomaaFx29
import Derived.Test.YtmgjjdodjamomaaFx3
import Derived.Test.YtmgjjdodjamomaaFx30
import Derived.Test.YtmgjjdodjamomaaFx31
import Derived.Test.YtmgjjdodjamomaaFx32
import Derived.Test.YtmgjjdodjamomaaFx33
import Derived.Test.YtmgjjdodjamomaaFx34
import Derived.Test.YtmgjjdodjamomaaFx36
import Derived.Test.YtmgjjdodjamomaaFx37
import Derived.Test.YtmgjjdodjamomaaFx4
import Derived.Test.YtmgjjdodjamomaaFx7
import Derived.Test.YtmgjjdodjamomaaFx8
import Derived.Lib.BitFns
section
namespace Go.Proofs.Ytmgjjdodjamomaa.Limb
/-- the powers of the base -/
def pw : Nat → Nat
  | 0 => 1
  | k + 1 => 4294967296 * pw k
theorem pw_zero : pw 0 = 1 := rfl
theorem pw_succ (k : Nat) : pw (k + 1) = 4294967296 * pw k := rfl
theorem pw_pos : ∀ k, 0 < pw k
  | 0 => by rw [pw_zero]; omega
  | k + 1 => by have := pw_pos k; rw [pw_succ]; omega
theorem pw_add (m : Nat) : ∀ n, pw (m + n) = pw m * pw n
  | 0 => by rw [Nat.add_zero, pw_zero, Nat.mul_one]
  | n + 1 => by rw [← Nat.add_assoc, pw_succ, pw_add m n, pw_succ, Nat.mul_left_comm]
theorem pw_le {m n : Nat} (h : m ≤ n) : pw m ≤ pw n := by
  obtain ⟨d, rfl⟩ : ∃ d, n = m + d := ⟨n - m, by omega⟩
  rw [pw_add]
  exact Nat.le_mul_of_pos_right _ (pw_pos d)
/-- what a list of limbs is worth, the lowest first -/
def val : List Int → Nat
  | [] => 0
  | x :: l => x.toNat + 4294967296 * val l
/-- limbs are such -/
def Ok (l : List Int) : Prop := ∀ x ∈ l, 0 ≤ x ∧ x < 4294967296
theorem Ok.nil : Ok [] := by intro x hx; cases hx
theorem Ok.cons {x : Int} {l : List Int} (h0 : 0 ≤ x) (h1 : x < 4294967296) (h : Ok l) : Ok (x :: l) := by
  intro y hy; rcases List.mem_cons.mp hy with e | e; subst e; exact ⟨h0, h1⟩; exact h y e
theorem Ok.head {x : Int} {l : List Int} (h : Ok (x :: l)) : 0 ≤ x ∧ x < 4294967296 := h x (by simp)
theorem Ok.tail {x : Int} {l : List Int} (h : Ok (x :: l)) : Ok l := fun y hy => h y (by simp [hy])
theorem Ok.append {l m : List Int} (h : Ok l) (k : Ok m) : Ok (l ++ m) := by
  intro y hy; rcases List.mem_append.mp hy with e | e; exact h y e; exact k y e
theorem Ok.take {l : List Int} (h : Ok l) (n : Nat) : Ok (l.take n) := fun y hy => h y (List.mem_of_mem_take hy)
theorem Ok.drop {l : List Int} (h : Ok l) (n : Nat) : Ok (l.drop n) := fun y hy => h y (List.mem_of_mem_drop hy)
theorem Ok.set {l : List Int} (h : Ok l) (n : Nat) {x : Int} (h0 : 0 ≤ x) (h1 : x < 4294967296) : Ok (l.set n x) := by
  intro y hy; rcases List.mem_or_eq_of_mem_set hy with e | e; exact h y e; subst e; exact ⟨h0, h1⟩
theorem Ok.replicate (n : Nat) : Ok (List.replicate n 0) := by
  intro y hy; have := List.eq_of_mem_replicate hy; subst this; omega
theorem val_append : ∀ (l m : List Int), val (l ++ m) = val l + pw l.length * val m
  | [], m => by simp [val, pw_zero]
  | x :: l, m => by
    simp only [List.cons_append, val, val_append l m, List.length_cons, pw_succ]
    rw [Nat.mul_add, Nat.add_assoc, Nat.mul_assoc]
theorem val_lt : ∀ {l : List Int}, Ok l → val l < pw l.length
  | [], _ => by simp [val, pw_zero]
  | x :: l, h => by
    have h1 := val_lt h.tail
    have h2 := h.head
    simp only [val, List.length_cons, pw_succ]
    omega
theorem val_replicate : ∀ n, val (List.replicate n 0) = 0
  | 0 => rfl
  | n + 1 => by simp [List.replicate_succ, val, val_replicate n]
theorem val_zero : ∀ {l : List Int}, Ok l → val l = 0 → l = List.replicate l.length 0
  | [], _, _ => rfl
  | x :: l, h, hv => by
    simp only [val] at hv
    have h1 := h.head
    have : x = 0 := by omega
    subst this
    simp only [List.length_cons, List.replicate_succ]
    rw [← val_zero h.tail (by omega)]
/-- the plain list of a number -/
def dig (n : Nat) : List Int :=
  if h : n = 0 then [] else ((n % 4294967296 : Nat) : Int) :: dig (n / 4294967296)
termination_by n
decreasing_by omega
theorem dig_zero : dig 0 = [] := by rw [dig]; simp
theorem dig_pos {n : Nat} (h : n ≠ 0) : dig n = ((n % 4294967296 : Nat) : Int) :: dig (n / 4294967296) := by
  rw [dig]; simp [h]
theorem val_dig (n : Nat) : val (dig n) = n := by
  induction n using Nat.strongRecOn with
  | ind n ih =>
    by_cases h : n = 0
    · subst h; rw [dig_zero]; rfl
    · rw [dig_pos h, val, ih _ (by omega)]; omega
theorem ok_dig (n : Nat) : Ok (dig n) := by
  induction n using Nat.strongRecOn with
  | ind n ih =>
    by_cases h : n = 0
    · subst h; rw [dig_zero]; exact Ok.nil
    · rw [dig_pos h]; exact Ok.cons (by omega) (by omega) (ih _ (by omega))
/-- a list without a nought at its end -/
def Tr (l : List Int) : Prop := l.getLast? ≠ some 0
theorem Tr.nil : Tr [] := by simp [Tr]
theorem Tr.tail {x : Int} {l : List Int} (h : Tr (x :: l)) : Tr l := by
  cases l with
  | nil => exact Tr.nil
  | cons y l => simpa [Tr, List.getLast?_cons_cons] using h
theorem tr_dig (n : Nat) : Tr (dig n) := by
  induction n using Nat.strongRecOn with
  | ind n ih =>
    by_cases h : n = 0
    · subst h; rw [dig_zero]; exact Tr.nil
    · have h1 := ih (n / 4294967296) (by omega)
      rw [dig_pos h]
      by_cases h2 : n / 4294967296 = 0
      · rw [h2, dig_zero]; simp [Tr]; omega
      · rw [dig_pos h2] at h1 ⊢
        simpa [Tr, List.getLast?_cons_cons] using h1
theorem eq_dig : ∀ {l : List Int}, Ok l → Tr l → l = dig (val l)
  | [], _, _ => by simp [val, dig_zero]
  | x :: l, h, ht => by
    have h1 := eq_dig h.tail ht.tail
    have h2 := h.head
    by_cases h0 : val (x :: l) = 0
    · exfalso
      have := val_zero h h0
      rw [this] at ht
      simp [Tr, List.getLast?_replicate] at ht
    · rw [dig_pos h0]
      simp only [val]
      have e1 : (x.toNat + 4294967296 * val l) % 4294967296 = x.toNat := by omega
      have e2 : (x.toNat + 4294967296 * val l) / 4294967296 = val l := by omega
      rw [e1, e2, ← h1]
      congr 1
      omega
theorem dig_len_pos {n : Nat} : (dig n).length = 0 ↔ n = 0 := by
  constructor
  · intro h; have := val_dig n; rw [List.length_eq_zero_iff.mp h] at this; simpa [val] using this.symm
  · intro h; subst h; rw [dig_zero]; rfl
theorem dig_len_le {n k : Nat} (h : n < pw k) : (dig n).length ≤ k := by
  induction k generalizing n with
  | zero => have : n = 0 := by rw [pw_zero] at h; omega
            subst this; rw [dig_zero]; simp
  | succ k ih =>
    by_cases h0 : n = 0
    · subst h0; rw [dig_zero]; simp
    · rw [dig_pos h0, List.length_cons]
      have : n / 4294967296 < pw k := by
        rw [Nat.div_lt_iff_lt_mul (by omega)]; rwa [pw_succ, Nat.mul_comm] at h
      have := ih this; omega
theorem dig_len_ge {n k : Nat} (h : pw k ≤ n) : k < (dig n).length := by
  have h1 := val_lt (ok_dig n)
  rw [val_dig] at h1
  have h2 := Nat.lt_of_le_of_lt h h1
  refine Nat.lt_of_not_ge fun hc => ?_
  have := pw_le hc
  omega
/-- what has noughts at its end is worth what stands ahead of them -/
theorem val_take {l : List Int} {n : Nat} (h : ∀ x ∈ l.drop n, x = 0) : val (l.take n) = val l := by
  have e : val l = val (l.take n ++ l.drop n) := by rw [List.take_append_drop]
  rw [e, val_append]
  have : l.drop n = List.replicate (l.drop n).length 0 := by
    exact List.eq_replicate_of_mem h
  rw [this, val_replicate]; simp
theorem Ok.getD {l : List Int} (h : Ok l) (k : Nat) : 0 ≤ l.getD k 0 ∧ l.getD k 0 < 4294967296 := by
  by_cases hk : k < l.length
  · rw [List.getD_eq_getElem?_getD, List.getElem?_eq_getElem hk]; exact h _ (List.getElem_mem hk)
  · rw [List.getD_eq_getElem?_getD, List.getElem?_eq_none (by omega)]; simp
theorem val_split (l : List Int) (k : Nat) (hk : k ≤ l.length) : val l = val (l.take k) + pw k * val (l.drop k) := by
  have e : val l = val (l.take k ++ l.drop k) := by rw [List.take_append_drop]
  rw [e, val_append, List.length_take, Nat.min_eq_left hk]
theorem val_drop_succ : ∀ (l : List Int) (k : Nat), val (l.drop k) = (l.getD k 0).toNat + 4294967296 * val (l.drop (k + 1))
  | [], k => by simp [val]
  | x :: l, 0 => by simp [val]
  | x :: l, k + 1 => by simpa using val_drop_succ l k
theorem val_take_succ : ∀ (l : List Int) (k : Nat), val (l.take (k + 1)) = val (l.take k) + pw k * (l.getD k 0).toNat
  | [], k => by simp [val]
  | x :: l, 0 => by simp [val, pw_zero]
  | x :: l, k + 1 => by
    simp only [List.take_succ_cons, val, List.getD_cons_succ, val_take_succ l k, pw_succ]
    grind
theorem val_set : ∀ (l : List Int) (n : Nat) (v : Int), n < l.length → val (l.set n v) + pw n * (l.getD n 0).toNat = val l + pw n * v.toNat
  | [], n, v, h => by simp at h
  | x :: l, 0, v, _ => by simp [val, pw_zero]; omega
  | x :: l, n + 1, v, h => by
    have := val_set l n v (by simpa using h)
    simp only [List.set_cons_succ, val, List.getD_cons_succ, pw_succ]
    grind
theorem val_drop_all (l : List Int) {k : Nat} (h : l.length ≤ k) : val (l.drop k) = 0 := by rw [List.drop_eq_nil_of_le h]; rfl
theorem val_take_all (l : List Int) {k : Nat} (h : l.length ≤ k) : val (l.take k) = val l := by rw [List.take_of_length_le h]
theorem take_dig {l : List Int} (h : Ok l) {n : Nat} (hn : 0 < n) (hl : n ≤ l.length) (hz : ∀ x ∈ l.drop n, x = 0) (hne : l.getD (n - 1) 0 ≠ 0) : l.take n = dig (val l) := by
  rw [← val_take hz]
  refine eq_dig (h.take n) ?_
  unfold Tr
  rw [List.getLast?_eq_getElem?, List.length_take, Nat.min_eq_left hl, List.getElem?_take_of_lt (by omega), List.getElem?_eq_getElem (by omega)]
  rw [List.getD_eq_getElem?_getD, List.getElem?_eq_getElem (by omega)] at hne
  simpa using hne
/-- the whole number of a sign and limbs -/
def zval (b : Bool) (l : List Int) : Int := if b = true then -(val l : Int) else (val l : Int)
/-- a whole number's sign and limbs -/
def sg (z : Int) : Bool := decide (z < 0)
def mg (z : Int) : List Int := dig z.natAbs
theorem mg_ok (z : Int) : Ok (mg z) := ok_dig _
theorem val_mg (z : Int) : val (mg z) = z.natAbs := val_dig _
theorem zval_of (z : Int) : zval (sg z) (mg z) = z := by
  unfold zval sg
  rw [val_mg]
  by_cases h : z < 0
  · rw [if_pos (by simpa using h)]; omega
  · rw [if_neg (by simpa using h)]; omega
theorem zval_natAbs (b : Bool) (l : List Int) : (zval b l).natAbs = val l := by
  unfold zval; split <;> omega
theorem mg_zval (b : Bool) (l : List Int) : mg (zval b l) = dig (val l) := by unfold mg; rw [zval_natAbs]
theorem sg_zval (b : Bool) (l : List Int) : sg (zval b l) = (b && decide (val l ≠ 0)) := by
  unfold zval sg
  cases b with
  | true => simp only [if_true, Bool.true_and]; congr 1; exact propext (by omega)
  | false => simp only [Bool.false_eq_true, if_false, Bool.false_and, decide_eq_false_iff_not]; omega
end Go.Proofs.Ytmgjjdodjamomaa.Limb
end
section
namespace Go.Proofs.Ytmgjjdodjamomaa.Limb
/-- how many binary digits there are -/
def bl (n : Nat) : Nat := if h : n = 0 then 0 else bl (n / 2) + 1
termination_by n
decreasing_by omega
theorem bl_zero : bl 0 = 0 := by rw [bl]; simp
theorem bl_pos {n : Nat} (h : n ≠ 0) : bl n = bl (n / 2) + 1 := by rw [bl]; simp [h]
theorem bl_eq_zero {n : Nat} : bl n = 0 ↔ n = 0 := by
  constructor
  · intro h
    refine Classical.byContradiction fun hc => ?_
    rw [bl_pos hc] at h; omega
  · intro h; subst h; exact bl_zero
theorem bl_one {n : Nat} : bl n = 1 ↔ n = 1 := by
  constructor
  · intro h
    have h0 : n ≠ 0 := by intro e; subst e; rw [bl_zero] at h; omega
    rw [bl_pos h0] at h
    have := bl_eq_zero.mp (show bl (n / 2) = 0 by omega)
    omega
  · intro h; subst h; rw [bl_pos (by omega)]; simp [bl_zero]
theorem bl_shift (k : Nat) : ∀ n, 2 ^ k ≤ n → bl n = k + bl (n / 2 ^ k) := by
  induction k with
  | zero => intro n _; simp
  | succ k ih =>
    intro n h
    rw [Nat.pow_succ] at h
    have hp : 0 < 2 ^ k := Nat.pow_pos (by omega)
    have h1 : 2 ^ k ≤ n / 2 := by rw [Nat.le_div_iff_mul_le (by omega)]; omega
    rw [bl_pos (by omega), ih _ h1, Nat.div_div_eq_div_mul, Nat.pow_succ, Nat.mul_comm 2]
    omega
theorem lt_bl (n : Nat) : n < 2 ^ bl n := by
  induction n using Nat.strongRecOn with
  | ind n ih =>
    by_cases h : n = 0
    · subst h; rw [bl_zero]; simp
    · have := ih (n / 2) (by omega)
      rw [bl_pos h, Nat.pow_succ]; omega
theorem bl_le {k : Nat} : ∀ {n : Nat}, n < 2 ^ k → bl n ≤ k := by
  induction k with
  | zero => intro n h; have : n = 0 := by simpa using h
            subst this; rw [bl_zero]; omega
  | succ k ih =>
    intro n h
    by_cases h0 : n = 0
    · subst h0; rw [bl_zero]; omega
    · rw [Nat.pow_succ] at h
      have := ih (n := n / 2) (by omega)
      rw [bl_pos h0]; omega
theorem pw_two : ∀ k, pw k = 2 ^ (32 * k)
  | 0 => by rw [pw_zero]
  | k + 1 => by rw [pw_succ, pw_two k, show 32 * (k + 1) = 32 + 32 * k by omega, Nat.pow_add]
/-- a plain list's digits are those of its highest limb and 32 for each other -/
theorem bl_val {l : List Int} (h : Ok l) (hn : l.length ≠ 0) (ht : l.getD (l.length - 1) 0 ≠ 0) : bl (val l) = 32 * (l.length - 1) + bl (l.getD (l.length - 1) 0).toNat := by
  have h1 := val_take_succ l (l.length - 1)
  rw [show l.length - 1 + 1 = l.length by omega, val_take_all l (Nat.le_refl _)] at h1
  have h2 : val (l.take (l.length - 1)) < pw (l.length - 1) := by
    have := val_lt (h.take (l.length - 1))
    rwa [List.length_take, Nat.min_eq_left (by omega)] at this
  have h3 := h.getD (l.length - 1)
  have hp := pw_pos (l.length - 1)
  have h4 : pw (l.length - 1) * 1 ≤ pw (l.length - 1) * (l.getD (l.length - 1) 0).toNat := Nat.mul_le_mul_left _ (by omega)
  rw [bl_shift (32 * (l.length - 1)) (val l) (by rw [← pw_two]; omega), ← pw_two]
  congr 2
  rw [h1, Nat.add_mul_div_left _ _ hp, Nat.div_eq_of_lt h2, Nat.zero_add]
theorem dig_last {n : Nat} (h : n ≠ 0) : (dig n).length ≠ 0 ∧ (dig n).getD ((dig n).length - 1) 0 ≠ 0 := by
  have h1 : (dig n).length ≠ 0 := fun hc => h (dig_len_pos.mp hc)
  refine ⟨h1, ?_⟩
  have := tr_dig n
  unfold Tr at this
  rw [List.getLast?_eq_getElem?] at this
  rw [List.getD_eq_getElem?_getD]
  rw [List.getElem?_eq_getElem (by omega)] at this ⊢
  simpa using this
theorem bl_lib {x : Nat} (h : x < 4294967296) : Lib.bitLen x = bl x := by
  have key : ∀ (f x : Nat), x < 2 ^ f → Lib.bitLenAux f x = bl x := by
    intro f
    induction f with
    | zero => intro x hx; have : x = 0 := by simpa using hx
              subst this; rw [bl_zero]; rfl
    | succ f ih =>
      intro x hx
      rw [Lib.bitLenAux]
      by_cases h0 : x = 0
      · subst h0; rw [bl_zero]; simp
      · rw [bl_pos h0]
        rw [Nat.pow_succ] at hx
        have := ih (x / 2) (by omega)
        simp [h0, this]; omega
  exact key 64 x (Nat.lt_of_lt_of_le h (by decide))
end Go.Proofs.Ytmgjjdodjamomaa.Limb
end
section
namespace Go.Proofs.Ytmgjjdodjamomaa.Kn
/-- a guess that the third limb refutes is too large -/
theorem kn_ge {P D W top next dl two r2 wl g : Nat} (hD : D = (top * 4294967296 + next) * P + dl) (hW : W = (two * 4294967296 + r2) * P + wl) (hwl : wl < P)
    (hg : g * top ≤ two) (h : (two - g * top) * 4294967296 + r2 < g * next) : W / D < g := by
  refine Nat.lt_of_not_ge fun hc => ?_
  have h1 : g * D ≤ W := Nat.le_trans (Nat.mul_le_mul_right D hc) (Nat.div_mul_le_self W D)
  obtain ⟨rest, hr⟩ : ∃ rest, two = g * top + rest := ⟨two - g * top, by omega⟩
  rw [show two - g * top = rest by omega] at h
  have h2 : g * (top * 4294967296 + next) * P < (two * 4294967296 + r2 + 1) * P := by
    have e1 : g * D = g * (top * 4294967296 + next) * P + g * dl := by rw [hD]; grind
    have e2 : (two * 4294967296 + r2 + 1) * P = (two * 4294967296 + r2) * P + P := by grind
    rw [e2]; omega
  have h3 := Nat.lt_of_mul_lt_mul_right h2
  have e3 : g * (top * 4294967296 + next) = g * top * 4294967296 + g * next := by grind
  rw [e3, hr] at h3
  generalize g * top = a at *
  generalize g * next = b at *
  omega
/-- the first guess is not too small -/
theorem kn_init {P D W top next dl two r2 wl : Nat} (hD : D = (top * 4294967296 + next) * P + dl) (hW : W = (two * 4294967296 + r2) * P + wl) (hwl : wl < P) (hr : r2 < 4294967296) (ht : 0 < top) : W / D ≤ two / top := by
  rw [Nat.le_div_iff_mul_le ht]
  have h1 := Nat.div_mul_le_self W D
  generalize W / D = q at *
  refine Nat.lt_succ_iff.mp ?_
  have h2 : q * top * (4294967296 * P) < (two + 1) * (4294967296 * P) := by
    have e1 : q * D = q * top * (4294967296 * P) + (q * next * P + q * dl) := by rw [hD]; grind
    have e2 : (two + 1) * (4294967296 * P) = two * 4294967296 * P + 4294967296 * P := by grind
    have e3 : (two * 4294967296 + r2) * P = two * 4294967296 * P + r2 * P := by grind
    have e4 := Nat.mul_le_mul_right P (show r2 + 1 ≤ 4294967296 from hr)
    rw [Nat.add_mul, Nat.one_mul] at e4
    rw [e2]; omega
  exact Nat.lt_of_mul_lt_mul_right h2
/-- a guess that the third limb does not refute is at most one too large -/
theorem kn_le {P D W top next dl two r2 wl g : Nat} (hD : D = (top * 4294967296 + next) * P + dl) (hdl : dl < P) (hW : W = (two * 4294967296 + r2) * P + wl)
    (ht : 0 < top) (hgB : g < 4294967296) (h : g * (top * 4294967296 + next) ≤ two * 4294967296 + r2) : g ≤ W / D + 1 := by
  have hD0 : 0 < D := by
    have := Nat.mul_le_mul_right P (show 1 ≤ top * 4294967296 + next by omega)
    omega
  have h1 : g * D < W + D := by
    have e1 : g * D = g * (top * 4294967296 + next) * P + g * dl := by rw [hD]; grind
    have e2 := Nat.mul_le_mul_right P h
    have e3 := Nat.mul_le_mul_left g (Nat.le_of_lt hdl)
    have e4 := Nat.mul_lt_mul_of_pos_right hgB (show 0 < P by omega)
    have e5 := Nat.mul_le_mul_right P (show 4294967296 ≤ top * 4294967296 + next by omega)
    omega
  have h2 : g * D < (W / D + 2) * D := by
    have := Nat.lt_div_mul_add hD0 (a := W)
    have e : (W / D + 2) * D = W / D * D + D + D := by grind
    rw [e]; omega
  have := Nat.lt_of_mul_lt_mul_right h2
  omega
/-- where the rest has outgrown a limb, the guess stands -/
theorem kn_out {top next two r2 g : Nat} (hn : next < 4294967296) (hgB : g < 4294967296) (h : g * top + 4294967296 ≤ two) : g * (top * 4294967296 + next) ≤ two * 4294967296 + r2 := by
  have e : g * (top * 4294967296 + next) = g * top * 4294967296 + g * next := by grind
  have h1 := Nat.mul_le_mul (show g ≤ 4294967295 by omega) (show next ≤ 4294967295 by omega)
  rw [e]
  generalize g * top = a at *
  generalize g * next = b at *
  omega
/-- the highest limb of the rest is not above the divisor's -/
theorem kn_top {P D W top next dl two r2 wl : Nat} (hn : next < 4294967296) (hD : D = (top * 4294967296 + next) * P + dl) (hdl : dl < P) (hW : W = (two * 4294967296 + r2) * P + wl) (hWD : W < 4294967296 * D) : two < (top + 1) * 4294967296 := by
  refine Nat.lt_of_not_ge fun hc => ?_
  have h1 := Nat.mul_le_mul_right (4294967296 * P) hc
  have e1 : two * (4294967296 * P) = two * 4294967296 * P := by grind
  have e2 : (two * 4294967296 + r2) * P = two * 4294967296 * P + r2 * P := by grind
  have e3 : (top + 1) * 4294967296 * (4294967296 * P) = 4294967296 * ((top * 4294967296 + 4294967296) * P) := by grind
  have e4 : (top * 4294967296 + 4294967296) * P = (top * 4294967296 + next) * P + (4294967296 - next) * P := by
    rw [← Nat.add_mul]
    have e : top * 4294967296 + next + (4294967296 - next) = top * 4294967296 + 4294967296 := by omega
    rw [e]
  have e5 := Nat.mul_le_mul_right P (show 1 ≤ 4294967296 - next by omega)
  rw [e1] at h1
  rw [e2] at hW
  rw [e3, e4] at h1
  omega
/-- where the rest has outgrown a limb, the guess is one -/
theorem kn_lt {top two g rest : Nat} (ht : two < (top + 1) * 4294967296) (h : g * top + rest = two) (hr : 4294967296 ≤ rest) : g < 4294967296 := by
  refine Nat.lt_of_mul_lt_mul_right (a := top) ?_
  rw [Nat.add_mul, Nat.one_mul, Nat.mul_comm top] at ht
  omega
/-- one round more or the end: what the loop's test says -/
theorem kn_more {P D W top next dl two r2 wl g rest : Nat} (hD : D = (top * 4294967296 + next) * P + dl) (hW : W = (two * 4294967296 + r2) * P + wl) (hwl : wl < P) (hWD : W < 4294967296 * D) (h : g * top + rest = two)
    (c : 4294967296 ≤ g ∨ rest * 4294967296 + r2 < g * next) : W / D < g := by
  rcases c with c | c
  · exact Nat.lt_of_lt_of_le (Nat.div_lt_of_lt_mul (by rwa [Nat.mul_comm] at hWD)) c
  · refine kn_ge hD hW hwl (by omega) ?_
    rw [show two - g * top = rest by omega]; exact c
theorem kn_end {P D W top next dl two r2 wl g rest : Nat} (hD : D = (top * 4294967296 + next) * P + dl) (hdl : dl < P) (hW : W = (two * 4294967296 + r2) * P + wl) (ht : 0 < top) (h : g * top + rest = two) (c1 : g < 4294967296) (c : g * next ≤ rest * 4294967296 + r2) : g ≤ W / D + 1 := by
  refine kn_le hD hdl hW ht c1 ?_
  have e : g * (top * 4294967296 + next) = g * top * 4294967296 + g * next := by grind
  rw [e, ← h]
  omega
theorem kn_stop {P D W top next dl two r2 wl g rest : Nat} (hn : next < 4294967296) (hD : D = (top * 4294967296 + next) * P + dl) (hdl : dl < P) (hW : W = (two * 4294967296 + r2) * P + wl) (ht : 0 < top) (h : g * top + rest = two) (c1 : g < 4294967296) (c : 4294967296 ≤ rest) : g ≤ W / D + 1 :=
  kn_le hD hdl hW ht c1 (kn_out hn c1 (by omega))
end Go.Proofs.Ytmgjjdodjamomaa.Kn
end
section
namespace Go.Proofs.Ytmgjjdodjamomaa.Num
def Pr (p : Nat) : Prop := 2 ≤ p ∧ ∀ d, d ∣ p → d = 1 ∨ d = p
/-- a number without a divisor up to its root is a prime -/
theorem pr_of_no_small {n : Nat} (h2 : 2 ≤ n) (h : ∀ d, 2 ≤ d → d * d ≤ n → ¬ d ∣ n) : Pr n := by
  refine ⟨h2, fun d hd => ?_⟩
  obtain ⟨c, rfl⟩ := hd
  have hd0 : d ≠ 0 := by intro e; subst e; simp at h2
  have hc0 : c ≠ 0 := by intro e; subst e; simp at h2
  by_cases hd1 : d = 1
  · exact Or.inl hd1
  by_cases hc1 : c = 1
  · subst hc1; right; simp
  exfalso
  rcases Nat.le_total d c with e | e
  · exact h d (by omega) (Nat.mul_le_mul_left d e) ⟨c, rfl⟩
  · exact h c (by omega) (Nat.mul_le_mul_right c e) ⟨d, Nat.mul_comm _ _⟩
/-- what stands at the head of each round of Euclid's way -/
structure EucInv (p a r s x y : Int) : Prop where
  r0 : 0 < r
  s0 : 0 ≤ s
  sr : s < r
  rp : r ≤ p
  dv : ∀ d, d ∣ r → d ∣ s → d ∣ p ∧ d ∣ a
  cx : p ∣ x * a - r
  cy : p ∣ y * a - s
  sg : (x ≤ 0 ∧ 0 ≤ y ∧ r * y - s * x = p) ∨ (0 ≤ x ∧ y ≤ 0 ∧ s * x - r * y = p)
  bx : -p ≤ x ∧ x ≤ p
  by' : -p ≤ y ∧ y ≤ p
theorem EucInv.start {p a : Int} (ha : 0 < a) (hp : a < p) : EucInv p a p a 0 1 where
  r0 := by omega
  s0 := by omega
  sr := hp
  rp := by omega
  dv := fun d h1 h2 => ⟨h1, h2⟩
  cx := by simp
  cy := by simp
  sg := by left; simp
  bx := by omega
  by' := by omega
theorem EucInv.q_bounds {p a r s x y : Int} (h : EucInv p a r s x y) (hs : s ≠ 0) : 1 ≤ r / s ∧ r / s ≤ r := by
  have := h.s0; have := h.sr; have := h.r0
  constructor
  · exact (Int.le_ediv_iff_mul_le (by omega)).mpr (by omega)
  · exact Int.ediv_le_self s (by omega)
theorem EucInv.qs_bounds {p a r s x y : Int} (h : EucInv p a r s x y) (hs : s ≠ 0) : 0 ≤ r / s * s ∧ r / s * s ≤ r := by
  have := h.s0; have := h.sr; have := h.r0
  have h1 := Int.ediv_mul_add_emod r s
  have h2 := Int.emod_nonneg r hs
  have h3 := Int.emod_lt_of_pos r (show 0 < s by omega)
  constructor
  · exact Int.mul_nonneg (by have := h.q_bounds hs; omega) (by omega)
  · omega
theorem EucInv.abs_next {p a r s x y : Int} (h : EucInv p a r s x y) (hs : s ≠ 0) :
    (-p ≤ r / s * y ∧ r / s * y ≤ p) ∧ (-p ≤ x - r / s * y ∧ x - r / s * y ≤ p) := by
  have h0 := h.s0; have hsr := h.sr; have hr := h.r0
  have hq := h.q_bounds hs
  generalize hqe : r / s = q at *
  have h1 : r = q * s + r % s := by have := Int.ediv_mul_add_emod r s; rw [hqe] at this; omega
  have h2 := Int.emod_nonneg r hs
  generalize r % s = t at *
  rcases h.sg with ⟨hx, hy, e⟩ | ⟨hx, hy, e⟩
  · have a1 : 0 ≤ q * y := Int.mul_nonneg (by omega) hy
    have a2 : r * y = s * (q * y) + t * y := by rw [h1, Int.add_mul]; congr 1; simp only [Int.mul_comm, Int.mul_left_comm]
    have a3 : 0 ≤ t * y := Int.mul_nonneg h2 hy
    have a4 : s * (q * y - x) ≤ p := by rw [Int.mul_sub]; omega
    have a5 : 0 ≤ q * y - x := by omega
    have a6 : 1 * (q * y - x) ≤ s * (q * y - x) := Int.mul_le_mul_of_nonneg_right (by omega) a5
    omega
  · have a1 : q * y ≤ 0 := Int.mul_nonpos_of_nonneg_of_nonpos (by omega) hy
    have a2 : r * y = s * (q * y) + t * y := by rw [h1, Int.add_mul]; congr 1; simp only [Int.mul_comm, Int.mul_left_comm]
    have a3 : t * y ≤ 0 := Int.mul_nonpos_of_nonneg_of_nonpos h2 hy
    have a4 : s * (x - q * y) ≤ p := by rw [Int.mul_sub]; omega
    have a5 : 0 ≤ x - q * y := by omega
    have a6 : 1 * (x - q * y) ≤ s * (x - q * y) := Int.mul_le_mul_of_nonneg_right (by omega) a5
    omega
theorem EucInv.step {p a r s x y : Int} (h : EucInv p a r s x y) (hs : s ≠ 0) : EucInv p a s (r - r / s * s) y (x - r / s * y) := by
  have h0 := h.s0; have hsr := h.sr; have hr := h.r0; have hrp := h.rp
  have hb := h.abs_next hs
  have h1 : r - r / s * s = r % s := by have := Int.ediv_mul_add_emod r s; omega
  have h2 := Int.emod_nonneg r hs
  have h3 := Int.emod_lt_of_pos r (show 0 < s by omega)
  refine ⟨by omega, by omega, by omega, by omega, ?_, h.cy, ?_, ?_, h.by', hb.2⟩
  · intro d d1 d2
    have d3 : d ∣ r := by
      have : r = (r - r / s * s) + r / s * s := by omega
      rw [this]; exact Int.dvd_add d2 (Int.dvd_mul_of_dvd_right d1)
    exact h.dv d d3 d1
  · have : (x - r / s * y) * a - (r - r / s * s) = (x * a - r) - r / s * (y * a - s) := by
      rw [Int.sub_mul, Int.mul_sub, Int.mul_assoc]; omega
    rw [this]; exact Int.dvd_sub h.cx (Int.dvd_mul_of_dvd_right h.cy)
  · generalize hqe : r / s = q at *
    have e1 : s * (x - q * y) = s * x - q * (s * y) := by rw [Int.mul_sub]; congr 1; simp only [Int.mul_left_comm]
    have e2 : (r - q * s) * y = r * y - q * (s * y) := by rw [Int.sub_mul, Int.mul_assoc]
    have hq := h.q_bounds hs
    rw [hqe] at hq
    rcases h.sg with ⟨hx, hy, e⟩ | ⟨hx, hy, e⟩
    · right
      have : 0 ≤ q * y := Int.mul_nonneg (by omega) hy
      refine ⟨hy, by omega, ?_⟩
      rw [e1, e2]; omega
    · left
      have : q * y ≤ 0 := Int.mul_nonpos_of_nonneg_of_nonpos (by omega) hy
      refine ⟨hy, by omega, ?_⟩
      rw [e1, e2]; omega
/-- where the second is 0 the first is the greatest common divisor: 1 -/
theorem EucInv.done {p a r x y : Int} (h : EucInv p a r 0 x y) (hpr : ∀ d : Int, 0 < d → d ∣ p → d ∣ a → d = 1) : r = 1 ∧ p ∣ x * a - 1 := by
  have := h.dv r ⟨1, by omega⟩ (Int.dvd_zero r)
  have e := hpr r h.r0 this.1 this.2
  subst e
  exact ⟨rfl, h.cx⟩
end Go.Proofs.Ytmgjjdodjamomaa.Num
end
section
namespace Go.Proofs.Ytmgjjdodjamomaa.PureB
open Go.RowKit Go.Proofs.Ytmgjjdodjamomaa.PB Go.Proofs.YtmgjjdodjamomaaW.PrintWords Go.Proofs.YtmgjjdodjamomaaW.PrintLast
open Go.Proofs.Ytmgjjdodjamomaa.Num
theorem w64 {x : Int} (h0 : -9223372036854775808 ≤ x) (h1 : x ≤ 9223372036854775807) : wrap64 x = x := by
  unfold wrap64; omega
/-- is it a prime below 2^31? -/
def PrB (n : Int) : Prop := 2 ≤ n ∧ n < 2147483648 ∧ Pr n.toNat
noncomputable def isP (n : Int) : Bool := @decide (PrB n) (Classical.propDecidable _)
theorem isP_true {n : Int} : isP n = true ↔ PrB n := by unfold isP; exact @decide_eq_true_iff _ (Classical.propDecidable _)
theorem isP_false {n : Int} : isP n = false ↔ ¬ PrB n := by unfold isP; exact @decide_eq_false_iff_not _ (Classical.propDecidable _)
theorem prb_dvd {n d : Int} (h : PrB n) (h2 : 2 ≤ d) (hd : d ∣ n) : d = n := by
  have hn := h.1
  have h3 : d.toNat ∣ n.toNat := by
    have : ((d.toNat : Nat) : Int) ∣ ((n.toNat : Nat) : Int) := by
      rw [Int.toNat_of_nonneg (by omega), Int.toNat_of_nonneg (by omega)]; exact hd
    exact Int.natCast_dvd_natCast.mp this
  rcases h.2.2.2 _ h3 with e | e <;> omega
theorem prb_of {n : Int} (h2 : 2 ≤ n) (hn : n < 2147483648) (h : ∀ e : Int, 2 ≤ e → e * e ≤ n → ¬ e ∣ n) : PrB n := by
  refine ⟨h2, hn, pr_of_no_small (by omega) fun d hd hm hv => ?_⟩
  refine h d (by omega) ?_ ?_
  · have : ((d * d : Nat) : Int) ≤ ((n.toNat : Nat) : Int) := Int.ofNat_le.mpr hm
    rw [Int.toNat_of_nonneg (by omega)] at this
    simpa using this
  · have : ((d : Nat) : Int) ∣ ((n.toNat : Nat) : Int) := Int.natCast_dvd_natCast.mpr hv
    rwa [Int.toNat_of_nonneg (by omega)] at this
theorem not_prb {n d : Int} (h2 : 2 ≤ d) (hlt : d < n) (hd : d ∣ n) : ¬ PrB n := by
  intro h; have := prb_dvd h h2 hd; omega
theorem sq_lt {d : Int} (h0 : 0 ≤ d) (h : d * d ≤ 2147483648) : d ≤ 46341 := by
  refine Int.le_of_not_gt fun hc => ?_
  have : 46342 * 46342 ≤ d * d := Int.mul_le_mul (by omega) (by omega) (by omega) (by omega)
  omega
theorem sq_ge {d : Int} (h0 : 2 ≤ d) : 2 * d ≤ d * d := Int.mul_le_mul_of_nonneg_right h0 (by omega)
theorem lt_of_sq {d e n : Int} (h0 : 0 ≤ d) (h2 : e * e ≤ n) (h : n < d * d) : e < d := by
  refine Int.lt_of_not_ge fun hc => ?_
  have : d * d ≤ e * e := Int.mul_le_mul hc hc (by omega) (by omega)
  omega
theorem tm {a b : Int} (h : 0 ≤ a) : Int.tmod a b = a % b := Int.tmod_eq_emod_of_nonneg h
/-- the loop of the program's test -/
theorem is_loop {n : Int} (hn : n < 2147483648) (h4 : 4 ≤ n) (ho : n % 2 ≠ 0) (ht : n % 3 ≠ 0) :
    ∀ (m : Nat) (d : Int), 5 ≤ d → d % 6 = 5 → d ≤ 46350 → (46350 - d).toNat ≤ m → (∀ e : Int, 2 ≤ e → e < d → ¬ e ∣ n) →
      Ev (fun k => prime_Is.l0 k n d) (isP n) := by
  intro m
  induction m with
  | zero =>
    intro d h5 h6 hb hm hs
    have hd : d = 46350 := by omega
    omega
  | succ m ih =>
    intro d h5 h6 hb hm hs
    have hb1 : d * d ≤ 46350 * 46350 := Int.mul_le_mul hb hb (by omega) (by omega)
    have hb0 : 0 ≤ d * d := Int.mul_nonneg (by omega) (by omega)
    have e1 : wrap64 (d * d) = d * d := w64 (by omega) (by omega)
    have e2 : wrap64 (d + 2) = d + 2 := w64 (by omega) (by omega)
    have e3 : wrap64 (d + 6) = d + 6 := w64 (by omega) (by omega)
    by_cases hsq : d * d ≤ n
    · have hb2 := sq_lt (by omega) (show d * d ≤ 2147483648 by omega)
      have hg := sq_ge (show 2 ≤ d by omega)
      by_cases hd1 : n % d = 0
      · have : isP n = false := isP_false.mpr (not_prb (show 2 ≤ d by omega) (by omega) (Int.dvd_of_emod_eq_zero hd1))
        rw [this]
        refine Ev.step (f := fun _ => some false) (fun k => ?_) (Ev.now _)
        simp only [prime_Is.l0, e1]
        rw [if_pos hsq, if_neg (by omega), tm (by omega), if_pos hd1]
      · by_cases hd2 : n % (d + 2) = 0
        · have : isP n = false := isP_false.mpr (not_prb (show 2 ≤ d + 2 by omega) (by omega) (Int.dvd_of_emod_eq_zero hd2))
          rw [this]
          refine Ev.step (f := fun _ => some false) (fun k => ?_) (Ev.now _)
          simp only [prime_Is.l0, e1, e2]
          rw [if_pos hsq, if_neg (by omega), tm (by omega), if_neg hd1, if_neg (by omega), tm (by omega), if_pos hd2]
        · refine Ev.step (f := fun k => prime_Is.l0 k n (d + 6)) (fun k => ?_) (ih (d + 6) (by omega) (by omega) (by omega) (by omega) ?_)
          · simp only [prime_Is.l0, e1, e2, e3]
            rw [if_pos hsq, if_neg (by omega), tm (by omega), if_neg hd1, if_neg (by omega), tm (by omega), if_neg hd2]
          · intro e he1 he2 hev
            by_cases hlt : e < d
            · exact hs e he1 hlt hev
            have hE : ¬ (2 : Int) ∣ e := fun h => ho (Int.emod_eq_zero_of_dvd (Int.dvd_trans h hev))
            have hT : ¬ (3 : Int) ∣ e := fun h => ht (Int.emod_eq_zero_of_dvd (Int.dvd_trans h hev))
            by_cases c1 : e = d
            · subst c1; exact hd1 (Int.emod_eq_zero_of_dvd hev)
            by_cases c2 : e = d + 2
            · subst c2; exact hd2 (Int.emod_eq_zero_of_dvd hev)
            omega
    · have : isP n = true := isP_true.mpr (prb_of (by omega) hn fun e h2 hm2 hev => hs e h2 (lt_of_sq (by omega) hm2 (by omega)) hev)
      rw [this]
      refine Ev.step (f := fun _ => some true) (fun k => ?_) (Ev.now _)
      simp only [prime_Is.l0, e1]
      rw [if_neg hsq]
theorem prime_is (n : Int) : Ev (fun k => prime_Is.f k n) (isP n) := by
  unfold prime_Is.f
  by_cases h2 : n < 2
  · have : isP n = false := isP_false.mpr fun h => by have := h.1; omega
    rw [this]
    simp only [if_pos h2]
    refine Ev.step (f := fun _ => some false) (fun k => ?_) (Ev.now _)
    simp only [prime_Is.j0, if_true]
  · simp only [if_neg h2]
    by_cases hb : n ≥ 2147483648
    · have : isP n = false := isP_false.mpr fun h => by have := h.2.1; omega
      rw [this]
      refine Ev.step (f := fun _ => some false) (fun k => ?_) (Ev.now _)
      simp only [prime_Is.j0, hb, decide_true, if_true]
    · have hb' : n < 2147483648 := by omega
      by_cases h4 : n < 4
      · have : isP n = true := isP_true.mpr (prb_of (by omega) hb' fun e h2 hm2 hev => by have := sq_ge h2; omega)
        rw [this]
        refine Ev.step (f := fun _ => some true) (fun k => ?_) (Ev.now _)
        simp only [prime_Is.j0]
        rw [if_neg (by simpa using hb), if_pos h4]
      · have e0 : Int.tmod n 2 = n % 2 := tm (by omega)
        have e1 : Int.tmod n 3 = n % 3 := tm (by omega)
        by_cases c2 : n % 2 = 0
        · have : isP n = false := isP_false.mpr (not_prb (show (2 : Int) ≤ 2 by omega) (by omega) (Int.dvd_of_emod_eq_zero c2))
          rw [this]
          refine Ev.step (f := fun k => prime_Is.j1 k n true) (fun k => ?_) (Ev.step (f := fun _ => some false) (fun k => ?_) (Ev.now _))
          · simp only [prime_Is.j0, e0]
            rw [if_neg (by simpa using hb), if_neg h4, if_pos c2]
          · simp only [prime_Is.j1, if_true]
        · by_cases c3 : n % 3 = 0
          · have : isP n = false := isP_false.mpr (not_prb (show (2 : Int) ≤ 3 by omega) (by omega) (Int.dvd_of_emod_eq_zero c3))
            rw [this]
            refine Ev.step (f := fun k => prime_Is.j1 k n true) (fun k => ?_) (Ev.step (f := fun _ => some false) (fun k => ?_) (Ev.now _))
            · simp only [prime_Is.j0, e0, e1]
              rw [if_neg (by simpa using hb), if_neg h4, if_neg c2, c3]; rfl
            · simp only [prime_Is.j1, if_true]
          · refine Ev.step (f := fun k => prime_Is.j1 k n false) (fun k => ?_) (Ev.step (f := fun k => prime_Is.l0 k n 5) (fun k => ?_) ?_)
            · simp only [prime_Is.j0, e0, e1]
              rw [if_neg (by simpa using hb), if_neg h4, if_neg c2, beq_eq_false_iff_ne.mpr c3]
            · simp only [prime_Is.j1]; rfl
            · refine is_loop hb' (by omega) c2 c3 46350 5 (by omega) (by omega) (by omega) (by omega) ?_
              intro e h2 h5 hev
              have : e = 2 ∨ e = 3 ∨ e = 4 := by omega
              rcases this with rfl | rfl | rfl
              · exact c2 (Int.emod_eq_zero_of_dvd hev)
              · exact c3 (Int.emod_eq_zero_of_dvd hev)
              · exact c2 (Int.emod_eq_zero_of_dvd (Int.dvd_trans (by decide) hev))
/-- a number's rest by a number above 0 -/
theorem rest_eq {a p : Int} (h0 : 0 < p) (hp : p ≤ 9223372036854775807) : prime_rest.f a p = some (a % p) := by
  unfold prime_rest.f
  rw [if_neg (by omega)]
  have h1 := Int.emod_nonneg a (show p ≠ 0 by omega)
  have h2 := Int.emod_lt_of_pos a h0
  have h3 := @Int.tmod_eq_emod a p
  by_cases hc : 0 ≤ a ∨ p ∣ a
  · rw [if_pos hc] at h3
    rw [if_neg (by omega)]; congr 1; omega
  · rw [if_neg hc] at h3
    have hne : a % p ≠ 0 := fun h => hc (Or.inr (Int.dvd_of_emod_eq_zero h))
    rw [if_pos (by omega), w64 (by omega) (by omega)]; congr 1; omega
end Go.Proofs.Ytmgjjdodjamomaa.PureB
end
section
namespace Go.Proofs.Ytmgjjdodjamomaa.PureB
open Go.RowKit Go.Proofs.Ytmgjjdodjamomaa.PB Go.Proofs.YtmgjjdodjamomaaW.PrintWords Go.Proofs.YtmgjjdodjamomaaW.PrintLast
open Go.Proofs.Ytmgjjdodjamomaa.Num
theorem i64_and1 (n : Int) : Go.bits .and .i64 n 1 = n % 2 := by
  have h1 : (BitVec.ofInt 64 1).toNat = 2 ^ 1 - 1 := by decide
  have key : (BitVec.ofInt 64 n &&& BitVec.ofInt 64 1).toNat = (n % ((2 ^ 64 : Nat) : Int)).toNat % 2 ^ 1 := by
    rw [BitVec.toNat_and, BitVec.toNat_ofInt, h1, Nat.and_two_pow_sub_one_eq_mod]
  show IntKind.i64.wrap ((BitVec.ofInt 64 n &&& BitVec.ofInt 64 1).toNat : Nat) = n % 2
  rw [key, IntKind.wrap_i64]
  omega
theorem ev_unique {α : Type} {g : Nat → Option α} {r q : α} (h : Ev g r) (h' : Ev g q) : r = q := by
  obtain ⟨K, hK⟩ := h
  obtain ⟨K', hK'⟩ := h'
  have h1 := hK (max K K') (Nat.le_max_left _ _)
  have h2 := hK' (max K K') (Nat.le_max_right _ _)
  rw [h1] at h2; exact Option.some.inj h2
theorem awake_ok : Ev (fun k => primroselaw05_awake.f k) true :=
  Ev.of primroselaw05_awake.mono (k := 400) (by decide +kernel)
theorem prb_pos {p : Int} (h : PrB p) : 2 ≤ p ∧ p < 2147483648 := ⟨h.1, h.2.1⟩
theorem mul_lt31 {a b p : Int} (ha : 0 ≤ a) (hap : a < p) (hb : 0 ≤ b) (hbp : b < p) (hp : p < 2147483648) : 0 ≤ a * b ∧ a * b ≤ 4611686018427387904 := by
  refine ⟨Int.mul_nonneg ha hb, ?_⟩
  have : a * b ≤ 2147483648 * 2147483648 := Int.mul_le_mul (by omega) (by omega) hb (by omega)
  omega
theorem mod_bd {a p : Int} (h : 0 < p) : 0 ≤ a % p ∧ a % p < p := ⟨Int.emod_nonneg a (by omega), Int.emod_lt_of_pos a h⟩
theorem one_mod {p : Int} (h : 2 ≤ p) : (1 : Int) % p = 1 := Int.emod_eq_of_lt (by omega) (by omega)
theorem inv_loop {p a : Int} (hb : p < 2147483648) (hpr : ∀ d : Int, 0 < d → d ∣ p → d ∣ a → d = 1) :
    ∀ (m : Nat) (r s x y : Int), s.toNat ≤ m → EucInv p a r s x y → ∃ v, Ev (fun k => prime_inverse.l0 k p r s x y) v ∧ 0 ≤ v ∧ v < p ∧ v * a % p = 1 % p := by
  intro m
  induction m with
  | zero =>
    intro r s x y hm h
    have hs : s = 0 := by have := h.s0; omega
    subst hs
    have hd := h.done hpr
    have hp : 0 < p := by have := h.r0; have := h.rp; omega
    have hmb := @mod_bd x p hp
    refine ⟨x % p, Ev.step (f := fun _ => some (x % p)) (fun k => ?_) (Ev.now _), hmb.1, hmb.2, ?_⟩
    · simp only [prime_inverse.l0, if_true]
      rw [rest_eq hp (by omega)]; rfl
    · rw [Int.mul_emod, Int.emod_emod, ← Int.mul_emod]
      exact Int.emod_eq_emod_iff_emod_sub_eq_zero.mpr (Int.emod_eq_zero_of_dvd hd.2)
  | succ m ih =>
    intro r s x y hm h
    by_cases hs : s = 0
    · subst hs
      have hd := h.done hpr
      have hp : 0 < p := by have := h.r0; have := h.rp; omega
      have hmb := @mod_bd x p hp
      refine ⟨x % p, Ev.step (f := fun _ => some (x % p)) (fun k => ?_) (Ev.now _), hmb.1, hmb.2, ?_⟩
      · simp only [prime_inverse.l0, if_true]
        rw [rest_eq hp (by omega)]; rfl
      · rw [Int.mul_emod, Int.emod_emod, ← Int.mul_emod]
        exact Int.emod_eq_emod_iff_emod_sub_eq_zero.mpr (Int.emod_eq_zero_of_dvd hd.2)
    · have hst := h.step hs
      have q := h.q_bounds hs
      have qs := h.qs_bounds hs
      have qy := h.abs_next hs
      have hr := h.r0
      have hrp := h.rp
      have hs0 := h.s0
      have hlt := hst.sr
      obtain ⟨v, hv, hv2⟩ := ih s (r - r / s * s) y (x - r / s * y) (by omega) hst
      refine ⟨v, Ev.step (f := fun k => prime_inverse.l0 k p s (r - r / s * s) y (x - r / s * y)) (fun k => ?_) hv, hv2⟩
      simp only [prime_inverse.l0]
      rw [if_neg hs, Int.tdiv_eq_ediv_of_nonneg (by omega), w64 (x := r / s) (by omega) (by omega), w64 (x := r / s * s) (by omega) (by omega), w64 (x := r / s * y) (by omega) (by omega), w64 (x := r - r / s * s) (by omega) (by omega), w64 (x := x - r / s * y) (by omega) (by omega)]
theorem prb_one {p a : Int} (h : PrB p) (ha : ¬ p ∣ a) : ∀ d : Int, 0 < d → d ∣ p → d ∣ a → d = 1 := by
  intro d h0 h1 h2
  by_cases hd : 2 ≤ d
  · have := prb_dvd h hd h1
    subst this; exact absurd h2 ha
  · omega
theorem prime_inverse_ok {p a : Int} (h : PrB p) (h0 : 0 < a) (hp : a < p) :
    ∃ v, Ev (fun k => prime_inverse.f k a p) v ∧ 0 ≤ v ∧ v < p ∧ v * a % p = 1 := by
  have hb := prb_pos h
  unfold prime_inverse.f
  have hnd : ¬ p ∣ a := fun hd => by have := Int.le_of_dvd h0 hd; omega
  have := inv_loop hb.2 (prb_one h hnd) a.toNat p a 0 1 (Nat.le_refl _) (EucInv.start h0 hp)
  rwa [one_mod hb.1] at this
/-- what an inverse is -/
def InvS (a p v : Int) : Prop := if isP p = true ∧ a % p ≠ 0 then 0 ≤ v ∧ v < p ∧ v * a % p = 1 else v = 0
end Go.Proofs.Ytmgjjdodjamomaa.PureB
end
section
namespace Go.Proofs.Ytmgjjdodjamomaa.PureB
open Go.RowKit Go.Proofs.Ytmgjjdodjamomaa.PB Go.Proofs.YtmgjjdodjamomaaW.PrintWords Go.Proofs.YtmgjjdodjamomaaW.PrintLast
open Go.Proofs.Ytmgjjdodjamomaa.Num
noncomputable def mulS (a b p : Int) : Int := if isP p = true then (a * b) % p else 0
theorem mul_mod (a b p : Int) : (a % p * (b % p)) % p = (a * b) % p := (Int.mul_emod a b p).symm
theorem prime_mul (a b p : Int) : Ev (fun k => prime_Mul.f k a b p) (mulS a b p) := by
  unfold prime_Mul.f
  refine Ev.bind (prime_is p) ?_
  cases hp : isP p with
  | false => simp only [mulS, hp]; exact Ev.now _
  | true =>
    have hb := prb_pos (isP_true.mp hp)
    have m1 := @mod_bd a p (by omega)
    have m2 := @mod_bd b p (by omega)
    have m3 := mul_lt31 m1.1 m1.2 m2.1 m2.2 hb.2
    simp only [mulS, hp, if_true, rest_eq (show 0 < p by omega) (show p ≤ 9223372036854775807 by omega), Option.bind_some]
    rw [if_neg (by omega), w64 (by omega) (by omega), tm (by omega), mul_mod]
    exact Ev.now _
theorem isP_of {p : Int} {k : Nat} (h : prime_Is.f k p = some true) : isP p = true :=
  ev_unique (prime_is p) (Ev.of (g := fun k => prime_Is.f k p) (prime_Is.mono p) h)
theorem pick_ok (p : Int) : ∃ q, Ev (fun k => primroselaw05_pick.f k p) q ∧ isP q = true := by
  unfold primroselaw05_pick.f
  cases hp : isP p with
  | true =>
    refine ⟨p, Ev.bind (prime_is p) ?_, hp⟩
    rw [hp]; exact Ev.now _
  | false =>
    have h2 : isP 2 = true := isP_of (k := 5) (by decide +kernel)
    have h3 : isP 3 = true := isP_of (k := 5) (by decide +kernel)
    have h5 : isP 5 = true := isP_of (k := 5) (by decide +kernel)
    refine ⟨2 + p % 2 + 2 * (p % 2) * (p / 2 % 2), Ev.bind (prime_is p) ?_, ?_⟩
    · rw [hp, i64_and1, i64_and1]
      rcases Int.emod_two_eq p with e | e <;> rcases Int.emod_two_eq (p / 2) with e' | e' <;> rw [e, e'] <;> exact ⟨0, fun _ _ => by simp only [Bool.false_eq_true, if_false]; decide +kernel⟩
    · rcases Int.emod_two_eq p with e | e <;> rcases Int.emod_two_eq (p / 2) with e' | e' <;> rw [e, e']
      · exact h2
      · exact h2
      · exact h3
      · exact h5
end Go.Proofs.Ytmgjjdodjamomaa.PureB
end
section
namespace Go.Proofs.Ytmgjjdodjamomaa.PureB
open Go.RowKit Go.Proofs.Ytmgjjdodjamomaa.PB Go.Proofs.YtmgjjdodjamomaaW.PrintWords Go.Proofs.YtmgjjdodjamomaaW.PrintLast
open Go.Proofs.Ytmgjjdodjamomaa.Limb
theorem u64w {x : Int} (h0 : 0 ≤ x) (h1 : x < 18446744073709551616) : IntKind.u64.wrap x = x := by
  rw [IntKind.wrap_u64]; omega
theorem w_succ {n : Nat} (h : n < 4611686018427387904) : wrap64 ((n : Int) + 1) = ((n + 1 : Nat) : Int) := by rw [w64 (by omega) (by omega)]; omega
theorem w_pred {n : Nat} (h : n < 4611686018427387904) : wrap64 ((n : Int) - 1) = (n : Int) - 1 := by rw [w64 (by omega) (by omega)]
theorem w_back {n : Nat} (h : n < 4611686018427387904) : wrap64 (((n + 1 : Nat) : Int) - 1) = (n : Int) := by rw [w64 (by omega) (by omega)]; omega
theorem rd_nat (l : List Int) (k : Nat) : rd l (k : Int) = l.getD k 0 := by unfold rd; rw [Int.toNat_natCast]
theorem ref_plain_loop {l : List Int} (h : Ok l) (hl : l.length < 35184372088832) : ∀ n : Nat, n ≤ l.length → (∀ x ∈ l.drop n, x = 0) →
    Ev (fun k => primroseref01_Plain.l0 k l (n : Int)) (dig (val l)) := by
  intro n
  induction n with
  | zero =>
    intro _ hz
    have h0 : val l = 0 := by rw [← val_take hz]; rfl
    rw [h0, dig_zero]
    refine Ev.step (f := fun _ => some []) (fun k => ?_) (Ev.now _)
    simp only [primroseref01_Plain.l0]
    rw [if_neg (by omega), if_pos (by omega), if_pos (by omega)]
    simp
  | succ n ih =>
    intro hn hz
    have e1 : n < 4611686018427387904 := by omega
    by_cases h0 : l.getD n 0 = 0
    · refine Ev.step (f := fun k => primroseref01_Plain.l0 k l (n : Int)) (fun k => ?_) (ih (by omega) fun x hx => ?_)
      · simp only [primroseref01_Plain.l0, w_back e1, rd_nat]
        rw [if_pos (by omega), if_pos (by omega), if_pos (by omega), if_pos h0]
      · rw [List.drop_eq_getElem_cons (by omega)] at hx
        rcases List.mem_cons.mp hx with e | e
        · rw [List.getD_eq_getElem?_getD, List.getElem?_eq_getElem (by omega)] at h0
          rw [e]; simpa using h0
        · exact hz x e
    · have hd := take_dig h (n := n + 1) (by omega) hn hz (by simpa using h0)
      refine Ev.step (f := fun _ => some (dig (val l))) (fun k => ?_) (Ev.now _)
      simp only [primroseref01_Plain.l0, w_back e1, rd_nat]
      rw [if_pos (by omega), if_pos (by omega), if_pos (by omega), if_neg h0, if_pos (by omega), if_pos (by omega)]
      have e2 : ((n + 1 : Nat) : Int).toNat = n + 1 := by omega
      rw [e2, ← hd, if_pos (by simp; omega)]
      simp
theorem ref_plain {l : List Int} (h : Ok l) (hl : l.length < 35184372088832) : Ev (fun k => primroseref01_Plain.f k l) (dig (val l)) := by
  unfold primroseref01_Plain.f
  exact ref_plain_loop h hl l.length (Nat.le_refl _) (by simp)
theorem ref_make {l : List Int} (h : Ok l) (hl : l.length < 35184372088832) (b : Bool) : Ev (fun k => primroseref02_Make.f k b l) (sg (zval b l), mg (zval b l)) := by
  unfold primroseref02_Make.f
  refine Ev.bind (ref_plain h hl) ?_
  rw [sg_zval, mg_zval]
  cases b with
  | true =>
    simp only [if_true, Bool.true_and]
    have : (decide (0 < (dig (val l)).length)) = decide (val l ≠ 0) := by
      congr 1
      have := @dig_len_pos (val l)
      exact propext ⟨fun h h2 => by have := this.mpr h2; omega, fun h => by rcases Nat.eq_zero_or_pos (dig (val l)).length with e | e; exact absurd (this.mp e) h; exact e⟩
    rw [this]; exact Ev.now _
  | false => simp only [Bool.false_eq_true, if_false, Bool.false_and]; exact Ev.now _
theorem alow {z : Int} (h : 0 ≤ z) : Int.tmod z 4294967296 % 4294967296 = z % 4294967296 := by rw [tm h, Int.emod_emod]
theorem ahigh {z : Int} (h : 0 ≤ z) (h1 : z < 18446744073709551616) : IntKind.u64.wrap (Int.tdiv z 4294967296) = z / 4294967296 := by
  rw [Int.tdiv_eq_ediv_of_nonneg h, u64w (by omega) (by omega)]
theorem getD_out {l : List Int} {n : Nat} (h : l.length ≤ n) : l.getD n 0 = 0 := by
  rw [List.getD_eq_getElem?_getD, List.getElem?_eq_none h]; rfl
def cmpN (x y : Nat) : Int := if x < y then -1 else if y < x then 1 else 0
theorem ref_cmp_loop {a b : List Int} (ha : Ok a) (hb : Ok b) (hla : a.length < 17592186044416) (hlb : b.length < 17592186044416) :
    ∀ n : Nat, n ≤ max a.length b.length → val (a.drop n) = val (b.drop n) →
      Ev (fun k => primroseref01_Cmp.l0 k a b ((n : Int) - 1)) (cmpN (val a) (val b)) := by
  intro n
  induction n with
  | zero =>
    intro _ hv
    simp only [List.drop_zero] at hv
    have : cmpN (val a) (val b) = 0 := by unfold cmpN; rw [if_neg (by omega), if_neg (by omega)]
    rw [this]
    refine Ev.step (f := fun _ => some 0) (fun k => ?_) (Ev.now _)
    simp only [primroseref01_Cmp.l0]
    rw [if_neg (by omega)]
  | succ n ih =>
    intro hn hv
    have e0 : ((n + 1 : Nat) : Int) - 1 = (n : Int) := by omega
    have e1 : n < 4611686018427387904 := by omega
    have hxa := ha.getD n
    have hxb := hb.getD n
    rw [e0]
    have h3 : Ev (fun k => primroseref01_Cmp.j2 k a b (n : Int) (a.getD n 0) (b.getD n 0)) (cmpN (val a) (val b)) := by
      have key : ∀ (x y : List Int), Ok x → Ok y → x.getD n 0 < y.getD n 0 → val (x.drop (n + 1)) = val (y.drop (n + 1)) → val x < val y := by
        intro x y hx hy hlt he
        have tx := val_take_succ x n
        have ty := val_take_succ y n
        have bx := val_lt (hx.take n)
        have lx : (x.take n).length ≤ n := by rw [List.length_take]; omega
        have bx2 : pw (x.take n).length ≤ pw n := pw_le lx
        have sx : val x = val (x.take (n + 1)) + pw (n + 1) * val (x.drop (n + 1)) := by
          by_cases hl : n + 1 ≤ x.length
          · exact val_split x (n + 1) hl
          · rw [val_take_all x (by omega), val_drop_all x (by omega)]; simp
        have sy : val y = val (y.take (n + 1)) + pw (n + 1) * val (y.drop (n + 1)) := by
          by_cases hl : n + 1 ≤ y.length
          · exact val_split y (n + 1) hl
          · rw [val_take_all y (by omega), val_drop_all y (by omega)]; simp
        have gx := hx.getD n
        have gy := hy.getD n
        have hl2 : (x.getD n 0).toNat + 1 ≤ (y.getD n 0).toNat := by omega
        have hm := Nat.mul_le_mul_left (pw n) hl2
        rw [Nat.mul_add, Nat.mul_one] at hm
        rw [sx, sy, he, tx, ty]
        omega
      by_cases c1 : a.getD n 0 < b.getD n 0
      · have := key a b ha hb c1 hv
        have e : cmpN (val a) (val b) = -1 := by unfold cmpN; rw [if_pos this]
        rw [e]
        refine Ev.step (f := fun _ => some (-1)) (fun k => ?_) (Ev.now _)
        simp only [primroseref01_Cmp.j2]; rw [if_pos c1]
      · by_cases c2 : a.getD n 0 > b.getD n 0
        · have := key b a hb ha c2 hv.symm
          have e : cmpN (val a) (val b) = 1 := by unfold cmpN; rw [if_neg (by omega), if_pos this]
          rw [e]
          refine Ev.step (f := fun _ => some 1) (fun k => ?_) (Ev.now _)
          simp only [primroseref01_Cmp.j2]; rw [if_neg c1, if_pos c2]
        · refine Ev.step (f := fun k => primroseref01_Cmp.l0 k a b ((n : Int) - 1)) (fun k => ?_) (ih (by omega) ?_)
          · simp only [primroseref01_Cmp.j2, w_pred e1]; rw [if_neg c1, if_neg c2]
          · rw [val_drop_succ a n, val_drop_succ b n, hv]
            have : a.getD n 0 = b.getD n 0 := by omega
            rw [this]
    have h2 : Ev (fun k => primroseref01_Cmp.j1 k a b (n : Int) (a.getD n 0) 0) (cmpN (val a) (val b)) := by
      refine Ev.step (f := fun k => primroseref01_Cmp.j2 k a b (n : Int) (a.getD n 0) (b.getD n 0)) (fun k => ?_) h3
      simp only [primroseref01_Cmp.j1, rd_nat]
      by_cases lb : n < b.length
      · rw [if_pos (by omega), if_pos (by omega)]
      · have eb : b.getD n 0 = 0 := by rw [List.getD_eq_getElem?_getD, List.getElem?_eq_none (by omega)]; rfl
        rw [if_neg (by omega), eb]
    refine Ev.step (f := fun k => primroseref01_Cmp.j1 k a b (n : Int) (a.getD n 0) 0) (fun k => ?_) h2
    simp only [primroseref01_Cmp.l0, rd_nat]
    rw [if_pos (by omega)]
    by_cases la : n < a.length
    · rw [if_pos (by omega), if_pos (by omega)]
    · have ea : a.getD n 0 = 0 := by rw [List.getD_eq_getElem?_getD, List.getElem?_eq_none (by omega)]; rfl
      rw [if_neg (by omega), ea]
theorem ref_ncmp {a b : List Int} (ha : Ok a) (hb : Ok b) (hla : a.length < 17592186044416) (hlb : b.length < 17592186044416) :
    Ev (fun k => primroseref01_Cmp.f k a b) (cmpN (val a) (val b)) := by
  unfold primroseref01_Cmp.f
  have e : mx (a.length : Int) (b.length : Int) = ((max a.length b.length : Nat) : Int) := by unfold mx; omega
  rw [e, w64 (by omega) (by omega)]
  refine ref_cmp_loop ha hb hla hlb _ (Nat.le_refl _) ?_
  rw [val_drop_all a (by omega), val_drop_all b (by omega)]
theorem limb_mul {x y : Int} (hx : 0 ≤ x ∧ x < 4294967296) (hy : 0 ≤ y ∧ y < 4294967296) : 0 ≤ x * y ∧ x * y ≤ 18446744065119617025 := by
  refine ⟨Int.mul_nonneg hx.1 hy.1, ?_⟩
  have : x * y ≤ 4294967295 * 4294967295 := Int.mul_le_mul (by omega) (by omega) hy.1 (by omega)
  omega
theorem am {c x y o : Int} (hc : 0 ≤ c ∧ c < 4294967296) (hx : 0 ≤ x ∧ x < 4294967296) (hy : 0 ≤ y ∧ y < 4294967296) (ho : 0 ≤ o ∧ o < 4294967296) :
    IntKind.u64.wrap (IntKind.u64.wrap (c + IntKind.u64.wrap (IntKind.u64.wrap x * IntKind.u64.wrap y)) + IntKind.u64.wrap o) = c + x * y + o := by
  have h := limb_mul hx hy
  rw [u64w (x := x) (by omega) (by omega), u64w (x := y) (by omega) (by omega), u64w (x := x * y) (by omega) (by omega), u64w (x := o) (by omega) (by omega), u64w (x := c + x * y) (by omega) (by omega), u64w (by omega) (by omega)]
theorem w_add {i j : Nat} (h : i + j < 4611686018427387904) : wrap64 ((i : Int) + (j : Int)) = ((i + j : Nat) : Int) := by rw [w64 (by omega) (by omega)]; omega
theorem getD_set_ne {l : List Int} {n t : Nat} {v : Int} (h : n ≠ t) : (l.set n v).getD t 0 = l.getD t 0 := by
  rw [List.getD_eq_getElem?_getD, List.getElem?_set_ne h, List.getD_eq_getElem?_getD]
theorem ref_mul_inner {a b : List Int} (ha : Ok a) (hb : Ok b) (hla : a.length < 17592186044416) (hlb : b.length < 17592186044416) {i : Nat} (hi : i < a.length) {V : List Int}
    (outer : ∀ o : List Int, o.length = a.length + b.length → Ok o → (∀ t, i + 1 + b.length ≤ t → o.getD t 0 = 0) → val o = val (a.take (i + 1)) * val b → Ev (fun k => primroseref01_Mul.l0 k a b o ((i + 1 : Nat) : Int)) V) :
    ∀ (m j : Nat) (o : List Int) (c : Int), b.length - j ≤ m → j ≤ b.length → o.length = a.length + b.length → Ok o → 0 ≤ c ∧ c < 4294967296 → (∀ t, i + b.length ≤ t → o.getD t 0 = 0) →
      val o + pw (i + j) * c.toNat = val (a.take i) * val b + pw i * (a.getD i 0).toNat * val (b.take j) →
      Ev (fun k => primroseref01_Mul.l1 k a b o (i : Int) c (j : Int)) V := by
  have done : ∀ (o : List Int) (c : Int), o.length = a.length + b.length → Ok o → 0 ≤ c ∧ c < 4294967296 → (∀ t, i + b.length ≤ t → o.getD t 0 = 0) →
      val o + pw (i + b.length) * c.toNat = val (a.take i) * val b + pw i * (a.getD i 0).toNat * val (b.take b.length) →
      Ev (fun k => primroseref01_Mul.l1 k a b o (i : Int) c (b.length : Int)) V := by
    intro o c hol ho hc hz hv
    have e1 : i < 4611686018427387904 := by omega
    have e2 : i + b.length < 4611686018427387904 := by omega
    have e3 : ((i + b.length : Nat) : Int).toNat = i + b.length := by omega
    have e4 : c % 4294967296 = c := by omega
    refine Ev.step (f := fun k => primroseref01_Mul.l0 k a b (o.set (i + b.length) c) ((i + 1 : Nat) : Int)) (fun k => ?_) (outer _ (by simp [hol]) (ho.set _ hc.1 hc.2) (fun t ht => ?_) ?_)
    · simp only [primroseref01_Mul.l1, w_add e2, w_succ e1, e3, e4]
      rw [if_neg (by omega), if_pos (by omega), if_pos (by omega)]
    · rw [getD_set_ne (by omega)]; exact hz t (by omega)
    · have hs := val_set o (i + b.length) c (by omega)
      rw [hz _ (Nat.le_refl _)] at hs
      rw [val_take_all b (Nat.le_refl _)] at hv
      rw [val_take_succ a i, Nat.add_mul, ← hv, ← hs]
      simp
  intro m
  induction m with
  | zero =>
    intro j o c hm hj hol ho hc hz hv
    have hj2 : j = b.length := by omega
    subst hj2
    exact done o c hol ho hc hz hv
  | succ m ih =>
    intro j o c hm hj hol ho hc hz hv
    by_cases hj2 : j = b.length
    · subst hj2; exact done o c hol ho hc hz hv
    · have e1 : j < 4611686018427387904 := by omega
      have e2 : i + j < 4611686018427387904 := by omega
      have e3 : ((i + j : Nat) : Int).toNat = i + j := by omega
      have hx := ha.getD i
      have hy := hb.getD j
      have hoo := ho.getD (i + j)
      have hxy := limb_mul hx hy
      refine Ev.step (f := fun k => primroseref01_Mul.l1 k a b (o.set (i + j) ((c + a.getD i 0 * b.getD j 0 + o.getD (i + j) 0) % 4294967296)) (i : Int) ((c + a.getD i 0 * b.getD j 0 + o.getD (i + j) 0) / 4294967296) ((j + 1 : Nat) : Int)) (fun k => ?_)
        (ih (j + 1) _ _ (by omega) (by omega) (by simp [hol]) (ho.set _ (by omega) (by omega)) (by omega) (fun t ht => ?_) ?_)
      · simp only [primroseref01_Mul.l1, w_add e2, w_succ e1, e3, rd_nat]
        rw [if_pos (by omega), if_pos (by omega), if_pos (by omega), if_pos (by omega), if_pos (by omega), if_pos (by omega), am hc hx hy hoo, alow (by omega), ahigh (by omega) (by omega)]
      · rw [getD_set_ne (by omega)]; exact hz t ht
      · have hs := val_set o (i + j) ((c + a.getD i 0 * b.getD j 0 + o.getD (i + j) 0) % 4294967296) (by omega)
        rw [val_take_succ b j, ← Nat.add_assoc, pw_succ, pw_add i j]
        rw [pw_add i j] at hv hs
        have hc' : ((c + a.getD i 0 * b.getD j 0 + o.getD (i + j) 0) % 4294967296).toNat + 4294967296 * ((c + a.getD i 0 * b.getD j 0 + o.getD (i + j) 0) / 4294967296).toNat = c.toNat + (a.getD i 0).toNat * (b.getD j 0).toNat + (o.getD (i + j) 0).toNat := by
          have e : ((a.getD i 0 * b.getD j 0).toNat) = (a.getD i 0).toNat * (b.getD j 0).toNat := Int.toNat_mul hx.1 hy.1
          rw [← e]; omega
        generalize ((c + a.getD i 0 * b.getD j 0 + o.getD (i + j) 0) % 4294967296) = r at *
        generalize ((c + a.getD i 0 * b.getD j 0 + o.getD (i + j) 0) / 4294967296) = q at *
        generalize val (o.set (i + j) r) = vs at *
        generalize (o.getD (i + j) 0).toNat = oo at *
        generalize (a.getD i 0).toNat = xa at *
        generalize (b.getD j 0).toNat = xb at *
        generalize pw i = P at *
        generalize pw j = Q at *
        clear hx hy hoo hxy done outer ih
        grind
theorem ref_mul_outer {a b : List Int} (ha : Ok a) (hb : Ok b) (hla : a.length < 17592186044416) (hlb : b.length < 17592186044416) :
    ∀ (m i : Nat) (o : List Int), a.length - i ≤ m → i ≤ a.length → o.length = a.length + b.length → Ok o → (∀ t, i + b.length ≤ t → o.getD t 0 = 0) → val o = val (a.take i) * val b →
      Ev (fun k => primroseref01_Mul.l0 k a b o (i : Int)) (dig (val a * val b)) := by
  have done : ∀ o : List Int, o.length = a.length + b.length → Ok o → val o = val (a.take a.length) * val b → Ev (fun k => primroseref01_Mul.l0 k a b o (a.length : Int)) (dig (val a * val b)) := by
    intro o hol ho hv
    rw [val_take_all a (Nat.le_refl _)] at hv
    rw [← hv]
    refine Ev.step (f := fun k => (primroseref01_Plain.f k o).bind fun t281 => (some t281)) (fun k => ?_) (Ev.bind (ref_plain ho (by omega)) (Ev.now _))
    simp only [primroseref01_Mul.l0]
    rw [if_neg (by omega)]
  intro m
  induction m with
  | zero =>
    intro i o hm hi hol ho hz hv
    have hi2 : i = a.length := by omega
    subst hi2
    exact done o hol ho hv
  | succ m ih =>
    intro i o hm hi hol ho hz hv
    by_cases hi2 : i = a.length
    · subst hi2; exact done o hol ho hv
    · have := ref_mul_inner ha hb hla hlb (show i < a.length by omega) (V := dig (val a * val b)) (fun o' h1 h2 h3 h4 => ih (i + 1) o' (by omega) (by omega) h1 h2 h3 h4) b.length 0 o 0 (by omega) (by omega) hol ho (by omega) hz (by simp [hv, val])
      refine Ev.step (f := fun k => primroseref01_Mul.l1 k a b o (i : Int) 0 0) (fun k => ?_) this
      simp only [primroseref01_Mul.l0]
      rw [if_pos (by omega)]
theorem ref_nmul {a b : List Int} (ha : Ok a) (hb : Ok b) (hla : a.length < 17592186044416) (hlb : b.length < 17592186044416) :
    Ev (fun k => primroseref01_Mul.f k a b) (dig (val a * val b)) := by
  unfold primroseref01_Mul.f
  have e1 : a.length + b.length < 4611686018427387904 := by omega
  have e3 : ((a.length + b.length : Nat) : Int).toNat = a.length + b.length := by omega
  simp only [w_add e1, e3]
  simp only [if_pos (show (0 : Int) ≤ ((a.length + b.length : Nat) : Int) by omega), if_pos (show a.length + b.length ≤ 70368744177664 by omega)]
  refine ref_mul_outer ha hb hla hlb a.length 0 _ (by omega) (by omega) (by simp) (Ok.replicate _) (fun t _ => ?_) ?_
  · rw [List.getD_eq_getElem?_getD, List.getElem?_replicate]; split <;> rfl
  · rw [val_replicate]; simp [val]
theorem ref_zmul {p q : Bool} {a b : List Int} (ha : Ok a) (hb : Ok b) (hla : a.length < 8796093022208) (hlb : b.length < 8796093022208) :
    Ev (fun k => primroseref02_Mul.f k p a q b) (sg (zval p a * zval q b), mg (zval p a * zval q b)) := by
  have la := val_lt ha
  have lb := val_lt hb
  unfold primroseref02_Mul.f
  refine Ev.bind (ref_nmul ha hb (by omega) (by omega)) ?_
  have hl : val a * val b < pw (a.length + b.length) := by rw [pw_add]; exact Nat.mul_lt_mul'' la lb
  have hm := ref_make (ok_dig (val a * val b)) (by have := dig_len_le hl; omega) (p != q)
  have e : zval (p != q) (dig (val a * val b)) = zval p a * zval q b := by
    unfold zval; rw [val_dig]
    cases p <;> cases q <;> simp [Int.neg_mul, Int.mul_neg]
  rw [e] at hm
  exact Ev.bind hm (Ev.now _)
end Go.Proofs.Ytmgjjdodjamomaa.PureB
end
section
namespace Go.Proofs.Ytmgjjdodjamomaa.PureB
open Go.RowKit Go.Proofs.Ytmgjjdodjamomaa.PB Go.Proofs.YtmgjjdodjamomaaW.PrintWords Go.Proofs.YtmgjjdodjamomaaW.PrintLast
open Go.Proofs.Ytmgjjdodjamomaa.Limb
theorem i64_or_join {a x : Int} (h0 : 0 ≤ a) (h1 : a < 2147483648) (h2 : 0 ≤ x) (h3 : x < 4294967296) : Go.bits .or .i64 (a * 4294967296) x = a * 4294967296 + x := by
  show IntKind.i64.wrap ((BitVec.ofInt 64 (a * 4294967296) ||| BitVec.ofInt 64 x).toNat : Nat) = a * 4294967296 + x
  have e : (BitVec.ofInt 64 (a * 4294967296) ||| BitVec.ofInt 64 x).toNat = 2 ^ 32 * a.toNat + x.toNat := by
    rw [BitVec.toNat_or, BitVec.toNat_ofInt, BitVec.toNat_ofInt, Nat.two_pow_add_eq_or_of_lt (by omega)]
    congr 1 <;> omega
  rw [e, IntKind.wrap_i64]
  omega
theorem limbs_loop {p : Int} (hp : 2 ≤ p) (hb : p < 2147483648) {l : List Int} (h : Ok l) (hl : l.length < 4611686018427387904) :
    ∀ (m n : Nat), n ≤ l.length → n ≤ m → Ev (fun k => prime_limbs.l0 k l p ((val (l.drop n) : Int) % p) (l.length : Int) ((l.length - n : Nat) : Int)) ((val l : Int) % p) := by
  have hz : Ev (fun k => prime_limbs.l0 k l p ((val (l.drop 0) : Int) % p) (l.length : Int) ((l.length - 0 : Nat) : Int)) ((val l : Int) % p) := by
    refine Ev.step (f := fun _ => some ((val l : Int) % p)) (fun k => ?_) (Ev.now _)
    simp only [prime_limbs.l0, List.drop_zero]
    rw [if_neg (by omega)]
  intro m
  induction m with
  | zero =>
    intro n hn hm
    have : n = 0 := by omega
    subst this; exact hz
  | succ m ih =>
    intro n hn hm
    by_cases h0 : n = 0
    · subst h0; exact hz
    · obtain ⟨n, rfl⟩ : ∃ q, n = q + 1 := ⟨n - 1, by omega⟩
      have hx := h.getD n
      have hr := @mod_bd (val (l.drop (n + 1)) : Int) p (by omega)
      have h1 := val_drop_succ l n
      have e : ((val (l.drop (n + 1)) : Int) % p * 4294967296 + l.getD n 0) % p = (val (l.drop n) : Int) % p := by
        rw [h1]
        have : (((l.getD n 0).toNat + 4294967296 * val (l.drop (n + 1)) : Nat) : Int) = (val (l.drop (n + 1)) : Int) * 4294967296 + l.getD n 0 := by omega
        rw [this, Int.add_emod, Int.mul_emod, Int.emod_emod, ← Int.mul_emod, ← Int.add_emod]
      refine Ev.step (f := fun k => prime_limbs.l0 k l p ((val (l.drop n) : Int) % p) (l.length : Int) ((l.length - n : Nat) : Int)) (fun k => ?_) (ih n (by omega) (by omega))
      simp only [prime_limbs.l0]
      rw [if_pos (by omega)]
      have ei : wrap64 (wrap64 ((l.length : Int) - 1) - ((l.length - (n + 1) : Nat) : Int)) = (n : Int) := by
        rw [w64 (x := (l.length : Int) - 1) (by omega) (by omega), w64 (by omega) (by omega)]; omega
      have en : wrap64 (((l.length - (n + 1) : Nat) : Int) + 1) = ((l.length - n : Nat) : Int) := by
        clear ei
        rw [w64 (by omega) (by omega)]; omega
      rw [ei, en]
      clear ei en
      rw [if_pos (by omega), if_pos (by omega), if_neg (by omega), rd_nat, w64 (x := l.getD n 0) (by omega) (by omega), w64 (x := (val (l.drop (n + 1)) : Int) % p * 4294967296) (by omega) (by omega),
        i64_or_join hr.1 (by omega) hx.1 hx.2, tm (by omega), e]
theorem prime_limbs_ok {p : Int} (hp : 2 ≤ p) (hb : p < 2147483648) {l : List Int} (h : Ok l) (hl : l.length < 4611686018427387904) : Ev (fun k => prime_limbs.f k l p) ((val l : Int) % p) := by
  have := limbs_loop hp hb h hl l.length l.length (Nat.le_refl _) (Nat.le_refl _)
  rw [val_drop_all l (Nat.le_refl _), Nat.sub_self] at this
  exact this
/-- what a whole number's rest is, with the error's number -/
noncomputable def modS (z p : Int) : Int × Int := if isP p = true then (z % p, 0) else (0, 50)
theorem prime_mod {l : List Int} (h : Ok l) (hl : l.length < 4611686018427387904) (b : Bool) (p : Int) : Ev (fun k => prime_Mod.f k b l p) (modS (zval b l) p) := by
  unfold prime_Mod.f
  refine Ev.bind (prime_is p) ?_
  cases hp : isP p with
  | false => simp only [modS, hp, Bool.false_eq_true, if_false]; exact Ev.now _
  | true =>
    have hb := prb_pos (isP_true.mp hp)
    simp only [modS, hp, if_true]
    refine Ev.bind (prime_limbs_ok hb.1 hb.2 h hl) ?_
    have hm := @mod_bd (val l : Int) p (by omega)
    unfold zval
    cases b with
    | false => simp only [Bool.false_eq_true, if_false]; exact Ev.now _
    | true =>
      simp only [if_true]
      rw [w64 (by omega) (by omega), rest_eq (by omega) (by omega)]
      have : (-((val l : Int) % p)) % p = (-(val l : Int)) % p := by
        rw [← Int.zero_sub, ← Int.zero_sub (val l : Int), Int.sub_emod, Int.emod_emod, ← Int.sub_emod]
      rw [this]
      exact Ev.now _
end Go.Proofs.Ytmgjjdodjamomaa.PureB
end
section
namespace Go.Proofs.Ytmgjjdodjamomaa.PureB
open Go.RowKit Go.Proofs.Ytmgjjdodjamomaa.PB Go.Proofs.YtmgjjdodjamomaaW.PrintWords Go.Proofs.YtmgjjdodjamomaaW.PrintLast
open Go.Proofs.Ytmgjjdodjamomaa.Limb
theorem nat_trim_loop {l : List Int} (h : Ok l) (hl : l.length < 35184372088832) : ∀ n : Nat, n ≤ l.length → (∀ x ∈ l.drop n, x = 0) →
    Ev (fun k => nat_trim.l0 k l (n : Int)) (dig (val l)) := by
  intro n
  induction n with
  | zero =>
    intro _ hz
    have h0 : val l = 0 := by rw [← val_take hz]; rfl
    rw [h0, dig_zero]
    refine Ev.step (f := fun _ => some []) (fun k => ?_) (Ev.now _)
    simp only [nat_trim.l0]
    rw [if_neg (by omega), if_pos (by omega), if_pos (by omega)]
    simp
  | succ n ih =>
    intro hn hz
    have e1 : n < 4611686018427387904 := by omega
    by_cases h0 : l.getD n 0 = 0
    · refine Ev.step (f := fun k => nat_trim.l0 k l (n : Int)) (fun k => ?_) (ih (by omega) fun x hx => ?_)
      · simp only [nat_trim.l0, w_back e1, rd_nat]
        rw [if_pos (by omega), if_pos (by omega), if_pos (by omega), if_pos h0]
      · rw [List.drop_eq_getElem_cons (by omega)] at hx
        rcases List.mem_cons.mp hx with e | e
        · rw [List.getD_eq_getElem?_getD, List.getElem?_eq_getElem (by omega)] at h0
          rw [e]; simpa using h0
        · exact hz x e
    · have hd := take_dig h (n := n + 1) (by omega) hn hz (by simpa using h0)
      refine Ev.step (f := fun _ => some (dig (val l))) (fun k => ?_) (Ev.now _)
      simp only [nat_trim.l0, w_back e1, rd_nat]
      rw [if_pos (by omega), if_pos (by omega), if_pos (by omega), if_neg h0, if_pos (by omega), if_pos (by omega)]
      have e2 : ((n + 1 : Nat) : Int).toNat = n + 1 := by omega
      rw [e2, ← hd]
theorem nat_trim_ok {l : List Int} (h : Ok l) (hl : l.length < 35184372088832) : Ev (fun k => nat_trim.f k l) (dig (val l)) := by
  unfold nat_trim.f
  exact nat_trim_loop h hl l.length (Nat.le_refl _) (by simp)
theorem dig_len_le' {l : List Int} (h : Ok l) : (dig (val l)).length ≤ l.length := dig_len_le (val_lt h)
theorem nat_plain_ok {l : List Int} (h : Ok l) (hl : l.length < 35184372088832) : Ev (fun k => nat_Plain.f k l) (dig (val l)) := by
  unfold nat_Plain.f
  refine Ev.bind (nat_trim_ok h hl) ?_
  have := dig_len_le' h
  simp only [slices_Clone_uint32_uint32.f]
  rw [if_pos (by omega)]
  exact Ev.now _
theorem dig_lt_of_len {x y : Nat} (h : (dig x).length < (dig y).length) : x < y := by
  refine Nat.lt_of_not_ge fun hc => ?_
  have h1 := val_lt (ok_dig x)
  rw [val_dig] at h1
  have := dig_len_le (Nat.lt_of_le_of_lt hc h1)
  omega
theorem val_cut (x : List Int) (n : Nat) : val x = val (x.take n) + pw n * val (x.drop n) := by
  by_cases hl : n ≤ x.length
  · exact val_split x n hl
  · rw [val_take_all x (by omega), val_drop_all x (by omega)]; simp
theorem val_take_lt {x : List Int} (h : Ok x) (n : Nat) : val (x.take n) < pw n := by
  have bx := val_lt (h.take n)
  have lx : (x.take n).length ≤ n := by rw [List.length_take]; omega
  exact Nat.lt_of_lt_of_le bx (pw_le lx)
theorem val_lt_at {x y : List Int} {n : Nat} (hx : Ok x) (hy : Ok y) (hlt : x.getD n 0 < y.getD n 0) (he : val (x.drop (n + 1)) = val (y.drop (n + 1))) : val x < val y := by
  have tx := val_take_succ x n
  have ty := val_take_succ y n
  have bx := val_take_lt hx n
  have sx := val_cut x (n + 1)
  have sy := val_cut y (n + 1)
  have gx := hx.getD n
  have gy := hy.getD n
  have hl2 : (x.getD n 0).toNat + 1 ≤ (y.getD n 0).toNat := by omega
  have hm := Nat.mul_le_mul_left (pw n) hl2
  rw [Nat.mul_add, Nat.mul_one] at hm
  rw [sx, sy, he, tx, ty]
  omega
theorem nat_cmp_loop {a b : List Int} (ha : Ok a) (hb : Ok b) (hl : a.length = b.length) (hla : a.length < 17592186044416) :
    ∀ n : Nat, n ≤ a.length → val (a.drop n) = val (b.drop n) →
      Ev (fun k => nat_Cmp.l0 k a b (a.length : Int) ((a.length - n : Nat) : Int)) (cmpN (val a) (val b)) := by
  intro n
  induction n with
  | zero =>
    intro _ hv
    simp only [List.drop_zero] at hv
    have : cmpN (val a) (val b) = 0 := by unfold cmpN; rw [if_neg (by omega), if_neg (by omega)]
    rw [this]
    refine Ev.step (f := fun _ => some 0) (fun k => ?_) (Ev.now _)
    simp only [nat_Cmp.l0]
    rw [if_neg (by omega)]
  | succ n ih =>
    intro hn hv
    have ei : wrap64 (wrap64 ((a.length : Int) - 1) - ((a.length - (n + 1) : Nat) : Int)) = (n : Int) := by
      rw [w64 (x := (a.length : Int) - 1) (by omega) (by omega), w64 (by omega) (by omega)]; omega
    have en : wrap64 (((a.length - (n + 1) : Nat) : Int) + 1) = ((a.length - n : Nat) : Int) := by
      clear ei
      rw [w64 (by omega) (by omega)]; omega
    have key : ∀ k, nat_Cmp.l0 (k + 1) a b (a.length : Int) ((a.length - (n + 1) : Nat) : Int) = if a.getD n 0 < b.getD n 0 then some (-1) else if a.getD n 0 > b.getD n 0 then some 1 else nat_Cmp.l0 k a b (a.length : Int) ((a.length - n : Nat) : Int) := by
      intro k
      simp only [nat_Cmp.l0, ei, en, rd_nat]
      clear ei en
      rw [if_pos (by omega), if_pos (by omega), if_pos (by omega), if_pos (by omega)]
    clear ei en
    by_cases c1 : a.getD n 0 < b.getD n 0
    · have := val_lt_at ha hb c1 hv
      have e : cmpN (val a) (val b) = -1 := by unfold cmpN; rw [if_pos this]
      rw [e]
      exact Ev.step (f := fun _ => some (-1)) (fun k => by rw [key k, if_pos c1]) (Ev.now _)
    · by_cases c2 : a.getD n 0 > b.getD n 0
      · have := val_lt_at hb ha c2 hv.symm
        have e : cmpN (val a) (val b) = 1 := by unfold cmpN; rw [if_neg (by omega), if_pos this]
        rw [e]
        exact Ev.step (f := fun _ => some 1) (fun k => by rw [key k, if_neg c1, if_pos c2]) (Ev.now _)
      · refine Ev.step (f := fun k => nat_Cmp.l0 k a b (a.length : Int) ((a.length - n : Nat) : Int)) (fun k => by rw [key k, if_neg c1, if_neg c2]) (ih (by omega) ?_)
        rw [val_drop_succ a n, val_drop_succ b n, hv]
        have : a.getD n 0 = b.getD n 0 := by omega
        rw [this]
theorem nat_cmp_ok {a b : List Int} (ha : Ok a) (hb : Ok b) (hla : a.length < 17592186044416) (hlb : b.length < 17592186044416) :
    Ev (fun k => nat_Cmp.f k a b) (cmpN (val a) (val b)) := by
  unfold nat_Cmp.f
  refine Ev.bind (nat_trim_ok ha (by omega)) ?_
  refine Ev.bind (nat_trim_ok hb (by omega)) ?_
  have l1 := dig_len_le' ha
  have l2 := dig_len_le' hb
  by_cases c : (dig (val a)).length = (dig (val b)).length
  · have := nat_cmp_loop (ok_dig (val a)) (ok_dig (val b)) c (by omega) (dig (val a)).length (Nat.le_refl _) (by rw [val_drop_all _ (Nat.le_refl _), val_drop_all _ (by omega)])
    rw [val_dig, val_dig, Nat.sub_self] at this
    refine Ev.congr (fun k => ?_) this
    rw [if_pos (by omega)]; rfl
  · by_cases c2 : (dig (val a)).length < (dig (val b)).length
    · have e : cmpN (val a) (val b) = -1 := by unfold cmpN; rw [if_pos (dig_lt_of_len c2)]
      rw [e]
      refine Ev.congr (fun k => ?_) (Ev.now _)
      rw [if_neg (by omega), if_pos (by omega)]
    · have h3 := dig_lt_of_len (x := val b) (y := val a) (by omega)
      have e : cmpN (val a) (val b) = 1 := by unfold cmpN; rw [if_neg (by omega), if_pos h3]
      rw [e]
      refine Ev.congr (fun k => ?_) (Ev.now _)
      rw [if_neg (by omega), if_neg (by omega)]
end Go.Proofs.Ytmgjjdodjamomaa.PureB
end
section
namespace Go.Proofs.Ytmgjjdodjamomaa.PureB
open Go.RowKit Go.Proofs.Ytmgjjdodjamomaa.PB Go.Proofs.YtmgjjdodjamomaaW.PrintWords Go.Proofs.YtmgjjdodjamomaaW.PrintLast
open Go.Proofs.Ytmgjjdodjamomaa.Limb
theorem bl_limb {x : Int} (h : 0 ≤ x ∧ x < 4294967296) : bl x.toNat ≤ 32 := by
  refine bl_le (k := 32) ?_
  have e : (2 : Nat) ^ 32 = 4294967296 := by decide
  rw [e]; omega
theorem lead_ok {x : Int} (h : 0 ≤ x ∧ x < 4294967296) : bits_LeadingZeros32.f x = some ((32 - bl x.toNat : Nat) : Int) := by
  have hb := bl_limb h
  unfold bits_LeadingZeros32.f bits_Len32.f
  rw [if_pos (by omega), if_pos (by omega), bl_lib (by omega)]
  simp only [Option.bind_some]
  rw [w64 (by omega) (by omega)]
  congr 1
  omega
theorem nat_bits_ok {l : List Int} (h : Ok l) (hl : l.length < 17592186044416) : Ev (fun k => nat_Bits.f k l) ((bl (val l) : Nat) : Int) := by
  unfold nat_Bits.f
  refine Ev.bind (nat_trim_ok h (by omega)) ?_
  by_cases h0 : val l = 0
  · rw [h0, dig_zero, bl_zero]
    exact Ev.now _
  · obtain ⟨h1, h2⟩ := dig_last h0
    have h3 := bl_val (ok_dig (val l)) h1 h2
    rw [val_dig] at h3
    have h4 := dig_len_le' h
    have h5 := (ok_dig (val l)).getD ((dig (val l)).length - 1)
    have h6 := bl_limb h5
    have e1 : wrap64 (((dig (val l)).length : Int) - 1) = (((dig (val l)).length - 1 : Nat) : Int) := by rw [w64 (by omega) (by omega)]; omega
    refine Ev.congr (fun k => ?_) (Ev.now _)
    rw [if_neg (by omega), e1, rd_nat]
    clear e1
    rw [if_pos (by omega), if_pos (by omega), lead_ok h5]
    simp only [Option.bind_some]
    rw [w64 (x := 32 * ((dig (val l)).length : Int)) (by omega) (by omega), w64 (by omega) (by omega), h3]
    congr 1
    omega
theorem ref_bits_loop : ∀ (x n : Nat), x < 4294967296 → n + bl x < 1125899906842624 → Ev (fun k => primroseref01_Bits.l0 k (n : Int) (x : Int)) ((n + bl x : Nat) : Int) := by
  intro x
  induction x using Nat.strongRecOn with
  | ind x ih =>
    intro n hx hn
    by_cases h0 : x = 0
    · subst h0
      rw [bl_zero]
      refine Ev.step (f := fun _ => some (n : Int)) (fun k => ?_) (Ev.now _)
      simp only [primroseref01_Bits.l0]
      rw [if_neg (by omega)]
    · rw [bl_pos h0] at hn ⊢
      have h1 := ih (x / 2) (by omega) (n + 1) (by omega) (by omega)
      rw [show n + 1 + bl (x / 2) = n + (bl (x / 2) + 1) by omega] at h1
      refine Ev.step (f := fun k => primroseref01_Bits.l0 k ((n + 1 : Nat) : Int) ((x / 2 : Nat) : Int)) (fun k => ?_) h1
      simp only [primroseref01_Bits.l0]
      have e : Int.tdiv (x : Int) 2 % 4294967296 = ((x / 2 : Nat) : Int) := by
        rw [Int.tdiv_eq_ediv_of_nonneg (by omega)]; omega
      rw [if_pos (by omega), w_succ (by omega), e]
theorem ref_bits {l : List Int} (h : Ok l) (hl : l.length < 17592186044416) : Ev (fun k => primroseref01_Bits.f k l) ((bl (val l) : Nat) : Int) := by
  unfold primroseref01_Bits.f
  refine Ev.bind (ref_plain h (by omega)) ?_
  by_cases h0 : val l = 0
  · rw [h0, dig_zero, bl_zero]
    exact Ev.now _
  · obtain ⟨h1, h2⟩ := dig_last h0
    have h3 := bl_val (ok_dig (val l)) h1 h2
    rw [val_dig] at h3
    have h4 := dig_len_le' h
    have h5 := (ok_dig (val l)).getD ((dig (val l)).length - 1)
    have e1 : wrap64 (((dig (val l)).length : Int) - 1) = (((dig (val l)).length - 1 : Nat) : Int) := by rw [w64 (by omega) (by omega)]; omega
    have e2 : wrap64 (32 * (((dig (val l)).length - 1 : Nat) : Int)) = ((32 * ((dig (val l)).length - 1) : Nat) : Int) := by
      clear e1
      rw [w64 (by omega) (by omega)]; omega
    have h6 := ref_bits_loop ((dig (val l)).getD ((dig (val l)).length - 1) 0).toNat (32 * ((dig (val l)).length - 1)) (by omega) (by have := bl_limb h5; omega)
    rw [← h3] at h6
    refine Ev.congr (fun k => ?_) h6
    have e3 : ((((dig (val l)).getD ((dig (val l)).length - 1) 0).toNat : Nat) : Int) = (dig (val l)).getD ((dig (val l)).length - 1) 0 := by
      clear e1 e2; omega
    rw [if_neg (by clear e1 e2; omega), e1, rd_nat, e2, e3]
    clear e1 e2 e3
    rw [if_pos (by omega), if_pos (by omega)]
theorem ref_of_loop : ∀ (n : Nat) (acc : List Int), n < 9223372036854775808 → acc.length + (dig n).length < 1000 → Ev (fun k => primroseref01_Of.l0 k (n : Int) acc) (acc ++ dig n) := by
  intro n
  induction n using Nat.strongRecOn with
  | ind n ih =>
    intro acc hn hl
    by_cases h0 : n = 0
    · subst h0
      rw [dig_zero, List.append_nil]
      refine Ev.step (f := fun _ => some acc) (fun k => ?_) (Ev.now _)
      simp only [primroseref01_Of.l0]
      rw [if_neg (by omega)]
    · rw [dig_pos h0] at hl ⊢
      simp only [List.length_cons] at hl
      have h1 := ih (n / 4294967296) (by omega) (acc ++ [((n % 4294967296 : Nat) : Int)]) (by omega) (by simp only [List.length_append, List.length_cons, List.length_nil]; omega)
      rw [List.append_assoc, List.singleton_append] at h1
      refine Ev.step (f := fun k => primroseref01_Of.l0 k ((n / 4294967296 : Nat) : Int) (acc ++ [((n % 4294967296 : Nat) : Int)])) (fun k => ?_) h1
      simp only [primroseref01_Of.l0]
      have e1 : wrap64 (Int.tdiv (n : Int) 4294967296) = ((n / 4294967296 : Nat) : Int) := by
        rw [Int.tdiv_eq_ediv_of_nonneg (by omega), w64 (by omega) (by omega)]; omega
      have e2 : Int.tmod (n : Int) 4294967296 % 4294967296 = ((n % 4294967296 : Nat) : Int) := by
        clear e1
        rw [tm (by omega)]; omega
      rw [e1, e2]
      clear e1 e2
      rw [if_pos (by omega), if_pos (by omega)]
theorem ref_of {n : Int} (h0 : 0 ≤ n) (h : n < 9223372036854775808) : Ev (fun k => primroseref01_Of.f k n) (dig n.toNat) := by
  unfold primroseref01_Of.f
  have h1 : (dig n.toNat).length ≤ 3 := dig_len_le (by simp only [pw]; omega)
  have := ref_of_loop n.toNat [] (by omega) (by simp only [List.length_nil]; omega)
  rw [List.nil_append] at this
  rwa [Int.toNat_of_nonneg h0] at this
theorem val_drop_le (l : List Int) (n : Nat) : val (l.drop n) ≤ val l := by
  have h1 := val_cut l n
  have h2 := Nat.mul_le_mul_right (val (l.drop n)) (pw_pos n)
  rw [Nat.succ_mul, Nat.zero_mul, Nat.zero_add] at h2
  omega
theorem ref_small_loop {l : List Int} (h : Ok l) (hl : l.length < 17592186044416) (hv : val l < 9223372036854775808) : ∀ n : Nat, n ≤ l.length → Ev (fun k => primroseref01_Small.l0 k l (val (l.drop n) : Int) ((n : Int) - 1)) ((val l : Int), true) := by
  intro n
  induction n with
  | zero =>
    intro _
    refine Ev.step (f := fun _ => some ((val l : Int), true)) (fun k => ?_) (Ev.now _)
    simp only [primroseref01_Small.l0, List.drop_zero]
    rw [if_neg (by omega)]
  | succ n ih =>
    intro hn
    have h1 := val_drop_succ l n
    have h2 := val_drop_le l n
    have h3 := val_drop_le l (n + 1)
    have h4 := h.getD n
    refine Ev.step (f := fun k => primroseref01_Small.l0 k l (val (l.drop n) : Int) ((n : Int) - 1)) (fun k => ?_) (ih (by omega))
    have e0 : ((n + 1 : Nat) : Int) - 1 = (n : Int) := by omega
    rw [e0]
    simp only [primroseref01_Small.l0, rd_nat]
    have e1 : wrap64 (wrap64 ((val (l.drop (n + 1)) : Int) * 4294967296) + wrap64 (l.getD n 0)) = (val (l.drop n) : Int) := by
      rw [w64 (x := (val (l.drop (n + 1)) : Int) * 4294967296) (by omega) (by omega), w64 (x := l.getD n 0) (by omega) (by omega), w64 (by omega) (by omega)]
      omega
    have e2 : wrap64 ((n : Int) - 1) = (n : Int) - 1 := w_pred (by clear e1; omega)
    rw [e1, e2]
    clear e1 e2
    rw [if_pos (by omega), if_pos (by omega), if_pos (by omega)]
theorem ref_small {l : List Int} (h : Ok l) (hl : l.length < 17592186044416) : Ev (fun k => primroseref01_Small.f k l) (if val l < 9223372036854775808 then ((val l : Int), true) else (0, false)) := by
  unfold primroseref01_Small.f
  refine Ev.bind (ref_bits h hl) ?_
  have e63 : (2 : Nat) ^ 63 = 9223372036854775808 := by decide
  by_cases c : val l < 9223372036854775808
  · rw [if_pos c]
    have h1 : bl (val l) ≤ 63 := bl_le (by rw [e63]; exact c)
    have h4 := dig_len_le' h
    have h2 : Ev (fun k => (primroseref01_Plain.f k l).bind fun t329 => (primroseref01_Small.l0 k t329 0 (wrap64 ((t329.length : Int) - 1)))) ((val l : Int), true) := by
      refine Ev.bind (ref_plain h (by omega)) ?_
      have h3 := ref_small_loop (ok_dig (val l)) (by omega) (by rw [val_dig]; exact c) (dig (val l)).length (Nat.le_refl _)
      rw [val_drop_all _ (Nat.le_refl _), val_dig] at h3
      refine Ev.congr (fun k => ?_) h3
      rw [w_pred (by omega)]; rfl
    refine Ev.congr (fun k => ?_) h2
    rw [if_neg (by omega)]
  · rw [if_neg c]
    have h1 : ¬ bl (val l) ≤ 63 := fun hc => by
      have := lt_bl (val l)
      have := Nat.lt_of_lt_of_le this (Nat.pow_le_pow_right (n := 2) (by omega) hc)
      rw [e63] at this; omega
    refine Ev.congr (fun k => ?_) (Ev.now _)
    rw [if_pos (by omega)]
end Go.Proofs.Ytmgjjdodjamomaa.PureB
end
section
namespace Go.Proofs.Ytmgjjdodjamomaa.PureB
open Go.RowKit Go.Proofs.Ytmgjjdodjamomaa.PB Go.Proofs.YtmgjjdodjamomaaW.PrintWords Go.Proofs.YtmgjjdodjamomaaW.PrintLast Go.Proofs.YtmgjjdodjamomaaW.PrintMore
open Go.Proofs.Ytmgjjdodjamomaa.Limb
theorem val_take_set : ∀ (l : List Int) (n : Nat) (v : Int), n < l.length → val ((l.set n v).take (n + 1)) = val (l.take n) + pw n * v.toNat
  | [], n, v, h => by simp at h
  | x :: l, 0, v, _ => by simp [val, pw_zero]
  | x :: l, n + 1, v, h => by
    have := val_take_set l n v (by simpa using h)
    simp only [List.set_cons_succ, List.take_succ_cons, val, pw_succ, this]
    grind
theorem drop_set_succ (l : List Int) (n : Nat) (v : Int) : (l.set n v).drop (n + 1) = l.drop (n + 1) := by
  rw [List.drop_set_of_lt (by omega)]
theorem drop_next {x y : List Int} {n : Nat} (h : x.drop n = y.drop n) : x.drop (n + 1) = y.drop (n + 1) := by
  rw [← List.drop_drop, ← List.drop_drop, h]
theorem getD_of_drop {x y : List Int} {n : Nat} (h : x.drop n = y.drop n) : x.getD n 0 = y.getD n 0 := by
  have h1 : (x.drop n)[0]? = (y.drop n)[0]? := by rw [h]
  rw [List.getElem?_drop, List.getElem?_drop, Nat.add_zero] at h1
  rw [List.getD_eq_getElem?_getD, List.getD_eq_getElem?_getD, h1]
theorem ref_push {r : List Int} (h : Ok r) (hl : r.length < 17592186044416) {c0 : Int} (h0 : 0 ≤ c0) (h1 : c0 ≤ 1) (hv : 2 * val r + c0.toNat < pw r.length) :
    ∃ out : List Int, out.length = r.length ∧ Ok out ∧ val out = 2 * val r + c0.toNat ∧ Ev (fun k => primroseref01_push.f k r c0) out := by
  have loop : ∀ (m n : Nat) (x : List Int) (c : Int), r.length - n ≤ m → n ≤ r.length → x.length = r.length → Ok x → x.drop n = r.drop n → 0 ≤ c → c ≤ 1 → val (x.take n) + pw n * c.toNat = 2 * val (r.take n) + c0.toNat →
      ∃ out : List Int, out.length = r.length ∧ Ok out ∧ val out = 2 * val r + c0.toNat ∧ Ev (fun k => primroseref01_push.l0 k x c (n : Int)) out := by
    have done : ∀ (x : List Int) (c : Int), x.length = r.length → Ok x → 0 ≤ c → c ≤ 1 → val (x.take r.length) + pw r.length * c.toNat = 2 * val (r.take r.length) + c0.toNat →
        ∃ out : List Int, out.length = r.length ∧ Ok out ∧ val out = 2 * val r + c0.toNat ∧ Ev (fun k => primroseref01_push.l0 k x c (r.length : Int)) out := by
      intro x c hxl hx hc0 hc1 hi
      rw [val_take_all r (Nat.le_refl _), val_take_all x (by omega)] at hi
      have hc : c = 0 := by
        by_cases e : c = 0
        · exact e
        · have e2 : c.toNat = 1 := by omega
          rw [e2, Nat.mul_one] at hi
          omega
      subst hc
      refine ⟨x, hxl, hx, by simpa using hi, ?_⟩
      refine Ev.step (f := fun _ => some x) (fun k => ?_) (Ev.now _)
      simp only [primroseref01_push.l0]
      rw [if_neg (by omega)]
    intro m
    induction m with
    | zero =>
      intro n x c hm hn hxl hx hd hc0 hc1 hi
      have hn2 : n = r.length := by omega
      subst hn2
      exact done x c hxl hx hc0 hc1 hi
    | succ m ih =>
      intro n x c hm hn hxl hx hd hc0 hc1 hi
      by_cases hn2 : n = r.length
      · subst hn2; exact done x c hxl hx hc0 hc1 hi
      · have hg := getD_of_drop hd
        have hrn := h.getD n
        have hv1 : 0 ≤ ((r.getD n 0 * 2) % 4294967296 + c) % 4294967296 ∧ ((r.getD n 0 * 2) % 4294967296 + c) % 4294967296 < 4294967296 := by omega
        obtain ⟨out, ho1, ho2, ho3, ho4⟩ := ih (n + 1) (x.set n (((r.getD n 0 * 2) % 4294967296 + c) % 4294967296)) (r.getD n 0 / 2147483648) (by omega) (by omega) (by rw [List.length_set, hxl]) (hx.set n hv1.1 hv1.2) (by rw [drop_set_succ]; exact drop_next hd) (by omega) (by omega) (by
          rw [val_take_set x n _ (by omega), val_take_succ r n, pw_succ]
          have he : (((r.getD n 0 * 2) % 4294967296 + c) % 4294967296).toNat + 4294967296 * (r.getD n 0 / 2147483648).toNat = 2 * (r.getD n 0).toNat + c.toNat := by omega
          generalize (((r.getD n 0 * 2) % 4294967296 + c) % 4294967296).toNat = A at *
          generalize (r.getD n 0 / 2147483648).toNat = B at *
          generalize pw n = P at *
          grind)
        refine ⟨out, ho1, ho2, ho3, ?_⟩
        refine Ev.step (f := fun k => primroseref01_push.l0 k (x.set n (((r.getD n 0 * 2) % 4294967296 + c) % 4294967296)) (r.getD n 0 / 2147483648) ((n + 1 : Nat) : Int)) (fun k => ?_) ho4
        simp only [primroseref01_push.l0, rd_nat, w_succ (show n < 4611686018427387904 by omega), hg, Int.toNat_natCast]
        rw [if_pos (by omega), if_pos (by omega)]
  unfold primroseref01_push.f
  have := loop r.length 0 r c0 (by omega) (by omega) rfl h rfl h0 h1 (by simp [val, pw_zero])
  simpa using this
theorem ref_take {r b : List Int} (h : Ok r) (hb : Ok b) (hl : r.length < 17592186044416) (hle : val b ≤ val r) :
    ∃ out : List Int, out.length = r.length ∧ Ok out ∧ val out = val r - val b ∧ Ev (fun k => primroseref01_take.f k r b) out := by
  have hb2 : val (b.take r.length) = val b := by
    have h2 := val_lt h
    have hs := val_cut b r.length
    have : val (b.drop r.length) = 0 := by
      rcases Nat.eq_zero_or_pos (val (b.drop r.length)) with e | e
      · exact e
      · have := Nat.mul_le_mul_left (pw r.length) (show 1 ≤ val (b.drop r.length) from e)
        omega
    rw [hs, this, Nat.mul_zero, Nat.add_zero]
  have loop : ∀ (m n : Nat) (x : List Int) (c : Int), r.length - n ≤ m → n ≤ r.length → x.length = r.length → Ok x → x.drop n = r.drop n → 0 ≤ c → c ≤ 1 → val (x.take n) + val (b.take n) = val (r.take n) + pw n * c.toNat →
      ∃ out : List Int, out.length = r.length ∧ Ok out ∧ val out = val r - val b ∧ Ev (fun k => primroseref01_take.l0 k x b c (n : Int)) out := by
    have done : ∀ (x : List Int) (c : Int), x.length = r.length → Ok x → 0 ≤ c → c ≤ 1 → val (x.take r.length) + val (b.take r.length) = val (r.take r.length) + pw r.length * c.toNat →
        ∃ out : List Int, out.length = r.length ∧ Ok out ∧ val out = val r - val b ∧ Ev (fun k => primroseref01_take.l0 k x b c (r.length : Int)) out := by
      intro x c hxl hx hc0 hc1 hi
      rw [val_take_all r (Nat.le_refl _), val_take_all x (by omega), hb2] at hi
      have hx2 := val_lt hx
      rw [hxl] at hx2
      have hc : c = 0 := by
        by_cases e : c = 0
        · exact e
        · have e2 : c.toNat = 1 := by omega
          rw [e2, Nat.mul_one] at hi
          omega
      subst hc
      refine ⟨x, hxl, hx, by simp at hi; omega, ?_⟩
      refine Ev.step (f := fun _ => some x) (fun k => ?_) (Ev.now _)
      simp only [primroseref01_take.l0]
      rw [if_neg (by omega)]
    intro m
    induction m with
    | zero =>
      intro n x c hm hn hxl hx hd hc0 hc1 hi
      have hn2 : n = r.length := by omega
      subst hn2
      exact done x c hxl hx hc0 hc1 hi
    | succ m ih =>
      intro n x c hm hn hxl hx hd hc0 hc1 hi
      by_cases hn2 : n = r.length
      · subst hn2; exact done x c hxl hx hc0 hc1 hi
      · have hg := getD_of_drop hd
        have hxa := h.getD n
        have hxb := hb.getD n
        have e1 : n < 4611686018427387904 := by omega
        have next : ∀ (v q : Int), r.getD n 0 - c - b.getD n 0 = v - 4294967296 * q → 0 ≤ v → v < 4294967296 → 0 ≤ q → q ≤ 1 →
            ∃ out : List Int, out.length = r.length ∧ Ok out ∧ val out = val r - val b ∧ Ev (fun k => primroseref01_take.l0 k (x.set n v) b q ((n + 1 : Nat) : Int)) out := by
          intro v q he hr0 hr1 hq0 hq1
          refine ih (n + 1) (x.set n v) q (by omega) (by omega) (by rw [List.length_set, hxl]) (hx.set n hr0 hr1) (by rw [drop_set_succ]; exact drop_next hd) hq0 hq1 ?_
          rw [val_take_set x n _ (by omega), val_take_succ r n, val_take_succ b n, pw_succ]
          have he2 : (r.getD n 0).toNat + 4294967296 * q.toNat = v.toNat + c.toNat + (b.getD n 0).toNat := by omega
          generalize (r.getD n 0).toNat = xa at *
          generalize (b.getD n 0).toNat = xb at *
          generalize pw n = P at *
          grind
        have w1 : wrap64 (r.getD n 0) = r.getD n 0 := w64 (by omega) (by omega)
        have w2 : wrap64 (b.getD n 0) = b.getD n 0 := w64 (by omega) (by omega)
        have w3 : wrap64 (r.getD n 0 - c) = r.getD n 0 - c := w64 (by clear w1 w2; omega) (by clear w1 w2; omega)
        have w4 : wrap64 (r.getD n 0 - c - b.getD n 0) = r.getD n 0 - c - b.getD n 0 := w64 (by clear w1 w2 w3; omega) (by clear w1 w2 w3; omega)
        have w5 : wrap64 (r.getD n 0 - c - b.getD n 0 + 4294967296) = r.getD n 0 - c - b.getD n 0 + 4294967296 := w64 (by clear w1 w2 w3 w4; omega) (by clear w1 w2 w3 w4; omega)
        have t1 : (n : Int) < (x.length : Int) := by clear w1 w2 w3 w4 w5; omega
        have t2 : (0 : Int) ≤ (n : Int) := by clear w1 w2 w3 w4 w5; omega
        by_cases lb : n < b.length
        · have t3 : (n : Int) < (b.length : Int) := by clear w1 w2 w3 w4 w5; omega
          by_cases hneg : r.getD n 0 - c - b.getD n 0 < 0
          · obtain ⟨out, o1, o2, o3, o4⟩ := next ((r.getD n 0 - c - b.getD n 0 + 4294967296) % 4294967296) 1 (by clear w1 w2 w3 w4 w5; omega) (by clear w1 w2 w3 w4 w5; omega) (by clear w1 w2 w3 w4 w5; omega) (by decide) (by decide)
            refine ⟨out, o1, o2, o3, Ev.step (fun k => ?_) o4⟩
            simp only [primroseref01_take.l0, rd_nat, w_succ e1, hg, w1, w2, w3, w4, w5, Int.toNat_natCast]
            rw [if_pos t1, if_pos t2, if_pos t3, if_pos hneg]
          · obtain ⟨out, o1, o2, o3, o4⟩ := next ((r.getD n 0 - c - b.getD n 0) % 4294967296) 0 (by clear w1 w2 w3 w4 w5; omega) (by clear w1 w2 w3 w4 w5; omega) (by clear w1 w2 w3 w4 w5; omega) (by decide) (by decide)
            refine ⟨out, o1, o2, o3, Ev.step (fun k => ?_) o4⟩
            simp only [primroseref01_take.l0, rd_nat, w_succ e1, hg, w1, w2, w3, w4, Int.toNat_natCast]
            rw [if_pos t1, if_pos t2, if_pos t3, if_neg hneg]
        · have t3 : ¬ (n : Int) < (b.length : Int) := by clear w1 w2 w3 w4 w5; omega
          have eb : b.getD n 0 = 0 := getD_out (by clear w1 w2 w3 w4 w5; omega)
          rw [eb, Int.sub_zero] at w4 w5
          rw [eb, Int.sub_zero] at next
          by_cases hneg : r.getD n 0 - c < 0
          · obtain ⟨out, o1, o2, o3, o4⟩ := next ((r.getD n 0 - c + 4294967296) % 4294967296) 1 (by clear w1 w2 w3 w4 w5; omega) (by clear w1 w2 w3 w4 w5; omega) (by clear w1 w2 w3 w4 w5; omega) (by decide) (by decide)
            refine ⟨out, o1, o2, o3, Ev.step (fun k => ?_) o4⟩
            simp only [primroseref01_take.l0, rd_nat, w_succ e1, hg, w1, w3, w5, Int.toNat_natCast]
            rw [if_pos t1, if_pos t2, if_neg t3, if_pos hneg]
          · obtain ⟨out, o1, o2, o3, o4⟩ := next ((r.getD n 0 - c) % 4294967296) 0 (by clear w1 w2 w3 w4 w5; omega) (by clear w1 w2 w3 w4 w5; omega) (by clear w1 w2 w3 w4 w5; omega) (by decide) (by decide)
            refine ⟨out, o1, o2, o3, Ev.step (fun k => ?_) o4⟩
            simp only [primroseref01_take.l0, rd_nat, w_succ e1, hg, w1, w3, Int.toNat_natCast]
            rw [if_pos t1, if_pos t2, if_neg t3, if_neg hneg]
  unfold primroseref01_take.f
  exact loop r.length 0 r 0 (by omega) (by omega) rfl h rfl (by decide) (by decide) (by simp [val, pw_zero])
end Go.Proofs.Ytmgjjdodjamomaa.PureB
end
section
namespace Go.Proofs.Ytmgjjdodjamomaa.PureB
open Go.RowKit Go.Proofs.Ytmgjjdodjamomaa.PB Go.Proofs.YtmgjjdodjamomaaW.PrintWords Go.Proofs.YtmgjjdodjamomaaW.PrintLast Go.Proofs.YtmgjjdodjamomaaW.PrintMore
open Go.Proofs.Ytmgjjdodjamomaa.Limb
theorem u64_or_join {a x : Int} (h0 : 0 ≤ a) (h1 : a < 4294967296) (h2 : 0 ≤ x) (h3 : x < 4294967296) : Go.bits .or .u64 (a * 4294967296) x = a * 4294967296 + x := by
  show IntKind.u64.wrap ((BitVec.ofInt 64 (a * 4294967296) ||| BitVec.ofInt 64 x).toNat : Nat) = a * 4294967296 + x
  have e : (BitVec.ofInt 64 (a * 4294967296) ||| BitVec.ofInt 64 x).toNat = 2 ^ 32 * a.toNat + x.toNat := by
    rw [BitVec.toNat_or, BitVec.toNat_ofInt, BitVec.toNat_ofInt, Nat.two_pow_add_eq_or_of_lt (by omega)]
    congr 1 <;> omega
  rw [e, u64w (by omega) (by omega)]
  omega
/-- two limbs, as the program joins them -/
theorem join2 {a x : Int} (ha : 0 ≤ a ∧ a < 4294967296) (hx : 0 ≤ x ∧ x < 4294967296) : Go.bits .or .u64 (IntKind.u64.wrap (a * 4294967296)) (IntKind.u64.wrap x) = a * 4294967296 + x := by
  rw [u64w (x := a * 4294967296) (by omega) (by omega), u64w (x := x) (by omega) (by omega), u64_or_join ha.1 ha.2 hx.1 hx.2]
theorem mod_bd' {a p : Int} (h : 0 < p) : 0 ≤ a % p ∧ a % p < p := ⟨Int.emod_nonneg a (by omega), Int.emod_lt_of_pos a h⟩
theorem nat_short_loop {a : List Int} (ha : Ok a) (hla : a.length < 17592186044416) {d : Int} (hd : 0 < d) (hd2 : d < 4294967296) :
    ∀ (n : Nat) (q : List Int) (r : Int), n ≤ a.length → q.length = a.length → Ok q → 0 ≤ r → r < d → val (q.take n) = 0 → (val (q.drop n) : Int) * d + r = val (a.drop n) →
      Ev (fun k => nat_short.l0 k a d q r (a.length : Int) ((a.length - n : Nat) : Int)) (dig (val a / d.toNat), ((val a % d.toNat : Nat) : Int)) := by
  intro n
  induction n with
  | zero =>
    intro q r _ hql hq h0 hrd _ hv
    simp only [List.drop_zero] at hv
    have hv2 : val a = d.toNat * val q + r.toNat := by
      have : (val a : Int) = ((d.toNat * val q + r.toNat : Nat) : Int) := by
        rw [← hv, Int.natCast_add, Int.natCast_mul, Int.toNat_of_nonneg (by omega), Int.toNat_of_nonneg h0, Int.mul_comm]
      exact_mod_cast this
    have e1 : val a / d.toNat = val q := by rw [hv2, Nat.mul_add_div (by omega), Nat.div_eq_of_lt (by omega), Nat.add_zero]
    have e2 : ((val a % d.toNat : Nat) : Int) = r % 4294967296 := by rw [hv2, Nat.mul_add_mod, Nat.mod_eq_of_lt (by omega)]; omega
    rw [e1, e2]
    refine Ev.step (fun k => ?_) (f := fun k => (nat_trim.f k q).bind fun t506 => (some (t506, r % 4294967296))) (Ev.bind (nat_trim_ok hq (by omega)) (Ev.now _))
    simp only [nat_short.l0]
    rw [if_neg (by omega)]
  | succ n ih =>
    intro q r hn hql hq h0 hrd ht hv
    have hx := ha.getD n
    have ei : wrap64 (wrap64 ((a.length : Int) - 1) - ((a.length - (n + 1) : Nat) : Int)) = (n : Int) := by
      rw [w64 (x := (a.length : Int) - 1) (by omega) (by omega), w64 (by omega) (by omega)]; omega
    have en : wrap64 (((a.length - (n + 1) : Nat) : Int) + 1) = ((a.length - n : Nat) : Int) := by
      clear ei
      rw [w64 (by omega) (by omega)]; omega
    have hj := join2 (a := r) (x := a.getD n 0) ⟨h0, by clear ei en; omega⟩ hx
    have hdw : IntKind.u64.wrap d = d := u64w (by clear ei en hj; omega) (by clear ei en hj; omega)
    have hval := val_drop_succ a n
    have hX0 : 0 ≤ r * 4294967296 + a.getD n 0 := by clear ei en hj hdw; omega
    have hXd : r * 4294967296 + a.getD n 0 < d * 4294967296 := by clear ei en hj hdw; omega
    obtain ⟨X, hXe⟩ : ∃ X, r * 4294967296 + a.getD n 0 = X := ⟨_, rfl⟩
    rw [hXe] at hX0 hXd hj
    have hm := @mod_bd' X d hd
    have hdm := Int.mul_ediv_add_emod X d
    have hy0 : 0 ≤ X / d := Int.ediv_nonneg hX0 (Int.le_of_lt hd)
    have hy1 : X / d < 4294967296 := Int.ediv_lt_of_lt_mul hd (by rw [Int.mul_comm]; exact hXd)
    obtain ⟨y, hy⟩ : ∃ y, X / d = y := ⟨_, rfl⟩
    rw [hy] at hdm hy0 hy1
    have hstore : IntKind.u64.wrap (Int.tdiv X d) % 4294967296 = y := by
      rw [Int.tdiv_eq_ediv_of_nonneg hX0, hy, u64w hy0 (by clear ei en hj hdw; omega)]
      clear ei en hj hdw; omega
    have hrest : Int.tmod X d = X % d := Int.tmod_eq_emod_of_nonneg hX0
    have htk : val (q.take n) = 0 := by
      have := val_take_succ q n
      clear ei en hj hdw hstore; omega
    have hdr : val ((q.set n y).drop n) = y.toNat + 4294967296 * val (q.drop (n + 1)) := by
      rw [val_drop_succ, drop_set_succ, List.getD_eq_getElem?_getD, List.getElem?_set_self (by clear ei en hj hdw hstore; omega)]; rfl
    have h6 := ih (q.set n y) (X % d) (by clear ei en hj hdw hstore; omega) (by rw [List.length_set]; exact hql) (hq.set n hy0 hy1) hm.1 hm.2 (by rw [List.take_set_of_le (Nat.le_refl n)]; exact htk) (by
      rw [hdr, hval]
      clear ei en hj hdw hstore htk hdr hval hrest
      have e1 : ((y.toNat + 4294967296 * val (q.drop (n + 1)) : Nat) : Int) = y + 4294967296 * (val (q.drop (n + 1)) : Int) := by omega
      have e2 : (((a.getD n 0).toNat + 4294967296 * val (a.drop (n + 1)) : Nat) : Int) = a.getD n 0 + 4294967296 * (val (a.drop (n + 1)) : Int) := by omega
      rw [e1, e2]
      generalize (val (q.drop (n + 1)) : Int) = V at *
      generalize (val (a.drop (n + 1)) : Int) = W at *
      generalize X % d = z at *
      grind)
    refine Ev.step (fun k => ?_) h6
    simp only [nat_short.l0, ei, en, rd_nat, hj, hdw, hstore, hrest, Int.toNat_natCast]
    clear ei en hj hdw hstore hrest
    rw [if_pos (by omega), if_pos (by omega), if_pos (by omega), if_neg (by omega), if_pos (by omega)]
theorem nat_short_ok {a : List Int} (ha : Ok a) (hla : a.length < 17592186044416) {d : Int} (hd : 0 < d) (hd2 : d < 4294967296) : Ev (fun k => nat_short.f k a d) (dig (val a / d.toNat), ((val a % d.toNat : Nat) : Int)) := by
  unfold nat_short.f
  have h := nat_short_loop ha hla hd hd2 a.length (List.replicate a.length 0) 0 (Nat.le_refl _) (by simp) (Ok.replicate _) (by decide) hd (by rw [val_take_all _ (by simp), val_replicate]) (by rw [val_drop_all _ (by simp), val_drop_all _ (Nat.le_refl _)]; simp)
  rw [Nat.sub_self] at h
  refine Ev.congr (fun k => ?_) h
  rw [if_pos (by omega), if_pos (by omega), Int.toNat_natCast]; rfl
end Go.Proofs.Ytmgjjdodjamomaa.PureB
end
section
namespace Go.Proofs.Ytmgjjdodjamomaa.PureB
open Go.RowKit Go.Proofs.Ytmgjjdodjamomaa.PB Go.Proofs.YtmgjjdodjamomaaW.PrintWords Go.Proofs.YtmgjjdodjamomaaW.PrintLast Go.Proofs.YtmgjjdodjamomaaW.PrintMore
open Go.Proofs.Ytmgjjdodjamomaa.Limb
theorem pow_le_32 {s : Nat} (h : s < 32) : 0 < 2 ^ s ∧ 2 ^ s ≤ 2147483648 := by
  refine ⟨Nat.pow_pos (by omega), ?_⟩
  have := Nat.pow_le_pow_right (n := 2) (by omega) (show s ≤ 31 by omega)
  rwa [show (2 : Nat) ^ 31 = 2147483648 by decide] at this
theorem or_low {s o x : Nat} (hs : s < 32) (ho : o < 2 ^ s) : Go.bits .or .u32 (o : Int) (shl .u32 (x : Int) (s : Int)) = ((o + x * 2 ^ s % 4294967296 : Nat) : Int) ∧ o + x * 2 ^ s % 4294967296 < 4294967296 := by
  have e32 := two_pow_32' (show s ≤ 32 by omega)
  have hmod : x * 2 ^ s % 4294967296 = 2 ^ s * (x % 2 ^ (32 - s)) := by
    rw [e32, Nat.mul_comm x, Nat.mul_mod_mul_left]
  have hsh : shl .u32 (x : Int) (s : Int) = ((x * 2 ^ s % 4294967296 : Nat) : Int) := by
    unfold shl
    rw [Int.toNat_natCast]
    have : min s (IntKind.bits .u32) = s := Nat.min_eq_left (by show s ≤ 32; omega)
    rw [this]
    have e2 : (x : Int) * 2 ^ s = ((x * 2 ^ s : Nat) : Int) := by rw [Int.natCast_mul, Int.natCast_pow]; rfl
    rw [e2]
    generalize x * 2 ^ s = z
    have : IntKind.u32.wrap (z : Int) = (z : Int) % 4294967296 := by rfl
    rw [this]; omega
  have hlt : o + x * 2 ^ s % 4294967296 < 4294967296 := by
    rw [hmod]
    have h1 : x % 2 ^ (32 - s) < 2 ^ (32 - s) := Nat.mod_lt _ (Nat.pow_pos (by omega))
    have h2 := Nat.mul_le_mul_left (2 ^ s) (show x % 2 ^ (32 - s) + 1 ≤ 2 ^ (32 - s) from h1)
    rw [Nat.mul_add, Nat.mul_one, ← e32] at h2
    omega
  refine ⟨?_, hlt⟩
  rw [hsh]
  show IntKind.u32.wrap ((BitVec.ofInt 32 (o : Int) ||| BitVec.ofInt 32 ((x * 2 ^ s % 4294967296 : Nat) : Int)).toNat : Nat) = _
  have hz : x * 2 ^ s % 4294967296 < 4294967296 := Nat.mod_lt _ (by omega)
  have e : (BitVec.ofInt 32 (o : Int) ||| BitVec.ofInt 32 ((x * 2 ^ s % 4294967296 : Nat) : Int)).toNat = o + x * 2 ^ s % 4294967296 := by
    rw [BitVec.toNat_or, BitVec.toNat_ofInt, BitVec.toNat_ofInt]
    have g1 : (((o : Nat) : Int) % ((2 ^ 32 : Nat) : Int)).toNat = o := by omega
    have g2 : (((x * 2 ^ s % 4294967296 : Nat) : Int) % ((2 ^ 32 : Nat) : Int)).toNat = x * 2 ^ s % 4294967296 := by
      generalize x * 2 ^ s % 4294967296 = z at hz
      omega
    rw [g1, g2, hmod, Nat.or_comm, ← Nat.two_pow_add_eq_or_of_lt ho, Nat.add_comm]
  rw [e]
  generalize o + x * 2 ^ s % 4294967296 = z at hlt
  have : IntKind.u32.wrap (z : Int) = (z : Int) % 4294967296 := by rfl
  rw [this]; omega
where
  two_pow_32' {i : Nat} (h : i ≤ 32) : (4294967296 : Nat) = 2 ^ i * 2 ^ (32 - i) := by
    rw [← Nat.pow_add, show i + (32 - i) = 32 by omega]
theorem shl_high {s x : Nat} (hs : s < 32) (hx : x < 4294967296) : (shl .u64 (IntKind.u64.wrap (x : Int)) (s : Int) / 4294967296) % 4294967296 = ((x * 2 ^ s / 4294967296 : Nat) : Int) ∧ x * 2 ^ s / 4294967296 < 2 ^ s := by
  have hp := pow_le_32 hs
  have h1 := Nat.mul_lt_mul_of_pos_right hx hp.1
  have h2 : x * 2 ^ s / 4294967296 < 2 ^ s := Nat.div_lt_of_lt_mul h1
  refine ⟨?_, h2⟩
  unfold shl
  rw [Int.toNat_natCast, u64w (x := (x : Int)) (by omega) (by omega)]
  have : min s (IntKind.bits .u64) = s := Nat.min_eq_left (by show s ≤ 64; omega)
  rw [this]
  have e2 : (x : Int) * 2 ^ s = ((x * 2 ^ s : Nat) : Int) := by rw [Int.natCast_mul, Int.natCast_pow]; rfl
  rw [e2]
  generalize 2 ^ s = t at *
  generalize x * t = z at *
  rw [u64w (by omega) (by omega)]
  omega
theorem nat_up_loop {a : List Int} (ha : Ok a) (hla : a.length < 17592186044416) {s : Nat} (hs : s < 32) :
    ∀ (m n : Nat) (o : List Int), a.length - n ≤ m → n ≤ a.length → o.length = a.length + 1 → Ok o → (o.getD n 0).toNat < 2 ^ s → val (o.take (n + 1)) = val (a.take n) * 2 ^ s →
      ∃ out : List Int, out.length = a.length + 1 ∧ Ok out ∧ val out = val a * 2 ^ s ∧ Ev (fun k => nat_up.l0 k (s : Int) o a (a.length : Int) (n : Int)) out := by
  have done : ∀ (o : List Int), o.length = a.length + 1 → Ok o → val (o.take (a.length + 1)) = val (a.take a.length) * 2 ^ s →
      ∃ out : List Int, out.length = a.length + 1 ∧ Ok out ∧ val out = val a * 2 ^ s ∧ Ev (fun k => nat_up.l0 k (s : Int) o a (a.length : Int) (a.length : Int)) out := by
    intro o hol ho hv
    rw [val_take_all o (by omega), val_take_all a (Nat.le_refl _)] at hv
    refine ⟨o, hol, ho, hv, Ev.step (fun k => ?_) (f := fun _ => some o) (Ev.now _)⟩
    simp only [nat_up.l0]
    rw [if_neg (by omega)]
  intro m
  induction m with
  | zero =>
    intro n o hm hn hol ho hg hv
    have hn2 : n = a.length := by omega
    subst hn2
    exact done o hol ho hv
  | succ m ih =>
    intro n o hm hn hol ho hg hv
    by_cases hn2 : n = a.length
    · subst hn2; exact done o hol ho hv
    · have hx := ha.getD n
      have hon := ho.getD n
      obtain ⟨x, hxe⟩ : ∃ x : Nat, a.getD n 0 = (x : Int) := ⟨(a.getD n 0).toNat, by omega⟩
      obtain ⟨u, hue⟩ : ∃ u : Nat, o.getD n 0 = (u : Int) := ⟨(o.getD n 0).toNat, by omega⟩
      rw [hue, Int.toNat_natCast] at hg
      have h1 := or_low (x := x) hs hg
      have h2 := shl_high hs (x := x) (by omega)
      have hp := pow_le_32 hs
      have e1 : n < 4611686018427387904 := by omega
      have tk := val_take_succ o n
      rw [hue, Int.toNat_natCast] at tk
      have hdm := Nat.div_add_mod (x * 2 ^ s) 4294967296
      obtain ⟨lo, hlo⟩ : ∃ lo, x * 2 ^ s % 4294967296 = lo := ⟨_, rfl⟩
      obtain ⟨hi, hhi⟩ : ∃ hi, x * 2 ^ s / 4294967296 = hi := ⟨_, rfl⟩
      rw [hlo] at h1 hdm
      rw [hhi] at h2 hdm
      obtain ⟨out, o1, o2, o3, o4⟩ := ih (n + 1) ((o.set n ((u + lo : Nat) : Int)).set (n + 1) ((hi : Nat) : Int)) (by omega) (by omega) (by rw [List.length_set, List.length_set]; exact hol) ((ho.set n (by omega) (by omega)).set (n + 1) (by omega) (by omega))
        (by rw [List.getD_eq_getElem?_getD, List.getElem?_set_self (by rw [List.length_set]; omega)]; simpa using h2.2) (by
          rw [val_take_set _ (n + 1) _ (by rw [List.length_set]; omega), val_take_set _ n _ (by omega), val_take_succ a n, hxe, Int.toNat_natCast, Int.toNat_natCast, Int.toNat_natCast, pw_succ]
          rw [tk] at hv
          generalize val (o.take n) = O at *
          generalize val (a.take n) = A at *
          generalize 2 ^ s = t at *
          generalize pw n = P at *
          grind)
      refine ⟨out, o1, o2, o3, Ev.step (fun k => ?_) o4⟩
      have hst : ((n : Int) + 1) = ((n + 1 : Nat) : Int) := by omega
      simp only [nat_up.l0, rd_nat, w_succ e1, hxe, hue, h1.1, h2.1, Int.toNat_natCast]
      rw [if_pos (by omega), if_pos (by omega), if_pos (by omega), if_pos (by omega), if_pos (by omega), if_pos (by omega), if_pos (by omega)]
theorem nat_up_ok {a : List Int} (ha : Ok a) (hla : a.length < 17592186044416) {s : Nat} (hs : s < 32) :
    ∃ out : List Int, out.length = a.length + 1 ∧ Ok out ∧ val out = val a * 2 ^ s ∧ Ev (fun k => nat_up.f k a (s : Int)) out := by
  have hp := pow_le_32 hs
  obtain ⟨out, o1, o2, o3, o4⟩ := nat_up_loop ha hla hs a.length 0 (List.replicate (a.length + 1) 0) (by omega) (by omega) (by simp) (Ok.replicate _) (by simp [List.replicate_succ]; exact hp.1) (by simp [List.replicate_succ, val])
  refine ⟨out, o1, o2, o3, ?_⟩
  unfold nat_up.f
  refine Ev.congr (fun k => ?_) o4
  have e : wrap64 ((a.length : Int) + 1) = ((a.length + 1 : Nat) : Int) := w_succ (by omega)
  rw [e]
  clear e
  rw [if_pos (by omega), if_pos (by omega), Int.toNat_natCast]; rfl
end Go.Proofs.Ytmgjjdodjamomaa.PureB
end
section
namespace Go.Proofs.Ytmgjjdodjamomaa.PureB
open Go.RowKit Go.Proofs.Ytmgjjdodjamomaa.PB Go.Proofs.YtmgjjdodjamomaaW.PrintWords Go.Proofs.YtmgjjdodjamomaaW.PrintLast Go.Proofs.YtmgjjdodjamomaaW.PrintMore
open Go.Proofs.Ytmgjjdodjamomaa.Limb
theorem sub32_ok {a c w : Int} (ha : 0 ≤ a ∧ a < 4294967296) (hc : 0 ≤ c ∧ c < 4294967296) (hw : 0 ≤ w ∧ w ≤ 1) :
    ∃ v z : Int, bits_Sub32.f a c w = some (v, z) ∧ 0 ≤ v ∧ v < 4294967296 ∧ 0 ≤ z ∧ z ≤ 1 ∧ a - c - w = v - 4294967296 * z := by
  refine ⟨(a - c - w) % 4294967296, if a < c + w then 1 else 0, ?_, ?_⟩
  · unfold bits_Sub32.f; rw [if_pos (by omega)]
  · split <;> omega
theorem less_sum {R z cc v w c t : Int} (hR : 0 ≤ R) (hz : 0 ≤ z) (hv : 0 ≤ v) (hw : 0 ≤ w) (hc : 0 ≤ c) (ht : 0 ≤ t) (h1 : (c + t) / 4294967296 = cc) (h2 : R - (c + t) % 4294967296 - w = v - 4294967296 * z) :
    R.toNat + 4294967296 * z.toNat + 4294967296 * cc.toNat = v.toNat + w.toNat + c.toNat + t.toNat := by omega
theorem nat_less_loop {r b : List Int} (hr : Ok r) (hb : Ok b) (hlr : r.length = b.length + 1) (hlb : b.length < 17592186044416) {q : Int} (hq : 0 ≤ q) (hq2 : q < 4294967296) :
    ∀ (m n : Nat) (x : List Int) (c w : Int), b.length - n ≤ m → n ≤ b.length → x.length = r.length → Ok x → x.drop n = r.drop n → 0 ≤ c → c ≤ q → 0 ≤ w → w ≤ 1 →
      val (x.take n) + val (b.take n) * q.toNat = val (r.take n) + pw n * (c.toNat + w.toNat) →
      ∃ (t : Bool) (out : List Int), out.length = r.length ∧ Ok out ∧ val out + val b * q.toNat = val r + pw r.length * (if t = true then 1 else 0) ∧ Ev (fun k => nat_less.l0 k x b q c w b (b.length : Int) (n : Int)) (t, out) := by
  have done : ∀ (x : List Int) (c w : Int), x.length = r.length → Ok x → x.drop b.length = r.drop b.length → 0 ≤ c → c ≤ q → 0 ≤ w → w ≤ 1 →
      val (x.take b.length) + val (b.take b.length) * q.toNat = val (r.take b.length) + pw b.length * (c.toNat + w.toNat) →
      ∃ (t : Bool) (out : List Int), out.length = r.length ∧ Ok out ∧ val out + val b * q.toNat = val r + pw r.length * (if t = true then 1 else 0) ∧ Ev (fun k => nat_less.l0 k x b q c w b (b.length : Int) (b.length : Int)) (t, out) := by
    intro x c w hxl hx hd hc0 hc1 hw0 hw1 hi
    have hg := getD_of_drop hd
    have hrn := hr.getD b.length
    have ec : c % 4294967296 = c := Int.emod_eq_of_lt hc0 (by omega)
    obtain ⟨v, z, e1, hv0, hv1, hz0, hz1, he⟩ := sub32_ok hrn ⟨hc0, by omega⟩ ⟨hw0, hw1⟩
    refine ⟨decide (z > 0), x.set b.length v, by rw [List.length_set, hxl], hx.set _ hv0 hv1, ?_, Ev.step (fun k => ?_) (f := fun _ => some (decide (z > 0), x.set b.length v)) (Ev.now _)⟩
    · have h1 := val_take_set x b.length v (by omega)
      rw [val_take_all _ (by rw [List.length_set]; omega)] at h1
      have h2 := val_take_succ r b.length
      rw [val_take_all r (by omega)] at h2
      rw [val_take_all b (Nat.le_refl _)] at hi
      have hz : (if decide (z > 0) = true then 1 else 0) = z.toNat := by
        by_cases hz : z > 0
        · rw [if_pos (decide_eq_true hz)]; omega
        · rw [if_neg (by simpa using hz)]; omega
      rw [hz, h1, h2, hlr, pw_succ]
      have he2 : (r.getD b.length 0).toNat + 4294967296 * z.toNat = v.toNat + c.toNat + w.toNat := by omega
      generalize (r.getD b.length 0).toNat = R at *
      generalize pw b.length = P at *
      generalize val b * q.toNat = T at *
      grind
    · simp only [nat_less.l0, rd_nat, hg, ec, Int.toNat_natCast]
      rw [if_neg (by omega), if_pos (by omega), if_pos (by omega), e1]; rfl
  intro m
  induction m with
  | zero =>
    intro n x c w hm hn hxl hx hd hc0 hc1 hw0 hw1 hi
    have hn2 : n = b.length := by omega
    subst hn2
    exact done x c w hxl hx hd hc0 hc1 hw0 hw1 hi
  | succ m ih =>
    intro n x c w hm hn hxl hx hd hc0 hc1 hw0 hw1 hi
    by_cases hn2 : n = b.length
    · subst hn2; exact done x c w hxl hx hd hc0 hc1 hw0 hw1 hi
    · have hg := getD_of_drop hd
      have hrn := hr.getD n
      have hbn := hb.getD n
      have e1 : n < 4611686018427387904 := by omega
      obtain ⟨y, hy⟩ : ∃ y, b.getD n 0 = y := ⟨_, rfl⟩
      rw [hy] at hbn
      have hm1 : 0 ≤ y * q := Int.mul_nonneg hbn.1 hq
      have hm2 : y * q ≤ 4294967295 * q := Int.mul_le_mul_of_nonneg_right (by omega) hq
      obtain ⟨t, ht⟩ : ∃ t, y * q = t := ⟨_, rfl⟩
      rw [ht] at hm1 hm2
      have w1 : IntKind.u64.wrap (c + IntKind.u64.wrap (IntKind.u64.wrap y * q)) = c + t := by
        rw [u64w (x := y) (by omega) (by omega), ht, u64w (x := t) (by omega) (by omega), u64w (by omega) (by omega)]
      obtain ⟨cc, hcc⟩ : ∃ cc, (c + t) / 4294967296 = cc := ⟨_, rfl⟩
      obtain ⟨v, z, e2, hv0, hv1, hz0, hz1, he⟩ := sub32_ok (a := r.getD n 0) (c := (c + t) % 4294967296) (w := w) hrn (by clear w1; omega) ⟨hw0, hw1⟩
      obtain ⟨b1, out, o1, o2, o3, o4⟩ := ih (n + 1) (x.set n v) cc z (by clear w1; omega) (by clear w1; omega) (by rw [List.length_set, hxl]) (hx.set n hv0 hv1) (by rw [drop_set_succ]; exact drop_next hd) (by clear w1; omega) (by clear w1; omega) hz0 hz1 (by
        rw [val_take_set x n _ (by clear w1; omega), val_take_succ r n, val_take_succ b n, pw_succ, hy]
        clear w1
        have ht2 : y.toNat * q.toNat = t.toNat := by rw [← Int.toNat_mul hbn.1 hq, ht]
        have he2 : (r.getD n 0).toNat + 4294967296 * z.toNat + 4294967296 * cc.toNat = v.toNat + w.toNat + c.toNat + t.toNat := less_sum hrn.1 hz0 hv0 hw0 hc0 hm1 hcc he
        rw [Nat.add_mul, Nat.mul_assoc, ht2]
        clear he hcc e2 ht hm2 hm1 ih done hd hg ht2
        generalize (r.getD n 0).toNat = R at he2 hi ⊢
        generalize cc.toNat = C at he2 hi ⊢
        generalize pw n = P at he2 hi ⊢
        generalize val (b.take n) * q.toNat = B at he2 hi ⊢
        grind)
      refine ⟨b1, out, o1, o2, o3, Ev.step (fun k => ?_) o4⟩
      simp only [nat_less.l0, rd_nat, w_succ e1, hg, hy, w1, e2, hcc, Option.bind_some, Int.toNat_natCast]
      clear w1
      rw [if_pos (by omega), if_pos (by omega), if_pos (by omega), if_pos (by omega)]
end Go.Proofs.Ytmgjjdodjamomaa.PureB
end
section
namespace Go.Proofs.Ytmgjjdodjamomaa.PureB
open Go.RowKit Go.Proofs.Ytmgjjdodjamomaa.PB Go.Proofs.YtmgjjdodjamomaaW.PrintWords Go.Proofs.YtmgjjdodjamomaaW.PrintLast Go.Proofs.YtmgjjdodjamomaaW.PrintMore
open Go.Proofs.Ytmgjjdodjamomaa.Limb
theorem nat_less_ok {r b : List Int} (hr : Ok r) (hb : Ok b) (hlr : r.length = b.length + 1) (hlb : b.length < 17592186044416) {q : Int} (hq : 0 ≤ q) (hq2 : q < 4294967296) :
    ∃ (t : Bool) (out : List Int), out.length = r.length ∧ Ok out ∧ val out + val b * q.toNat = val r + pw r.length * (if t = true then 1 else 0) ∧ Ev (fun k => nat_less.f k r b q) (t, out) := by
  unfold nat_less.f
  exact nat_less_loop hr hb hlr hlb hq hq2 b.length 0 r 0 0 (by omega) (by omega) rfl hr rfl (by decide) hq (by decide) (by decide) (by simp [val])
theorem add32_ok {a c w : Int} (ha : 0 ≤ a ∧ a < 4294967296) (hc : 0 ≤ c ∧ c < 4294967296) (hw : 0 ≤ w ∧ w ≤ 1) :
    ∃ v z : Int, bits_Add32.f a c w = some (v, z) ∧ 0 ≤ v ∧ v < 4294967296 ∧ 0 ≤ z ∧ z ≤ 1 ∧ a + c + w = v + 4294967296 * z := by
  refine ⟨(a + c + w) % 4294967296, ((a + c + w) / 4294967296) % 4294967296, ?_, by omega⟩
  unfold bits_Add32.f
  rw [u64w (x := a) (by omega) (by omega), u64w (x := c) (by omega) (by omega), u64w (x := w) (by omega) (by omega), u64w (x := a + c) (by omega) (by omega), u64w (by omega) (by omega)]
theorem back_sum {R z v w y : Int} (hR : 0 ≤ R) (hz : 0 ≤ z) (hv : 0 ≤ v) (hw : 0 ≤ w) (hy : 0 ≤ y) (h2 : R + y + w = v + 4294967296 * z) :
    v.toNat + 4294967296 * z.toNat = R.toNat + y.toNat + w.toNat := by omega
theorem nat_back_loop {r b : List Int} (hr : Ok r) (hb : Ok b) (hlr : r.length = b.length + 1) (hlb : b.length < 17592186044416) :
    ∀ (m n : Nat) (x : List Int) (w : Int), b.length - n ≤ m → n ≤ b.length → x.length = r.length → Ok x → x.drop n = r.drop n → 0 ≤ w → w ≤ 1 →
      val (x.take n) + pw n * w.toNat = val (r.take n) + val (b.take n) →
      ∃ (z : Nat) (out : List Int), out.length = r.length ∧ Ok out ∧ val out + pw r.length * z = val r + val b ∧ Ev (fun k => nat_back.l0 k x b w b (b.length : Int) (n : Int)) out := by
  have done : ∀ (x : List Int) (w : Int), x.length = r.length → Ok x → x.drop b.length = r.drop b.length → 0 ≤ w → w ≤ 1 →
      val (x.take b.length) + pw b.length * w.toNat = val (r.take b.length) + val (b.take b.length) →
      ∃ (z : Nat) (out : List Int), out.length = r.length ∧ Ok out ∧ val out + pw r.length * z = val r + val b ∧ Ev (fun k => nat_back.l0 k x b w b (b.length : Int) (b.length : Int)) out := by
    intro x w hxl hx hd hw0 hw1 hi
    have hg := getD_of_drop hd
    have hrn := hr.getD b.length
    have hv0 : 0 ≤ (r.getD b.length 0 + w) % 4294967296 ∧ (r.getD b.length 0 + w) % 4294967296 < 4294967296 := by omega
    refine ⟨((r.getD b.length 0 + w) / 4294967296).toNat, x.set b.length ((r.getD b.length 0 + w) % 4294967296), by rw [List.length_set, hxl], hx.set _ hv0.1 hv0.2, ?_, Ev.step (fun k => ?_) (f := fun _ => some (x.set b.length ((r.getD b.length 0 + w) % 4294967296))) (Ev.now _)⟩
    · have h1 := val_take_set x b.length ((r.getD b.length 0 + w) % 4294967296) (by omega)
      rw [val_take_all _ (by rw [List.length_set]; omega)] at h1
      have h2 := val_take_succ r b.length
      rw [val_take_all r (by omega)] at h2
      rw [val_take_all b (Nat.le_refl _)] at hi
      rw [h1, h2, hlr, pw_succ]
      have he2 : ((r.getD b.length 0 + w) % 4294967296).toNat + 4294967296 * ((r.getD b.length 0 + w) / 4294967296).toNat = (r.getD b.length 0).toNat + w.toNat := by omega
      clear h1 h2 hv0 hd hg
      generalize ((r.getD b.length 0 + w) % 4294967296).toNat = V at he2 ⊢
      generalize ((r.getD b.length 0 + w) / 4294967296).toNat = Z at he2 ⊢
      generalize (r.getD b.length 0).toNat = R at he2 ⊢
      generalize pw b.length = P at hi ⊢
      grind
    · simp only [nat_back.l0, rd_nat, hg, Int.toNat_natCast]
      rw [if_neg (by omega), if_pos (by omega), if_pos (by omega)]
  intro m
  induction m with
  | zero =>
    intro n x w hm hn hxl hx hd hw0 hw1 hi
    have hn2 : n = b.length := by omega
    subst hn2
    exact done x w hxl hx hd hw0 hw1 hi
  | succ m ih =>
    intro n x w hm hn hxl hx hd hw0 hw1 hi
    by_cases hn2 : n = b.length
    · subst hn2; exact done x w hxl hx hd hw0 hw1 hi
    · have hg := getD_of_drop hd
      have hrn := hr.getD n
      have hbn := hb.getD n
      have e1 : n < 4611686018427387904 := by omega
      obtain ⟨v, z, e2, hv0, hv1, hz0, hz1, he⟩ := add32_ok hrn hbn ⟨hw0, hw1⟩
      obtain ⟨b1, out, o1, o2, o3, o4⟩ := ih (n + 1) (x.set n v) z (by omega) (by omega) (by rw [List.length_set, hxl]) (hx.set n hv0 hv1) (by rw [drop_set_succ]; exact drop_next hd) hz0 hz1 (by
        rw [val_take_set x n _ (by omega), val_take_succ r n, val_take_succ b n, pw_succ]
        have he2 := back_sum hrn.1 hz0 hv0 hw0 hbn.1 he
        clear he e2 ih done hd hg
        generalize (r.getD n 0).toNat = R at he2 ⊢
        generalize (b.getD n 0).toNat = Y at he2 ⊢
        generalize pw n = P at hi ⊢
        grind)
      refine ⟨b1, out, o1, o2, o3, Ev.step (fun k => ?_) o4⟩
      simp only [nat_back.l0, rd_nat, w_succ e1, hg, e2, Option.bind_some, Int.toNat_natCast]
      rw [if_pos (by omega), if_pos (by omega), if_pos (by omega), if_pos (by omega)]
theorem nat_back_ok {r b : List Int} (hr : Ok r) (hb : Ok b) (hlr : r.length = b.length + 1) (hlb : b.length < 17592186044416) :
    ∃ (z : Nat) (out : List Int), out.length = r.length ∧ Ok out ∧ val out + pw r.length * z = val r + val b ∧ Ev (fun k => nat_back.f k r b) out := by
  unfold nat_back.f
  exact nat_back_loop hr hb hlr hlb b.length 0 r 0 (by omega) (by omega) rfl hr rfl (by decide) (by decide) (by simp [val])
end Go.Proofs.Ytmgjjdodjamomaa.PureB
end
section
namespace Go.Proofs.Ytmgjjdodjamomaa.PureB
open Go.RowKit Go.Proofs.Ytmgjjdodjamomaa.PB Go.Proofs.YtmgjjdodjamomaaW.PrintWords Go.Proofs.YtmgjjdodjamomaaW.PrintLast Go.Proofs.YtmgjjdodjamomaaW.PrintMore
open Go.Proofs.Ytmgjjdodjamomaa.Limb
theorem pow_split {s : Nat} (h : s ≤ 32) : (4294967296 : Nat) = 2 ^ s * 2 ^ (32 - s) := by
  rw [← Nat.pow_add, show s + (32 - s) = 32 by omega]
/-- a limb's high part -/
theorem shr_limb {s x : Nat} (hs : s < 32) : shr .u32 (x : Int) (s : Int) = ((x / 2 ^ s : Nat) : Int) := by
  unfold shr
  rw [Int.toNat_natCast]
  have : min s (IntKind.bits .u32) = s := Nat.min_eq_left (by show s ≤ 32; omega)
  rw [this, Int.natCast_ediv, Int.natCast_pow]; rfl
/-- the next limb's low part, moved up -/
theorem shr_next {s y : Nat} (hs : s < 32) (hy : y < 4294967296) : shr .u64 (IntKind.u64.wrap (IntKind.u64.wrap (y : Int) * 4294967296)) (s : Int) % 4294967296 = ((y % 2 ^ s * 2 ^ (32 - s) : Nat) : Int) := by
  rw [u64w (x := (y : Int)) (by omega) (by omega), u64w (x := (y : Int) * 4294967296) (by omega) (by omega)]
  unfold shr
  rw [Int.toNat_natCast]
  have : min s (IntKind.bits .u64) = s := Nat.min_eq_left (by show s ≤ 64; omega)
  rw [this]
  have e : (y : Int) * 4294967296 / 2 ^ s = ((y * 4294967296 / 2 ^ s : Nat) : Int) := by
    rw [Int.natCast_ediv, Int.natCast_pow, Int.natCast_mul]; rfl
  rw [e]
  have hp := pow_le_32 hs
  have e32 := pow_split (show s ≤ 32 by omega)
  have e2 : y * 4294967296 / 2 ^ s = y * 2 ^ (32 - s) := by
    rw [e32, show y * (2 ^ s * 2 ^ (32 - s)) = 2 ^ s * (y * 2 ^ (32 - s)) by grind, Nat.mul_div_cancel_left _ hp.1]
  have e3 : y * 2 ^ (32 - s) % 4294967296 = y % 2 ^ s * 2 ^ (32 - s) := by
    rw [e32, Nat.mul_mod_mul_right]
  rw [e2, ← e3]
  generalize y * 2 ^ (32 - s) = z
  omega
theorem down_limb {s x y : Nat} (hs : s < 32) (hx : x < 4294967296) : Go.bits .or .u32 ((x / 2 ^ s : Nat) : Int) ((y % 2 ^ s * 2 ^ (32 - s) : Nat) : Int) = ((x / 2 ^ s + y % 2 ^ s * 2 ^ (32 - s) : Nat) : Int) ∧ x / 2 ^ s + y % 2 ^ s * 2 ^ (32 - s) < 4294967296 ∧ (x / 2 ^ s + y % 2 ^ s * 2 ^ (32 - s)) * 2 ^ s + x % 2 ^ s = x + y % 2 ^ s * 4294967296 := by
  have hp := pow_le_32 hs
  have e32 := pow_split (show s ≤ 32 by omega)
  have hlow : x / 2 ^ s < 2 ^ (32 - s) := by
    refine Nat.div_lt_of_lt_mul ?_
    rw [← e32]; exact hx
  have hr : y % 2 ^ s < 2 ^ s := Nat.mod_lt _ hp.1
  have hm := Nat.mul_le_mul_right (2 ^ (32 - s)) (show y % 2 ^ s + 1 ≤ 2 ^ s from hr)
  rw [Nat.add_mul, Nat.one_mul, ← e32] at hm
  have hlt : x / 2 ^ s + y % 2 ^ s * 2 ^ (32 - s) < 4294967296 := by omega
  refine ⟨?_, hlt, ?_⟩
  · show IntKind.u32.wrap ((BitVec.ofInt 32 ((x / 2 ^ s : Nat) : Int) ||| BitVec.ofInt 32 ((y % 2 ^ s * 2 ^ (32 - s) : Nat) : Int)).toNat : Nat) = _
    have e : (BitVec.ofInt 32 ((x / 2 ^ s : Nat) : Int) ||| BitVec.ofInt 32 ((y % 2 ^ s * 2 ^ (32 - s) : Nat) : Int)).toNat = x / 2 ^ s + y % 2 ^ s * 2 ^ (32 - s) := by
      rw [BitVec.toNat_or, BitVec.toNat_ofInt, BitVec.toNat_ofInt]
      have g1 : (((x / 2 ^ s : Nat) : Int) % ((2 ^ 32 : Nat) : Int)).toNat = x / 2 ^ s := by
        generalize x / 2 ^ s = z at *; omega
      have g2 : (((y % 2 ^ s * 2 ^ (32 - s) : Nat) : Int) % ((2 ^ 32 : Nat) : Int)).toNat = y % 2 ^ s * 2 ^ (32 - s) := by
        generalize y % 2 ^ s * 2 ^ (32 - s) = z at *; omega
      rw [g1, g2, Nat.or_comm, Nat.mul_comm, ← Nat.two_pow_add_eq_or_of_lt hlow, Nat.add_comm]
    rw [e]
    generalize x / 2 ^ s + y % 2 ^ s * 2 ^ (32 - s) = z at hlt
    have : IntKind.u32.wrap (z : Int) = (z : Int) % 4294967296 := by rfl
    rw [this]; omega
  · have hd := Nat.div_add_mod x (2 ^ s)
    generalize x / 2 ^ s = q at *
    generalize x % 2 ^ s = r at *
    generalize y % 2 ^ s = v at *
    generalize 2 ^ (32 - s) = u at *
    generalize 2 ^ s = t at *
    rw [e32, ← hd]
    grind
theorem nat_down_loop {a : List Int} (ha : Ok a) (hla : a.length < 17592186044416) {s : Nat} (hs : s < 32) :
    ∀ (m n : Nat) (o : List Int), a.length - n ≤ m → n ≤ a.length → o.length = a.length → Ok o → val (o.take n) * 2 ^ s + (a.getD 0 0).toNat % 2 ^ s = val (a.take n) + pw n * ((a.getD n 0).toNat % 2 ^ s) →
      Ev (fun k => nat_down.l0 k a (s : Int) o a (a.length : Int) (n : Int)) (dig (val a / 2 ^ s)) := by
  have hp := pow_le_32 hs
  have done : ∀ (o : List Int), o.length = a.length → Ok o → val (o.take a.length) * 2 ^ s + (a.getD 0 0).toNat % 2 ^ s = val (a.take a.length) + pw a.length * ((a.getD a.length 0).toNat % 2 ^ s) →
      Ev (fun k => nat_down.l0 k a (s : Int) o a (a.length : Int) (a.length : Int)) (dig (val a / 2 ^ s)) := by
    intro o hol ho hv
    rw [val_take_all o (by omega), val_take_all a (Nat.le_refl _), getD_out (Nat.le_refl _)] at hv
    have hr : (a.getD 0 0).toNat % 2 ^ s < 2 ^ s := Nat.mod_lt _ hp.1
    have e : val a / 2 ^ s = val o := by
      have h1 : val a = 2 ^ s * val o + (a.getD 0 0).toNat % 2 ^ s := by
        rw [Nat.mul_comm]; simpa using hv.symm
      rw [h1, Nat.mul_add_div hp.1, Nat.div_eq_of_lt hr, Nat.add_zero]
    rw [e]
    refine Ev.step (fun k => ?_) (f := fun k => (nat_trim.f k o).bind fun t524 => (some t524)) (Ev.bind (nat_trim_ok ho (by omega)) (Ev.now _))
    simp only [nat_down.l0]
    rw [if_neg (by omega)]
  intro m
  induction m with
  | zero =>
    intro n o hm hn hol ho hv
    have hn2 : n = a.length := by omega
    subst hn2
    exact done o hol ho hv
  | succ m ih =>
    intro n o hm hn hol ho hv
    by_cases hn2 : n = a.length
    · subst hn2; exact done o hol ho hv
    · have hx := ha.getD n
      have hy := ha.getD (n + 1)
      obtain ⟨x, hxe⟩ : ∃ x : Nat, a.getD n 0 = (x : Int) := ⟨(a.getD n 0).toNat, by omega⟩
      obtain ⟨y, hye⟩ : ∃ y : Nat, a.getD (n + 1) 0 = (y : Int) := ⟨(a.getD (n + 1) 0).toNat, by omega⟩
      rw [hxe] at hx
      rw [hye] at hy
      have hdl := down_limb (s := s) (x := x) (y := y) hs (by omega)
      have e1 : n < 4611686018427387904 := by omega
      have hq : x / 2 ^ s < 4294967296 := Nat.lt_of_le_of_lt (Nat.div_le_self x (2 ^ s)) (by omega)
      have step : ∀ v : Nat, v < 4294967296 → v * 2 ^ s + x % 2 ^ s = x + y % 2 ^ s * 4294967296 → ∀ o2 : List Int, o2.length = o.length → Ok o2 → val (o2.take (n + 1)) = val (o.take n) + pw n * v →
          Ev (fun k => nat_down.l0 k a (s : Int) o2 a (a.length : Int) ((n + 1 : Nat) : Int)) (dig (val a / 2 ^ s)) := by
        intro v hv1 hv2 o2 ho2 hok2 hval
        refine ih (n + 1) o2 (by omega) (by omega) (by omega) hok2 ?_
        rw [hval, val_take_succ a n, hxe, hye, Int.toNat_natCast, Int.toNat_natCast, pw_succ]
        rw [hxe, Int.toNat_natCast] at hv
        generalize val (o.take n) = O at *
        generalize val (a.take n) = A at *
        generalize (a.getD 0 0).toNat % 2 ^ s = Z at *
        generalize x % 2 ^ s = r at *
        generalize y % 2 ^ s = u at *
        generalize 2 ^ s = t at *
        generalize pw n = P at *
        grind
      by_cases hl : n + 1 < a.length
      · have h1 := step _ hdl.2.1 hdl.2.2 ((o.set n ((x / 2 ^ s : Nat) : Int)).set n ((x / 2 ^ s + y % 2 ^ s * 2 ^ (32 - s) : Nat) : Int)) (by rw [List.length_set, List.length_set]) ((ho.set n (Int.natCast_nonneg _) (Int.ofNat_lt.mpr hq)).set n (Int.natCast_nonneg _) (Int.ofNat_lt.mpr hdl.2.1)) (by rw [val_take_set _ n _ (by rw [List.length_set]; omega), List.take_set_of_le (Nat.le_refl n), Int.toNat_natCast])
        refine Ev.step (fun k => ?_) h1
        have hrd : rd (o.set n ((x / 2 ^ s : Nat) : Int)) (n : Int) = ((x / 2 ^ s : Nat) : Int) := by
          rw [rd_nat, List.getD_eq_getElem?_getD, List.getElem?_set_self (by omega)]; rfl
        simp only [nat_down.l0, w_succ e1, rd_nat, hxe, hye, shr_limb hs, shr_next hs (show y < 4294967296 by omega), Option.bind_some, Int.toNat_natCast]
        rw [rd_nat] at hrd
        rw [hrd, hdl.1]
        rw [if_pos (by omega), if_pos (by omega), if_pos (by omega), if_pos (by omega), if_pos (by omega), if_pos (by omega), if_pos (by omega)]
      · have hy0 : y = 0 := by
          have := getD_out (l := a) (n := n + 1) (by omega)
          rw [hye] at this; omega
        subst hy0
        rw [Nat.zero_mod, Nat.zero_mul, Nat.zero_mul, Nat.add_zero, Nat.add_zero] at hdl
        have h1 := step (x / 2 ^ s) hdl.2.1 (by rw [Nat.zero_mod, Nat.zero_mul, Nat.add_zero]; exact hdl.2.2) (o.set n ((x / 2 ^ s : Nat) : Int)) (by rw [List.length_set]) (ho.set n (Int.natCast_nonneg _) (Int.ofNat_lt.mpr hq)) (by rw [val_take_set _ n _ (by omega), Int.toNat_natCast])
        refine Ev.step (fun k => ?_) h1
        simp only [nat_down.l0, w_succ e1, rd_nat, hxe, shr_limb hs, Option.bind_some, Int.toNat_natCast]
        rw [if_pos (by omega), if_pos (by omega), if_pos (by omega), if_pos (by omega), if_pos (by omega), if_neg (by omega)]
theorem nat_down_ok {a : List Int} (ha : Ok a) (hla : a.length < 17592186044416) {s : Nat} (hs : s < 32) : Ev (fun k => nat_down.f k a (s : Int)) (dig (val a / 2 ^ s)) := by
  unfold nat_down.f
  refine Ev.congr (fun k => ?_) (nat_down_loop ha hla hs a.length 0 (List.replicate a.length 0) (by omega) (by omega) (by simp) (Ok.replicate _) (by simp [val, pw_zero]))
  rw [if_pos (by omega), if_pos (by omega), Int.toNat_natCast]; rfl
/-- the row whose window stands anew -/
theorem val_window {r x : List Int} {k m : Nat} (hk : k + m ≤ r.length) (hx : x.length = m) : val (r.take k ++ x ++ r.drop (k + m)) = val (r.take k) + pw k * val x + pw (k + m) * val (r.drop (k + m)) := by
  have l1 : (r.take k).length = k := by rw [List.length_take]; omega
  have l2 : (r.take k ++ x).length = k + m := by rw [List.length_append, l1, hx]
  rw [val_append, l2, val_append, l1]
end Go.Proofs.Ytmgjjdodjamomaa.PureB
end
section
namespace Go.Proofs.Ytmgjjdodjamomaa.PureB
open Go.RowKit Go.Proofs.Ytmgjjdodjamomaa.PB Go.Proofs.YtmgjjdodjamomaaW.PrintWords Go.Proofs.YtmgjjdodjamomaaW.PrintLast Go.Proofs.YtmgjjdodjamomaaW.PrintMore
open Go.Proofs.Ytmgjjdodjamomaa.Limb Go.Proofs.Ytmgjjdodjamomaa.Kn
theorem mid_cut (pre x post : List Int) : ((pre ++ x ++ post).take (pre.length + x.length)).drop pre.length = x := by
  rw [List.take_left' (by simp), List.drop_left' rfl]
theorem mid_pre (pre x post : List Int) : (pre ++ x ++ post).take pre.length = pre := by
  rw [List.append_assoc, List.take_left' rfl]
theorem mid_post (pre x post : List Int) : (pre ++ x ++ post).drop (pre.length + x.length) = post := by
  rw [List.drop_left' (by simp)]
theorem less_mid {pre x post b : List Int} (hx : Ok x) (hb : Ok b) (hlx : x.length = b.length + 1) (hlb : b.length < 17592186044416) {q : Int} (hq : 0 ≤ q) (hq2 : q < 4294967296) :
    ∃ (t : Bool) (out : List Int), out.length = x.length ∧ Ok out ∧ val out + val b * q.toNat = val x + pw x.length * (if t = true then 1 else 0) ∧ Ev (fun k => nat_less.whole.f k (pre ++ x ++ post) (pre.length : Int) ((pre.length + x.length : Nat) : Int) b q) (t, pre ++ out ++ post) := by
  obtain ⟨t, out, o1, o2, o3, o4⟩ := nat_less_ok hx hb hlx hlb hq hq2
  refine ⟨t, out, o1, o2, o3, ?_⟩
  refine Ev.congr (fun k => ?_) (f := fun k => (nat_less.f k x b q).bind fun b => some (b.1, pre ++ b.2 ++ post)) (Ev.bind o4 (Ev.now _))
  unfold nat_less.whole.f
  rw [Int.toNat_natCast, Int.toNat_natCast, mid_cut, mid_pre, mid_post, if_pos ⟨by omega, by omega, by simp only [List.length_append]; omega⟩]
theorem back_mid {pre x post b : List Int} (hx : Ok x) (hb : Ok b) (hlx : x.length = b.length + 1) (hlb : b.length < 17592186044416) :
    ∃ (z : Nat) (out : List Int), out.length = x.length ∧ Ok out ∧ val out + pw x.length * z = val x + val b ∧ Ev (fun k => nat_back.whole.f k (pre ++ x ++ post) (pre.length : Int) ((pre.length + x.length : Nat) : Int) b) (pre ++ out ++ post) := by
  obtain ⟨z, out, o1, o2, o3, o4⟩ := nat_back_ok hx hb hlx hlb
  refine ⟨z, out, o1, o2, o3, ?_⟩
  refine Ev.congr (fun k => ?_) (f := fun k => (nat_back.f k x b).bind fun b => some (pre ++ b ++ post)) (Ev.bind o4 (Ev.now _))
  unfold nat_back.whole.f
  rw [Int.toNat_natCast, Int.toNat_natCast, mid_cut, mid_pre, mid_post, if_pos ⟨by omega, by omega, by simp only [List.length_append]; omega⟩]
theorem wrap_add {n m : Nat} (hn : n < 4611686018427387904) (hm : m < 4611686018427387904) : wrap64 ((n : Int) + (m : Int)) = ((n + m : Nat) : Int) := by rw [w64 (by omega) (by omega)]; omega
theorem wrap_sub {n m : Nat} (hn : n < 4611686018427387904) (hm : m ≤ n) : wrap64 ((n : Int) - (m : Int)) = ((n - m : Nat) : Int) := by rw [w64 (by omega) (by omega)]; omega
/-- what is left of the window, where the guess was right -/
theorem dig_right {W D g v : Nat} (hD : 0 < D) (h0 : W / D ≤ g) (h : v + D * g = W) : g = W / D ∧ v = W % D := by
  have h1 : g ≤ W / D := by rw [Nat.le_div_iff_mul_le hD, Nat.mul_comm]; omega
  have e : g = W / D := by omega
  subst e
  have := Nat.div_add_mod W D
  exact ⟨rfl, by omega⟩
/-- what is left of the window, where the guess was one too large -/
theorem dig_wrong {W D g v u z M : Nat} (hD : 0 < D) (h1 : g ≤ W / D + 1) (h : v + D * g = W + M) (hv : v < M) (hW : W < M) (hb : u + M * z = v + D) (hu : u < M) : g = W / D + 1 ∧ u = W % D := by
  have hd := Nat.div_add_mod W D
  have hr := Nat.mod_lt W hD
  have h2 : ¬ g ≤ W / D := fun hc => by
    have := Nat.mul_le_mul_left D hc
    omega
  have e : g = W / D + 1 := by omega
  refine ⟨e, ?_⟩
  rw [e, Nat.mul_add, Nat.mul_one] at h
  have hz : u + M * z = W % D + M := by omega
  have hlt : W % D < M := by omega
  rcases Nat.lt_trichotomy z 1 with c | c | c
  · have : z = 0 := by omega
    subst this; rw [Nat.mul_zero] at hz; omega
  · subst c; rw [Nat.mul_one] at hz; omega
  · have := Nat.mul_le_mul_left M (show 2 ≤ z from c)
    omega
theorem set_same {q : List Int} {n : Nat} (hn : n < q.length) (h : q.getD n 0 = 0) : q.set n 0 = q := by
  apply List.ext_getElem?
  intro i
  rw [List.getElem?_set]
  split
  · rename_i e
    subst e
    rw [List.getElem?_eq_getElem hn]
    rw [List.getD_eq_getElem?_getD, List.getElem?_eq_getElem hn] at h
    simpa using h.symm
  · rfl
theorem long_digit {pre x post d q : List Int} {s top next qlen i : Int} {R : List Int × List Int} (hx : Ok x) (hd : Ok d) (hlx : x.length = d.length + 1) (hld : d.length < 17592186044416) (hlp : pre.length < 17592186044416) (hD : 0 < val d) (hn : pre.length < q.length) (hq0 : q.getD pre.length 0 = 0)
    {g : Nat} (hg0 : val x / val d ≤ g) (hg1 : g ≤ val x / val d + 1) (hgB : g < 4294967296)
    (h : ∀ out : List Int, out.length = x.length → Ok out → val out = val x % val d → Ev (fun k => nat_long.l0 k d (q.set pre.length ((val x / val d : Nat) : Int)) (pre ++ out ++ post) s (d.length : Int) top next qlen (wrap64 (i + 1))) R) :
    Ev (fun k => nat_long.j3 k d q (pre ++ x ++ post) s (d.length : Int) top next (pre.length : Int) (g : Int) qlen i) R := by
  by_cases c0 : g = 0
  · subst c0
    have e0 : val x / val d = 0 := Nat.le_zero.mp hg0
    have hm : val x % val d = val x := by
      have := Nat.div_add_mod (val x) (val d)
      rw [e0, Nat.mul_zero, Nat.zero_add] at this; exact this
    have h1 := h x rfl hx hm.symm
    rw [e0] at h1
    have e2 : q.set pre.length ((0 : Nat) : Int) = q := set_same hn hq0
    rw [e2] at h1
    refine Ev.step (fun k => ?_) h1
    simp only [nat_long.j3]
    rw [if_pos (by omega)]
  · have ehi : wrap64 (wrap64 ((pre.length : Int) + (d.length : Int)) + 1) = ((pre.length + x.length : Nat) : Int) := by
      rw [wrap_add (by omega) (by omega), w_succ (by omega)]; omega
    have hlen : ((pre ++ x ++ post).length : Int) = ((pre.length + x.length + post.length : Nat) : Int) := by simp only [List.length_append]
    obtain ⟨t, out, o1, o2, o3, o4⟩ := less_mid (pre := pre) (post := post) hx hd hlx hld (q := (g : Int)) (by clear ehi; omega) (by clear ehi; omega)
    rw [Int.toNat_natCast] at o3
    have bo := val_lt o2
    have bx := val_lt hx
    rw [o1] at bo
    cases t with
    | false =>
      simp only [Bool.false_eq_true, if_false, Nat.mul_zero, Nat.add_zero] at o3
      obtain ⟨e1, e2⟩ := dig_right hD hg0 o3
      have h1 := h out o1 o2 e2
      rw [← e1] at h1
      have hst : (g : Int) % 4294967296 = (g : Int) := by clear ehi; omega
      refine Ev.step (fun k => ?_) (f := fun k => (nat_less.whole.f k (pre ++ x ++ post) (pre.length : Int) ((pre.length + x.length : Nat) : Int) d (g : Int)).bind fun bt559 => (if bt559.1 = true then ((nat_back.whole.f k bt559.2 (pre.length : Int) ((pre.length + x.length : Nat) : Int) d).bind fun t565 => (if (pre.length : Int) < (q.length : Int) then (nat_long.l0 k d (q.set ((pre.length : Int) : Int).toNat ((IntKind.u64.wrap ((g : Int) - 1)) % 4294967296)) t565 s (d.length : Int) top next qlen (wrap64 (i + 1))) else (none))) else (if (pre.length : Int) < (q.length : Int) then (nat_long.l0 k d (q.set ((pre.length : Int) : Int).toNat ((g : Int) % 4294967296)) bt559.2 s (d.length : Int) top next qlen (wrap64 (i + 1))) else (none)))) (Ev.bind o4 ?_)
      · simp only [nat_long.j3, ehi, hlen]
        clear ehi hlen
        rw [if_neg (by omega), if_pos (by omega), if_pos (by omega), if_pos (by omega)]
      · simp only [Bool.false_eq_true, if_false, Int.toNat_natCast, hst]
        clear ehi hlen hst
        refine Ev.congr (fun k => ?_) h1
        rw [if_pos (by omega)]
    | true =>
      simp only [if_true, Nat.mul_one] at o3
      obtain ⟨z, out2, u1, u2, u3, u4⟩ := back_mid (pre := pre) (post := post) o2 hd (by clear ehi hlen; omega) hld
      have bu := val_lt u2
      rw [u1, o1] at bu
      rw [o1] at u3 u4
      obtain ⟨e1, e2⟩ := dig_wrong hD hg1 o3 bo bx u3 bu
      have h1 := h out2 (by clear ehi hlen; omega) u2 e2
      have hst : IntKind.u64.wrap ((g : Int) - 1) % 4294967296 = ((val x / val d : Nat) : Int) := by
        clear ehi hlen
        rw [u64w (by omega) (by omega)]
        generalize val x / val d = y at *
        omega
      refine Ev.step (fun k => ?_) (f := fun k => (nat_less.whole.f k (pre ++ x ++ post) (pre.length : Int) ((pre.length + x.length : Nat) : Int) d (g : Int)).bind fun bt559 => (if bt559.1 = true then ((nat_back.whole.f k bt559.2 (pre.length : Int) ((pre.length + x.length : Nat) : Int) d).bind fun t565 => (if (pre.length : Int) < (q.length : Int) then (nat_long.l0 k d (q.set ((pre.length : Int) : Int).toNat ((IntKind.u64.wrap ((g : Int) - 1)) % 4294967296)) t565 s (d.length : Int) top next qlen (wrap64 (i + 1))) else (none))) else (if (pre.length : Int) < (q.length : Int) then (nat_long.l0 k d (q.set ((pre.length : Int) : Int).toNat ((g : Int) % 4294967296)) bt559.2 s (d.length : Int) top next qlen (wrap64 (i + 1))) else (none)))) (Ev.bind o4 ?_)
      · simp only [nat_long.j3, ehi, hlen]
        clear ehi hlen hst
        rw [if_neg (by omega), if_pos (by omega), if_pos (by omega), if_pos (by omega)]
      · simp only [if_true]
        refine Ev.bind u4 ?_
        simp only [Int.toNat_natCast, hst]
        clear ehi hlen hst
        refine Ev.congr (fun k => ?_) h1
        rw [if_pos (by omega)]
/-- the guess, counted down until the third limb no longer refutes it -/
theorem long_guess {d q r : List Int} {s qlen i : Int} {n : Nat} {R : List Int × List Int} (hr : Ok r) (hld : d.length < 17592186044416) (hd2 : 2 ≤ d.length) (hn : n + d.length < r.length) (hlr : r.length < 17592186044416)
    {W D P top next dl two r2 wl : Nat} (htop : top < 4294967296) (ht : 0 < top) (hnext : next < 4294967296) (hr2 : r.getD (n + d.length - 2) 0 = (r2 : Int)) (hD : D = (top * 4294967296 + next) * P + dl) (hdl : dl < P) (hW : W = (two * 4294967296 + r2) * P + wl) (hwl : wl < P) (hWD : W < 4294967296 * D)
    (h : ∀ g : Nat, W / D ≤ g → g ≤ W / D + 1 → g < 4294967296 → Ev (fun k => nat_long.j3 k d q r s (d.length : Int) (top : Int) (next : Int) (n : Int) (g : Int) qlen i) R) :
    ∀ (g rest : Nat), g * top + rest = two → rest < 4294967296 → g < 18446744073709551616 → W / D ≤ g → Ev (fun k => nat_long.l1 k d q r s (d.length : Int) (top : Int) (next : Int) (n : Int) (g : Int) (rest : Int) qlen i) R := by
  have hrn := hr.getD (n + d.length - 2)
  rw [hr2] at hrn
  have htw := kn_top hnext hD hdl hW hWD
  have ei : wrap64 (wrap64 ((n : Int) + (d.length : Int)) - 2) = ((n + d.length - 2 : Nat) : Int) := by
    rw [wrap_add (by omega) (by omega)]
    exact wrap_sub (m := 2) (by omega) (by omega)
  intro g
  induction g with
  | zero =>
    intro rest hg hrest _ hge
    have h1 := h 0 hge (Nat.zero_le _) (by omega)
    have ej : Go.bits .or .u64 (IntKind.u64.wrap ((rest : Int) * 4294967296)) (IntKind.u64.wrap (r2 : Int)) = (rest : Int) * 4294967296 + (r2 : Int) := join2 ⟨by clear ei; omega, by clear ei; omega⟩ hrn
    have ew : IntKind.u64.wrap (((0 : Nat) : Int) * (next : Int)) = 0 := by
      rw [show ((0 : Nat) : Int) * (next : Int) = 0 by rw [show ((0 : Nat) : Int) = 0 from rfl, Int.zero_mul]]; exact u64w (by decide) (by decide)
    refine Ev.step (f := fun k => nat_long.j2 k d q r s (d.length : Int) (top : Int) (next : Int) (n : Int) ((0 : Nat) : Int) (rest : Int) qlen i false) (fun k => ?_) (Ev.step (fun k => ?_) h1)
    · simp only [nat_long.l1, ei, rd_nat, hr2, ej, ew]
      clear ei ej ew
      rw [if_neg (by omega), if_pos (by omega), if_pos (by omega)]
      rw [decide_eq_false (by omega)]
    · simp only [nat_long.j2, Bool.false_eq_true, if_false]
  | succ g ih =>
    intro rest hg hrest hgb hge
    have ej : Go.bits .or .u64 (IntKind.u64.wrap ((rest : Int) * 4294967296)) (IntKind.u64.wrap (r2 : Int)) = (rest : Int) * 4294967296 + (r2 : Int) := join2 ⟨by clear ei; omega, by clear ei; omega⟩ hrn
    have more : (4294967296 ≤ g + 1 ∨ rest * 4294967296 + r2 < (g + 1) * next) → Ev (fun k => nat_long.j2 k d q r s (d.length : Int) (top : Int) (next : Int) (n : Int) ((g + 1 : Nat) : Int) (rest : Int) qlen i true) R := by
      intro c
      have hlt := kn_more hD hW hwl hWD hg c
      have hg2 : g * top + (rest + top) = two := by
        rw [Nat.add_mul, Nat.one_mul] at hg; omega
      have eg : IntKind.u64.wrap (((g + 1 : Nat) : Int) - 1) = (g : Int) := by
        rw [u64w (by clear ei ej; omega) (by clear ei ej; omega)]; clear ei ej; omega
      have er : IntKind.u64.wrap ((rest : Int) + (top : Int)) = ((rest + top : Nat) : Int) := by
        rw [u64w (by clear ei ej eg; omega) (by clear ei ej eg; omega)]; clear ei ej eg; omega
      by_cases c2 : 4294967296 ≤ rest + top
      · have hgl := kn_lt htw hg2 c2
        have h1 := h g (Nat.lt_succ_iff.mp hlt) (kn_stop hnext hD hdl hW ht hg2 hgl c2) hgl
        refine Ev.step (fun k => ?_) h1
        simp only [nat_long.j2, if_true, eg, er]
        clear ei ej eg er
        rw [if_pos (by omega)]
      · have h1 := ih (rest + top) hg2 (by clear ei ej eg er; omega) (by clear ei ej eg er; omega) (Nat.lt_succ_iff.mp hlt)
        refine Ev.step (fun k => ?_) h1
        simp only [nat_long.j2, if_true, eg, er]
        clear ei ej eg er
        rw [if_neg (by omega)]
    by_cases c1 : 4294967296 ≤ g + 1
    · refine Ev.step (fun k => ?_) (more (Or.inl c1))
      simp only [nat_long.l1]
      clear ei ej
      rw [if_pos (by omega)]
    · have hm := Nat.mul_le_mul (show g + 1 ≤ 4294967295 by clear ei ej; omega) (show next ≤ 4294967295 by clear ei ej; omega)
      have ew : IntKind.u64.wrap (((g + 1 : Nat) : Int) * (next : Int)) = (((g + 1) * next : Nat) : Int) := by
        rw [← Int.natCast_mul]
        generalize (g + 1) * next = y at *
        exact u64w (by clear ei ej; omega) (by clear ei ej; omega)
      by_cases c2 : rest * 4294967296 + r2 < (g + 1) * next
      · refine Ev.step (fun k => ?_) (more (Or.inr c2))
        simp only [nat_long.l1, ei, rd_nat, hr2, ej, ew]
        clear ei ej ew
        rw [if_neg (by omega), if_pos (by omega), if_pos (by omega)]
        generalize (g + 1) * next = y at *
        rw [decide_eq_true (by omega)]
      · have h1 := h (g + 1) hge (kn_end hD hdl hW ht hg (by clear ei ej ew; omega) (by clear ei ej ew; omega)) (by clear ei ej ew; omega)
        refine Ev.step (f := fun k => nat_long.j2 k d q r s (d.length : Int) (top : Int) (next : Int) (n : Int) ((g + 1 : Nat) : Int) (rest : Int) qlen i false) (fun k => ?_) (Ev.step (fun k => ?_) h1)
        · simp only [nat_long.l1, ei, rd_nat, hr2, ej, ew]
          clear ei ej ew
          rw [if_neg (by omega), if_pos (by omega), if_pos (by omega)]
          generalize (g + 1) * next = y at *
          rw [decide_eq_false (by omega)]
        · simp only [nat_long.j2, Bool.false_eq_true, if_false]
end Go.Proofs.Ytmgjjdodjamomaa.PureB
end
section
namespace Go.Proofs.Ytmgjjdodjamomaa.PureB
open Go.RowKit Go.Proofs.Ytmgjjdodjamomaa.PB Go.Proofs.YtmgjjdodjamomaaW.PrintWords Go.Proofs.YtmgjjdodjamomaaW.PrintLast Go.Proofs.YtmgjjdodjamomaaW.PrintMore
open Go.Proofs.Ytmgjjdodjamomaa.Limb
theorem u32_and_one {z : Int} (h0 : 0 ≤ z) (h1 : z < 4294967296) : Go.bits .and .u32 z 1 = z % 2 := by
  show IntKind.u32.wrap ((BitVec.ofInt 32 z &&& BitVec.ofInt 32 1).toNat : Nat) = z % 2
  have e : (BitVec.ofInt 32 z &&& BitVec.ofInt 32 1).toNat = z.toNat % 2 := by
    rw [BitVec.toNat_and, BitVec.toNat_ofInt, BitVec.toNat_ofInt]
    have e1 : (z % ((2 ^ 32 : Nat) : Int)).toNat = z.toNat := by omega
    have e2 : ((1 : Int) % ((2 ^ 32 : Nat) : Int)).toNat = 1 := by decide
    rw [e1, e2, Nat.and_one_is_mod]
  rw [e]
  have : IntKind.u32.wrap ((z.toNat % 2 : Nat) : Int) = ((z.toNat % 2 : Nat) : Int) := by
    rcases Nat.mod_two_eq_zero_or_one z.toNat with e | e <;> rw [e] <;> decide
  rw [this]; omega
theorem val_div_pw {l : List Int} (h : Ok l) (j : Nat) : val l / pw j = val (l.drop j) := by
  have h1 := val_cut l j
  have h2 := val_take_lt h j
  rw [h1, Nat.add_mul_div_left _ _ (pw_pos j), Nat.div_eq_of_lt h2, Nat.zero_add]
theorem two_pow_32 {i : Nat} (h : i ≤ 32) : (4294967296 : Nat) = 2 ^ i * 2 ^ (32 - i) := by
  rw [← Nat.pow_add, show i + (32 - i) = 32 by omega]
theorem ref_bit {l : List Int} (h : Ok l) {n : Nat} (hn : n < 1125899906842624) : primroseref01_bit.f l (n : Int) = some ((val l / 2 ^ n % 2 : Nat) : Int) := by
  unfold primroseref01_bit.f
  have e1 : wrap64 (Int.tdiv (n : Int) 32) = ((n / 32 : Nat) : Int) := by
    rw [Int.tdiv_eq_ediv_of_nonneg (by omega), w64 (by omega) (by omega)]; omega
  have e2 : Int.tmod (n : Int) 32 = ((n % 32 : Nat) : Int) := by
    clear e1; rw [tm (by omega)]; omega
  rw [e1, e2]
  clear e1 e2
  have hp : (2 : Nat) ^ n = pw (n / 32) * 2 ^ (n % 32) := by
    rw [pw_two, ← Nat.pow_add, show 32 * (n / 32) + n % 32 = n by omega]
  rw [hp, ← Nat.div_div_eq_div_mul, val_div_pw h]
  by_cases c : n / 32 < l.length
  · rw [if_neg (by omega), if_pos (by omega), if_pos (by omega), if_pos (by omega), rd_nat]
    have hx := h.getD (n / 32)
    have hi : n % 32 < 32 := by omega
    generalize n % 32 = i at hi ⊢
    have hs : shr .u32 (l.getD (n / 32) 0) (i : Int) = (((l.getD (n / 32) 0).toNat / 2 ^ i : Nat) : Int) := by
      unfold shr
      rw [Int.toNat_natCast]
      have : min i (IntKind.bits .u32) = i := Nat.min_eq_left (by show i ≤ 32; omega)
      rw [this, Int.natCast_ediv, Int.toNat_of_nonneg hx.1, Int.natCast_pow]; rfl
    have hle : (l.getD (n / 32) 0).toNat / 2 ^ i ≤ (l.getD (n / 32) 0).toNat := Nat.div_le_self _ _
    have hb : Go.bits .and .u32 (((l.getD (n / 32) 0).toNat / 2 ^ i : Nat) : Int) 1 = (((l.getD (n / 32) 0).toNat / 2 ^ i % 2 : Nat) : Int) := by
      generalize (l.getD (n / 32) 0).toNat / 2 ^ i = y at hle ⊢
      rw [u32_and_one (by omega) (by omega)]; omega
    rw [hs, hb, val_drop_succ l (n / 32)]
    have : ((l.getD (n / 32) 0).toNat + 4294967296 * val (l.drop (n / 32 + 1))) / 2 ^ i % 2 = (l.getD (n / 32) 0).toNat / 2 ^ i % 2 := by
      rw [two_pow_32 (show i ≤ 32 by omega), Nat.mul_assoc, Nat.add_mul_div_left _ _ (Nat.pow_pos (by omega))]
      rw [show 32 - i = (31 - i) + 1 by omega, Nat.pow_succ, Nat.mul_assoc, Nat.mul_left_comm]
      omega
    rw [this]
  · rw [if_pos (by omega), val_drop_all l (by omega)]
    simp
theorem bl_len {l : List Int} (h : Ok l) : bl (val l) ≤ 32 * l.length := bl_le (by rw [← pw_two]; exact val_lt h)
/-- a list worth a multiple of 2^(n+1) bears 2^n more without a carry -/
theorem limb_room {q : List Int} (h : Ok q) {n Q : Nat} (hv : val q = Q * 2 ^ (n + 1)) : (q.getD (n / 32) 0).toNat + 2 ^ (n % 32) < 4294967296 := by
  have h1 := val_div_pw h (n / 32)
  have h2 := val_drop_succ q (n / 32)
  have h3 := h.getD (n / 32)
  have hp : (2 : Nat) ^ (n + 1) = pw (n / 32) * 2 ^ (n % 32 + 1) := by
    rw [pw_two, ← Nat.pow_add, show 32 * (n / 32) + (n % 32 + 1) = n + 1 by omega]
  rw [hv, hp, Nat.mul_left_comm, Nat.mul_div_cancel_left _ (pw_pos _), h2] at h1
  have hi : n % 32 < 32 := by omega
  generalize n % 32 = i at hi h1 ⊢
  generalize val (q.drop (n / 32 + 1)) = V at h1
  generalize q.getD (n / 32) 0 = x at h1 h3 ⊢
  have e := two_pow_32 (show i + 1 ≤ 32 by omega)
  have hpos : 0 < 2 ^ i := Nat.pow_pos (by omega)
  have hx : x.toNat % 2 ^ (i + 1) = 0 := by
    have h5 : (x.toNat + 4294967296 * V) % 2 ^ (i + 1) = 0 := by rw [← h1, Nat.mul_mod_left]
    rw [e, Nat.mul_assoc, Nat.add_mul_mod_self_left] at h5
    exact h5
  obtain ⟨y, hy⟩ := Nat.dvd_of_mod_eq_zero hx
  rw [e]
  have hlt : 2 ^ (i + 1) * y < 2 ^ (i + 1) * 2 ^ (32 - (i + 1)) := by rw [← e, ← hy]; omega
  have hy2 := Nat.lt_of_mul_lt_mul_left hlt
  have h6 := Nat.mul_le_mul_left (2 ^ (i + 1)) (show y + 1 ≤ 2 ^ (32 - (i + 1)) from hy2)
  rw [Nat.mul_add, Nat.mul_one, ← hy] at h6
  rw [Nat.pow_succ 2 i] at h6 ⊢
  omega
theorem shl_one {i : Nat} (h : i < 32) : shl .u32 1 (i : Int) = ((2 ^ i : Nat) : Int) := by
  unfold shl
  rw [Int.toNat_natCast]
  have : min i (IntKind.bits .u32) = i := Nat.min_eq_left (by show i ≤ 32; omega)
  rw [this, Int.one_mul]
  have hlt : 2 ^ i < 2 ^ 32 := Nat.pow_lt_pow_right (by omega) h
  have e : (2 : Nat) ^ 32 = 4294967296 := by decide
  rw [e] at hlt
  have e2 : (2 : Int) ^ i = ((2 ^ i : Nat) : Int) := by rw [Int.natCast_pow]; rfl
  rw [e2]
  generalize 2 ^ i = z at hlt
  have : IntKind.u32.wrap (z : Int) = (z : Int) % 4294967296 := by rfl
  rw [this]; omega
theorem ref_divmod_loop {a b : List Int} (ha : Ok a) (hb : Ok b) (hla : a.length < 17592186044416) (hlb : b.length < 17592186044415) :
    ∀ (n : Nat) (q r : List Int) (Q R : Nat), n ≤ bl (val a) → q.length = a.length → r.length = b.length + 1 → Ok q → Ok r → val a / 2 ^ n = Q * val b + R → R < val b → val q = Q * 2 ^ n → val r = R →
      Ev (fun k => primroseref01_DivMod.l0 k a b q r ((n : Int) - 1)) (dig (val a / val b), dig (val a % val b), true) := by
  intro n
  induction n with
  | zero =>
    intro q r Q R _ hql hrl hq hr hA hR hvq hvr
    rw [Nat.pow_zero, Nat.div_one] at hA
    rw [Nat.pow_zero, Nat.mul_one] at hvq
    have hB0 : 0 < val b := by omega
    have e1 : val a / val b = Q := by
      rw [hA, Nat.mul_comm, Nat.mul_add_div hB0, Nat.div_eq_of_lt hR, Nat.add_zero]
    have e2 : val a % val b = R := by
      rw [hA, Nat.mul_comm, Nat.mul_add_mod, Nat.mod_eq_of_lt hR]
    rw [e1, e2, ← hvq, ← hvr]
    refine Ev.step (f := fun k => (primroseref01_Plain.f k q).bind fun t366 => ((primroseref01_Plain.f k r).bind fun t369 => (some (t366, t369, true)))) (fun k => ?_) (Ev.bind (ref_plain hq (by omega)) (Ev.bind (ref_plain hr (by omega)) (Ev.now _)))
    simp only [primroseref01_DivMod.l0]
    rw [if_neg (by omega)]
  | succ n ih =>
    intro q r Q R hn hql hrl hq hr hA hR hvq hvr
    have hbl := bl_len ha
    have hlen : n / 32 < q.length := by omega
    have e0 : ((n + 1 : Nat) : Int) - 1 = (n : Int) := by omega
    rw [e0]
    have hbit := ref_bit ha (n := n) (by omega)
    obtain ⟨d, hd⟩ : ∃ d, val a / 2 ^ n % 2 = d := ⟨_, rfl⟩
    have hd2 : d < 2 := by omega
    have hA2 : val a / 2 ^ n = 2 * (Q * val b) + 2 * R + d := by
      have h1 : val a / 2 ^ (n + 1) = val a / 2 ^ n / 2 := by rw [Nat.pow_succ, Nat.div_div_eq_div_mul]
      rw [h1] at hA
      omega
    rw [hd] at hbit
    have hlb2 := val_lt hb
    have hps := pw_succ b.length
    obtain ⟨r1, p1, p2, p3, p4⟩ := ref_push hr (by omega) (c0 := (d : Int)) (by omega) (by omega) (by rw [hrl, hps, hvr, Int.toNat_natCast]; omega)
    rw [Int.toNat_natCast, hvr] at p3
    have hcmp := ref_ncmp p2 hb (by omega) (by omega)
    have hw : wrap64 ((n : Int) - 1) = (n : Int) - 1 := w_pred (by omega)
    have main : Ev (fun k => ((primroseref01_bit.f a (n : Int)).bind fun t372 => ((primroseref01_push.f k r t372).bind fun t373 => ((primroseref01_Cmp.f k t373 b).bind fun t374 => (if t374 ≥ 0 then ((primroseref01_take.f k t373 b).bind fun t375 => (if 0 ≤ (wrap64 (Int.tdiv (n : Int) 32)) then (if (wrap64 (Int.tdiv (n : Int) 32)) < (q.length : Int) then (if 0 ≤ (Int.tmod (n : Int) 32) then (primroseref01_DivMod.l0 k a b (q.set ((wrap64 (Int.tdiv (n : Int) 32)) : Int).toNat (((rd q (wrap64 (Int.tdiv (n : Int) 32))) + (shl .u32 1 (Int.tmod (n : Int) 32))) % 4294967296)) t375 (wrap64 ((n : Int) - 1))) else (none)) else (none)) else (none))) else (primroseref01_DivMod.l0 k a b q t373 (wrap64 ((n : Int) - 1)))))))) (dig (val a / val b), dig (val a % val b), true) := by
      rw [hbit]
      simp only [Option.bind_some]
      refine Ev.bind p4 (Ev.bind hcmp ?_)
      rw [hw]
      clear hw
      by_cases c : val b ≤ 2 * R + d
      · have hc : cmpN (val r1) (val b) ≥ 0 := by unfold cmpN; rw [p3]; split <;> (try split) <;> omega
        simp only [if_pos hc]
        obtain ⟨r2, t1, t2, t3, t4⟩ := ref_take p2 hb (by omega) (by rw [p3]; exact c)
        refine Ev.bind t4 ?_
        have f1 : wrap64 (Int.tdiv (n : Int) 32) = ((n / 32 : Nat) : Int) := by
          rw [Int.tdiv_eq_ediv_of_nonneg (by omega), w64 (by omega) (by omega)]; omega
        have f2 : Int.tmod (n : Int) 32 = ((n % 32 : Nat) : Int) := by
          clear f1; rw [tm (by omega)]; omega
        rw [f1, f2, shl_one (by clear f1 f2; omega), rd_nat, Int.toNat_natCast]
        clear f1 f2
        have g1 := limb_room hq hvq
        have g2 := hq.getD (n / 32)
        have g3 : (q.getD (n / 32) 0 + ((2 ^ (n % 32) : Nat) : Int)) % 4294967296 = (((q.getD (n / 32) 0).toNat + 2 ^ (n % 32) : Nat) : Int) := by
          generalize 2 ^ (n % 32) = z at g1 ⊢
          omega
        rw [g3]
        have g4 := val_set q (n / 32) (((q.getD (n / 32) 0).toNat + 2 ^ (n % 32) : Nat) : Int) hlen
        rw [Int.toNat_natCast] at g4
        have g5 : (2 : Nat) ^ n = pw (n / 32) * 2 ^ (n % 32) := by
          rw [pw_two, ← Nat.pow_add, show 32 * (n / 32) + n % 32 = n by omega]
        have h6 := ih (q.set (n / 32) (((q.getD (n / 32) 0).toNat + 2 ^ (n % 32) : Nat) : Int)) r2 (2 * Q + 1) (2 * R + d - val b) (by omega) (by rw [List.length_set]; exact hql) (by omega) (hq.set _ (by omega) (by generalize 2 ^ (n % 32) = z at g1 ⊢; omega)) t2
          (by rw [hA2, Nat.add_mul, Nat.mul_assoc]; omega) (by omega) (by
            rw [Nat.mul_add] at g4
            have : val (q.set (n / 32) (((q.getD (n / 32) 0).toNat + 2 ^ (n % 32) : Nat) : Int)) = val q + 2 ^ n := by rw [g5]; omega
            rw [this, hvq, Nat.pow_succ]; grind) (by rw [t3, p3])
        refine Ev.congr (fun k => ?_) h6
        rw [if_pos (by omega), if_pos (by omega), if_pos (by omega)]
      · have hc : ¬ cmpN (val r1) (val b) ≥ 0 := by unfold cmpN; rw [p3, if_pos (by omega)]; omega
        simp only [if_neg hc]
        exact ih q r1 (2 * Q) (2 * R + d) (by omega) hql (by omega) hq p2 (by rw [hA2, Nat.mul_assoc]; omega) (by omega) (by rw [hvq, Nat.pow_succ]; grind) p3
    refine Ev.step (fun k => ?_) main
    simp only [primroseref01_DivMod.l0]
    rw [if_pos (by omega)]
theorem ref_divmod {a b : List Int} (ha : Ok a) (hb : Ok b) (hla : a.length < 17592186044416) (hlb : b.length < 17592186044415) (hB : val b ≠ 0) :
    Ev (fun k => primroseref01_DivMod.f k a b) (dig (val a / val b), dig (val a % val b), true) := by
  unfold primroseref01_DivMod.f
  refine Ev.bind (ref_plain ha (by omega)) (Ev.bind (ref_plain hb (by omega)) ?_)
  have l1 := dig_len_le' ha
  have l2 := dig_len_le' hb
  have nz : (dig (val b)).length ≠ 0 := fun hc => hB (dig_len_pos.mp hc)
  have nz2 : ¬ ((dig (val b)).length : Int) = 0 := by omega
  simp only [if_neg nz2]
  have s1 := ref_small (ok_dig (val a)) (by omega)
  have s2 := ref_small (ok_dig (val b)) (by omega)
  rw [val_dig] at s1 s2
  refine Ev.bind s1 (Ev.bind s2 ?_)
  have long : Ev (fun k => primroseref01_DivMod.j0 k (dig (val a)) (dig (val b)) (if val a < 9223372036854775808 then ((val a : Int), true) else (0, false)).1 (if val b < 9223372036854775808 then ((val b : Int), true) else (0, false)).1 false) (dig (val a / val b), dig (val a % val b), true) := by
    refine Ev.step (fun k => ?_) (f := fun k => (primroseref01_Bits.f k (dig (val a))).bind fun t365 => (primroseref01_DivMod.l0 k (dig (val a)) (dig (val b)) (List.replicate (((dig (val a)).length : Int) : Int).toNat 0) (List.replicate (wrap64 (((dig (val b)).length : Int) + 1) : Int).toNat 0) (wrap64 (t365 - 1)))) ?_
    · simp only [primroseref01_DivMod.j0]
      rw [if_neg (by decide), if_pos (by omega), if_pos (by omega), w64 (by omega) (by omega), if_pos (by omega), if_pos (by omega)]
    · refine Ev.bind (ref_bits (ok_dig (val a)) (by omega)) ?_
      have hb3 := bl_len ha
      have h7 := ref_divmod_loop (ok_dig (val a)) (ok_dig (val b)) (by omega) (by omega) (bl (val a)) (List.replicate (dig (val a)).length 0) (List.replicate ((dig (val b)).length + 1) 0) 0 0 (by rw [val_dig]; exact Nat.le_refl _) (by simp) (by simp) (Ok.replicate _) (Ok.replicate _)
        (by rw [val_dig, Nat.div_eq_of_lt (lt_bl _)]; simp) (by rw [val_dig]; omega) (by rw [val_replicate]; simp) (val_replicate _)
      rw [val_dig, val_dig] at h7
      have w1 : (wrap64 (((dig (val b)).length : Int) + 1)).toNat = (dig (val b)).length + 1 := by rw [w64 (by omega) (by omega)]; omega
      have w2 : wrap64 (((bl (val a) : Nat) : Int) - 1) = ((bl (val a) : Nat) : Int) - 1 := w_pred (by clear w1; omega)
      rw [val_dig, w1, w2, Int.toNat_natCast]
      exact h7
  by_cases c1 : val a < 9223372036854775808
  · by_cases c2 : val b < 9223372036854775808
    · simp only [if_pos c1, if_pos c2, if_true]
      have hdl : val a / val b ≤ val a := Nat.div_le_self _ _
      have hml : val a % val b < val b := Nat.mod_lt _ (by omega)
      have d1 : wrap64 (Int.tdiv (val a : Int) (val b : Int)) = ((val a / val b : Nat) : Int) := by
        rw [Int.tdiv_eq_ediv_of_nonneg (by omega), ← Int.natCast_ediv]
        generalize val a / val b = z at hdl ⊢
        exact w64 (by omega) (by omega)
      have d2 : Int.tmod (val a : Int) (val b : Int) = ((val a % val b : Nat) : Int) := by
        clear d1
        rw [tm (by omega), ← Int.natCast_emod]
      refine Ev.step (fun k => ?_) (f := fun k => (primroseref01_Of.f k ((val a / val b : Nat) : Int)).bind fun t353 => ((primroseref01_Of.f k ((val a % val b : Nat) : Int)).bind fun t356 => (some (t353, t356, true)))) ?_
      · simp only [primroseref01_DivMod.j0, d1, d2]
        clear d1 d2
        rw [if_pos trivial, if_neg (by omega)]
      · clear d1 d2
        generalize val a / val b = z at hdl ⊢
        generalize val a % val b = y at hml ⊢
        have o1 := ref_of (n := (z : Int)) (by omega) (by omega)
        have o2 := ref_of (n := (y : Int)) (by omega) (by omega)
        rw [Int.toNat_natCast] at o1 o2
        exact Ev.bind o1 (Ev.bind o2 (Ev.now _))
    · refine Ev.congr (fun k => ?_) long
      simp only [if_pos c1, if_neg c2, if_true]
  · refine Ev.congr (fun k => ?_) long
    simp only [if_neg c1, Bool.false_eq_true, if_false]
end Go.Proofs.Ytmgjjdodjamomaa.PureB
end
section
namespace Go.Proofs.Ytmgjjdodjamomaa.PureB
open Go.RowKit Go.Proofs.Ytmgjjdodjamomaa.PB Go.Proofs.YtmgjjdodjamomaaW.PrintWords Go.Proofs.YtmgjjdodjamomaaW.PrintLast Go.Proofs.YtmgjjdodjamomaaW.PrintMore
open Go.Proofs.Ytmgjjdodjamomaa.Limb Go.Proofs.Ytmgjjdodjamomaa.Kn
theorem getD_mid {r : List Int} {n k m : Nat} (h : k < m) : ((r.drop n).take m).getD k 0 = r.getD (n + k) 0 := by
  rw [List.getD_eq_getElem?_getD, List.getD_eq_getElem?_getD, List.getElem?_take_of_lt h, List.getElem?_drop]
/-- the two highest limbs of the divisor -/
theorem top_two {d : List Int} (h : 2 ≤ d.length) : val d = ((d.getD (d.length - 1) 0).toNat * 4294967296 + (d.getD (d.length - 2) 0).toNat) * pw (d.length - 2) + val (d.take (d.length - 2)) := by
  obtain ⟨j, hj⟩ : ∃ j, d.length = j + 2 := ⟨d.length - 2, by omega⟩
  have e1 := val_take_succ d j
  have e2 := val_take_succ d (j + 1)
  rw [val_take_all d (by omega), pw_succ] at e2
  rw [e2, e1, hj, show j + 2 - 1 = j + 1 by omega, show j + 2 - 2 = j by omega]
  grind
/-- the three highest limbs of the window -/
theorem top_three {x : List Int} {m : Nat} (hl : x.length = m + 1) (h : 2 ≤ m) : val x = (((x.getD m 0).toNat * 4294967296 + (x.getD (m - 1) 0).toNat) * 4294967296 + (x.getD (m - 2) 0).toNat) * pw (m - 2) + val (x.take (m - 2)) := by
  obtain ⟨j, rfl⟩ : ∃ j, m = j + 2 := ⟨m - 2, by omega⟩
  have e1 := val_take_succ x j
  have e2 := val_take_succ x (j + 1)
  have e3 := val_take_succ x (j + 2)
  rw [val_take_all x (by omega), pw_succ, pw_succ] at e3
  rw [pw_succ] at e2
  rw [e3, e2, e1, show j + 2 - 1 = j + 1 by omega, show j + 2 - 2 = j by omega]
  grind
theorem val_getD_drop {x : List Int} {n : Nat} (h : val x = 0) (hx : Ok x) : x.getD n 0 = 0 := by
  rw [val_zero hx h]
  by_cases c : n < x.length
  · rw [List.getD_eq_getElem?_getD, List.getElem?_replicate_of_lt c]; rfl
  · rw [getD_out (by simpa using c)]
/-- the window of a round -/
theorem window {r d : List Int} (hor : Ok r) (hd : Ok d) {n : Nat} (hd2 : 2 ≤ d.length) (hwin : n + d.length + 1 ≤ r.length) (hlt : val (r.drop (n + 1)) < val d) :
    ∃ (x : List Int) (x0 x1 x2 : Nat), x.length = d.length + 1 ∧ Ok x ∧ r = r.take n ++ x ++ r.drop (n + d.length + 1) ∧ val (r.drop (n + d.length + 1)) = 0 ∧ val x < 4294967296 * val d ∧
      r.getD (n + d.length) 0 = (x0 : Int) ∧ r.getD (n + d.length - 1) 0 = (x1 : Int) ∧ r.getD (n + d.length - 2) 0 = (x2 : Int) ∧ x0 < 4294967296 ∧ x1 < 4294967296 ∧ x2 < 4294967296 ∧
      val x = ((x0 * 4294967296 + x1) * 4294967296 + x2) * pw (d.length - 2) + val (x.take (d.length - 2)) := by
  obtain ⟨x, hxe⟩ : ∃ x, (r.drop n).take (d.length + 1) = x := ⟨_, rfl⟩
  have hxl : x.length = d.length + 1 := by rw [← hxe, List.length_take, List.length_drop]; omega
  have hox : Ok x := by rw [← hxe]; exact (hor.drop n).take _
  have hre : r = r.take n ++ x ++ r.drop (n + d.length + 1) := by
    rw [← hxe, show n + d.length + 1 = n + (d.length + 1) by omega, ← List.drop_drop, List.append_assoc, List.take_append_drop, List.take_append_drop]
  have hg : ∀ k, k < d.length + 1 → x.getD k 0 = r.getD (n + k) 0 := fun k hk => by rw [← hxe]; exact getD_mid hk
  have hDp := val_lt hd
  have hup : val (r.drop (n + d.length + 1)) = 0 := by
    have h1 := val_div_pw (hor.drop (n + 1)) d.length
    rw [List.drop_drop, show n + 1 + d.length = n + d.length + 1 by omega] at h1
    rw [← h1]
    exact Nat.div_eq_of_lt (by omega)
  have hrn : val (r.drop n) = val x := by
    have h1 := val_cut (r.drop n) (d.length + 1)
    rw [List.drop_drop, show n + (d.length + 1) = n + d.length + 1 by omega, hup, Nat.mul_zero, Nat.add_zero, hxe] at h1
    exact h1
  have hWD : val x < 4294967296 * val d := by
    rw [← hrn, val_drop_succ]
    have := hor.getD n
    omega
  have hW := top_three hxl hd2
  have r0 := hg d.length (by omega)
  have r1 := hg (d.length - 1) (by omega)
  have r2 := hg (d.length - 2) (by omega)
  rw [show n + (d.length - 1) = n + d.length - 1 by omega] at r1
  rw [show n + (d.length - 2) = n + d.length - 2 by omega] at r2
  have g0 := hox.getD d.length
  have g1 := hox.getD (d.length - 1)
  have g2 := hox.getD (d.length - 2)
  refine ⟨x, (x.getD d.length 0).toNat, (x.getD (d.length - 1) 0).toNat, (x.getD (d.length - 2) 0).toNat, hxl, hox, hre, hup, hWD, ?_, ?_, ?_, ?_, ?_, ?_, hW⟩
  · rw [← r0]; omega
  · rw [← r1]; omega
  · rw [← r2]; omega
  all_goals omega
/-- the state behind a round -/
theorem round {r q x out : List Int} {n c A D : Nat} (hn : n < q.length) (hc : n + c ≤ r.length) (hr : r = r.take n ++ x ++ r.drop (n + c)) (hxl : x.length = c) (hol : out.length = c) (hup : val (r.drop (n + c)) = 0) (hz : val (q.take (n + 1)) = 0) (hv : val (q.drop (n + 1)) * pw (n + 1) * D + val r = A) (hD : 0 < D) (ho : val out = val x % D) :
    val ((q.set n ((val x / D : Nat) : Int)).take n) = 0 ∧ val ((q.set n ((val x / D : Nat) : Int)).drop n) * pw n * D + val (r.take n ++ out ++ r.drop (n + c)) = A ∧ val ((r.take n ++ out ++ r.drop (n + c)).drop n) < D := by
  have hpl : (r.take n).length = n := by rw [List.length_take]; omega
  have hw := val_window (r := r) (x := out) (k := n) (m := c) hc hol
  have hw0 := val_window (r := r) (x := x) (k := n) (m := c) hc hxl
  rw [← hr] at hw0
  rw [hup, Nat.mul_zero, Nat.add_zero] at hw hw0
  have hqd : val ((q.set n ((val x / D : Nat) : Int)).drop n) = val x / D + 4294967296 * val (q.drop (n + 1)) := by
    rw [val_drop_succ, drop_set_succ, List.getD_eq_getElem?_getD, List.getElem?_set_self hn]; rfl
  have hdm := Nat.div_add_mod (val x) D
  have hmd := Nat.mod_lt (val x) hD
  refine ⟨?_, ?_, ?_⟩
  · rw [List.take_set_of_le (Nat.le_refl n)]
    have := val_take_succ q n
    omega
  · rw [hqd, hw, ho, ← hv, hw0, pw_succ]
    generalize val x / D = y at *
    generalize val x % D = z at *
    generalize val (q.drop (n + 1)) = Q at *
    generalize val (r.take n) = T at *
    generalize pw n = p at *
    rw [← hdm]
    grind
  · rw [List.append_assoc, List.drop_left' hpl, val_append, hup, Nat.mul_zero, Nat.add_zero, ho]
    exact hmd
/-- one round's start: from the two highest limbs of the window to the guess -/
theorem long_start {d q r : List Int} {s qlen : Int} {i : Int} {n top next x0 x1 : Nat} {R : List Int × List Int} (hld : d.length < 8796093022208) (hd2 : 2 ≤ d.length) (hlr : r.length < 17592186044416) (hn : n + d.length < r.length) (hql : q.length < 8796093022208) (hi : (q.length : Int) - 1 - i = (n : Int)) (hiq : i < qlen)
    (ht : 0 < top) (r0 : r.getD (n + d.length) 0 = (x0 : Int)) (r1 : r.getD (n + d.length - 1) 0 = (x1 : Int)) (h0 : x0 < 4294967296) (h1 : x1 < 4294967296)
    (h : Ev (fun k => nat_long.l1 k d q r s (d.length : Int) (top : Int) (next : Int) (n : Int) (((x0 * 4294967296 + x1) / top : Nat) : Int) (((x0 * 4294967296 + x1) % top : Nat) : Int) qlen i) R) :
    Ev (fun k => nat_long.l0 k d q r s (d.length : Int) (top : Int) (next : Int) qlen i) R := by
  refine Ev.step (fun k => ?_) h
  have ek : wrap64 (wrap64 ((q.length : Int) - 1) - i) = (n : Int) := by
    rw [w64 (x := (q.length : Int) - 1) (by omega) (by omega), w64 (by omega) (by omega)]; omega
  have em : wrap64 ((n : Int) + (d.length : Int)) = ((n + d.length : Nat) : Int) := wrap_add (by clear ek; omega) (by clear ek; omega)
  have em1 : wrap64 (((n + d.length : Nat) : Int) - 1) = ((n + d.length - 1 : Nat) : Int) := wrap_sub (m := 1) (by clear ek em; omega) (by clear ek em; omega)
  have ej := join2 (a := (x0 : Int)) (x := (x1 : Int)) (by clear ek em em1; omega) (by clear ek em em1; omega)
  have e0 : IntKind.u64.wrap (x0 : Int) = (x0 : Int) := u64w (by clear ek em em1 ej; omega) (by clear ek em em1 ej; omega)
  have et : (x0 : Int) * 4294967296 + (x1 : Int) = ((x0 * 4294967296 + x1 : Nat) : Int) := by clear ek em em1 ej e0; omega
  have hb : x0 * 4294967296 + x1 < 18446744073709551616 := by clear ek em em1 ej e0 et; omega
  have hle := Nat.div_le_self (x0 * 4294967296 + x1) top
  have ed : IntKind.u64.wrap (Int.tdiv ((x0 * 4294967296 + x1 : Nat) : Int) (top : Int)) = (((x0 * 4294967296 + x1) / top : Nat) : Int) := by
    rw [Int.tdiv_eq_ediv_of_nonneg (Int.natCast_nonneg _), ← Int.natCast_ediv]
    generalize (x0 * 4294967296 + x1) / top = y at hle
    exact u64w (Int.natCast_nonneg _) (by clear ek em em1 ej e0 et; omega)
  have er : Int.tmod ((x0 * 4294967296 + x1 : Nat) : Int) (top : Int) = (((x0 * 4294967296 + x1) % top : Nat) : Int) := by
    rw [Int.tmod_eq_emod_of_nonneg (Int.natCast_nonneg _), ← Int.natCast_emod]
  simp only [nat_long.l0, ek, em, em1, rd_nat, r0, r1, e0, ej, et, ed, er]
  clear ek em em1 ej e0 et ed er hb hle
  rw [if_pos (by omega), if_pos (by omega), if_pos (by omega), if_pos (by omega), if_pos (by omega), if_neg (by omega)]
theorem nat_long_loop {d : List Int} (hd : Ok d) (hld : d.length < 8796093022208) (hd2 : 2 ≤ d.length) {top next : Nat} (htp : 0 < top) (htop : d.getD (d.length - 1) 0 = (top : Int)) (hnext : d.getD (d.length - 2) 0 = (next : Int)) {s : Nat} (hs : s < 32) (A : Nat) (qlen : Nat) (hql : qlen < 8796093022208) :
    ∀ (n : Nat) (q r : List Int), n ≤ qlen → q.length = qlen → r.length = qlen + d.length → Ok q → Ok r → val (q.take n) = 0 → val (q.drop n) * pw n * val d + val r = A → val (r.drop n) < val d →
      Ev (fun k => nat_long.l0 k d q r (s : Int) (d.length : Int) (top : Int) (next : Int) (qlen : Int) ((qlen - n : Nat) : Int)) (dig (A / val d), dig (A % val d / 2 ^ s)) := by
  intro n
  induction n with
  | zero =>
    intro q r _ hq hr hoq hor _ hv hlt
    simp only [List.drop_zero] at hv hlt
    rw [pw_zero, Nat.mul_one] at hv
    have hD0 : 0 < val d := by omega
    have e1 : A / val d = val q := by rw [← hv, Nat.mul_comm, Nat.mul_add_div hD0, Nat.div_eq_of_lt hlt, Nat.add_zero]
    have e2 : A % val d = val r := by rw [← hv, Nat.mul_comm, Nat.mul_add_mod, Nat.mod_eq_of_lt hlt]
    rw [e1, e2]
    have t1 := nat_trim_ok hoq (by omega)
    have t2 := nat_trim_ok hor (by omega)
    have lr := dig_len_le' hor
    have t3 := nat_down_ok (ok_dig (val r)) (by omega) hs
    rw [val_dig] at t3
    refine Ev.step (fun k => ?_) (f := fun k => (nat_trim.f k q).bind fun t543 => ((nat_trim.f k r).bind fun t546 => ((nat_down.f k t546 (s : Int)).bind fun t549 => (some (t543, t549))))) (Ev.bind t1 (Ev.bind t2 (Ev.bind t3 (Ev.now _))))
    simp only [nat_long.l0]
    rw [if_neg (by omega)]
  | succ n ih =>
    intro q r hn hq hr hoq hor hz hv hlt
    have ht1 := hd.getD (d.length - 1)
    have ht2 := hd.getD (d.length - 2)
    have hDt := top_two hd2
    have hdl : val (d.take (d.length - 2)) < pw (d.length - 2) := val_take_lt hd _
    rw [htop, hnext, Int.toNat_natCast, Int.toNat_natCast] at hDt
    rw [htop] at ht1
    rw [hnext] at ht2
    obtain ⟨x, x0, x1, x2, hxl, hox, hre, hup, hWD, r0, r1, r2, b0, b1, b2, hW⟩ := window (n := n) hor hd hd2 (by omega) hlt
    have hwl : val (x.take (d.length - 2)) < pw (d.length - 2) := val_take_lt hox _
    have hpl : (r.take n).length = n := by rw [List.length_take]; omega
    have hD0 : 0 < val d := Nat.lt_of_le_of_lt (Nat.zero_le _) hlt
    have hqn : q.getD n 0 = 0 := by
      have h1 : (q.take (n + 1)).getD n 0 = 0 := val_getD_drop hz (hoq.take _)
      rwa [List.getD_eq_getElem?_getD, List.getElem?_take_of_lt (by omega), ← List.getD_eq_getElem?_getD] at h1
    have hqb : val x / val d < 4294967296 := Nat.div_lt_of_lt_mul (by rwa [Nat.mul_comm] at hWD)
    have e : wrap64 (((qlen - (n + 1) : Nat) : Int) + 1) = ((qlen - n : Nat) : Int) := by
      rw [w_succ (by omega)]; omega
    have next_ : ∀ g : Nat, val x / val d ≤ g → g ≤ val x / val d + 1 → g < 4294967296 → Ev (fun k => nat_long.j3 k d q r (s : Int) (d.length : Int) (top : Int) (next : Int) (n : Int) (g : Int) (qlen : Int) ((qlen - (n + 1) : Nat) : Int)) (dig (A / val d), dig (A % val d / 2 ^ s)) := by
      intro g hg0 hg1 hgB
      have := long_digit (pre := r.take n) (post := r.drop (n + d.length + 1)) (d := d) (q := q) (s := (s : Int)) (top := (top : Int)) (next := (next : Int)) (qlen := (qlen : Int)) (i := ((qlen - (n + 1) : Nat) : Int)) (R := (dig (A / val d), dig (A % val d / 2 ^ s))) hox hd hxl (by clear e; omega) (by clear e; omega) hD0 (by clear e; omega) (by rw [hpl]; exact hqn) hg0 hg1 hgB (fun out ol oo ov => by
        rw [hpl, e]
        clear e
        obtain ⟨w1, w2, w3⟩ := round (r := r) (q := q) (x := x) (out := out) (n := n) (c := d.length + 1) (A := A) (D := val d) (by omega) (by omega) hre hxl (by omega) hup hz hv hD0 ov
        exact ih _ _ (by omega) (by rw [List.length_set]; exact hq) (by rw [← hr, List.length_append, List.length_append, ol, hpl, List.length_drop, hxl]; omega) (hoq.set n (Int.natCast_nonneg _) (Int.ofNat_lt.mpr hqb)) (((hor.take n).append oo).append (hor.drop _)) w1 w2 w3)
      rwa [← hre, hpl] at this
    have hgu := long_guess (d := d) (q := q) (r := r) (s := (s : Int)) (qlen := (qlen : Int)) (i := ((qlen - (n + 1) : Nat) : Int)) (n := n) (R := (dig (A / val d), dig (A % val d / 2 ^ s))) hor (by clear e; omega) hd2 (by clear e; omega) (by clear e; omega)
      (by clear e; omega) htp (by clear e; omega) r2 hDt hdl hW hwl hWD next_
    have hinit := kn_init hDt hW hwl b2 htp
    have hdm2 := Nat.div_add_mod (x0 * 4294967296 + x1) top
    have hmd2 := Nat.mod_lt (x0 * 4294967296 + x1) htp
    have hdl2 := Nat.div_le_self (x0 * 4294967296 + x1) top
    have h9 := hgu ((x0 * 4294967296 + x1) / top) ((x0 * 4294967296 + x1) % top) (by rw [Nat.mul_comm]; exact hdm2) (Nat.lt_trans hmd2 (by clear e; omega)) (Nat.lt_of_le_of_lt hdl2 (by clear e; omega)) hinit
    exact long_start hld hd2 (by clear e; omega) (by clear e; omega) (by clear e; omega) (by clear e; omega) (by clear e; omega) htp r0 r1 b0 b1 h9
/-- a number whose highest limb's noughts are shifted out fills its limbs -/
theorem shift_fits {b : List Int} (hb : Ok b) (hn : b.length ≠ 0) (ht : b.getD (b.length - 1) 0 ≠ 0) : val b * 2 ^ (32 - bl (b.getD (b.length - 1) 0).toNat) < pw b.length ∧ 32 - bl (b.getD (b.length - 1) 0).toNat < 32 := by
  have h1 := bl_val hb hn ht
  have h2 := bl_limb (hb.getD (b.length - 1))
  have h3 : bl (b.getD (b.length - 1) 0).toNat ≠ 0 := by
    rw [Ne, bl_eq_zero]
    have := hb.getD (b.length - 1)
    omega
  refine ⟨?_, by omega⟩
  have h4 := lt_bl (val b)
  rw [pw_two]
  have h5 := Nat.mul_lt_mul_of_pos_right h4 (show 0 < 2 ^ (32 - bl (b.getD (b.length - 1) 0).toNat) from Nat.pow_pos (by omega))
  rw [← Nat.pow_add, h1] at h5
  rwa [show 32 * (b.length - 1) + bl (b.getD (b.length - 1) 0).toNat + (32 - bl (b.getD (b.length - 1) 0).toNat) = 32 * b.length by omega] at h5
end Go.Proofs.Ytmgjjdodjamomaa.PureB
end
section
namespace Go.Proofs.Ytmgjjdodjamomaa.PureB
open Go.RowKit Go.Proofs.Ytmgjjdodjamomaa.PB Go.Proofs.YtmgjjdodjamomaaW.PrintWords Go.Proofs.YtmgjjdodjamomaaW.PrintLast Go.Proofs.YtmgjjdodjamomaaW.PrintMore
open Go.Proofs.Ytmgjjdodjamomaa.Limb Go.Proofs.Ytmgjjdodjamomaa.Kn
/-- the shift that fills the highest limb -/
theorem lead_shift {b : List Int} (hb : Ok b) (hn : b.length ≠ 0) (ht : b.getD (b.length - 1) 0 ≠ 0) : ∃ s : Nat, s < 32 ∧ val b * 2 ^ s < pw b.length ∧ bits_LeadingZeros32.f (b.getD (b.length - 1) 0) = some (s : Int) := by
  obtain ⟨hfit, hs⟩ := shift_fits hb hn ht
  exact ⟨_, hs, hfit, lead_ok (hb.getD (b.length - 1))⟩
/-- the divisor, moved up -/
theorem moved {b : List Int} {s : Nat} (h2 : 2 ≤ b.length) (ht : b.getD (b.length - 1) 0 ≠ 0) (hb : Ok b) (hfit : val b * 2 ^ s < pw b.length) (hs : 0 < 2 ^ s) :
    ∃ (d : List Int) (top next : Nat), dig (val b * 2 ^ s) = d ∧ Ok d ∧ val d = val b * 2 ^ s ∧ d.length = b.length ∧ 0 < top ∧ d.getD (d.length - 1) 0 = (top : Int) ∧ d.getD (d.length - 2) 0 = (next : Int) ∧ top < 4294967296 ∧ next < 4294967296 ∧ pw (b.length - 1) ≤ val b := by
  have hbge : pw (b.length - 1) ≤ val b := by
    have h1 := val_take_succ b (b.length - 1)
    rw [show b.length - 1 + 1 = b.length by omega, val_take_all b (Nat.le_refl _)] at h1
    have h3 := hb.getD (b.length - 1)
    have h2 := Nat.mul_le_mul_left (pw (b.length - 1)) (show 1 ≤ (b.getD (b.length - 1) 0).toNat by omega)
    omega
  have hge : val b ≤ val b * 2 ^ s := Nat.le_mul_of_pos_right _ hs
  have hl1 : (dig (val b * 2 ^ s)).length ≤ b.length := dig_len_le hfit
  have hl2 := dig_len_ge (Nat.le_trans hbge hge)
  have hdl : (dig (val b * 2 ^ s)).length = b.length := by omega
  have hne : val b * 2 ^ s ≠ 0 := by have := pw_pos (b.length - 1); omega
  obtain ⟨_, hlastd⟩ := dig_last hne
  have hod := ok_dig (val b * 2 ^ s)
  have hvd := val_dig (val b * 2 ^ s)
  obtain ⟨d, hd⟩ : ∃ d, dig (val b * 2 ^ s) = d := ⟨_, rfl⟩
  rw [hd] at hdl hlastd hod hvd
  have ht1 := hod.getD (d.length - 1)
  have ht2 := hod.getD (d.length - 2)
  refine ⟨d, (d.getD (d.length - 1) 0).toNat, (d.getD (d.length - 2) 0).toNat, hd, hod, hvd, hdl, ?_, ?_, ?_, ?_, ?_, hbge⟩
  all_goals omega
theorem nat_long_ok {a b : List Int} (ha : Ok a) (hb : Ok b) (hla : a.length < 4398046511104) (hlb : b.length ≤ a.length) (hb2 : 2 ≤ b.length) (hbt : b.getD (b.length - 1) 0 ≠ 0) : Ev (fun k => nat_long.f k a b) (dig (val a / val b), dig (val a % val b)) := by
  obtain ⟨s, hs, hfit, hlead⟩ := lead_shift hb (by omega) hbt
  obtain ⟨r, r1, r2, r3, r4⟩ := nat_up_ok ha (by omega) hs
  obtain ⟨u, u1, u2, u3, u4⟩ := nat_up_ok hb (by omega) hs
  have t1 := nat_trim_ok u2 (by omega)
  rw [u3] at t1
  have hp := pow_le_32 hs
  obtain ⟨d, top, next, hd, hod, hvd, hdl, htp, htop, hnext, ht1, ht2, hbge⟩ := moved hb2 hbt hb hfit hp.1
  rw [hd] at t1
  -- the rows at the start
  have hbpos : 0 < val b := by have := pw_pos (b.length - 1); omega
  have hstart : val (r.drop (a.length + 1 - d.length)) < val d := by
    rw [← val_div_pw r2, r3, hvd]
    have h1 := Nat.mul_lt_mul_of_pos_right (val_lt ha) hp.1
    have h2 : pw a.length = pw (a.length + 1 - d.length) * pw (b.length - 1) := by rw [← pw_add, hdl]; congr 1; omega
    rw [h2, Nat.mul_assoc] at h1
    have h3 := Nat.div_lt_of_lt_mul h1
    have h4 := Nat.mul_le_mul_right (2 ^ s) hbge
    omega
  have hL := nat_long_loop hod (by omega) (by omega) htp htop hnext hs (val a * 2 ^ s) (a.length + 1 - d.length) (by omega) (a.length + 1 - d.length) (List.replicate (a.length + 1 - d.length) 0) r (Nat.le_refl _) (by simp) (by omega) (Ok.replicate _) r2
    (by rw [val_take_all _ (by simp), val_replicate]) (by rw [val_drop_all _ (by simp), Nat.zero_mul, Nat.zero_mul, Nat.zero_add, r3]) hstart
  have eq1 : val a * 2 ^ s / val d = val a / val b := by rw [hvd, Nat.mul_div_mul_right _ _ hp.1]
  have eq2 : val a * 2 ^ s % val d / 2 ^ s = val a % val b := by rw [hvd, Nat.mul_mod_mul_right, Nat.mul_div_cancel _ hp.1]
  rw [eq1, eq2, Nat.sub_self] at hL
  unfold nat_long.f
  have el : wrap64 ((b.length : Int) - 1) = ((b.length - 1 : Nat) : Int) := wrap_sub (m := 1) (by omega) (by omega)
  refine Ev.congr (f := fun k => (nat_up.f k a (s : Int)).bind fun t529 => ((nat_up.f k b (s : Int)).bind fun t532 => ((nat_trim.f k t532).bind fun t535 => (if 0 ≤ (wrap64 ((t529.length : Int) - (t535.length : Int))) then (if (wrap64 ((t529.length : Int) - (t535.length : Int)) : Int).toNat ≤ 70368744177664 then ((some (List.replicate (wrap64 ((t529.length : Int) - (t535.length : Int)) : Int).toNat 0 : List Int)).bind fun y538 => (if 0 ≤ (wrap64 ((t535.length : Int) - 1)) then (if (wrap64 ((t535.length : Int) - 1)) < (t535.length : Int) then (if 0 ≤ (wrap64 ((t535.length : Int) - 2)) then (if (wrap64 ((t535.length : Int) - 2)) < (t535.length : Int) then (nat_long.l0 k t535 y538 t529 (s : Int) (t535.length : Int) (IntKind.u64.wrap (rd t535 (wrap64 ((t535.length : Int) - 1)))) (IntKind.u64.wrap (rd t535 (wrap64 ((t535.length : Int) - 2)))) (y538.length : Int) 0) else (none)) else (none)) else (none)) else (none))) else (none)) else (none))))) (fun k => ?_) ?_
  · have h1 : (0 : Int) ≤ wrap64 ((b.length : Int) - 1) := by rw [el]; exact Int.natCast_nonneg _
    have h2 : wrap64 ((b.length : Int) - 1) < (b.length : Int) := by rw [el]; clear el; omega
    have h3 : bits_LeadingZeros32.f (rd b (wrap64 ((b.length : Int) - 1))) = some (s : Int) := by rw [el, rd_nat]; exact hlead
    rw [if_pos h1, if_pos h2, h3, Option.bind_some]
  · refine Ev.bind r4 (Ev.bind u4 (Ev.bind t1 ?_))
    have e1 : wrap64 ((r.length : Int) - (d.length : Int)) = ((a.length + 1 - d.length : Nat) : Int) := by
      rw [r1]; exact wrap_sub (by omega) (by omega)
    have e2 : wrap64 ((d.length : Int) - 1) = ((d.length - 1 : Nat) : Int) := wrap_sub (m := 1) (by omega) (by omega)
    have e3 : wrap64 ((d.length : Int) - 2) = ((d.length - 2 : Nat) : Int) := wrap_sub (m := 2) (by omega) (by omega)
    have e4 : IntKind.u64.wrap (top : Int) = (top : Int) := u64w (by clear e1 e2 e3 el; omega) (by clear e1 e2 e3 el; omega)
    have e5 : IntKind.u64.wrap (next : Int) = (next : Int) := u64w (by clear e1 e2 e3 e4 el; omega) (by clear e1 e2 e3 e4 el; omega)
    refine Ev.congr (fun k => ?_) hL
    simp only [e1, e2, e3, rd_nat, htop, hnext, e4, e5, Option.bind_some, Int.toNat_natCast, List.length_replicate]
    clear e1 e2 e3 e4 e5 el
    rw [if_pos (by omega), if_pos (by omega), if_pos (by omega), if_pos (by omega), if_pos (by omega), if_pos (by omega)]
    rfl
end Go.Proofs.Ytmgjjdodjamomaa.PureB
end
section
namespace Go.Proofs.Ytmgjjdodjamomaa.PureB
open Go.RowKit Go.Proofs.Ytmgjjdodjamomaa.PB Go.Proofs.YtmgjjdodjamomaaW.PrintWords Go.Proofs.YtmgjjdodjamomaaW.PrintLast Go.Proofs.YtmgjjdodjamomaaW.PrintMore
open Go.Proofs.Ytmgjjdodjamomaa.Limb
theorem gcd_step (A B : Nat) : Nat.gcd A B = Nat.gcd B (A % B) := by
  rw [Nat.gcd_comm A B, Nat.gcd_rec B A, Nat.gcd_comm]
theorem ref_gcd_ints : ∀ (B A : Nat), A < 9223372036854775808 → B < 9223372036854775808 → Ev (fun k => primroseref01_Gcd.l1 k (A : Int) (B : Int)) (dig (Nat.gcd A B)) := by
  intro B
  induction B using Nat.strongRecOn with
  | ind B ih =>
    intro A hA hB
    by_cases h0 : B = 0
    · subst h0
      rw [Nat.gcd_zero_right]
      have h1 := ref_of (n := (A : Int)) (by omega) (by omega)
      rw [Int.toNat_natCast] at h1
      refine Ev.step (fun k => ?_) (Ev.bind h1 (Ev.now _))
      simp only [primroseref01_Gcd.l1]
      rw [if_neg (by omega)]
    · have hm : A % B < B := Nat.mod_lt _ (by omega)
      have h1 := ih (A % B) hm B hB (by omega)
      rw [← gcd_step] at h1
      refine Ev.step (fun k => ?_) h1
      simp only [primroseref01_Gcd.l1]
      have e : Int.tmod (A : Int) (B : Int) = ((A % B : Nat) : Int) := by rw [tm (by omega), ← Int.natCast_emod]
      rw [e]
      clear e
      rw [if_pos (by omega), if_neg (by omega)]
theorem dig_len_mono {m n : Nat} (h : m ≤ n) : (dig m).length ≤ (dig n).length := by
  refine dig_len_le (Nat.lt_of_le_of_lt h ?_)
  have := val_lt (ok_dig n)
  rwa [val_dig] at this
theorem ref_gcd_loop : ∀ (B A : Nat), (dig A).length < 17592186044415 → (dig B).length < 17592186044415 → Ev (fun k => primroseref01_Gcd.l0 k (dig A) (dig B)) (dig (Nat.gcd A B)) := by
  intro B
  induction B using Nat.strongRecOn with
  | ind B ih =>
    intro A hA hB
    by_cases h0 : B = 0
    · subst h0
      rw [Nat.gcd_zero_right, dig_zero]
      refine Ev.step (f := fun _ => some (dig A)) (fun k => ?_) (Ev.now _)
      simp only [primroseref01_Gcd.l0, List.length_nil]
      rw [if_neg (by omega)]
    · have hlen : (dig B).length ≠ 0 := fun hc => h0 (dig_len_pos.mp hc)
      have s1 := ref_small (ok_dig A) (by omega)
      have s2 := ref_small (ok_dig B) (by omega)
      rw [val_dig] at s1 s2
      have hm : A % B < B := Nat.mod_lt _ (by omega)
      have hml := dig_len_mono (Nat.le_of_lt hm)
      have big : ∀ x y : Int, Ev (fun k => primroseref01_Gcd.j1 k (dig A) (dig B) x y false) (dig (Nat.gcd A B)) := by
        intro x y
        have d1 := ref_divmod (ok_dig A) (ok_dig B) (by omega) hB (by rw [val_dig]; exact h0)
        rw [val_dig, val_dig] at d1
        have d2 := ih (A % B) hm B hB (by omega)
        rw [← gcd_step] at d2
        refine Ev.step (fun k => ?_) (Ev.bind d1 (f := fun k (t : List Int × List Int × Bool) => primroseref01_Gcd.l0 k (dig B) t.2.1) d2)
        simp only [primroseref01_Gcd.j1]
        rw [if_neg (by decide)]
      have main : Ev (fun k => (primroseref01_Small.f k (dig A)).bind fun bt680 => ((primroseref01_Small.f k (dig B)).bind fun bt682 => (if bt680.2 = true then (primroseref01_Gcd.j1 k (dig A) (dig B) bt680.1 bt682.1 bt682.2) else (primroseref01_Gcd.j1 k (dig A) (dig B) bt680.1 bt682.1 false)))) (dig (Nat.gcd A B)) := by
        refine Ev.bind s1 (Ev.bind s2 ?_)
        by_cases c1 : A < 9223372036854775808
        · by_cases c2 : B < 9223372036854775808
          · simp only [if_pos c1, if_pos c2, if_true]
            refine Ev.step (fun k => ?_) (ref_gcd_ints B A c1 c2)
            simp only [primroseref01_Gcd.j1]
            rw [if_pos trivial]
          · simp only [if_pos c1, if_neg c2, if_true]
            exact big _ _
        · simp only [if_neg c1, Bool.false_eq_true, if_false]
          exact big _ _
      refine Ev.step (fun k => ?_) main
      simp only [primroseref01_Gcd.l0]
      rw [if_pos (by omega)]
theorem ref_gcd {a b : List Int} (ha : Ok a) (hb : Ok b) (hla : a.length < 17592186044415) (hlb : b.length < 17592186044415) : Ev (fun k => primroseref01_Gcd.f k a b) (dig (Nat.gcd (val a) (val b))) := by
  unfold primroseref01_Gcd.f
  have l1 := dig_len_le' ha
  have l2 := dig_len_le' hb
  exact Ev.bind (ref_plain ha (by omega)) (Ev.bind (ref_plain hb (by omega)) (ref_gcd_loop _ _ (by omega) (by omega)))
/-- a fraction in lowest terms: its sign, its top, its bottom -/
def low (z : Int) (D : Nat) : Bool × List Int × List Int := if z = 0 then (false, [], [1]) else (sg z, dig (z.natAbs / Nat.gcd z.natAbs D), dig (D / Nat.gcd z.natAbs D))
/-- a fraction, plain -/
def rat (z : Int) (D : Nat) : Bool × List Int × List Int := if D = 0 then (false, [], [1]) else low z D
theorem dig_one : dig 1 = [1] := by rw [dig_pos (by omega)]; simp [dig_zero]
theorem ref_sign {l : List Int} (h : Ok l) (hl : l.length < 17592186044416) (b : Bool) : Ev (fun k => primroseref02_Sign.f k b l) (if zval b l = 0 then 0 else if zval b l < 0 then -1 else 1) := by
  unfold primroseref02_Sign.f
  refine Ev.bind (ref_bits h hl) ?_
  have h0 := @bl_eq_zero (val l)
  by_cases c : val l = 0
  · have e : zval b l = 0 := by unfold zval; rw [c]; cases b <;> rfl
    rw [if_pos e]
    refine Ev.congr (fun k => ?_) (Ev.now _)
    rw [if_pos (by omega)]
  · have c2 : ¬ bl (val l) = 0 := fun hc => c (h0.mp hc)
    cases b with
    | true =>
      have e : zval true l = -(val l : Int) := by unfold zval; rw [if_pos rfl]
      have hs : (if zval true l = 0 then (0 : Int) else if zval true l < 0 then -1 else 1) = -1 := by rw [e]; split <;> (try split) <;> omega
      rw [hs]
      refine Ev.congr (fun k => ?_) (Ev.now _)
      rw [if_neg (by omega), if_pos rfl]
    | false =>
      have e : zval false l = (val l : Int) := by unfold zval; rw [if_neg (by decide)]
      have hs : (if zval false l = 0 then (0 : Int) else if zval false l < 0 then -1 else 1) = 1 := by rw [e]; split <;> (try split) <;> omega
      rw [hs]
      refine Ev.congr (fun k => ?_) (Ev.now _)
      rw [if_neg (by omega), if_neg (by decide)]
theorem ref_zero : Ev (fun k => primroseref03_Zero.f k) (false, [], [1]) := by
  unfold primroseref03_Zero.f
  have := ref_of (n := 1) (by decide) (by decide)
  rw [show (1 : Int).toNat = 1 by decide, dig_one] at this
  exact Ev.bind this (Ev.now _)
theorem ref_over {l m : List Int} (h : Ok l) (hm : Ok m) (hl : l.length < 17592186044415) (hlm : m.length < 17592186044415) (hD : val m ≠ 0) (b : Bool) : Ev (fun k => primroseref03_over.f k b l m) (low (zval b l) (val m)) := by
  unfold primroseref03_over.f
  refine Ev.bind (ref_sign h (by omega) b) ?_
  have za := zval_natAbs b l
  by_cases c : zval b l = 0
  · simp only [low, if_pos c]
    exact Ev.bind ref_zero (Ev.now _)
  · simp only [low, if_neg c]
    have cne : ¬ (if zval b l < 0 then (-1 : Int) else 1) = 0 := by split <;> decide
    simp only [if_neg cne]
    refine Ev.bind (ref_bits hm (by omega)) ?_
    have b1 := @bl_one (val m)
    have hmk := ref_make h (by omega) b
    rw [za]
    by_cases c1 : val m = 1
    · have c2 : ((bl (val m) : Nat) : Int) = 1 := by have := b1.mpr c1; omega
      simp only [if_pos c2]
      rw [c1, Nat.gcd_one_right, Nat.div_one, Nat.div_one, dig_one]
      have ho := ref_of (n := 1) (by decide) (by decide)
      rw [show (1 : Int).toNat = 1 by decide, dig_one] at ho
      have hp : Ev (fun k => primroseref02_Plain.f k b l) (sg (zval b l), mg (zval b l)) := by
        unfold primroseref02_Plain.f
        exact Ev.bind hmk (Ev.now _)
      refine Ev.bind hp (Ev.bind ho ?_)
      rw [mg_zval]
      exact Ev.now _
    · have c2 : ¬ ((bl (val m) : Nat) : Int) = 1 := fun hc => c1 (b1.mp (by omega))
      simp only [if_neg c2]
      have hg := ref_gcd h hm hl hlm
      have gpos : 0 < Nat.gcd (val l) (val m) := Nat.gcd_pos_of_pos_right _ (by omega)
      have gle : Nat.gcd (val l) (val m) ≤ val m := Nat.gcd_le_right _ (by omega)
      have gll := dig_len_mono gle
      have lm := dig_len_le' hm
      have ll := dig_len_le' h
      have d1 := ref_divmod h (ok_dig (Nat.gcd (val l) (val m))) (by omega) (by omega) (by rw [val_dig]; omega)
      have d2 := ref_divmod hm (ok_dig (Nat.gcd (val l) (val m))) (by omega) (by omega) (by rw [val_dig]; omega)
      rw [val_dig] at d1 d2
      refine Ev.bind hg (Ev.bind d1 (Ev.bind d2 ?_))
      have hq : val l / Nat.gcd (val l) (val m) ≠ 0 := by
        have : Nat.gcd (val l) (val m) ≤ val l := Nat.gcd_le_left _ (by
          rcases Nat.eq_zero_or_pos (val l) with e | e
          · exfalso; exact c (by rw [← Int.natAbs_eq_zero, za, e])
          · exact e)
        have := Nat.div_pos this gpos
        omega
      have hql := dig_len_mono (Nat.div_le_self (val l) (Nat.gcd (val l) (val m)))
      have hm2 := ref_make (ok_dig (val l / Nat.gcd (val l) (val m))) (by omega) b
      have es : sg (zval b (dig (val l / Nat.gcd (val l) (val m)))) = sg (zval b l) := by
        rw [sg_zval, sg_zval, val_dig]
        have hv : val l ≠ 0 := fun e => c (by rw [← Int.natAbs_eq_zero, za, e])
        simp [hq, hv]
      rw [es, mg_zval, val_dig] at hm2
      exact Ev.bind hm2 (Ev.now _)
theorem ref_rat {l m : List Int} (h : Ok l) (hm : Ok m) (hl : l.length < 17592186044415) (hlm : m.length < 17592186044415) (b : Bool) : Ev (fun k => primroseref03_Plain.f k b l m) (rat (zval b l) (val m)) := by
  unfold primroseref03_Plain.f
  refine Ev.bind (ref_bits hm (by omega)) ?_
  have h0 := @bl_eq_zero (val m)
  by_cases c : val m = 0
  · have c2 : ((bl (val m) : Nat) : Int) = 0 := by have := h0.mpr c; omega
    simp only [if_pos c2, rat, if_pos c]
    exact Ev.bind ref_zero (Ev.now _)
  · have c2 : ¬ ((bl (val m) : Nat) : Int) = 0 := fun hc => c (h0.mp (by omega))
    simp only [if_neg c2, rat, if_neg c]
    exact Ev.bind (ref_over h hm hl hlm c b) (Ev.now _)
end Go.Proofs.Ytmgjjdodjamomaa.PureB
end
section
namespace Go.Proofs.Ytmgjjdodjamomaa.PureB
open Go.RowKit Go.Proofs.Ytmgjjdodjamomaa.PB Go.Proofs.YtmgjjdodjamomaaW.PrintWords Go.Proofs.YtmgjjdodjamomaaW.PrintLast Go.Proofs.YtmgjjdodjamomaaW.PrintMore
open Go.Proofs.Ytmgjjdodjamomaa.Limb
theorem one_limb {l : List Int} (h : Ok l) (hl : l.length = 1) : val l = (l.getD 0 0).toNat := by
  match l, hl with
  | [x], _ => simp [val]
theorem ok_one {x : Nat} (h : x < 4294967296) : Ok [(x : Int)] := Ok.cons (by omega) (by omega) Ok.nil
theorem nat_divmod {a b : List Int} (ha : Ok a) (hb : Ok b) (hla : a.length < 4398046511104) (hlb : b.length < 4398046511104) (hB : val b ≠ 0) :
    Ev (fun k => nat_DivMod.f k a b) (dig (val a / val b), dig (val a % val b), true) := by
  unfold nat_DivMod.f
  have l1 := dig_len_le' ha
  have l2 := dig_len_le' hb
  have hne : (dig (val b)).length ≠ 0 := fun hc => hB (dig_len_pos.mp hc)
  refine Ev.bind (nat_trim_ok ha (by omega)) (Ev.bind (nat_trim_ok hb (by omega)) ?_)
  have c0 : ¬ (((dig (val b)).length : Int) = 0) := by omega
  have hcmp := nat_cmp_ok (ok_dig (val a)) (ok_dig (val b)) (by omega) (by omega)
  rw [val_dig, val_dig] at hcmp
  simp only [if_neg c0]
  refine Ev.bind hcmp ?_
  by_cases c1 : val a < val b
  · have e : cmpN (val a) (val b) = -1 := by unfold cmpN; rw [if_pos c1]
    have e1 : (-1 : Int) < 0 := by decide
    simp only [e, if_pos e1]
    rw [Nat.div_eq_of_lt c1, Nat.mod_eq_of_lt c1, dig_zero]
    simp only [slices_Clone_uint32_uint32.f]
    rw [if_pos (by omega)]
    exact Ev.now _
  · have e1 : ¬ cmpN (val a) (val b) < 0 := by
      unfold cmpN; rw [if_neg c1]; split <;> decide
    simp only [if_neg e1]
    by_cases c2 : (dig (val b)).length = 1
    · have hob := ok_dig (val b)
      have hv := one_limb hob c2
      rw [val_dig] at hv
      have hx := hob.getD 0
      have e2 : ((dig (val b)).length : Int) = 1 := by omega
      have e3 : (0 : Int) < ((dig (val b)).length : Int) := by omega
      have er : rd (dig (val b)) 0 = ((val b : Nat) : Int) := by
        rw [show (0 : Int) = ((0 : Nat) : Int) from rfl, rd_nat]; omega
      simp only [if_pos e2, if_pos e3, er]
      have hs := nat_short_ok (ok_dig (val a)) (by omega) (d := ((val b : Nat) : Int)) (by omega) (by omega)
      rw [val_dig, Int.toNat_natCast] at hs
      refine Ev.bind hs ?_
      have hm : val a % val b < 4294967296 := Nat.lt_trans (Nat.mod_lt _ (by omega)) (by omega)
      have ht := nat_trim_ok (ok_one hm) (by simp)
      have ev : val [((val a % val b : Nat) : Int)] = val a % val b := by
        generalize val a % val b = y
        simp [val]
      rw [ev] at ht
      exact Ev.bind ht (Ev.now _)
    · have e2 : ¬ (((dig (val b)).length : Int) = 1) := by omega
      simp only [if_neg e2]
      have hmono := dig_len_mono (show val b ≤ val a by omega)
      have hlast := (dig_last hB).2
      have hL := nat_long_ok (ok_dig (val a)) (ok_dig (val b)) (by omega) hmono (by omega) hlast
      rw [val_dig, val_dig] at hL
      exact Ev.bind hL (Ev.now _)
theorem nat_gcd_loop : ∀ (B A : Nat), (dig A).length < 4398046511104 → (dig B).length < 4398046511104 → Ev (fun k => nat_Gcd.l0 k (dig A) (dig B)) (dig (Nat.gcd A B)) := by
  intro B
  induction B using Nat.strongRecOn with
  | ind B ih =>
    intro A hA hB
    by_cases h0 : B = 0
    · subst h0
      rw [Nat.gcd_zero_right, dig_zero]
      refine Ev.step (f := fun _ => some (dig A)) (fun k => ?_) (Ev.now _)
      simp only [nat_Gcd.l0, List.length_nil]
      rw [if_neg (by omega)]
    · have hlen : (dig B).length ≠ 0 := fun hc => h0 (dig_len_pos.mp hc)
      have hm : A % B < B := Nat.mod_lt _ (by omega)
      have hml := dig_len_mono (Nat.le_of_lt hm)
      have d1 := nat_divmod (ok_dig A) (ok_dig B) (by omega) hB (by rw [val_dig]; exact h0)
      rw [val_dig, val_dig] at d1
      have d2 := ih (A % B) hm B hB (by omega)
      rw [← gcd_step] at d2
      refine Ev.step (fun k => ?_) (Ev.bind d1 (f := fun k (t : List Int × List Int × Bool) => nat_Gcd.l0 k (dig B) t.2.1) d2)
      simp only [nat_Gcd.l0]
      rw [if_pos (by omega)]
theorem nat_gcd {a b : List Int} (ha : Ok a) (hb : Ok b) (hla : a.length < 4398046511104) (hlb : b.length < 4398046511104) : Ev (fun k => nat_Gcd.f k a b) (dig (Nat.gcd (val a) (val b))) := by
  unfold nat_Gcd.f
  have l1 := dig_len_le' ha
  have l2 := dig_len_le' hb
  exact Ev.bind (nat_plain_ok ha (by omega)) (Ev.bind (nat_plain_ok hb (by omega)) (nat_gcd_loop _ _ (by omega) (by omega)))
theorem whole_sign {l : List Int} (h : Ok l) (hl : l.length < 17592186044416) (b : Bool) : Ev (fun k => whole_Sign.f k b l) (if zval b l = 0 then 0 else if zval b l < 0 then -1 else 1) := by
  unfold whole_Sign.f
  refine Ev.bind (nat_bits_ok h hl) ?_
  have h0 := @bl_eq_zero (val l)
  by_cases c : val l = 0
  · have e : zval b l = 0 := by unfold zval; rw [c]; cases b <;> rfl
    rw [if_pos e]
    refine Ev.congr (fun k => ?_) (Ev.now _)
    rw [if_pos (by omega)]
  · have c2 : ¬ bl (val l) = 0 := fun hc => c (h0.mp hc)
    cases b with
    | true =>
      have e : zval true l = -(val l : Int) := by unfold zval; rw [if_pos rfl]
      have hs : (if zval true l = 0 then (0 : Int) else if zval true l < 0 then -1 else 1) = -1 := by rw [e]; split <;> (try split) <;> omega
      rw [hs]
      refine Ev.congr (fun k => ?_) (Ev.now _)
      rw [if_neg (by omega), if_pos rfl]
    | false =>
      have e : zval false l = (val l : Int) := by unfold zval; rw [if_neg (by decide)]
      have hs : (if zval false l = 0 then (0 : Int) else if zval false l < 0 then -1 else 1) = 1 := by rw [e]; split <;> (try split) <;> omega
      rw [hs]
      refine Ev.congr (fun k => ?_) (Ev.now _)
      rw [if_neg (by omega), if_neg (by decide)]
theorem whole_plain {l : List Int} (h : Ok l) (hl : l.length < 17592186044416) (b : Bool) : Ev (fun k => whole_Plain.f k b l) (sg (zval b l), mg (zval b l)) := by
  unfold whole_Plain.f
  refine Ev.bind (nat_plain_ok h (by omega)) ?_
  rw [sg_zval, mg_zval]
  unfold whole_made.f
  cases b with
  | true =>
    simp only [if_true, Bool.true_and]
    have : (decide (0 < (dig (val l)).length)) = decide (val l ≠ 0) := by
      congr 1
      have := @dig_len_pos (val l)
      exact propext ⟨fun h h2 => by have := this.mpr h2; omega, fun h => by rcases Nat.eq_zero_or_pos (dig (val l)).length with e | e; exact absurd (this.mp e) h; exact e⟩
    rw [this]; exact Ev.now _
  | false => simp only [Bool.false_eq_true, if_false, Bool.false_and]; exact Ev.now _
theorem fraction_lowest_ok {l m : List Int} (h : Ok l) (hm : Ok m) (hl : l.length < 4398046511104) (hlm : m.length < 4398046511104) (hD : val m ≠ 0) (b : Bool) : Ev (fun k => fraction_lowest.f k b l m) (low (zval b l) (val m)) := by
  unfold fraction_lowest.f
  refine Ev.bind (whole_sign h (by omega) b) ?_
  have za := zval_natAbs b l
  by_cases c : zval b l = 0
  · simp only [low, if_pos c, if_true]
    exact Ev.now _
  · simp only [low, if_neg c]
    have cne : ¬ (if zval b l < 0 then (-1 : Int) else 1) = 0 := by split <;> decide
    simp only [if_neg cne]
    have l1 := dig_len_le' h
    have l2 := dig_len_le' hm
    have gpos : 0 < Nat.gcd (val l) (val m) := Nat.gcd_pos_of_pos_right _ (by omega)
    have gle : Nat.gcd (val l) (val m) ≤ val m := Nat.gcd_le_right _ (by omega)
    have gll := dig_len_mono gle
    have hg := nat_gcd (ok_dig (val l)) (ok_dig (val m)) (by omega) (by omega)
    rw [val_dig, val_dig] at hg
    have hb := nat_bits_ok (ok_dig (Nat.gcd (val l) (val m))) (by omega)
    rw [val_dig] at hb
    have d1 := nat_divmod (ok_dig (val l)) (ok_dig (Nat.gcd (val l) (val m))) (by omega) (by omega) (by rw [val_dig]; omega)
    have d2 := nat_divmod (ok_dig (val m)) (ok_dig (Nat.gcd (val l) (val m))) (by omega) (by omega) (by rw [val_dig]; omega)
    rw [val_dig, val_dig] at d1 d2
    have hp := whole_plain h (by omega) b
    rw [mg_zval] at hp
    rw [za]
    refine Ev.bind hp (Ev.bind (nat_plain_ok hm (by omega)) (Ev.bind hg (Ev.bind hb ?_)))
    have b0 := @bl_eq_zero (Nat.gcd (val l) (val m))
    have b1 := @bl_one (Nat.gcd (val l) (val m))
    by_cases c1 : Nat.gcd (val l) (val m) = 1
    · have c2 : ¬ ((bl (Nat.gcd (val l) (val m)) : Nat) : Int) > 1 := by have := b1.mpr c1; omega
      simp only [if_neg c2]
      rw [c1, Nat.div_one, Nat.div_one]
      exact Ev.now _
    · have c2 : ((bl (Nat.gcd (val l) (val m)) : Nat) : Int) > 1 := by
        have h1 : bl (Nat.gcd (val l) (val m)) ≠ 0 := fun hc => by have := b0.mp hc; omega
        have h2 : bl (Nat.gcd (val l) (val m)) ≠ 1 := fun hc => c1 (b1.mp hc)
        omega
      simp only [if_pos c2]
      exact Ev.bind d1 (Ev.bind d2 (Ev.now _))
theorem fraction_plain_ok {l m : List Int} (h : Ok l) (hm : Ok m) (hl : l.length < 4398046511104) (hlm : m.length < 4398046511104) (b : Bool) : Ev (fun k => fraction_Plain.f k b l m) (rat (zval b l) (val m)) := by
  unfold fraction_Plain.f
  have h0 := @bl_eq_zero (val m)
  have ho : Ev (fun k => fraction_of.f k b l m) (rat (zval b l) (val m)) := by
    unfold fraction_of.f
    refine Ev.bind (nat_bits_ok hm (by omega)) ?_
    by_cases c : val m = 0
    · have c2 : ((bl (val m) : Nat) : Int) = 0 := by have := h0.mpr c; omega
      simp only [if_pos c2, rat, if_pos c]
      exact Ev.now _
    · have c2 : ¬ ((bl (val m) : Nat) : Int) = 0 := fun hc => c (h0.mp (by omega))
      simp only [if_neg c2, rat, if_neg c]
      exact Ev.bind (fraction_lowest_ok h hm hl hlm c b) (Ev.now _)
  exact Ev.bind ho (Ev.now _)
end Go.Proofs.Ytmgjjdodjamomaa.PureB
end
section
namespace Go.Proofs.Ytmgjjdodjamomaa.PureB
open Go.RowKit Go.Proofs.Ytmgjjdodjamomaa.PB Go.Proofs.YtmgjjdodjamomaaW.PrintWords Go.Proofs.YtmgjjdodjamomaaW.PrintLast Go.Proofs.YtmgjjdodjamomaaW.PrintMore
open Go.Proofs.Ytmgjjdodjamomaa.Limb
/-- what a plain fraction's rest is -/
def OfS (t : Bool × List Int × List Int) (p : Int) (v : Int × Int) : Prop :=
  if isP p = true then (if (val t.2.2 : Int) % p = 0 then v = (0, 30) else ∃ i, InvS ((val t.2.2 : Int) % p) p i ∧ v = (zval t.1 t.2.1 % p * i % p, 0)) else v = (0, 50)
theorem rat_ok (z : Int) (D : Nat) : Ok (rat z D).2.1 ∧ Ok (rat z D).2.2 := by
  have h1 : Ok [1] := by rw [← dig_one]; exact ok_dig 1
  unfold rat low
  split
  · exact ⟨Ok.nil, h1⟩
  · split
    · exact ⟨Ok.nil, h1⟩
    · exact ⟨ok_dig _, ok_dig _⟩
theorem rat_len (z : Int) (D : Nat) : (rat z D).2.1.length ≤ (dig z.natAbs).length + 1 ∧ (rat z D).2.2.length ≤ (dig D).length + 1 := by
  have h1 := dig_len_mono (Nat.div_le_self z.natAbs (Nat.gcd z.natAbs D))
  have h2 := dig_len_mono (Nat.div_le_self D (Nat.gcd z.natAbs D))
  unfold rat low
  split
  · simp
  · split
    · simp
    · exact ⟨Nat.le_succ_of_le h1, Nat.le_succ_of_le h2⟩
end Go.Proofs.Ytmgjjdodjamomaa.PureB
end
section
namespace Go.Proofs.Ytmgjjdodjamomaa.PureB
open Go.RowKit Go.Proofs.Ytmgjjdodjamomaa.PB Go.Proofs.YtmgjjdodjamomaaW.PrintWords Go.Proofs.YtmgjjdodjamomaaW.PrintLast Go.Proofs.YtmgjjdodjamomaaW.PrintMore
open Go.Proofs.Ytmgjjdodjamomaa.Limb
theorem prime_of_rat {l m : List Int} (h : Ok l) (hm : Ok m) (hl : l.length < 4194304) (hlm : m.length < 4194304) (b : Bool) (p : Int) :
    ∃ v, Ev (fun k => prime_Of.f k b l m p) v ∧ OfS (rat (zval b l) (val m)) p v := by
  have hr := fraction_plain_ok h hm (by omega) (by omega) b
  have hk := rat_ok (zval b l) (val m)
  have hlen := rat_len (zval b l) (val m)
  rw [zval_natAbs] at hlen
  have l1 := dig_len_le' h
  have l2 := dig_len_le' hm
  generalize rat (zval b l) (val m) = t at hr hk hlen ⊢
  have m1 := prime_mod hk.1 (by omega) t.1 p
  have m2 := prime_mod hk.2 (by omega) false p
  have ez : zval false t.2.2 = (val t.2.2 : Int) := by unfold zval; rw [if_neg (by decide)]
  rw [ez] at m2
  unfold prime_Of.f OfS
  cases hp : isP p with
  | false =>
    refine ⟨(0, 50), Ev.bind (prime_is p) ?_, by simp⟩
    simp only [hp, Bool.false_eq_true, if_false]
    exact Ev.now _
  | true =>
    have hpr := isP_true.mp hp
    have hb := prb_pos hpr
    simp only [modS, hp, if_true] at m1 m2 ⊢
    by_cases c : (val t.2.2 : Int) % p = 0
    · refine ⟨(0, 30), Ev.bind (prime_is p) ?_, by rw [if_pos c]⟩
      simp only [hp, if_true]
      refine Ev.bind hr (Ev.bind m1 (Ev.bind m2 ?_))
      simp only [if_pos c]
      exact Ev.now _
    · have mb := @mod_bd (val t.2.2 : Int) p (by omega)
      obtain ⟨i, hi, hi0, hip, hi1⟩ := prime_inverse_ok hpr (show 0 < (val t.2.2 : Int) % p by omega) mb.2
      have hS : InvS ((val t.2.2 : Int) % p) p i := by
        unfold InvS
        rw [Int.emod_emod, if_pos ⟨hp, c⟩]
        exact ⟨hi0, hip, hi1⟩
      refine ⟨(zval t.1 t.2.1 % p * i % p, 0), Ev.bind (prime_is p) ?_, by rw [if_neg c]; exact ⟨i, hS, rfl⟩⟩
      simp only [hp, if_true]
      refine Ev.bind hr (Ev.bind m1 (Ev.bind m2 ?_))
      simp only [if_neg c]
      refine Ev.bind hi ?_
      have hm1 := @mod_bd (zval t.1 t.2.1) p (by omega)
      have hml := mul_lt31 hm1.1 hm1.2 hi0 hip hb.2
      have ep : ¬ p = 0 := by omega
      simp only [if_neg ep]
      rw [w64 (by omega) (by omega), Int.tmod_eq_emod_of_nonneg (by omega)]
      exact Ev.now _
end Go.Proofs.Ytmgjjdodjamomaa.PureB
end
section
namespace Go.Proofs.Ytmgjjdodjamomaa.PureB
open Go.RowKit Go.Proofs.Ytmgjjdodjamomaa.PB Go.Proofs.YtmgjjdodjamomaaW.PrintWords Go.Proofs.YtmgjjdodjamomaaW.PrintLast Go.Proofs.YtmgjjdodjamomaaW.PrintMore
open Go.Proofs.Ytmgjjdodjamomaa.Limb
theorem cancel_dvd {p u Z v : Int} (h : v * u % p = 1) (hd : p ∣ Z * u) : p ∣ Z := by
  obtain ⟨k, hk⟩ := hd
  have hm := Int.mul_ediv_add_emod (v * u) p
  rw [h] at hm
  refine ⟨k * v - (v * u / p) * Z, ?_⟩
  generalize v * u / p = j at hm ⊢
  grind
theorem has_inv {p u : Int} (hp : isP p = true) (h : ¬ p ∣ u) : ∃ v, v * u % p = 1 := by
  have hpr := isP_true.mp hp
  have hb := prb_pos hpr
  have mb := @mod_bd u p (by omega)
  have h0 : u % p ≠ 0 := fun hc => h (Int.dvd_of_emod_eq_zero hc)
  obtain ⟨i, _, _, _, hi1⟩ := prime_inverse_ok hpr (show 0 < u % p by omega) mb.2
  refine ⟨i, ?_⟩
  rw [← hi1, Int.mul_emod i (u % p), Int.emod_emod, ← Int.mul_emod]
/-- what a plain fraction's top and bottom have to do with those it came from -/
theorem low_rel {z : Int} {D : Nat} (hD : D ≠ 0) : zval (low z D).1 (low z D).2.1 * (D : Int) = z * (val (low z D).2.2 : Int) ∧ ((val (low z D).2.2 : Nat) : Int) ∣ (D : Int) ∧ val (low z D).2.2 ≠ 0 := by
  unfold low
  by_cases c : z = 0
  · rw [if_pos c]
    subst c
    refine ⟨by simp [zval, val], ?_, by simp [val]⟩
    simp [val]
  · rw [if_neg c]
    have hg : 0 < Nat.gcd z.natAbs D := Nat.gcd_pos_of_pos_right _ (by omega)
    obtain ⟨a, ha⟩ := Nat.gcd_dvd_left z.natAbs D
    obtain ⟨b, hb⟩ := Nat.gcd_dvd_right z.natAbs D
    simp only [val_dig]
    generalize hge : Nat.gcd z.natAbs D = g at *
    have ea : z.natAbs / g = a := by rw [ha, Nat.mul_div_cancel_left _ hg]
    have eb : D / g = b := by rw [hb, Nat.mul_div_cancel_left _ hg]
    rw [ea, eb]
    refine ⟨?_, ⟨(g : Int), by rw [hb, Int.natCast_mul, Int.mul_comm]⟩, fun h0 => hD (by rw [hb, h0, Nat.mul_zero])⟩
    have ez : zval (sg z) (dig a) * (g : Int) = z := by
      unfold zval sg
      rw [val_dig]
      have e1 : (z.natAbs : Int) = (g : Int) * (a : Int) := by rw [← Int.natCast_mul, ← ha]
      by_cases hn : z < 0
      · rw [if_pos (by simpa using hn), Int.neg_mul, Int.mul_comm, ← e1]; omega
      · rw [if_neg (by simpa using hn), Int.mul_comm, ← e1]; omega
    rw [hb, Int.natCast_mul, ← Int.mul_assoc, ez]
theorem rat_rel {z : Int} {D : Nat} : zval (rat z D).1 (rat z D).2.1 * (D : Int) = (if D = 0 then 0 else z) * (val (rat z D).2.2 : Int) ∧ (D ≠ 0 → ((val (rat z D).2.2 : Nat) : Int) ∣ (D : Int)) ∧ val (rat z D).2.2 ≠ 0 := by
  unfold rat
  by_cases c : D = 0
  · rw [if_pos c, if_pos c]
    refine ⟨by simp [zval, val], fun h => absurd c h, by simp [val]⟩
  · rw [if_neg c, if_neg c]
    have := low_rel (z := z) c
    exact ⟨this.1, fun _ => this.2.1, this.2.2⟩
/-- the rest of a fraction whose denominator is no multiple of the prime -/
theorem OfS.rest {t : Bool × List Int × List Int} {p : Int} {v : Int × Int} (hp : isP p = true) (h : OfS t p v) (hd : ¬ p ∣ (val t.2.2 : Int)) : v.2 = 0 ∧ 0 ≤ v.1 ∧ v.1 < p ∧ p ∣ v.1 * (val t.2.2 : Int) - zval t.1 t.2.1 := by
  have hb := prb_pos (isP_true.mp hp)
  unfold OfS at h
  rw [if_pos hp, if_neg (fun hc => hd (Int.dvd_of_emod_eq_zero hc))] at h
  obtain ⟨i, hi, e⟩ := h
  have hm := @mod_bd (zval t.1 t.2.1 % p * i) p (by omega)
  rw [e]
  refine ⟨rfl, hm.1, hm.2, ?_⟩
  unfold InvS at hi
  rw [Int.emod_emod, if_pos ⟨hp, fun hc => hd (Int.dvd_of_emod_eq_zero hc)⟩] at hi
  have h1 := hi.2.2
  generalize (val t.2.2 : Int) = d at *
  generalize zval t.1 t.2.1 = n at *
  show p ∣ n % p * i % p * d - n
  have e1 := Int.mul_ediv_add_emod (n % p * i) p
  have e2 := Int.mul_ediv_add_emod n p
  have e3 := Int.mul_ediv_add_emod d p
  have e4 := Int.mul_ediv_add_emod (i * (d % p)) p
  rw [h1] at e4
  generalize n % p * i % p = a at *
  generalize n % p * i / p = b at *
  generalize n / p = c at *
  generalize n % p = f at *
  generalize d / p = g at *
  generalize d % p = j at *
  generalize i * j / p = k at *
  refine ⟨f * i * g + f * k - b * d - c, ?_⟩
  grind
theorem OfS.none {t : Bool × List Int × List Int} {p : Int} {v : Int × Int} (hp : isP p = true) (h : OfS t p v) (hd : p ∣ (val t.2.2 : Int)) : v = (0, 30) := by
  unfold OfS at h
  rwa [if_pos hp, if_pos (Int.emod_eq_zero_of_dvd hd)] at h
theorem same_rest {p a b : Int} (h0 : 0 ≤ a) (h1 : a < p) (h2 : 0 ≤ b) (h3 : b < p) (h : p ∣ a - b) : a = b := by
  have := Int.emod_emod_of_dvd a (Int.dvd_refl p)
  have e := Int.emod_eq_emod_iff_emod_sub_eq_zero.mpr (Int.emod_eq_zero_of_dvd h)
  rwa [Int.emod_eq_of_lt h0 h1, Int.emod_eq_of_lt h2 h3] at e
/-- a product's rest -/
theorem rest_prod {t u : Bool × List Int × List Int} {p : Int} {v w y : Int × Int} (hp : isP p = true) (h1 : OfS t p v) (h2 : OfS u p w) (d1 : ¬ p ∣ (val t.2.2 : Int)) (d2 : ¬ p ∣ (val u.2.2 : Int)) (n1 : val t.2.2 ≠ 0) (n2 : val u.2.2 ≠ 0)
    (h3 : OfS (rat (zval (low (zval t.1 t.2.1 * zval u.1 u.2.1) (val t.2.2 * val u.2.2)).1 (low (zval t.1 t.2.1 * zval u.1 u.2.1) (val t.2.2 * val u.2.2)).2.1) (val (low (zval t.1 t.2.1 * zval u.1 u.2.1) (val t.2.2 * val u.2.2)).2.2)) p y) : y.2 = 0 ∧ y.1 = (v.1 * w.1) % p := by
  have hb := prb_pos (isP_true.mp hp)
  obtain ⟨q1, q2, q3⟩ := low_rel (z := zval t.1 t.2.1 * zval u.1 u.2.1) (show val t.2.2 * val u.2.2 ≠ 0 from Nat.mul_ne_zero n1 n2)
  obtain ⟨_, a0, a1, a2⟩ := h1.rest hp d1
  obtain ⟨_, b0, b1, b2⟩ := h2.rest hp d2
  obtain ⟨i1, hi1⟩ := has_inv hp d1
  obtain ⟨i2, hi2⟩ := has_inv hp d2
  rw [Int.natCast_mul] at q1 q2
  generalize low (zval t.1 t.2.1 * zval u.1 u.2.1) (val t.2.2 * val u.2.2) = m at *
  have d3 : ¬ p ∣ (val m.2.2 : Int) := fun hc => d1 (cancel_dvd hi2 (Int.dvd_trans hc q2))
  obtain ⟨i3, hi3⟩ := has_inv hp d3
  obtain ⟨r1, r2, r3⟩ := rat_rel (z := zval m.1 m.2.1) (D := val m.2.2)
  rw [if_neg q3] at r1
  have r4 := r2 q3
  generalize rat (zval m.1 m.2.1) (val m.2.2) = s at *
  have d4 : ¬ p ∣ (val s.2.2 : Int) := fun hc => d3 (Int.dvd_trans hc r4)
  obtain ⟨i4, hi4⟩ := has_inv hp d4
  obtain ⟨c0, c1, c2, c3⟩ := h3.rest hp d4
  refine ⟨c0, ?_⟩
  have hm := @mod_bd (v.1 * w.1) p (by omega)
  refine same_rest c1 c2 hm.1 hm.2 ?_
  have key : p ∣ (y.1 - v.1 * w.1) * (val s.2.2 : Int) * (val m.2.2 : Int) * (val t.2.2 : Int) * (val u.2.2 : Int) := by
    obtain ⟨k1, e1⟩ := a2
    obtain ⟨k2, e2⟩ := b2
    obtain ⟨k3, e3⟩ := c3
    generalize (val t.2.2 : Int) = A at *
    generalize (val u.2.2 : Int) = B at *
    generalize (val m.2.2 : Int) = C at *
    generalize (val s.2.2 : Int) = D at *
    generalize zval t.1 t.2.1 = X at *
    generalize zval u.1 u.2.1 = Y at *
    generalize zval m.1 m.2.1 = Z at *
    generalize zval s.1 s.2.1 = W at *
    generalize v.1 = a at *
    generalize w.1 = b at *
    generalize y.1 = c at *
    -- c D = W + p k3, W C = Z D, Z (A B) = X Y C, a A = X + p k1, b B = Y + p k2
    have f1 : c * D * C * A * B = X * Y * C * D + p * (k3 * C * A * B) := by
      have g1 : c * D = W + p * k3 := by omega
      have g2 : W * C * A * B = X * Y * C * D := by
        rw [r1]
        have : Z * D * A * B = Z * (A * B) * D := by grind
        rw [this, q1]
      rw [g1, ← g2]; grind
    have f2 : a * b * D * C * A * B = X * Y * C * D + p * ((X * k2 + k1 * Y + p * k1 * k2) * C * D) := by
      have g1 : a * A = X + p * k1 := by omega
      have g2 : b * B = Y + p * k2 := by omega
      have : a * b * D * C * A * B = (a * A) * (b * B) * (C * D) := by grind
      rw [this, g1, g2]; grind
    refine ⟨k3 * C * A * B - (X * k2 + k1 * Y + p * k1 * k2) * C * D, ?_⟩
    rw [Int.mul_sub, ← Int.add_sub_add_left_right_eq f1 f2]
  have h5 := cancel_dvd hi4 (by
    have h6 := cancel_dvd hi3 (cancel_dvd hi1 (cancel_dvd hi2 key))
    exact h6)
  have hd := Int.mul_ediv_add_emod (v.1 * w.1) p
  obtain ⟨k, hk⟩ := h5
  refine ⟨k + v.1 * w.1 / p, ?_⟩
  rw [Int.mul_add, ← hk]
  omega
where
  Int.add_sub_add_left_right_eq {c D C A B a b X Y p s t : Int} (h1 : c * D * C * A * B = X * Y * C * D + p * s) (h2 : a * b * D * C * A * B = X * Y * C * D + p * t) : (c - a * b) * D * C * A * B = p * s - p * t := by
    have : (c - a * b) * D * C * A * B = c * D * C * A * B - a * b * D * C * A * B := by grind
    rw [this, h1, h2]; omega
end Go.Proofs.Ytmgjjdodjamomaa.PureB
end
section
namespace Go.Proofs.Ytmgjjdodjamomaa.PureB
open Go.RowKit Go.Proofs.Ytmgjjdodjamomaa.PB Go.Proofs.YtmgjjdodjamomaaW.PrintWords Go.Proofs.YtmgjjdodjamomaaW.PrintLast Go.Proofs.YtmgjjdodjamomaaW.PrintMore
open Go.Proofs.Ytmgjjdodjamomaa.Limb
theorem low_ok (z : Int) (D : Nat) : Ok (low z D).2.1 ∧ Ok (low z D).2.2 := by
  have h1 : Ok [1] := by rw [← dig_one]; exact ok_dig 1
  unfold low
  split
  · exact ⟨Ok.nil, h1⟩
  · exact ⟨ok_dig _, ok_dig _⟩
theorem low_len (z : Int) (D : Nat) : (low z D).2.1.length ≤ (dig z.natAbs).length + 1 ∧ (low z D).2.2.length ≤ (dig D).length + 1 := by
  have h1 := dig_len_mono (Nat.div_le_self z.natAbs (Nat.gcd z.natAbs D))
  have h2 := dig_len_mono (Nat.div_le_self D (Nat.gcd z.natAbs D))
  unfold low
  split
  · simp
  · exact ⟨Nat.le_succ_of_le h1, Nat.le_succ_of_le h2⟩
theorem mul_len {l m : List Int} (hl : Ok l) (hm : Ok m) : (dig (val l * val m)).length ≤ l.length + m.length := by
  refine dig_len_le ?_
  rw [pw_add]
  exact Nat.mul_lt_mul'' (val_lt hl) (val_lt hm)
/-- the reference's product of fractions -/
theorem ref_rmul {t u : Bool × List Int × List Int} {a b : Bool} {l m l2 m2 : List Int} (h1 : Ev (fun k => primroseref03_Plain.f k a l m) t) (h2 : Ev (fun k => primroseref03_Plain.f k b l2 m2) u) (k1 : Ok t.2.1 ∧ Ok t.2.2) (k2 : Ok u.2.1 ∧ Ok u.2.2) (n1 : val t.2.2 ≠ 0) (n2 : val u.2.2 ≠ 0)
    (b1 : t.2.1.length ≤ 100 ∧ t.2.2.length ≤ 100) (b2 : u.2.1.length ≤ 100 ∧ u.2.2.length ≤ 100) :
    Ev (fun k => primroseref03_Mul.f k a l m b l2 m2) (low (zval t.1 t.2.1 * zval u.1 u.2.1) (val t.2.2 * val u.2.2)) := by
  unfold primroseref03_Mul.f
  have lm := mul_len k1.2 k2.2
  have lz := mul_len k1.1 k2.1
  have m1 := ref_zmul (p := t.1) (q := u.1) k1.1 k2.1 (by omega) (by omega)
  have m3 := ref_nmul k1.2 k2.2 (by omega) (by omega)
  have ea : (zval t.1 t.2.1 * zval u.1 u.2.1).natAbs = val t.2.1 * val u.2.1 := by rw [Int.natAbs_mul, zval_natAbs, zval_natAbs]
  have ho := ref_over (mg_ok (zval t.1 t.2.1 * zval u.1 u.2.1)) (ok_dig (val t.2.2 * val u.2.2)) (by unfold mg; rw [ea]; omega) (by omega) (by rw [val_dig]; exact Nat.mul_ne_zero n1 n2) (sg (zval t.1 t.2.1 * zval u.1 u.2.1))
  rw [zval_of, val_dig] at ho
  exact Ev.bind h1 (Ev.bind h2 (Ev.bind m1 (Ev.bind m3 (Ev.bind ho (Ev.now _)))))
theorem fractions_j0 {p : Int} {c x y : Bool} {l m n o : List Int} (hp : isP p = true) (hl : Ok l) (hm : Ok m) (hn : Ok n) (ho : Ok o) (hb : c = false → l.length ≤ 6 ∧ m.length ≤ 6 ∧ n.length ≤ 6 ∧ o.length ≤ 6) :
    Ev (fun k => primroselaw05_PrimeFractions.j0 k p true c x l m y n o) true := by
  cases c with
  | true =>
    refine Ev.step (f := fun _ => some true) (fun k => ?_) (Ev.now _)
    simp only [primroselaw05_PrimeFractions.j0, if_true]
  | false =>
    have hlen := hb rfl
    obtain ⟨v, a1, s1⟩ := prime_of_rat hl hm (by omega) (by omega) x p
    obtain ⟨w, a2, s2⟩ := prime_of_rat hn ho (by omega) (by omega) y p
    have a3 := ref_rat hl hm (by omega) (by omega) x
    have a3y := ref_rat hn ho (by omega) (by omega) y
    have k1 := rat_ok (zval x l) (val m)
    have k2 := rat_ok (zval y n) (val o)
    have n1 := (rat_rel (z := zval x l) (D := val m)).2.2
    have n2 := (rat_rel (z := zval y n) (D := val o)).2.2
    have l1 := rat_len (zval x l) (val m)
    have l2 := rat_len (zval y n) (val o)
    rw [zval_natAbs] at l1 l2
    have d1 := dig_len_le' hl
    have d2 := dig_len_le' hm
    have d3 := dig_len_le' hn
    have d4 := dig_len_le' ho
    generalize rat (zval x l) (val m) = t at *
    generalize rat (zval y n) (val o) = u at *
    have a4 := prime_mod k1.1 (by omega) t.1 p
    have a5 := prime_mod k1.2 (by omega) false p
    have ez : zval false t.2.2 = (val t.2.2 : Int) := by unfold zval; rw [if_neg (by decide)]
    simp only [modS, hp, if_true, ez] at a4 a5
    have hpr := prb_pos (isP_true.mp hp)
    have main : Ev (fun k => (if v.2 = 0 then ((primroseref03_Mul.f k x l m y n o).bind fun bt831 => ((prime_Of.f k bt831.1 bt831.2.1 bt831.2.2 p).bind fun bt838 => ((prime_Mul.f k v.1 ((val t.2.2 : Int) % p) p).bind fun t840 => (if t840 = zval t.1 t.2.1 % p then (if (val t.2.2 : Int) % p = 0 then (some false) else (if w.2 = 0 then (if bt838.2 = 0 then ((prime_Mul.f k v.1 w.1 p).bind fun t841 => (some (bt838.1 == t841))) else (some false)) else (some true))) else (some false))))) else (if v.2 = 30 then (if (val t.2.2 : Int) % p = 0 then (some (v.1 == 0)) else (some false)) else (some false)))) true := by
      by_cases c1 : p ∣ (val t.2.2 : Int)
      · have e := s1.none hp c1
        subst e
        have c2 := Int.emod_eq_zero_of_dvd c1
        have e1 : ¬ ((0 : Int), (30 : Int)).2 = 0 := by decide
        simp only [if_neg e1, if_pos c2]
        exact Ev.now _
      · obtain ⟨e0, v0, v1, v2⟩ := s1.rest hp c1
        have c2 : ¬ (val t.2.2 : Int) % p = 0 := fun hc => c1 (Int.dvd_of_emod_eq_zero hc)
        simp only [if_pos e0]
        have r1 := ref_rmul a3 a3y k1 k2 n1 n2 ⟨by omega, by omega⟩ ⟨by omega, by omega⟩
        have z1 := low_ok (zval t.1 t.2.1 * zval u.1 u.2.1) (val t.2.2 * val u.2.2)
        have z2 := low_len (zval t.1 t.2.1 * zval u.1 u.2.1) (val t.2.2 * val u.2.2)
        have ea : (zval t.1 t.2.1 * zval u.1 u.2.1).natAbs = val t.2.1 * val u.2.1 := by rw [Int.natAbs_mul, zval_natAbs, zval_natAbs]
        rw [ea] at z2
        have lm := mul_len k1.2 k2.2
        have lz := mul_len k1.1 k2.1
        obtain ⟨q, a6, s6⟩ := prime_of_rat z1.1 z1.2 (by omega) (by omega) (low (zval t.1 t.2.1 * zval u.1 u.2.1) (val t.2.2 * val u.2.2)).1 p
        refine Ev.bind r1 (Ev.bind a6 (Ev.bind (prime_mul _ _ p) ?_))
        have e3 : mulS v.1 ((val t.2.2 : Int) % p) p = zval t.1 t.2.1 % p := by
          unfold mulS
          rw [if_pos hp, Int.mul_emod, Int.emod_emod, ← Int.mul_emod]
          exact Int.emod_eq_emod_iff_emod_sub_eq_zero.mpr (Int.emod_eq_zero_of_dvd v2)
        simp only [if_pos e3, if_neg c2]
        by_cases c3 : p ∣ (val u.2.2 : Int)
        · have e := s2.none hp c3
          subst e
          have e1 : ¬ ((0 : Int), (30 : Int)).2 = 0 := by decide
          simp only [if_neg e1]
          exact Ev.now _
        · obtain ⟨w0, _, _, _⟩ := s2.rest hp c3
          obtain ⟨q0, q1⟩ := rest_prod hp s1 s2 c1 c3 n1 n2 s6
          simp only [if_pos w0, if_pos q0]
          refine Ev.bind (prime_mul _ _ p) ?_
          have e4 : mulS v.1 w.1 p = q.1 := by unfold mulS; rw [if_pos hp, q1]
          rw [e4, beq_self_eq_true]
          exact Ev.now _
    refine Ev.step (f := fun k => (prime_Of.f k x l m p).bind fun bt815 => ((prime_Of.f k y n o p).bind fun bt817 => ((primroseref03_Plain.f k x l m).bind fun bt819 => ((prime_Mod.f k bt819.1 bt819.2.1 p).bind fun bt827 => ((prime_Mod.f k false bt819.2.2 p).bind fun bt829 => (if bt815.2 = 0 then ((primroseref03_Mul.f k x l m y n o).bind fun bt831 => ((prime_Of.f k bt831.1 bt831.2.1 bt831.2.2 p).bind fun bt838 => ((prime_Mul.f k bt815.1 bt829.1 p).bind fun t840 => (if t840 = bt827.1 then (if bt829.1 = 0 then (some false) else (if bt817.2 = 0 then (if bt838.2 = 0 then ((prime_Mul.f k bt815.1 bt817.1 p).bind fun t841 => (some (bt838.1 == t841))) else (some false)) else (some true))) else (some false))))) else (if bt815.2 = 30 then (if bt829.1 = 0 then (some (bt815.1 == 0)) else (some false)) else (some false)))))))) (fun k => ?_)
      (Ev.bind a1 (Ev.bind a2 (Ev.bind a3 (Ev.bind a4 (Ev.bind a5 main)))))
    simp only [primroselaw05_PrimeFractions.j0, Bool.false_eq_true, if_false, if_true]
theorem PrimeFractions (x : Bool) (l m : List Int) (y : Bool) (n o : List Int) (q : Int) (hl : Ok l) (hm : Ok m) (hn : Ok n) (ho : Ok o) : ∃ k, primroselaw05_PrimeFractions.f k x l m y n o q = some true := by
  refine Ev.rounds (g := fun k => primroselaw05_PrimeFractions.f k x l m y n o q) ?_
  unfold primroselaw05_PrimeFractions.f
  refine Ev.bind awake_ok ?_
  simp only [if_true]
  obtain ⟨p, hpk, hp⟩ := pick_ok q
  refine Ev.bind hpk ?_
  by_cases c : (l.length : Int) > 6
  · simp only [if_pos c]; exact fractions_j0 hp hl hm hn ho (fun h => by cases h)
  · simp only [if_neg c]
    by_cases c2 : (m.length : Int) > 6
    · simp only [if_pos c2]; exact fractions_j0 hp hl hm hn ho (fun h => by cases h)
    · simp only [if_neg c2]
      by_cases c3 : (n.length : Int) > 6
      · simp only [if_pos c3]; exact fractions_j0 hp hl hm hn ho (fun h => by cases h)
      · simp only [if_neg c3]
        by_cases c4 : (o.length : Int) > 6
        · simp only [c4, decide_true]; exact fractions_j0 hp hl hm hn ho (fun h => by cases h)
        · simp only [c4, decide_false]; exact fractions_j0 hp hl hm hn ho (fun _ => ⟨by omega, by omega, by omega, by omega⟩)
end Go.Proofs.Ytmgjjdodjamomaa.PureB
end
