/- What the program's rest of a whole number by a number is: its rest, if the number is a prime below 2^31; conditions: limbs are below 2^32. -/
import Derived.Test.YtmgjjdodjamomaaPAx10
import Derived.Test.YtmgjjdodjamomaaPAx11
import Derived.Test.YtmgjjdodjamomaaRef
import Derived.Test.YtmgjjdodjamomaaPrs
namespace Go.Proofs.Ytmgjjdodjamomaa.Pure
open Go.RowKit Go.Proofs.Ytmgjjdodjamomaa.PA Go.Proofs.YtmgjjdodjamomaaW.PrintWords Go.Proofs.YtmgjjdodjamomaaW.PrintLast
open Go.Proofs.Ytmgjjdodjamomaa.Limb

theorem i64_or_join {a x : Int} (h0 : 0 ≤ a) (h1 : a < 2147483648) (h2 : 0 ≤ x) (h3 : x < 4294967296) : Go.bits .or .i64 (a * 4294967296) x = a * 4294967296 + x := by
  show IntKind.i64.wrap ((BitVec.ofInt 64 (a * 4294967296) ||| BitVec.ofInt 64 x).toNat : Nat) = a * 4294967296 + x
  have e : (BitVec.ofInt 64 (a * 4294967296) ||| BitVec.ofInt 64 x).toNat = 2 ^ 32 * a.toNat + x.toNat := by
    rw [BitVec.toNat_or, BitVec.toNat_ofInt, BitVec.toNat_ofInt, Nat.two_pow_add_eq_or_of_lt (by omega)]
    congr 1 <;> omega
  rw [e, IntKind.wrap_i64]
  omega

theorem limbs_loop {p : Int} (hp : 2 ≤ p) (hb : p < 2147483648) {l : List Int} (h : Ok l) (hl : l.length < 4611686018427387904) :
    ∀ (m n : Nat), n ≤ l.length → n ≤ m → Ev (fun k => prime_limbs.l0 k l p ((val (l.drop n) : Int) % p) (l.length : Int) ((l.length - n : Nat) : Int)) ((val l : Int) % p) := by
  have hz : Ev (fun k => prime_limbs.l0 k l p ((val (l.drop 0) : Int) % p) (l.length : Int) ((l.length - 0 : Nat) : Int)) ((val l : Int) % p) := by
    refine Ev.step (f := fun _ => some ((val l : Int) % p)) (fun k => ?_) (Ev.now _)
    simp only [prime_limbs.l0, List.drop_zero]
    rw [if_neg (by omega)]
  intro m
  induction m with
  | zero =>
    intro n hn hm
    have : n = 0 := by omega
    subst this; exact hz
  | succ m ih =>
    intro n hn hm
    by_cases h0 : n = 0
    · subst h0; exact hz
    · obtain ⟨n, rfl⟩ : ∃ q, n = q + 1 := ⟨n - 1, by omega⟩
      have hx := h.getD n
      have hr := @mod_bd (val (l.drop (n + 1)) : Int) p (by omega)
      have h1 := val_drop_succ l n
      have e : ((val (l.drop (n + 1)) : Int) % p * 4294967296 + l.getD n 0) % p = (val (l.drop n) : Int) % p := by
        rw [h1]
        have : (((l.getD n 0).toNat + 4294967296 * val (l.drop (n + 1)) : Nat) : Int) = (val (l.drop (n + 1)) : Int) * 4294967296 + l.getD n 0 := by omega
        rw [this, Int.add_emod, Int.mul_emod, Int.emod_emod, ← Int.mul_emod, ← Int.add_emod]
      refine Ev.step (f := fun k => prime_limbs.l0 k l p ((val (l.drop n) : Int) % p) (l.length : Int) ((l.length - n : Nat) : Int)) (fun k => ?_) (ih n (by omega) (by omega))
      simp only [prime_limbs.l0]
      rw [if_pos (by omega)]
      have ei : wrap64 (wrap64 ((l.length : Int) - 1) - ((l.length - (n + 1) : Nat) : Int)) = (n : Int) := by
        rw [w64 (x := (l.length : Int) - 1) (by omega) (by omega), w64 (by omega) (by omega)]; omega
      have en : wrap64 (((l.length - (n + 1) : Nat) : Int) + 1) = ((l.length - n : Nat) : Int) := by
        clear ei
        rw [w64 (by omega) (by omega)]; omega
      rw [ei, en]
      clear ei en
      rw [if_pos (by omega), if_pos (by omega), if_neg (by omega), rd_nat, w64 (x := l.getD n 0) (by omega) (by omega), w64 (x := (val (l.drop (n + 1)) : Int) % p * 4294967296) (by omega) (by omega),
        i64_or_join hr.1 (by omega) hx.1 hx.2, tm (by omega), e]

theorem prime_limbs_ok {p : Int} (hp : 2 ≤ p) (hb : p < 2147483648) {l : List Int} (h : Ok l) (hl : l.length < 4611686018427387904) : Ev (fun k => prime_limbs.f k l p) ((val l : Int) % p) := by
  have := limbs_loop hp hb h hl l.length l.length (Nat.le_refl _) (Nat.le_refl _)
  rw [val_drop_all l (Nat.le_refl _), Nat.sub_self] at this
  exact this

/-- what a whole number's rest is, with the error's number -/
noncomputable def modS (z p : Int) : Int × Int := if isP p = true then (z % p, 0) else (0, 50)

theorem prime_mod {l : List Int} (h : Ok l) (hl : l.length < 4611686018427387904) (b : Bool) (p : Int) : Ev (fun k => prime_Mod.f k b l p) (modS (zval b l) p) := by
  unfold prime_Mod.f
  refine Ev.bind (prime_is p) ?_
  cases hp : isP p with
  | false => simp only [modS, hp, Bool.false_eq_true, if_false]; exact Ev.now _
  | true =>
    have hb := prb_pos (isP_true.mp hp)
    simp only [modS, hp, if_true]
    refine Ev.bind (prime_limbs_ok hb.1 hb.2 h hl) ?_
    have hm := @mod_bd (val l : Int) p (by omega)
    unfold zval
    cases b with
    | false => simp only [Bool.false_eq_true, if_false]; exact Ev.now _
    | true =>
      simp only [if_true]
      rw [w64 (by omega) (by omega), rest_eq (by omega) (by omega)]
      have : (-((val l : Int) % p)) % p = (-(val l : Int)) % p := by
        rw [← Int.zero_sub, ← Int.zero_sub (val l : Int), Int.sub_emod, Int.emod_emod, ← Int.sub_emod]
      rw [this]
      exact Ev.now _

end Go.Proofs.Ytmgjjdodjamomaa.Pure
