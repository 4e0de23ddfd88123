/- What the reference's sums, differences and products of whole numbers are: the plain limbs of the numbers' sums, differences, products; conditions: limbs are below 2^32, lists shorter than 2^44. -/
import Derived.Test.YtmgjjdodjamomaaPAx11
import Derived.Test.YtmgjjdodjamomaaPAx12
import Derived.Test.YtmgjjdodjamomaaPAx13
import Derived.Test.YtmgjjdodjamomaaPAx14
import Derived.Test.YtmgjjdodjamomaaPAx15
import Derived.Test.YtmgjjdodjamomaaPAx16
import Derived.Test.YtmgjjdodjamomaaPAx17
import Derived.Test.YtmgjjdodjamomaaLimb
import Derived.Test.YtmgjjdodjamomaaPrm
namespace Go.Proofs.Ytmgjjdodjamomaa.Pure
open Go.RowKit Go.Proofs.Ytmgjjdodjamomaa.PA Go.Proofs.YtmgjjdodjamomaaW.PrintWords Go.Proofs.YtmgjjdodjamomaaW.PrintLast
open Go.Proofs.Ytmgjjdodjamomaa.Limb

theorem u64w {x : Int} (h0 : 0 ≤ x) (h1 : x < 18446744073709551616) : IntKind.u64.wrap x = x := by
  rw [IntKind.wrap_u64]; omega

/- No equation of a wrap may stand open in the context of an omega: it does not return. -/
theorem w_succ {n : Nat} (h : n < 4611686018427387904) : wrap64 ((n : Int) + 1) = ((n + 1 : Nat) : Int) := by rw [w64 (by omega) (by omega)]; omega
theorem w_pred {n : Nat} (h : n < 4611686018427387904) : wrap64 ((n : Int) - 1) = (n : Int) - 1 := by rw [w64 (by omega) (by omega)]
theorem w_back {n : Nat} (h : n < 4611686018427387904) : wrap64 (((n + 1 : Nat) : Int) - 1) = (n : Int) := by rw [w64 (by omega) (by omega)]; omega

theorem rd_nat (l : List Int) (k : Nat) : rd l (k : Int) = l.getD k 0 := by unfold rd; rw [Int.toNat_natCast]

theorem rd_ok {l : List Int} (h : Ok l) (i : Int) : 0 ≤ rd l i ∧ rd l i < 4294967296 := by unfold rd; exact h.getD _

/-! plain lists -/

theorem ref_plain_loop {l : List Int} (h : Ok l) (hl : l.length < 35184372088832) : ∀ n : Nat, n ≤ l.length → (∀ x ∈ l.drop n, x = 0) →
    Ev (fun k => primroseref01_Plain.l0 k l (n : Int)) (dig (val l)) := by
  intro n
  induction n with
  | zero =>
    intro _ hz
    have h0 : val l = 0 := by rw [← val_take hz]; rfl
    rw [h0, dig_zero]
    refine Ev.step (f := fun _ => some []) (fun k => ?_) (Ev.now _)
    simp only [primroseref01_Plain.l0]
    rw [if_neg (by omega), if_pos (by omega), if_pos (by omega)]
    simp
  | succ n ih =>
    intro hn hz
    have e1 : n < 4611686018427387904 := by omega
    by_cases h0 : l.getD n 0 = 0
    · refine Ev.step (f := fun k => primroseref01_Plain.l0 k l (n : Int)) (fun k => ?_) (ih (by omega) fun x hx => ?_)
      · simp only [primroseref01_Plain.l0, w_back e1, rd_nat]
        rw [if_pos (by omega), if_pos (by omega), if_pos (by omega), if_pos h0]
      · rw [List.drop_eq_getElem_cons (by omega)] at hx
        rcases List.mem_cons.mp hx with e | e
        · rw [List.getD_eq_getElem?_getD, List.getElem?_eq_getElem (by omega)] at h0
          rw [e]; simpa using h0
        · exact hz x e
    · have hd := take_dig h (n := n + 1) (by omega) hn hz (by simpa using h0)
      refine Ev.step (f := fun _ => some (dig (val l))) (fun k => ?_) (Ev.now _)
      simp only [primroseref01_Plain.l0, w_back e1, rd_nat]
      rw [if_pos (by omega), if_pos (by omega), if_pos (by omega), if_neg h0, if_pos (by omega), if_pos (by omega)]
      have e2 : ((n + 1 : Nat) : Int).toNat = n + 1 := by omega
      rw [e2, ← hd, if_pos (by simp; omega)]
      simp

theorem ref_plain {l : List Int} (h : Ok l) (hl : l.length < 35184372088832) : Ev (fun k => primroseref01_Plain.f k l) (dig (val l)) := by
  unfold primroseref01_Plain.f
  exact ref_plain_loop h hl l.length (Nat.le_refl _) (by simp)

theorem ref_make {l : List Int} (h : Ok l) (hl : l.length < 35184372088832) (b : Bool) : Ev (fun k => primroseref02_Make.f k b l) (sg (zval b l), mg (zval b l)) := by
  unfold primroseref02_Make.f
  refine Ev.bind (ref_plain h hl) ?_
  rw [sg_zval, mg_zval]
  cases b with
  | true =>
    simp only [if_true, Bool.true_and]
    have : (decide (0 < (dig (val l)).length)) = decide (val l ≠ 0) := by
      congr 1
      have := @dig_len_pos (val l)
      exact propext ⟨fun h h2 => by have := this.mpr h2; omega, fun h => by rcases Nat.eq_zero_or_pos (dig (val l)).length with e | e; exact absurd (this.mp e) h; exact e⟩
    rw [this]; exact Ev.now _
  | false => simp only [Bool.false_eq_true, if_false, Bool.false_and]; exact Ev.now _

/-! sums -/

theorem aw1 {c x : Int} (hc : 0 ≤ c) (hc1 : c < 9223372036854775808) (hx : 0 ≤ x ∧ x < 4294967296) : IntKind.u64.wrap (c + IntKind.u64.wrap x) = c + x := by
  rw [u64w (x := x) (by omega) (by omega), u64w (by omega) (by omega)]
theorem aw2 {c x y : Int} (hc : 0 ≤ c) (hc1 : c < 4611686018427387904) (hx : 0 ≤ x ∧ x < 4294967296) (hy : 0 ≤ y ∧ y < 4294967296) :
    IntKind.u64.wrap (IntKind.u64.wrap (c + IntKind.u64.wrap x) + IntKind.u64.wrap y) = c + x + y := by
  rw [aw1 hc (by omega) hx, aw1 (by omega) (by omega) hy]
theorem alow {z : Int} (h : 0 ≤ z) : Int.tmod z 4294967296 % 4294967296 = z % 4294967296 := by rw [tm h, Int.emod_emod]
theorem ahigh {z : Int} (h : 0 ≤ z) (h1 : z < 18446744073709551616) : IntKind.u64.wrap (Int.tdiv z 4294967296) = z / 4294967296 := by
  rw [Int.tdiv_eq_ediv_of_nonneg h, u64w (by omega) (by omega)]

theorem getD_out {l : List Int} {n : Nat} (h : l.length ≤ n) : l.getD n 0 = 0 := by
  rw [List.getD_eq_getElem?_getD, List.getElem?_eq_none h]; rfl

theorem ref_add_loop' {a b : List Int} (ha : Ok a) (hb : Ok b) (hla : a.length < 17592186044416) (hlb : b.length < 17592186044416) :
    ∀ (m : Nat) (n : Nat) (o : List Int) (c : Int), max a.length b.length + 1 - n ≤ m → n ≤ max a.length b.length + 1 → o.length = n → Ok o → 0 ≤ c → c ≤ 1 → (n = max a.length b.length + 1 → c = 0) →
      val o + pw n * (c.toNat + val (a.drop n) + val (b.drop n)) = val a + val b →
      Ev (fun k => primroseref01_Add.l0 k a b o c (n : Int)) (dig (val a + val b)) := by
  intro m
  induction m with
  | zero =>
    intro n o c hm hn hol ho hc0 hc1 hce hv
    have hn2 : n = max a.length b.length + 1 := by omega
    have c0 := hce hn2
    subst c0
    rw [val_drop_all a (by omega), val_drop_all b (by omega)] at hv
    have hv2 : val o = val a + val b := by simpa using hv
    rw [← hv2]
    refine Ev.step (f := fun k => primroseref01_Add.j1 k a b o 0 (n : Int) false) (fun k => ?_) (Ev.step (f := fun k => (primroseref01_Plain.f k o).bind fun t214 => (some t214)) (fun k => ?_) (Ev.bind (ref_plain ho (by omega)) (Ev.now _)))
    · simp only [primroseref01_Add.l0]
      rw [if_neg (by omega), if_neg (by omega)]; rfl
    · simp only [primroseref01_Add.j1]; rfl
  | succ m ih =>
    intro n o c hm hn hol ho hc0 hc1 hce hv
    have hxa := ha.getD n
    have hxb := hb.getD n
    have e1 : n < 4611686018427387904 := by omega
    have hlim : o.length < 35184372088832 := by omega
    have next : ∀ (r q : Int), c + a.getD n 0 + b.getD n 0 = 4294967296 * q + r → 0 ≤ r → r < 4294967296 → 0 ≤ q → q ≤ 1 → n < max a.length b.length ∨ (n = max a.length b.length ∧ q = 0) →
        Ev (fun k => primroseref01_Add.l0 k a b (o ++ [r]) q ((n + 1 : Nat) : Int)) (dig (val a + val b)) := by
      intro r q he hr0 hr1 hq0 hq1 hlt
      refine ih (n + 1) (o ++ [r]) q (by omega) (by omega) (by simp [hol]) (ho.append (Ok.cons hr0 hr1 Ok.nil)) hq0 hq1 (fun h => by omega) ?_
      rw [val_snoc, hol, ← hv, val_drop_succ a n, val_drop_succ b n, pw_succ]
      have he2 : c.toNat + (a.getD n 0).toNat + (b.getD n 0).toNat = 4294967296 * q.toNat + r.toNat := by omega
      generalize (a.getD n 0).toNat = xa at *
      generalize (b.getD n 0).toNat = xb at *
      generalize pw n = P at *
      grind
    by_cases hlt : n < max a.length b.length ∨ c > 0
    · -- one more limb
      have hj : Ev (fun k => primroseref01_Add.j1 k a b o c (n : Int) true) (dig (val a + val b)) := by
        have hq : n < max a.length b.length ∨ (n = max a.length b.length ∧ (c + a.getD n 0 + b.getD n 0) / 4294967296 = 0) := by
          by_cases hh : n < max a.length b.length
          · exact Or.inl hh
          · right
            have : n ≠ max a.length b.length + 1 := fun e => by have := hce e; omega
            rw [getD_out (l := a) (by omega), getD_out (l := b) (by omega)]
            omega
        refine Ev.step (f := fun k => primroseref01_Add.l0 k a b (o ++ [(c + a.getD n 0 + b.getD n 0) % 4294967296]) ((c + a.getD n 0 + b.getD n 0) / 4294967296) ((n + 1 : Nat) : Int)) (fun k => ?_) (next _ _ (by omega) (by omega) (by omega) (by omega) (by omega) hq)
        simp only [primroseref01_Add.j1, if_true, rd_nat, w_succ e1]
        by_cases la : n < a.length
        · rw [if_pos (by omega), if_pos (by omega)]
          by_cases lb : n < b.length
          · rw [if_pos (by omega), if_pos hlim, aw2 hc0 (by omega) hxa hxb, alow (by omega), ahigh (by omega) (by omega)]
          · rw [if_neg (by omega), if_pos hlim, getD_out (l := b) (by omega), aw1 hc0 (by omega) hxa, alow (by omega), ahigh (by omega) (by omega), Int.add_zero]
        · rw [if_neg (by omega)]
          by_cases lb : n < b.length
          · rw [if_pos (by omega), if_pos (by omega), if_pos hlim, getD_out (l := a) (by omega), aw1 hc0 (by omega) hxb, alow (by omega), ahigh (by omega) (by omega), Int.add_zero]
          · rw [if_neg (by omega), if_pos hlim, getD_out (l := a) (by omega), getD_out (l := b) (by omega), alow (by omega), ahigh (by omega) (by omega), Int.add_zero, Int.add_zero]
      refine Ev.step (f := fun k => primroseref01_Add.j1 k a b o c (n : Int) true) (fun k => ?_) hj
      simp only [primroseref01_Add.l0]
      by_cases la : n < a.length
      · rw [if_pos (by omega)]
      · rw [if_neg (by omega)]
        by_cases lb : n < b.length
        · rw [if_pos (by omega)]
        · rw [if_neg (by omega), decide_eq_true (show c > 0 by omega)]
    · have c0 : c = 0 := by omega
      subst c0
      rw [val_drop_all a (by omega), val_drop_all b (by omega)] at hv
      have hv2 : val o = val a + val b := by simpa using hv
      rw [← hv2]
      refine Ev.step (f := fun k => primroseref01_Add.j1 k a b o 0 (n : Int) false) (fun k => ?_) (Ev.step (f := fun k => (primroseref01_Plain.f k o).bind fun t214 => (some t214)) (fun k => ?_) (Ev.bind (ref_plain ho (by omega)) (Ev.now _)))
      · simp only [primroseref01_Add.l0]
        rw [if_neg (by omega), if_neg (by omega)]; rfl
      · simp only [primroseref01_Add.j1]; rfl

theorem ref_nadd {a b : List Int} (ha : Ok a) (hb : Ok b) (hla : a.length < 17592186044416) (hlb : b.length < 17592186044416) :
    Ev (fun k => primroseref01_Add.f k a b) (dig (val a + val b)) := by
  unfold primroseref01_Add.f
  refine ref_add_loop' ha hb hla hlb _ 0 [] 0 (Nat.le_refl _) (by omega) rfl Ok.nil (by omega) (by omega) (by omega) ?_
  simp [val, pw_zero]

/-! comparisons -/

def cmpN (x y : Nat) : Int := if x < y then -1 else if y < x then 1 else 0

theorem ref_cmp_loop {a b : List Int} (ha : Ok a) (hb : Ok b) (hla : a.length < 17592186044416) (hlb : b.length < 17592186044416) :
    ∀ n : Nat, n ≤ max a.length b.length → val (a.drop n) = val (b.drop n) →
      Ev (fun k => primroseref01_Cmp.l0 k a b ((n : Int) - 1)) (cmpN (val a) (val b)) := by
  intro n
  induction n with
  | zero =>
    intro _ hv
    simp only [List.drop_zero] at hv
    have : cmpN (val a) (val b) = 0 := by unfold cmpN; rw [if_neg (by omega), if_neg (by omega)]
    rw [this]
    refine Ev.step (f := fun _ => some 0) (fun k => ?_) (Ev.now _)
    simp only [primroseref01_Cmp.l0]
    rw [if_neg (by omega)]
  | succ n ih =>
    intro hn hv
    have e0 : ((n + 1 : Nat) : Int) - 1 = (n : Int) := by omega
    have e1 : n < 4611686018427387904 := by omega
    have hxa := ha.getD n
    have hxb := hb.getD n
    rw [e0]
    have h3 : Ev (fun k => primroseref01_Cmp.j2 k a b (n : Int) (a.getD n 0) (b.getD n 0)) (cmpN (val a) (val b)) := by
      have key : ∀ (x y : List Int), Ok x → Ok y → x.getD n 0 < y.getD n 0 → val (x.drop (n + 1)) = val (y.drop (n + 1)) → val x < val y := by
        intro x y hx hy hlt he
        have tx := val_take_succ x n
        have ty := val_take_succ y n
        have bx := val_lt (hx.take n)
        have lx : (x.take n).length ≤ n := by rw [List.length_take]; omega
        have bx2 : pw (x.take n).length ≤ pw n := pw_le lx
        have sx : val x = val (x.take (n + 1)) + pw (n + 1) * val (x.drop (n + 1)) := by
          by_cases hl : n + 1 ≤ x.length
          · exact val_split x (n + 1) hl
          · rw [val_take_all x (by omega), val_drop_all x (by omega)]; simp
        have sy : val y = val (y.take (n + 1)) + pw (n + 1) * val (y.drop (n + 1)) := by
          by_cases hl : n + 1 ≤ y.length
          · exact val_split y (n + 1) hl
          · rw [val_take_all y (by omega), val_drop_all y (by omega)]; simp
        have gx := hx.getD n
        have gy := hy.getD n
        have hl2 : (x.getD n 0).toNat + 1 ≤ (y.getD n 0).toNat := by omega
        have hm := Nat.mul_le_mul_left (pw n) hl2
        rw [Nat.mul_add, Nat.mul_one] at hm
        rw [sx, sy, he, tx, ty]
        omega
      by_cases c1 : a.getD n 0 < b.getD n 0
      · have := key a b ha hb c1 hv
        have e : cmpN (val a) (val b) = -1 := by unfold cmpN; rw [if_pos this]
        rw [e]
        refine Ev.step (f := fun _ => some (-1)) (fun k => ?_) (Ev.now _)
        simp only [primroseref01_Cmp.j2]; rw [if_pos c1]
      · by_cases c2 : a.getD n 0 > b.getD n 0
        · have := key b a hb ha c2 hv.symm
          have e : cmpN (val a) (val b) = 1 := by unfold cmpN; rw [if_neg (by omega), if_pos this]
          rw [e]
          refine Ev.step (f := fun _ => some 1) (fun k => ?_) (Ev.now _)
          simp only [primroseref01_Cmp.j2]; rw [if_neg c1, if_pos c2]
        · refine Ev.step (f := fun k => primroseref01_Cmp.l0 k a b ((n : Int) - 1)) (fun k => ?_) (ih (by omega) ?_)
          · simp only [primroseref01_Cmp.j2, w_pred e1]; rw [if_neg c1, if_neg c2]
          · rw [val_drop_succ a n, val_drop_succ b n, hv]
            have : a.getD n 0 = b.getD n 0 := by omega
            rw [this]
    have h2 : Ev (fun k => primroseref01_Cmp.j1 k a b (n : Int) (a.getD n 0) 0) (cmpN (val a) (val b)) := by
      refine Ev.step (f := fun k => primroseref01_Cmp.j2 k a b (n : Int) (a.getD n 0) (b.getD n 0)) (fun k => ?_) h3
      simp only [primroseref01_Cmp.j1, rd_nat]
      by_cases lb : n < b.length
      · rw [if_pos (by omega), if_pos (by omega)]
      · have eb : b.getD n 0 = 0 := by rw [List.getD_eq_getElem?_getD, List.getElem?_eq_none (by omega)]; rfl
        rw [if_neg (by omega), eb]
    refine Ev.step (f := fun k => primroseref01_Cmp.j1 k a b (n : Int) (a.getD n 0) 0) (fun k => ?_) h2
    simp only [primroseref01_Cmp.l0, rd_nat]
    rw [if_pos (by omega)]
    by_cases la : n < a.length
    · rw [if_pos (by omega), if_pos (by omega)]
    · have ea : a.getD n 0 = 0 := by rw [List.getD_eq_getElem?_getD, List.getElem?_eq_none (by omega)]; rfl
      rw [if_neg (by omega), ea]

theorem ref_ncmp {a b : List Int} (ha : Ok a) (hb : Ok b) (hla : a.length < 17592186044416) (hlb : b.length < 17592186044416) :
    Ev (fun k => primroseref01_Cmp.f k a b) (cmpN (val a) (val b)) := by
  unfold primroseref01_Cmp.f
  have e : mx (a.length : Int) (b.length : Int) = ((max a.length b.length : Nat) : Int) := by unfold mx; omega
  rw [e, w64 (by omega) (by omega)]
  refine ref_cmp_loop ha hb hla hlb _ (Nat.le_refl _) ?_
  rw [val_drop_all a (by omega), val_drop_all b (by omega)]

/-! differences -/

theorem val_take_le (l : List Int) (k : Nat) : val (l.take k) ≤ val l := by
  by_cases h : k ≤ l.length
  · rw [val_split l k h]; exact Nat.le_add_right _ _
  · rw [val_take_all l (by omega)]; exact Nat.le_refl _

theorem ref_sub_loop {a b : List Int} (ha : Ok a) (hb : Ok b) (hla : a.length < 17592186044416) (hle : val b ≤ val a) :
    ∀ (m : Nat) (n : Nat) (o : List Int) (c : Int), a.length - n ≤ m → n ≤ a.length → o.length = n → Ok o → 0 ≤ c → c ≤ 1 →
      val o + val (b.take n) = val (a.take n) + pw n * c.toNat →
      Ev (fun k => primroseref01_Sub.l0 k a b o c (n : Int)) (dig (val a - val b), true) := by
  have done : ∀ (o : List Int) (c : Int), o.length = a.length → Ok o → 0 ≤ c → c ≤ 1 → val o + val (b.take a.length) = val (a.take a.length) + pw a.length * c.toNat →
      Ev (fun k => primroseref01_Sub.l0 k a b o c (a.length : Int)) (dig (val a - val b), true) := by
    intro o c hol ho hc0 hc1 hv
    have h1 := val_lt ho
    have h2 := val_lt ha
    rw [hol] at h1
    rw [val_take_all a (Nat.le_refl _)] at hv
    have hb2 : val (b.take a.length) = val b := by
      by_cases hbl : a.length ≤ b.length
      · have hs := val_split b a.length hbl
        have : val (b.drop a.length) = 0 := by
          rcases Nat.eq_zero_or_pos (val (b.drop a.length)) with e | e
          · exact e
          · have := Nat.mul_le_mul_left (pw a.length) (show 1 ≤ val (b.drop a.length) from e)
            omega
        rw [hs, this, Nat.mul_zero, Nat.add_zero]
      · exact val_take_all b (by omega)
    rw [hb2] at hv
    have hc : c = 0 := by
      by_cases e : c = 0
      · exact e
      · have : c.toNat = 1 := by omega
        rw [this, Nat.mul_one] at hv
        omega
    subst hc
    have hv2 : val o = val a - val b := by simp at hv; omega
    rw [← hv2]
    refine Ev.step (f := fun k => (primroseref01_Plain.f k o).bind fun t235 => (some (t235, true))) (fun k => ?_) (Ev.bind (ref_plain ho (by omega)) (Ev.now _))
    simp only [primroseref01_Sub.l0]
    rw [if_neg (by omega)]
  intro m
  induction m with
  | zero =>
    intro n o c hm hn hol ho hc0 hc1 hv
    have hn2 : n = a.length := by omega
    subst hn2
    exact done o c hol ho hc0 hc1 hv
  | succ m ih =>
    intro n o c hm hn hol ho hc0 hc1 hv
    by_cases hn2 : n = a.length
    · subst hn2; exact done o c hol ho hc0 hc1 hv
    · have hxa := ha.getD n
      have hxb := hb.getD n
      have e1 : n < 4611686018427387904 := by omega
      have hlim : o.length < 35184372088832 := by omega
      have next : ∀ (r q : Int), a.getD n 0 - c - b.getD n 0 = r - 4294967296 * q → 0 ≤ r → r < 4294967296 → 0 ≤ q → q ≤ 1 →
          Ev (fun k => primroseref01_Sub.l0 k a b (o ++ [r]) q ((n + 1 : Nat) : Int)) (dig (val a - val b), true) := by
        intro r q he hr0 hr1 hq0 hq1
        refine ih (n + 1) (o ++ [r]) q (by omega) (by omega) (by simp [hol]) (ho.append (Ok.cons hr0 hr1 Ok.nil)) hq0 hq1 ?_
        rw [val_snoc, hol, val_take_succ a n, val_take_succ b n, pw_succ]
        have he2 : (a.getD n 0).toNat + 4294967296 * q.toNat = r.toNat + c.toNat + (b.getD n 0).toNat := by omega
        generalize (a.getD n 0).toNat = xa at *
        generalize (b.getD n 0).toNat = xb at *
        generalize pw n = P at *
        grind
      have w1 : wrap64 (a.getD n 0) = a.getD n 0 := w64 (by omega) (by omega)
      have w2 : wrap64 (b.getD n 0) = b.getD n 0 := w64 (by omega) (by omega)
      have w3 : wrap64 (a.getD n 0 - c) = a.getD n 0 - c := w64 (by clear w1 w2; omega) (by clear w1 w2; omega)
      have w4 : wrap64 (a.getD n 0 - c - b.getD n 0) = a.getD n 0 - c - b.getD n 0 := w64 (by clear w1 w2 w3; omega) (by clear w1 w2 w3; omega)
      have w5 : wrap64 (a.getD n 0 - c - b.getD n 0 + 4294967296) = a.getD n 0 - c - b.getD n 0 + 4294967296 := w64 (by clear w1 w2 w3 w4; omega) (by clear w1 w2 w3 w4; omega)
      have t1 : (n : Int) < (a.length : Int) := by clear w1 w2 w3 w4 w5; omega
      have t2 : (0 : Int) ≤ (n : Int) := by clear w1 w2 w3 w4 w5; omega
      by_cases lb : n < b.length
      · have t3 : (n : Int) < (b.length : Int) := by clear w1 w2 w3 w4 w5; omega
        by_cases hneg : a.getD n 0 - c - b.getD n 0 < 0
        · refine Ev.step (f := fun k => primroseref01_Sub.l0 k a b (o ++ [(a.getD n 0 - c - b.getD n 0 + 4294967296) % 4294967296]) 1 ((n + 1 : Nat) : Int)) (fun k => ?_) (next _ 1 (by clear w1 w2 w3 w4 w5; omega) (by clear w1 w2 w3 w4 w5; omega) (by clear w1 w2 w3 w4 w5; omega) (by decide) (by decide))
          simp only [primroseref01_Sub.l0, rd_nat, w_succ e1, w1, w2, w3, w4, w5]
          rw [if_pos t1, if_pos t2, if_pos t3, if_pos hneg, if_pos hlim]
        · refine Ev.step (f := fun k => primroseref01_Sub.l0 k a b (o ++ [(a.getD n 0 - c - b.getD n 0) % 4294967296]) 0 ((n + 1 : Nat) : Int)) (fun k => ?_) (next _ 0 (by clear w1 w2 w3 w4 w5; omega) (by clear w1 w2 w3 w4 w5; omega) (by clear w1 w2 w3 w4 w5; omega) (by decide) (by decide))
          simp only [primroseref01_Sub.l0, rd_nat, w_succ e1, w1, w2, w3, w4]
          rw [if_pos t1, if_pos t2, if_pos t3, if_neg hneg, if_pos hlim]
      · have t3 : ¬ (n : Int) < (b.length : Int) := by clear w1 w2 w3 w4 w5; omega
        have eb : b.getD n 0 = 0 := getD_out (by clear w1 w2 w3 w4 w5; omega)
        rw [eb, Int.sub_zero] at w4 w5
        rw [eb, Int.sub_zero] at next
        by_cases hneg : a.getD n 0 - c < 0
        · refine Ev.step (f := fun k => primroseref01_Sub.l0 k a b (o ++ [(a.getD n 0 - c + 4294967296) % 4294967296]) 1 ((n + 1 : Nat) : Int)) (fun k => ?_) (next _ 1 (by clear w1 w2 w3 w4 w5; omega) (by clear w1 w2 w3 w4 w5; omega) (by clear w1 w2 w3 w4 w5; omega) (by decide) (by decide))
          simp only [primroseref01_Sub.l0, rd_nat, w_succ e1, w1, w3, w5]
          rw [if_pos t1, if_pos t2, if_neg t3, if_pos hneg, if_pos hlim]
        · refine Ev.step (f := fun k => primroseref01_Sub.l0 k a b (o ++ [(a.getD n 0 - c) % 4294967296]) 0 ((n + 1 : Nat) : Int)) (fun k => ?_) (next _ 0 (by clear w1 w2 w3 w4 w5; omega) (by clear w1 w2 w3 w4 w5; omega) (by clear w1 w2 w3 w4 w5; omega) (by decide) (by decide))
          simp only [primroseref01_Sub.l0, rd_nat, w_succ e1, w1, w3]
          rw [if_pos t1, if_pos t2, if_neg t3, if_neg hneg, if_pos hlim]

theorem ref_nsub_no {a b : List Int} (ha : Ok a) (hb : Ok b) (hla : a.length < 17592186044416) (hlb : b.length < 17592186044416) (h : val a < val b) :
    Ev (fun k => primroseref01_Sub.f k a b) ([], false) := by
  unfold primroseref01_Sub.f
  refine Ev.bind (ref_ncmp ha hb hla hlb) ?_
  have : cmpN (val a) (val b) = -1 := by unfold cmpN; rw [if_pos h]
  rw [this]
  exact Ev.now _

theorem ref_nsub {a b : List Int} (ha : Ok a) (hb : Ok b) (hla : a.length < 17592186044416) (hlb : b.length < 17592186044416) (h : val b ≤ val a) :
    Ev (fun k => primroseref01_Sub.f k a b) (dig (val a - val b), true) := by
  unfold primroseref01_Sub.f
  refine Ev.bind (ref_ncmp ha hb hla hlb) ?_
  have : ¬ cmpN (val a) (val b) < 0 := by unfold cmpN; split <;> (try split) <;> omega
  simp only [if_neg this]
  refine ref_sub_loop ha hb hla h _ 0 [] 0 (Nat.le_refl _) (by omega) rfl Ok.nil (by omega) (by omega) ?_
  simp [val]

/-! products -/

theorem limb_mul {x y : Int} (hx : 0 ≤ x ∧ x < 4294967296) (hy : 0 ≤ y ∧ y < 4294967296) : 0 ≤ x * y ∧ x * y ≤ 18446744065119617025 := by
  refine ⟨Int.mul_nonneg hx.1 hy.1, ?_⟩
  have : x * y ≤ 4294967295 * 4294967295 := Int.mul_le_mul (by omega) (by omega) hy.1 (by omega)
  omega

theorem am {c x y o : Int} (hc : 0 ≤ c ∧ c < 4294967296) (hx : 0 ≤ x ∧ x < 4294967296) (hy : 0 ≤ y ∧ y < 4294967296) (ho : 0 ≤ o ∧ o < 4294967296) :
    IntKind.u64.wrap (IntKind.u64.wrap (c + IntKind.u64.wrap (IntKind.u64.wrap x * IntKind.u64.wrap y)) + IntKind.u64.wrap o) = c + x * y + o := by
  have h := limb_mul hx hy
  rw [u64w (x := x) (by omega) (by omega), u64w (x := y) (by omega) (by omega), u64w (x := x * y) (by omega) (by omega), u64w (x := o) (by omega) (by omega), u64w (x := c + x * y) (by omega) (by omega), u64w (by omega) (by omega)]

theorem w_add {i j : Nat} (h : i + j < 4611686018427387904) : wrap64 ((i : Int) + (j : Int)) = ((i + j : Nat) : Int) := by rw [w64 (by omega) (by omega)]; omega

theorem getD_set_ne {l : List Int} {n t : Nat} {v : Int} (h : n ≠ t) : (l.set n v).getD t 0 = l.getD t 0 := by
  rw [List.getD_eq_getElem?_getD, List.getElem?_set_ne h, List.getD_eq_getElem?_getD]

theorem ref_mul_inner {a b : List Int} (ha : Ok a) (hb : Ok b) (hla : a.length < 17592186044416) (hlb : b.length < 17592186044416) {i : Nat} (hi : i < a.length) {V : List Int}
    (outer : ∀ o : List Int, o.length = a.length + b.length → Ok o → (∀ t, i + 1 + b.length ≤ t → o.getD t 0 = 0) → val o = val (a.take (i + 1)) * val b → Ev (fun k => primroseref01_Mul.l0 k a b o ((i + 1 : Nat) : Int)) V) :
    ∀ (m j : Nat) (o : List Int) (c : Int), b.length - j ≤ m → j ≤ b.length → o.length = a.length + b.length → Ok o → 0 ≤ c ∧ c < 4294967296 → (∀ t, i + b.length ≤ t → o.getD t 0 = 0) →
      val o + pw (i + j) * c.toNat = val (a.take i) * val b + pw i * (a.getD i 0).toNat * val (b.take j) →
      Ev (fun k => primroseref01_Mul.l1 k a b o (i : Int) c (j : Int)) V := by
  have done : ∀ (o : List Int) (c : Int), o.length = a.length + b.length → Ok o → 0 ≤ c ∧ c < 4294967296 → (∀ t, i + b.length ≤ t → o.getD t 0 = 0) →
      val o + pw (i + b.length) * c.toNat = val (a.take i) * val b + pw i * (a.getD i 0).toNat * val (b.take b.length) →
      Ev (fun k => primroseref01_Mul.l1 k a b o (i : Int) c (b.length : Int)) V := by
    intro o c hol ho hc hz hv
    have e1 : i < 4611686018427387904 := by omega
    have e2 : i + b.length < 4611686018427387904 := by omega
    have e3 : ((i + b.length : Nat) : Int).toNat = i + b.length := by omega
    have e4 : c % 4294967296 = c := by omega
    refine Ev.step (f := fun k => primroseref01_Mul.l0 k a b (o.set (i + b.length) c) ((i + 1 : Nat) : Int)) (fun k => ?_) (outer _ (by simp [hol]) (ho.set _ hc.1 hc.2) (fun t ht => ?_) ?_)
    · simp only [primroseref01_Mul.l1, w_add e2, w_succ e1, e3, e4]
      rw [if_neg (by omega), if_pos (by omega), if_pos (by omega)]
    · rw [getD_set_ne (by omega)]; exact hz t (by omega)
    · have hs := val_set o (i + b.length) c (by omega)
      rw [hz _ (Nat.le_refl _)] at hs
      rw [val_take_all b (Nat.le_refl _)] at hv
      rw [val_take_succ a i, Nat.add_mul, ← hv, ← hs]
      simp
  intro m
  induction m with
  | zero =>
    intro j o c hm hj hol ho hc hz hv
    have hj2 : j = b.length := by omega
    subst hj2
    exact done o c hol ho hc hz hv
  | succ m ih =>
    intro j o c hm hj hol ho hc hz hv
    by_cases hj2 : j = b.length
    · subst hj2; exact done o c hol ho hc hz hv
    · have e1 : j < 4611686018427387904 := by omega
      have e2 : i + j < 4611686018427387904 := by omega
      have e3 : ((i + j : Nat) : Int).toNat = i + j := by omega
      have hx := ha.getD i
      have hy := hb.getD j
      have hoo := ho.getD (i + j)
      have hxy := limb_mul hx hy
      refine Ev.step (f := fun k => primroseref01_Mul.l1 k a b (o.set (i + j) ((c + a.getD i 0 * b.getD j 0 + o.getD (i + j) 0) % 4294967296)) (i : Int) ((c + a.getD i 0 * b.getD j 0 + o.getD (i + j) 0) / 4294967296) ((j + 1 : Nat) : Int)) (fun k => ?_)
        (ih (j + 1) _ _ (by omega) (by omega) (by simp [hol]) (ho.set _ (by omega) (by omega)) (by omega) (fun t ht => ?_) ?_)
      · simp only [primroseref01_Mul.l1, w_add e2, w_succ e1, e3, rd_nat]
        rw [if_pos (by omega), if_pos (by omega), if_pos (by omega), if_pos (by omega), if_pos (by omega), if_pos (by omega), am hc hx hy hoo, alow (by omega), ahigh (by omega) (by omega)]
      · rw [getD_set_ne (by omega)]; exact hz t ht
      · have hs := val_set o (i + j) ((c + a.getD i 0 * b.getD j 0 + o.getD (i + j) 0) % 4294967296) (by omega)
        rw [val_take_succ b j, ← Nat.add_assoc, pw_succ, pw_add i j]
        rw [pw_add i j] at hv hs
        have hc' : ((c + a.getD i 0 * b.getD j 0 + o.getD (i + j) 0) % 4294967296).toNat + 4294967296 * ((c + a.getD i 0 * b.getD j 0 + o.getD (i + j) 0) / 4294967296).toNat = c.toNat + (a.getD i 0).toNat * (b.getD j 0).toNat + (o.getD (i + j) 0).toNat := by
          have e : ((a.getD i 0 * b.getD j 0).toNat) = (a.getD i 0).toNat * (b.getD j 0).toNat := Int.toNat_mul hx.1 hy.1
          rw [← e]; omega
        generalize ((c + a.getD i 0 * b.getD j 0 + o.getD (i + j) 0) % 4294967296) = r at *
        generalize ((c + a.getD i 0 * b.getD j 0 + o.getD (i + j) 0) / 4294967296) = q at *
        generalize val (o.set (i + j) r) = vs at *
        generalize (o.getD (i + j) 0).toNat = oo at *
        generalize (a.getD i 0).toNat = xa at *
        generalize (b.getD j 0).toNat = xb at *
        generalize pw i = P at *
        generalize pw j = Q at *
        clear hx hy hoo hxy done outer ih
        grind

theorem ref_mul_outer {a b : List Int} (ha : Ok a) (hb : Ok b) (hla : a.length < 17592186044416) (hlb : b.length < 17592186044416) :
    ∀ (m i : Nat) (o : List Int), a.length - i ≤ m → i ≤ a.length → o.length = a.length + b.length → Ok o → (∀ t, i + b.length ≤ t → o.getD t 0 = 0) → val o = val (a.take i) * val b →
      Ev (fun k => primroseref01_Mul.l0 k a b o (i : Int)) (dig (val a * val b)) := by
  have done : ∀ o : List Int, o.length = a.length + b.length → Ok o → val o = val (a.take a.length) * val b → Ev (fun k => primroseref01_Mul.l0 k a b o (a.length : Int)) (dig (val a * val b)) := by
    intro o hol ho hv
    rw [val_take_all a (Nat.le_refl _)] at hv
    rw [← hv]
    refine Ev.step (f := fun k => (primroseref01_Plain.f k o).bind fun t281 => (some t281)) (fun k => ?_) (Ev.bind (ref_plain ho (by omega)) (Ev.now _))
    simp only [primroseref01_Mul.l0]
    rw [if_neg (by omega)]
  intro m
  induction m with
  | zero =>
    intro i o hm hi hol ho hz hv
    have hi2 : i = a.length := by omega
    subst hi2
    exact done o hol ho hv
  | succ m ih =>
    intro i o hm hi hol ho hz hv
    by_cases hi2 : i = a.length
    · subst hi2; exact done o hol ho hv
    · have := ref_mul_inner ha hb hla hlb (show i < a.length by omega) (V := dig (val a * val b)) (fun o' h1 h2 h3 h4 => ih (i + 1) o' (by omega) (by omega) h1 h2 h3 h4) b.length 0 o 0 (by omega) (by omega) hol ho (by omega) hz (by simp [hv, val])
      refine Ev.step (f := fun k => primroseref01_Mul.l1 k a b o (i : Int) 0 0) (fun k => ?_) this
      simp only [primroseref01_Mul.l0]
      rw [if_pos (by omega)]

theorem ref_nmul {a b : List Int} (ha : Ok a) (hb : Ok b) (hla : a.length < 17592186044416) (hlb : b.length < 17592186044416) :
    Ev (fun k => primroseref01_Mul.f k a b) (dig (val a * val b)) := by
  unfold primroseref01_Mul.f
  have e1 : a.length + b.length < 4611686018427387904 := by omega
  have e3 : ((a.length + b.length : Nat) : Int).toNat = a.length + b.length := by omega
  simp only [w_add e1, e3]
  simp only [if_pos (show (0 : Int) ≤ ((a.length + b.length : Nat) : Int) by omega), if_pos (show a.length + b.length ≤ 70368744177664 by omega)]
  refine ref_mul_outer ha hb hla hlb a.length 0 _ (by omega) (by omega) (by simp) (Ok.replicate _) (fun t _ => ?_) ?_
  · rw [List.getD_eq_getElem?_getD, List.getElem?_replicate]; split <;> rfl
  · rw [val_replicate]; simp [val]

/-! whole numbers -/

theorem ref_zadd {p q : Bool} {a b : List Int} (ha : Ok a) (hb : Ok b) (hla : a.length < 8796093022208) (hlb : b.length < 8796093022208) :
    Ev (fun k => primroseref02_Add.f k p a q b) (sg (zval p a + zval q b), mg (zval p a + zval q b)) := by
  have dl : ∀ (v : Nat) (n : Nat), v < pw n → n < 17592186044416 → (dig v).length < 35184372088832 := fun v n h hn => by have := dig_len_le h; omega
  have la := val_lt ha
  have lb := val_lt hb
  unfold primroseref02_Add.f
  by_cases he : p = q
  · subst he
    simp only [beq_self_eq_true, if_true]
    have hl : val a + val b < pw (max a.length b.length + 1) := by
      have h1 := pw_le (show a.length ≤ max a.length b.length by omega)
      have h2 := pw_le (show b.length ≤ max a.length b.length by omega)
      rw [pw_succ]; omega
    refine Ev.bind (ref_nadd ha hb (by omega) (by omega)) ?_
    have hm := ref_make (ok_dig (val a + val b)) (dl _ _ hl (by omega)) p
    have e : zval p (dig (val a + val b)) = zval p a + zval p b := by
      unfold zval; rw [val_dig]; cases p <;> simp <;> omega
    rw [e] at hm
    exact Ev.bind hm (Ev.now _)
  · have hb2 : (p == q) = false := by simpa using he
    simp only [hb2, Bool.false_eq_true, if_false]
    by_cases hle : val b ≤ val a
    · refine Ev.bind (ref_nsub ha hb (by omega) (by omega) hle) ?_
      simp only [if_true]
      have hm := ref_make (ok_dig (val a - val b)) (dl _ a.length (by omega) (by omega)) p
      have e : zval p (dig (val a - val b)) = zval p a + zval q b := by
        unfold zval; rw [val_dig]; cases p <;> cases q <;> simp_all <;> omega
      rw [e] at hm
      exact Ev.bind hm (Ev.now _)
    · refine Ev.bind (ref_nsub_no ha hb (by omega) (by omega) (by omega)) ?_
      simp only [Bool.false_eq_true, if_false]
      refine Ev.bind (ref_nsub hb ha (by omega) (by omega) (by omega)) ?_
      have hm := ref_make (ok_dig (val b - val a)) (dl _ b.length (by omega) (by omega)) q
      have e : zval q (dig (val b - val a)) = zval p a + zval q b := by
        unfold zval; rw [val_dig]; cases p <;> cases q <;> simp_all <;> omega
      rw [e] at hm
      exact Ev.bind hm (Ev.now _)

theorem ref_zmul {p q : Bool} {a b : List Int} (ha : Ok a) (hb : Ok b) (hla : a.length < 8796093022208) (hlb : b.length < 8796093022208) :
    Ev (fun k => primroseref02_Mul.f k p a q b) (sg (zval p a * zval q b), mg (zval p a * zval q b)) := by
  have la := val_lt ha
  have lb := val_lt hb
  unfold primroseref02_Mul.f
  refine Ev.bind (ref_nmul ha hb (by omega) (by omega)) ?_
  have hl : val a * val b < pw (a.length + b.length) := by rw [pw_add]; exact Nat.mul_lt_mul'' la lb
  have hm := ref_make (ok_dig (val a * val b)) (by have := dig_len_le hl; omega) (p != q)
  have e : zval (p != q) (dig (val a * val b)) = zval p a * zval q b := by
    unfold zval; rw [val_dig]
    cases p <;> cases q <;> simp [Int.neg_mul, Int.mul_neg]
  rw [e] at hm
  exact Ev.bind hm (Ev.now _)

end Go.Proofs.Ytmgjjdodjamomaa.Pure
