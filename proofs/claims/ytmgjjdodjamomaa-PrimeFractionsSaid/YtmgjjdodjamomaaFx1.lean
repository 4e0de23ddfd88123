/- Functions with the same answers as the Go code, and the proofs of that; printed by a turned copy of the print, shortened by programs (wip/tools). -/
import Derived.Test.YtmgjjdodjamomaaFW
import Derived.Test.YtmgjjdodjamomaaFx0
namespace Go.Proofs.Ytmgjjdodjamomaa.PB
open Go.RowKit Go.Proofs.YtmgjjdodjamomaaW.PrintWords Go.Proofs.YtmgjjdodjamomaaW.PrintLast Go.Proofs.YtmgjjdodjamomaaW.PrintMore
attribute [local go_sem] max2_int max_two
set_option linter.unusedVariables false
set_option linter.unusedSimpArgs false
mutual
def prime_Is.j0 : Nat → Int → Bool → Option (Bool)
  | 0, _, _ => none
  | k + 1, x0, x9 => if x9 = true then (some false) else (if x0 < 4 then (some true) else (if (Int.tmod x0 2) = 0 then (prime_Is.j1 k x0 true) else (prime_Is.j1 k x0 ((Int.tmod x0 3) == 0))))
def prime_Is.j1 : Nat → Int → Bool → Option (Bool)
  | 0, _, _ => none
  | k + 1, x0, x19 => if x19 = true then (some false) else (prime_Is.l0 k x0 5)
def prime_Is.l0 : Nat → Int → Int → Option (Bool)
  | 0, _, _ => none
  | k + 1, x0, x3 => if (wrap64 (x3 * x3)) ≤ x0 then (if x3 = 0 then (none) else (if (Int.tmod x0 x3) = 0 then (some false) else (if (wrap64 (x3 + 2)) = 0 then (none) else (if (Int.tmod x0 (wrap64 (x3 + 2))) = 0 then (some false) else (prime_Is.l0 k x0 (wrap64 (x3 + 6))))))) else (some true)
end
def prime_Is.f (k : Nat) (a0 : Int) : Option (Bool) := if a0 < 2 then (prime_Is.j0 k a0 true) else (prime_Is.j0 k a0 (decide (a0 ≥ 2147483648)))
theorem prime_Is.mono_l : ∀ k, (∀ y0 y1, LeO (prime_Is.j0 k y0 y1) (prime_Is.j0 (k + 1) y0 y1)) ∧ (∀ y0 y1, LeO (prime_Is.j1 k y0 y1) (prime_Is.j1 (k + 1) y0 y1)) ∧ (∀ y0 y1, LeO (prime_Is.l0 k y0 y1) (prime_Is.l0 (k + 1) y0 y1))
  | 0 => ⟨fun _ _ r h => by simp [prime_Is.j0] at h, fun _ _ r h => by simp [prime_Is.j1] at h, fun _ _ r h => by simp [prime_Is.l0] at h⟩
  | k + 1 => by
    obtain ⟨ih0, ih1, ih2⟩ := prime_Is.mono_l k
    refine ⟨?_, ?_, ?_⟩
    · intro y0 y1
      unfold prime_Is.j0
      repeat' first | (with_reducible exact ih1 _ _) | (with_reducible exact LeO.refl _) | (with_reducible refine LeO.ite ?_ ?_)
    · intro y0 y1
      unfold prime_Is.j1
      repeat' first | (with_reducible exact ih2 _ _) | (with_reducible exact LeO.refl _) | (with_reducible refine LeO.ite ?_ ?_)
    · intro y0 y1
      unfold prime_Is.l0
      repeat' first | (with_reducible exact ih2 _ _) | (with_reducible exact LeO.refl _) | (with_reducible refine LeO.ite ?_ ?_)
theorem prime_Is.mono : ∀ a0 k, LeO (prime_Is.f k a0) (prime_Is.f (k + 1) a0) := by
  intro a0 k
  obtain ⟨ih0, ih1, ih2⟩ := prime_Is.mono_l k
  unfold prime_Is.f
  repeat' first | (with_reducible exact ih0 _ _) | (with_reducible refine LeO.ite ?_ ?_)
set_option maxHeartbeats 8000000 in
set_option maxRecDepth 100000 in
theorem prime_Is.calls (k : Nat) (a0 : Int) (r : Bool) (w : World) (h : prime_Is.f k a0 = some r) :
    Calls Try.prog 12 #[.int .i64 a0] w fun e w' => e = .returned (.bool r) ∧ Drawn0 w w' := by
  have H : (if a0 < 2 then (prime_Is.j0 k a0 true) else (prime_Is.j0 k a0 (decide (a0 ≥ 2147483648)))) = some r := h
  clear h
  have HC2 := Aside0.mk H
  clear H
  go_enter Try.func12, Try.ntmps12
  (go_wp2)
  go_step3
  go_upto_region 1 with (fail)
  go_cut [9] (fun v9 wc => ∃ (kq : Nat) (x9_1 : Bool), v9 = .bool x9_1 ∧ Aside0 (prime_Is.j0 kq a0 x9_1 = some r) ∧ Aside0 (kq ≤ k) ∧ Drawn0 w wc)
  case first =>
    have H := HC2.out
    clear HC2
    by_cases c3 : a0 < 2
    · rw [if_pos c3] at H
      have c3b0 : decide (a0 < 2) = true := decide_eq_true c3
      clear c3
      (skip)
      have H' := Aside0.mk H
      clear H
      go_wp2
      go_meet
      case rel => exact ⟨_, (true), (by (rfl)), H', ⟨by (omega)⟩, (Drawn0.refl _)⟩
    · rw [if_neg c3] at H
      have c3b0 : decide (a0 < 2) = false := decide_eq_false c3
      clear c3
      (skip)
      have H' := Aside0.mk H
      clear H
      go_wp2
      go_meet
      case rel => exact ⟨_, (decide (a0 ≥ 2147483648)), (by (rfl)), H', ⟨by (omega)⟩, (Drawn0.refl _)⟩
  case rest =>
    clear HC2
    obtain ⟨kq, x9_1, rfl, HA, HJ1, ⟨mc1, rfl⟩⟩ := hcut
    cases kq with
    | zero => exact absurd HA.out (by simp [prime_Is.j0])
    | succ kj1 =>
      have H := HA.out
      clear HA
      simp only [prime_Is.j0] at H
      by_cases c4 : x9_1 = true
      · subst c4
        have H1 : (some false) = some r := by rw [if_pos rfl] at H; exact H
        clear H
        have H := H1
        clear H1
        obtain rfl := Option.some.inj H
        go_wp2
        (go_ret)
        exact ⟨by (rfl), by repeat (first | exact Drawn0.refl _ | apply Drawn0.step)⟩
      · replace c4 := Bool.eq_false_iff.mpr c4
        subst c4
        have H1 : (if a0 < 4 then (some true) else (if (Int.tmod a0 2) = 0 then (prime_Is.j1 kj1 a0 true) else (prime_Is.j1 kj1 a0 ((Int.tmod a0 3) == 0)))) = some r := by rw [if_neg (show ¬ (false = true) by decide)] at H; exact H
        clear H
        have H := H1
        clear H1
        by_cases c5 : a0 < 4
        · rw [if_pos c5] at H
          have c5b0 : decide (a0 < 4) = true := decide_eq_true c5
          clear c5
          obtain rfl := Option.some.inj H
          go_wp2
          (go_ret)
          exact ⟨by (rfl), by repeat (first | exact Drawn0.refl _ | apply Drawn0.step)⟩
        · rw [if_neg c5] at H
          have c5b0 : decide (a0 < 4) = false := decide_eq_false c5
          clear c5
          have HC6 := Aside0.mk H
          clear H
          go_upto_region 5 with (fail)
          go_cut [19] (fun v19 wc => ∃ (kq : Nat) (x19_5 : Bool), v19 = .bool x19_5 ∧ Aside0 (prime_Is.j1 kq a0 x19_5 = some r) ∧ Aside0 (kq ≤ kj1) ∧ Drawn0 w wc)
          case first =>
            have H := HC6.out
            clear HC6
            by_cases c7 : (Int.tmod a0 2) = 0
            · rw [if_pos c7] at H
              have c7b0 : ((Int.tmod a0 2) == 0) = true := beq_iff_eq.mpr c7
              have c7b1 : ((Int.tmod a0 2) != 0) = false := bne_eq_false_iff_eq.mpr c7
              clear c7
              (skip)
              have H' := Aside0.mk H
              clear H
              go_wp2
              go_meet
              case rel => exact ⟨_, (true), (by (rfl)), H', ⟨by have := HJ1.out; (omega)⟩, by repeat (first | exact Drawn0.refl _ | apply Drawn0.step)⟩
            · rw [if_neg c7] at H
              have c7b0 : ((Int.tmod a0 2) == 0) = false := beq_eq_false_iff_ne.mpr c7
              have c7b1 : ((Int.tmod a0 2) != 0) = true := bne_iff_ne.mpr c7
              (skip)
              have H' := Aside0.mk H
              clear H
              go_wp2
              go_meet
              case rel => exact ⟨_, ((Int.tmod a0 3) == 0), (by (rfl)), H', ⟨by have := HJ1.out; (omega)⟩, by repeat (first | exact Drawn0.refl _ | apply Drawn0.step)⟩
          case rest =>
            clear HC6
            try clear c5b0
            obtain ⟨kq, x19_5, rfl, HA, HJ5, ⟨mc5, rfl⟩⟩ := hcut
            cases kq with
            | zero => exact absurd HA.out (by simp [prime_Is.j1])
            | succ kj5 =>
              have H := HA.out
              clear HA
              simp only [prime_Is.j1] at H
              by_cases c8 : x19_5 = true
              · subst c8
                have H1 : (some false) = some r := by rw [if_pos rfl] at H; exact H
                clear H
                have H := H1
                clear H1
                obtain rfl := Option.some.inj H
                go_wp2
                (go_ret)
                exact ⟨by (rfl), by repeat (first | exact Drawn0.refl _ | apply Drawn0.step)⟩
              · replace c8 := Bool.eq_false_iff.mpr c8
                subst c8
                have H1 : (prime_Is.l0 kj5 a0 5) = some r := by rw [if_neg (show ¬ (false = true) by decide)] at H; exact H
                clear H
                have H := H1
                clear H1
                have H' := Aside0.mk H
                clear H
                go_wp2
                try (go_step3; go_wp2)
                go_loopg [3] kj5 (fun kq v3 w' => ∃ (x3_3 : Int), v3 = .int .i64 x3_3 ∧ Aside0 (prime_Is.l0 kq a0 x3_3 = some r) ∧ Aside0 (kq ≤ kj5) ∧ Drawn0 w w')
                case atStart => exact ⟨(5), (by (rfl)), H', ⟨Nat.le_refl _⟩, by repeat (first | exact Drawn0.refl _ | apply Drawn0.step)⟩
                case round =>
                  clear H'
                  obtain ⟨x3_3, rfl, HA, HK3, ⟨m3, rfl⟩⟩ := hrel
                  cases gk with
                  | zero => exact absurd HA.out (by simp [prime_Is.l0])
                  | succ k3 =>
                    have H := HA.out
                    clear HA
                    simp only [prime_Is.l0] at H
                    by_cases c9 : (wrap64 (x3_3 * x3_3)) ≤ a0
                    · rw [if_pos c9] at H
                      have c9b0 : decide ((wrap64 (x3_3 * x3_3)) ≤ a0) = true := decide_eq_true c9
                      clear c9
                      by_cases c10 : x3_3 = 0
                      · rw [if_pos c10] at H
                        exact absurd H (by simp)
                      · rw [if_neg c10] at H
                        have c10b0 : (x3_3 == 0) = false := beq_eq_false_iff_ne.mpr c10
                        have c10b1 : (x3_3 != 0) = true := bne_iff_ne.mpr c10
                        by_cases c11 : (Int.tmod a0 x3_3) = 0
                        · rw [if_pos c11] at H
                          have c11b0 : ((Int.tmod a0 x3_3) == 0) = true := beq_iff_eq.mpr c11
                          have c11b1 : ((Int.tmod a0 x3_3) != 0) = false := bne_eq_false_iff_eq.mpr c11
                          clear c11
                          obtain rfl := Option.some.inj H
                          go_wp2
                          (go_ret)
                          exact ⟨by (rfl), by repeat (first | exact Drawn0.refl _ | apply Drawn0.step)⟩
                        · rw [if_neg c11] at H
                          have c11b0 : ((Int.tmod a0 x3_3) == 0) = false := beq_eq_false_iff_ne.mpr c11
                          have c11b1 : ((Int.tmod a0 x3_3) != 0) = true := bne_iff_ne.mpr c11
                          by_cases c12 : (wrap64 (x3_3 + 2)) = 0
                          · rw [if_pos c12] at H
                            exact absurd H (by simp)
                          · rw [if_neg c12] at H
                            have c12b0 : ((wrap64 (x3_3 + 2)) == 0) = false := beq_eq_false_iff_ne.mpr c12
                            have c12b1 : ((wrap64 (x3_3 + 2)) != 0) = true := bne_iff_ne.mpr c12
                            by_cases c13 : (Int.tmod a0 (wrap64 (x3_3 + 2))) = 0
                            · rw [if_pos c13] at H
                              have c13b0 : ((Int.tmod a0 (wrap64 (x3_3 + 2))) == 0) = true := beq_iff_eq.mpr c13
                              have c13b1 : ((Int.tmod a0 (wrap64 (x3_3 + 2))) != 0) = false := bne_eq_false_iff_eq.mpr c13
                              clear c13
                              obtain rfl := Option.some.inj H
                              go_wp2
                              (go_ret)
                              exact ⟨by (rfl), by repeat (first | exact Drawn0.refl _ | apply Drawn0.step)⟩
                            · rw [if_neg c13] at H
                              have c13b0 : ((Int.tmod a0 (wrap64 (x3_3 + 2))) == 0) = false := beq_eq_false_iff_ne.mpr c13
                              have c13b1 : ((Int.tmod a0 (wrap64 (x3_3 + 2))) != 0) = true := bne_iff_ne.mpr c13
                              have H' := Aside0.mk H
                              clear H
                              go_wp2
                              go_roundg k3
                              case measure => have := HJ1.out; have := HJ5.out; have := HK3.out; omega
                              case rel => exact ⟨(wrap64 (x3_3 + 6)), (by (rfl)), H', ⟨by have := HJ1.out; have := HJ5.out; have := HK3.out; omega⟩, by repeat (first | exact Drawn0.refl _ | apply Drawn0.step)⟩
                    · rw [if_neg c9] at H
                      have c9b0 : decide ((wrap64 (x3_3 * x3_3)) ≤ a0) = false := decide_eq_false c9
                      clear c9
                      obtain rfl := Option.some.inj H
                      go_wp2
                      (go_ret)
                      exact ⟨by (rfl), by repeat (first | exact Drawn0.refl _ | apply Drawn0.step)⟩
end Go.Proofs.Ytmgjjdodjamomaa.PB
