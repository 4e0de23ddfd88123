/- Functions with the same answers as the Go code, and the proofs of that; printed by a turned copy of the print, shortened by programs (wip/tools). -/
import Derived.Test.YtmgjjdodjamomaaFW
import Derived.Test.YtmgjjdodjamomaaFx0
namespace Go.Proofs.Ytmgjjdodjamomaa.PB
open Go.RowKit Go.Proofs.YtmgjjdodjamomaaW.PrintWords Go.Proofs.YtmgjjdodjamomaaW.PrintLast Go.Proofs.YtmgjjdodjamomaaW.PrintMore
attribute [local go_sem] max2_int max_two
set_option linter.unusedVariables false
set_option linter.unusedSimpArgs false
mutual
def primroseref01_Cmp.l0 : Nat → List Int → List Int → Int → Option (Int)
  | 0, _, _, _ => none
  | k + 1, x0, x1, x5 => if x5 ≥ 0 then (if x5 < (x0.length : Int) then (if 0 ≤ x5 then (primroseref01_Cmp.j1 k x0 x1 x5 (rd x0 x5) 0) else (none)) else (primroseref01_Cmp.j1 k x0 x1 x5 0 0)) else (some 0)
def primroseref01_Cmp.j1 : Nat → List Int → List Int → Int → Int → Int → Option (Int)
  | 0, _, _, _, _, _ => none
  | k + 1, x0, x1, x5, x6, x7 => if x5 < (x1.length : Int) then (if 0 ≤ x5 then (primroseref01_Cmp.j2 k x0 x1 x5 x6 (rd x1 x5)) else (none)) else (primroseref01_Cmp.j2 k x0 x1 x5 x6 x7)
def primroseref01_Cmp.j2 : Nat → List Int → List Int → Int → Int → Int → Option (Int)
  | 0, _, _, _, _, _ => none
  | k + 1, x0, x1, x5, x6, x7 => if x6 < x7 then (some (-1)) else (if x6 > x7 then (some 1) else (primroseref01_Cmp.l0 k x0 x1 (wrap64 (x5 - 1))))
end
def primroseref01_Cmp.f (k : Nat) (l0 : List Int) (l1 : List Int) : Option (Int) := primroseref01_Cmp.l0 k l0 l1 (wrap64 ((mx (l0.length : Int) (l1.length : Int)) - 1))
set_option maxHeartbeats 8000000 in
set_option maxRecDepth 100000 in
theorem primroseref01_Cmp.calls (k : Nat) (A0 : Option Addr) (c0 : Nat) (l0 : List Int) (A1 : Option Addr) (c1 : Nat) (l1 : List Int) (r : Int) (w : World) (hr0 : Kd.C (Kd.int .u32) w A0 l0.length l0) (hc0 : l0.length ≤ c0) (hr1 : Kd.C (Kd.int .u32) w A1 l1.length l1) (hc1 : l1.length ≤ c1) (h : primroseref01_Cmp.f k l0 l1 = some r) :
    Calls Try.prog 52 #[.slice A0 l0.length c0, .slice A1 l1.length c1] w fun e w' => e = .returned (.int .i64 r) ∧ Below w.heap.size w w' := by
  have HR0 := Aside0.mk hr0
  have HC0 := Aside0.mk hc0
  clear hr0 hc0
  have HR1 := Aside0.mk hr1
  have HC1 := Aside0.mk hc1
  clear hr1 hc1
  have HB := Aside0.mk (Below.refl w.heap.size w)
  have H : (primroseref01_Cmp.l0 k l0 l1 (wrap64 ((mx (l0.length : Int) (l1.length : Int)) - 1))) = some r := h
  clear h
  obtain ⟨ji3, hji3⟩ : ∃ j_ : Int, (mx (l0.length : Int) (l1.length : Int)) = j_ := ⟨_, rfl⟩
  replace H : (primroseref01_Cmp.l0 k l0 l1 (wrap64 ((ji3) - 1))) = some r := by (rw [hji3] at H; exact H)
  (try (have hji3l : 0 ≤ ji3 := by (rw [← hji3]; unfold mx; (repeat' split) <;> omega)))
  (try (have hji3m : 0 ≤ ji3 := by omega))
  have hji3_ : (if (l0.length : Int) < (l1.length : Int) then (l1.length : Int) else (l0.length : Int)) = ji3 := hji3
  have hji3n : (if l0.length < l1.length then (l1.length : Int) else (l0.length : Int)) = ji3 := by simpa only [Int.ofNat_lt] using hji3_
  have H' := Aside0.mk H
  clear H
  go_enter Try.func52, Try.ntmps52
  go_wp2
  go_loopg [5] k (fun kq v5 w' => ∃ (x5_1 : Int), v5 = .int .i64 x5_1 ∧ Aside0 (primroseref01_Cmp.l0 kq l0 l1 x5_1 = some r) ∧ Aside0 (kq ≤ k) ∧ Aside0 (Below w.heap.size w w'))
  case atStart => exact ⟨(wrap64 ((ji3) - 1)), (by (rfl)), H', ⟨Nat.le_refl _⟩, ⟨(HB.out)⟩⟩
  case round =>
    clear H'
    obtain ⟨x5_1, rfl, HA, HK1, HB⟩ := hrel
    cases gk with
    | zero => exact absurd HA.out (by simp [primroseref01_Cmp.l0])
    | succ k1 =>
      have H := HA.out
      clear HA
      simp only [primroseref01_Cmp.l0] at H
      by_cases c4 : x5_1 ≥ 0
      · rw [if_pos c4] at H
        have c4b0 : decide (0 ≤ x5_1) = true := decide_eq_true c4
        clear c4
        have HC5 := Aside0.mk H
        clear H
        go_upto_if 21 with (fail)
        go_cut [6] (fun v6 wc => ∃ (kq : Nat) (x6_4 : Int), v6 = .int .u32 x6_4 ∧ Aside0 (primroseref01_Cmp.j1 kq l0 l1 x5_1 x6_4 0 = some r) ∧ Aside0 (kq ≤ k1) ∧ Aside0 (Below w.heap.size w wc))
        case first =>
          have H := HC5.out
          clear HC5
          by_cases c6 : x5_1 < (l0.length : Int)
          · rw [if_pos c6] at H
            have c6b0 : decide (x5_1 < (l0.length : Int)) = true := decide_eq_true c6
            clear c6
            (rw [c6b0])
            by_cases c7 : 0 ≤ x5_1
            · rw [if_pos c7] at H
              have c7b0 : decide (0 ≤ x5_1) = true := decide_eq_true c7
              clear c7
              have H' := Aside0.mk H
              clear H
              have p232 : 0 ≤ (x5_1 : Int) := of_decide_eq_true (by (with_reducible assumption))
              have q232 : x5_1 < (l0.length : Int) := of_decide_eq_true (by (with_reducible assumption))
              obtain ⟨ad232, e232, hx232_0⟩ := Kd.at_int HR0.out x5_1 p232 q232
              cases e232
              replace hx232_0 := (HB.out.cell (World.block_lt_of_cell? w _ hx232_0)).trans hx232_0
              replace p232 := eq_true p232
              replace q232 := eq_true q232
              go_wp2
              go_meet
              case rel => exact ⟨_, (rd l0 x5_1), (by (rfl)), H', ⟨by have := HK1.out; (omega)⟩, ⟨(HB.out)⟩⟩
            · rw [if_neg c7] at H
              exact absurd H (by simp)
          · rw [if_neg c6] at H
            have c6b0 : decide (x5_1 < (l0.length : Int)) = false := decide_eq_false c6
            clear c6
            (rw [c6b0])
            have H' := Aside0.mk H
            clear H
            go_wp2
            go_meet
            case rel => exact ⟨_, (0), (by (rfl)), H', ⟨by have := HK1.out; (omega)⟩, ⟨(HB.out)⟩⟩
        case rest =>
          clear HC5
          try clear c4b0
          obtain ⟨kq, x6_4, rfl, HA, HJ4, HB⟩ := hcut
          cases kq with
          | zero => exact absurd HA.out (by simp [primroseref01_Cmp.j1])
          | succ kj4 =>
            have H := HA.out
            clear HA
            simp only [primroseref01_Cmp.j1] at H
            have HC8 := Aside0.mk H
            clear H
            go_upto_if 29 with (fail)
            go_cut [7] (fun v7 wc => ∃ (kq : Nat) (x7_7 : Int), v7 = .int .u32 x7_7 ∧ Aside0 (primroseref01_Cmp.j2 kq l0 l1 x5_1 x6_4 x7_7 = some r) ∧ Aside0 (kq ≤ kj4) ∧ Aside0 (Below w.heap.size w wc))
            case first =>
              have H := HC8.out
              clear HC8
              by_cases c9 : x5_1 < (l1.length : Int)
              · rw [if_pos c9] at H
                have c9b0 : decide (x5_1 < (l1.length : Int)) = true := decide_eq_true c9
                clear c9
                (rw [c9b0])
                by_cases c10 : 0 ≤ x5_1
                · rw [if_pos c10] at H
                  have c10b0 : decide (0 ≤ x5_1) = true := decide_eq_true c10
                  clear c10
                  have H' := Aside0.mk H
                  clear H
                  have p233 : 0 ≤ (x5_1 : Int) := of_decide_eq_true (by (with_reducible assumption))
                  have q233 : x5_1 < (l1.length : Int) := of_decide_eq_true (by (with_reducible assumption))
                  obtain ⟨ad233, e233, hx233_0⟩ := Kd.at_int HR1.out x5_1 p233 q233
                  cases e233
                  replace hx233_0 := (HB.out.cell (World.block_lt_of_cell? w _ hx233_0)).trans hx233_0
                  replace p233 := eq_true p233
                  replace q233 := eq_true q233
                  go_wp2
                  go_meet
                  case rel => exact ⟨_, (rd l1 x5_1), (by (rfl)), H', ⟨by have := HK1.out; have := HJ4.out; (omega)⟩, ⟨(HB.out)⟩⟩
                · rw [if_neg c10] at H
                  exact absurd H (by simp)
              · rw [if_neg c9] at H
                have c9b0 : decide (x5_1 < (l1.length : Int)) = false := decide_eq_false c9
                clear c9
                (rw [c9b0])
                have H' := Aside0.mk H
                clear H
                go_wp2
                go_meet
                case rel => exact ⟨_, (0), (by (rfl)), H', ⟨by have := HK1.out; have := HJ4.out; (omega)⟩, ⟨(HB.out)⟩⟩
            case rest =>
              clear HC8
              obtain ⟨kq, x7_7, rfl, HA, HJ7, HB⟩ := hcut
              cases kq with
              | zero => exact absurd HA.out (by simp [primroseref01_Cmp.j2])
              | succ kj7 =>
                have H := HA.out
                clear HA
                simp only [primroseref01_Cmp.j2] at H
                by_cases c11 : x6_4 < x7_7
                · rw [if_pos c11] at H
                  have c11b0 : decide (x6_4 < x7_7) = true := decide_eq_true c11
                  clear c11
                  obtain rfl := Option.some.inj H
                  go_wp2
                  go_ret
                  exact ⟨by (rfl), (HB.out)⟩
                · rw [if_neg c11] at H
                  have c11b0 : decide (x6_4 < x7_7) = false := decide_eq_false c11
                  clear c11
                  by_cases c12 : x6_4 > x7_7
                  · rw [if_pos c12] at H
                    have c12b0 : decide (x7_7 < x6_4) = true := decide_eq_true c12
                    clear c12
                    obtain rfl := Option.some.inj H
                    go_wp2
                    go_ret
                    exact ⟨by (rfl), (HB.out)⟩
                  · rw [if_neg c12] at H
                    have c12b0 : decide (x7_7 < x6_4) = false := decide_eq_false c12
                    clear c12
                    have H' := Aside0.mk H
                    clear H
                    go_wp2
                    go_roundg kj7
                    case measure => have := HK1.out; have := HJ4.out; have := HJ7.out; omega
                    case rel => exact ⟨(wrap64 (x5_1 - 1)), (by (rfl)), H', ⟨by have := HK1.out; have := HJ4.out; have := HJ7.out; omega⟩, ⟨(HB.out)⟩⟩
      · rw [if_neg c4] at H
        have c4b0 : decide (0 ≤ x5_1) = false := decide_eq_false c4
        clear c4
        obtain rfl := Option.some.inj H
        go_wp2
        go_ret
        exact ⟨by (rfl), (HB.out)⟩
end Go.Proofs.Ytmgjjdodjamomaa.PB
