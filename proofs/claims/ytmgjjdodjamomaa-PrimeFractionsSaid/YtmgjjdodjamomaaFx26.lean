/- Functions with the same answers as the Go code, and the proofs of that; printed by a turned copy of the print, shortened by programs (wip/tools). -/
import Derived.Test.YtmgjjdodjamomaaFW
import Derived.Test.YtmgjjdodjamomaaFx0
import Derived.Test.YtmgjjdodjamomaaFx24
namespace Go.Proofs.Ytmgjjdodjamomaa.PB
open Go.RowKit Go.Proofs.YtmgjjdodjamomaaW.PrintWords Go.Proofs.YtmgjjdodjamomaaW.PrintLast Go.Proofs.YtmgjjdodjamomaaW.PrintMore
attribute [local go_sem] max2_int max_two
set_option linter.unusedVariables false
set_option linter.unusedSimpArgs false
def nat_Cmp.l0 : Nat → List Int → List Int → Int → Int → Option (Int)
  | 0, _, _, _, _ => none
  | k + 1, x0, x1, x23, x24 => if x24 < x23 then (if 0 ≤ (wrap64 ((wrap64 ((x0.length : Int) - 1)) - x24)) then (if (wrap64 ((wrap64 ((x0.length : Int) - 1)) - x24)) < (x0.length : Int) then (if (wrap64 ((wrap64 ((x0.length : Int) - 1)) - x24)) < (x1.length : Int) then (if (rd x0 (wrap64 ((wrap64 ((x0.length : Int) - 1)) - x24))) < (rd x1 (wrap64 ((wrap64 ((x0.length : Int) - 1)) - x24))) then (some (-1)) else (if (rd x0 (wrap64 ((wrap64 ((x0.length : Int) - 1)) - x24))) > (rd x1 (wrap64 ((wrap64 ((x0.length : Int) - 1)) - x24))) then (some 1) else (nat_Cmp.l0 k x0 x1 x23 (wrap64 (x24 + 1))))) else (none)) else (none)) else (none)) else (some 0)
def nat_Cmp.f (k : Nat) (l0 : List Int) (l1 : List Int) : Option (Int) := (nat_trim.f k l0).bind fun t493 => ((nat_trim.f k l1).bind fun t496 => (if (t493.length : Int) = (t496.length : Int) then (nat_Cmp.l0 k t493 t496 (t493.length : Int) 0) else (if (t493.length : Int) < (t496.length : Int) then (some (-1)) else (some 1))))
set_option maxHeartbeats 8000000 in
set_option maxRecDepth 100000 in
theorem nat_Cmp.calls (k : Nat) (A0 : Option Addr) (c0 : Nat) (l0 : List Int) (A1 : Option Addr) (c1 : Nat) (l1 : List Int) (r : Int) (w : World) (hr0 : Kd.C (Kd.int .u32) w A0 l0.length l0) (hc0 : l0.length ≤ c0) (hr1 : Kd.C (Kd.int .u32) w A1 l1.length l1) (hc1 : l1.length ≤ c1) (h : nat_Cmp.f k l0 l1 = some r) :
    Calls Try.prog 75 #[.slice A0 l0.length c0, .slice A1 l1.length c1] w fun e w' => e = .returned (.int .i64 r) ∧ Below w.heap.size w w' := by
  have HR0 := Aside0.mk hr0
  have HC0 := Aside0.mk hc0
  clear hr0 hc0
  have HR1 := Aside0.mk hr1
  have HC1 := Aside0.mk hc1
  clear hr1 hc1
  have HB := Aside0.mk (Below.refl w.heap.size w)
  have H : ((nat_trim.f k l0).bind fun t493 => ((nat_trim.f k l1).bind fun t496 => (if (t493.length : Int) = (t496.length : Int) then (nat_Cmp.l0 k t493 t496 (t493.length : Int) 0) else (if (t493.length : Int) < (t496.length : Int) then (some (-1)) else (some 1))))) = some r := h
  clear h
  replace H := Option.bind_eq_some_iff.mp H
  obtain ⟨t493, A30, H⟩ := H
  replace H : ((nat_trim.f k l1).bind fun t496 => (if (t493.length : Int) = (t496.length : Int) then (nat_Cmp.l0 k t493 t496 (t493.length : Int) 0) else (if (t493.length : Int) < (t496.length : Int) then (some (-1)) else (some 1)))) = some r := H
  have A3 := Aside0.mk A30
  clear A30
  replace H := Option.bind_eq_some_iff.mp H
  obtain ⟨t496, A40, H⟩ := H
  replace H : (if (t493.length : Int) = (t496.length : Int) then (nat_Cmp.l0 k t493 t496 (t493.length : Int) 0) else (if (t493.length : Int) < (t496.length : Int) then (some (-1)) else (some 1))) = some r := H
  have A4 := Aside0.mk A40
  clear A40
  by_cases c5 : (t493.length : Int) = (t496.length : Int)
  · rw [if_pos c5] at H
    have c5b0 : ((t493.length : Int) == (t496.length : Int)) = true := beq_iff_eq.mpr c5
    have c5b1 : ((t493.length : Int) != (t496.length : Int)) = false := bne_eq_false_iff_eq.mpr c5
    have c5b2 : (t493.length == t496.length) = true := by (simp at c5 ⊢; omega)
    clear c5
    have H' := Aside0.mk H
    clear H
    go_enter Try.func75, Try.ntmps75
    go_wp2_with (first | (go_at_call 65; (with_reducible refine (nat_trim.calls k (fun k_ => k_ < w.heap.size) _ _ l0 t493 _ ?side1 A3.out).mono ?_); (case side1 => exact Kd.V_mk HC0.out (Kd.F_below (Kd.C_F (Kd.heap_int .u32) HR0.out) (HB.out))); rintro e w6 ⟨v494, rfl, ho0, hb⟩; have HO495 := Aside0.mk (Kd.V_lower (Kd.V_mono (ok' := fun k_ => True) ho0 (fun k_ hk_ => trivial)) (below_size (HB.out))); replace HB := Aside0.mk (below_step (HB.out) hb); (try clear hb); (try clear ho0)) | (go_at_call 65; (with_reducible refine (nat_trim.calls k (fun k_ => k_ < w.heap.size) _ _ l1 t496 _ ?side1 A4.out).mono ?_); (case side1 => exact Kd.V_mk HC1.out (Kd.F_below (Kd.C_F (Kd.heap_int .u32) HR1.out) (HB.out))); rintro e w7 ⟨v497, rfl, ho0, hb⟩; replace HO495 := Aside0.mk (Kd.V_below (HO495.out) hb); have HO498 := Aside0.mk (Kd.V_lower (Kd.V_mono (ok' := fun k_ => True) ho0 (fun k_ hk_ => trivial)) (below_size (HB.out))); replace HB := Aside0.mk (below_step (HB.out) hb); (try clear hb); (try clear ho0); obtain ⟨Ao8, co8, eo8⟩ := Kd.V_slice HO495.out; subst eo8; obtain ⟨Ao9, co9, eo9⟩ := Kd.V_slice HO498.out; subst eo9))
    go_loopg [24] k (fun kq v24 w' => ∃ (x24_1 : Int), v24 = .int .i64 x24_1 ∧ Aside0 (nat_Cmp.l0 kq t493 t496 (t493.length : Int) x24_1 = some r) ∧ Aside0 (kq ≤ k) ∧ Aside0 (Kd.V (Kd.int .u32) 59 w' w.heap.size (fun _ => True) (.slice Ao8 t493.length co8) t493) ∧ Aside0 (Kd.V (Kd.int .u32) 59 w' w.heap.size (fun _ => True) (.slice Ao9 t496.length co9) t496) ∧ Aside0 (Below w.heap.size w w'))
    case atStart => exact ⟨(0), (by (rfl)), H', ⟨Nat.le_refl _⟩, ⟨by exact HO495.out⟩, ⟨by exact HO498.out⟩, ⟨(HB.out)⟩⟩
    case round =>
      clear H'
      try clear c5b0
      try clear c5b1
      try clear c5b2
      obtain ⟨x24_1, rfl, HA, HK1, HO_0, HO_1, HB⟩ := hrel
      cases gk with
      | zero => exact absurd HA.out (by simp [nat_Cmp.l0])
      | succ k1 =>
        have H := HA.out
        clear HA
        simp only [nat_Cmp.l0] at H
        by_cases c10 : x24_1 < (t493.length : Int)
        · rw [if_pos c10] at H
          have c10b0 : decide (x24_1 < (t493.length : Int)) = true := decide_eq_true c10
          clear c10
          obtain ⟨ji11, hji11⟩ : ∃ j_ : Int, (wrap64 ((wrap64 ((t493.length : Int) - 1)) - x24_1)) = j_ := ⟨_, rfl⟩
          replace H : (if 0 ≤ (ji11) then (if (ji11) < (t493.length : Int) then (if (ji11) < (t496.length : Int) then (if (rd t493 (ji11)) < (rd t496 (ji11)) then (some (-1)) else (if (rd t493 (ji11)) > (rd t496 (ji11)) then (some 1) else (nat_Cmp.l0 k1 t493 t496 (t493.length : Int) (wrap64 (x24_1 + 1))))) else (none)) else (none)) else (none)) = some r := by (rw [hji11] at H; exact H)
          have hji11w : (IntKind.i64.wrap ((wrap64 ((t493.length : Int) - 1)) - x24_1)) = ji11 := (i64_w _).trans hji11
          by_cases c12 : 0 ≤ (ji11)
          · rw [if_pos c12] at H
            have c12b0 : decide (0 ≤ (ji11)) = true := decide_eq_true c12
            clear c12
            by_cases c13 : (ji11) < (t493.length : Int)
            · rw [if_pos c13] at H
              have c13b0 : decide ((ji11) < (t493.length : Int)) = true := decide_eq_true c13
              clear c13
              by_cases c14 : (ji11) < (t496.length : Int)
              · rw [if_pos c14] at H
                have c14b0 : decide ((ji11) < (t496.length : Int)) = true := decide_eq_true c14
                clear c14
                by_cases c15 : (rd t493 (ji11)) < (rd t496 (ji11))
                · rw [if_pos c15] at H
                  have c15b0 : decide ((rd t493 (ji11)) < (rd t496 (ji11))) = true := decide_eq_true c15
                  clear c15
                  obtain rfl := Option.some.inj H
                  have p499 : 0 ≤ ((ji11) : Int) := of_decide_eq_true (by (with_reducible assumption))
                  have q499 : (ji11) < (t493.length : Int) := of_decide_eq_true (by (with_reducible assumption))
                  obtain ⟨ad499, e499, hx499_0⟩ := Kd.at_int (Kd.V_reads' HO_0.out).2.2 (ji11) p499 q499
                  cases e499
                  replace p499 := eq_true p499
                  replace q499 := eq_true q499
                  have p500 : 0 ≤ ((ji11) : Int) := of_decide_eq_true (by (with_reducible assumption))
                  have q500 : (ji11) < (t496.length : Int) := of_decide_eq_true (by (with_reducible assumption))
                  obtain ⟨ad500, e500, hx500_0⟩ := Kd.at_int (Kd.V_reads' HO_1.out).2.2 (ji11) p500 q500
                  cases e500
                  replace p500 := eq_true p500
                  replace q500 := eq_true q500
                  go_wp2
                  repeat (go_quiet (fail); try go_wp2)
                  go_ret
                  exact ⟨by (rfl), by repeat (with_reducible first | exact HB.out | apply pw_below_drewN)⟩
                · rw [if_neg c15] at H
                  have c15b0 : decide ((rd t493 (ji11)) < (rd t496 (ji11))) = false := decide_eq_false c15
                  clear c15
                  by_cases c16 : (rd t493 (ji11)) > (rd t496 (ji11))
                  · rw [if_pos c16] at H
                    have c16b0 : decide ((rd t496 (ji11)) < (rd t493 (ji11))) = true := decide_eq_true c16
                    clear c16
                    obtain rfl := Option.some.inj H
                    have p499 : 0 ≤ ((ji11) : Int) := of_decide_eq_true (by (with_reducible assumption))
                    have q499 : (ji11) < (t493.length : Int) := of_decide_eq_true (by (with_reducible assumption))
                    obtain ⟨ad499, e499, hx499_0⟩ := Kd.at_int (Kd.V_reads' HO_0.out).2.2 (ji11) p499 q499
                    cases e499
                    replace p499 := eq_true p499
                    replace q499 := eq_true q499
                    have p500 : 0 ≤ ((ji11) : Int) := of_decide_eq_true (by (with_reducible assumption))
                    have q500 : (ji11) < (t496.length : Int) := of_decide_eq_true (by (with_reducible assumption))
                    obtain ⟨ad500, e500, hx500_0⟩ := Kd.at_int (Kd.V_reads' HO_1.out).2.2 (ji11) p500 q500
                    cases e500
                    replace p500 := eq_true p500
                    replace q500 := eq_true q500
                    go_wp2
                    repeat (go_quiet (fail); try go_wp2)
                    go_ret
                    exact ⟨by (rfl), by repeat (with_reducible first | exact HB.out | apply pw_below_drewN)⟩
                  · rw [if_neg c16] at H
                    have c16b0 : decide ((rd t496 (ji11)) < (rd t493 (ji11))) = false := decide_eq_false c16
                    clear c16
                    have H' := Aside0.mk H
                    clear H
                    have p499 : 0 ≤ ((ji11) : Int) := of_decide_eq_true (by (with_reducible assumption))
                    have q499 : (ji11) < (t493.length : Int) := of_decide_eq_true (by (with_reducible assumption))
                    obtain ⟨ad499, e499, hx499_0⟩ := Kd.at_int (Kd.V_reads' HO_0.out).2.2 (ji11) p499 q499
                    cases e499
                    replace p499 := eq_true p499
                    replace q499 := eq_true q499
                    have p500 : 0 ≤ ((ji11) : Int) := of_decide_eq_true (by (with_reducible assumption))
                    have q500 : (ji11) < (t496.length : Int) := of_decide_eq_true (by (with_reducible assumption))
                    obtain ⟨ad500, e500, hx500_0⟩ := Kd.at_int (Kd.V_reads' HO_1.out).2.2 (ji11) p500 q500
                    cases e500
                    replace p500 := eq_true p500
                    replace q500 := eq_true q500
                    go_wp2
                    repeat (go_quiet (fail); try go_wp2)
                    go_roundg k1
                    case measure => have := HK1.out; omega
                    case rel => exact ⟨(wrap64 (x24_1 + 1)), (by (rfl)), H', ⟨by have := HK1.out; omega⟩, ⟨by (with_reducible repeat (apply Kd.V_drewN)); exact HO_0.out⟩, ⟨by (with_reducible repeat (apply Kd.V_drewN)); exact HO_1.out⟩, ⟨by repeat (with_reducible first | exact HB.out | apply pw_below_drewN)⟩⟩
              · rw [if_neg c14] at H
                exact absurd H (by simp)
            · rw [if_neg c13] at H
              exact absurd H (by simp)
          · rw [if_neg c12] at H
            exact absurd H (by simp)
        · rw [if_neg c10] at H
          have c10b0 : decide (x24_1 < (t493.length : Int)) = false := decide_eq_false c10
          clear c10
          obtain rfl := Option.some.inj H
          go_wp2
          go_ret
          exact ⟨by (rfl), (HB.out)⟩
  · rw [if_neg c5] at H
    have c5b0 : ((t493.length : Int) == (t496.length : Int)) = false := beq_eq_false_iff_ne.mpr c5
    have c5b1 : ((t493.length : Int) != (t496.length : Int)) = true := bne_iff_ne.mpr c5
    have c5b2 : (t493.length == t496.length) = false := by (simp at c5 ⊢; omega)
    by_cases c17 : (t493.length : Int) < (t496.length : Int)
    · rw [if_pos c17] at H
      have c17b0 : decide ((t493.length : Int) < (t496.length : Int)) = true := decide_eq_true c17
      have c17b1 : decide (t493.length < t496.length) = true := decide_eq_true (Int.ofNat_lt.mp c17)
      clear c17
      obtain rfl := Option.some.inj H
      go_enter Try.func75, Try.ntmps75
      go_wp2_with (first | (go_at_call 65; (with_reducible refine (nat_trim.calls k (fun k_ => k_ < w.heap.size) _ _ l0 t493 _ ?side1 A3.out).mono ?_); (case side1 => exact Kd.V_mk HC0.out (Kd.F_below (Kd.C_F (Kd.heap_int .u32) HR0.out) (HB.out))); rintro e w18 ⟨v494, rfl, ho0, hb⟩; have HO495 := Aside0.mk (Kd.V_lower (Kd.V_mono (ok' := fun k_ => True) ho0 (fun k_ hk_ => trivial)) (below_size (HB.out))); replace HB := Aside0.mk (below_step (HB.out) hb); (try clear hb); (try clear ho0)) | (go_at_call 65; (with_reducible refine (nat_trim.calls k (fun k_ => k_ < w.heap.size) _ _ l1 t496 _ ?side1 A4.out).mono ?_); (case side1 => exact Kd.V_mk HC1.out (Kd.F_below (Kd.C_F (Kd.heap_int .u32) HR1.out) (HB.out))); rintro e w19 ⟨v497, rfl, ho0, hb⟩; replace HO495 := Aside0.mk (Kd.V_below (HO495.out) hb); have HO498 := Aside0.mk (Kd.V_lower (Kd.V_mono (ok' := fun k_ => True) ho0 (fun k_ hk_ => trivial)) (below_size (HB.out))); replace HB := Aside0.mk (below_step (HB.out) hb); (try clear hb); (try clear ho0); obtain ⟨Ao20, co20, eo20⟩ := Kd.V_slice HO495.out; subst eo20; obtain ⟨Ao21, co21, eo21⟩ := Kd.V_slice HO498.out; subst eo21))
      go_ret
      exact ⟨by (rfl), (HB.out)⟩
    · rw [if_neg c17] at H
      have c17b0 : decide ((t493.length : Int) < (t496.length : Int)) = false := decide_eq_false c17
      have c17b1 : decide (t493.length < t496.length) = false := decide_eq_false (fun h => c17 (Int.ofNat_lt.mpr h))
      clear c17
      obtain rfl := Option.some.inj H
      go_enter Try.func75, Try.ntmps75
      go_wp2_with (first | (go_at_call 65; (with_reducible refine (nat_trim.calls k (fun k_ => k_ < w.heap.size) _ _ l0 t493 _ ?side1 A3.out).mono ?_); (case side1 => exact Kd.V_mk HC0.out (Kd.F_below (Kd.C_F (Kd.heap_int .u32) HR0.out) (HB.out))); rintro e w22 ⟨v494, rfl, ho0, hb⟩; have HO495 := Aside0.mk (Kd.V_lower (Kd.V_mono (ok' := fun k_ => True) ho0 (fun k_ hk_ => trivial)) (below_size (HB.out))); replace HB := Aside0.mk (below_step (HB.out) hb); (try clear hb); (try clear ho0)) | (go_at_call 65; (with_reducible refine (nat_trim.calls k (fun k_ => k_ < w.heap.size) _ _ l1 t496 _ ?side1 A4.out).mono ?_); (case side1 => exact Kd.V_mk HC1.out (Kd.F_below (Kd.C_F (Kd.heap_int .u32) HR1.out) (HB.out))); rintro e w23 ⟨v497, rfl, ho0, hb⟩; replace HO495 := Aside0.mk (Kd.V_below (HO495.out) hb); have HO498 := Aside0.mk (Kd.V_lower (Kd.V_mono (ok' := fun k_ => True) ho0 (fun k_ hk_ => trivial)) (below_size (HB.out))); replace HB := Aside0.mk (below_step (HB.out) hb); (try clear hb); (try clear ho0); obtain ⟨Ao24, co24, eo24⟩ := Kd.V_slice HO495.out; subst eo24; obtain ⟨Ao25, co25, eo25⟩ := Kd.V_slice HO498.out; subst eo25))
      go_ret
      exact ⟨by (rfl), (HB.out)⟩
def nat_short.l0 : Nat → List Int → Int → List Int → Int → Int → Int → Option (List Int × Int)
  | 0, _, _, _, _, _, _ => none
  | k + 1, x0, x1, x4, x6, x13, x14 => if x14 < x13 then (if 0 ≤ (wrap64 ((wrap64 ((x0.length : Int) - 1)) - x14)) then (if (wrap64 ((wrap64 ((x0.length : Int) - 1)) - x14)) < (x0.length : Int) then (if (IntKind.u64.wrap (x1)) = 0 then (none) else (if (wrap64 ((wrap64 ((x0.length : Int) - 1)) - x14)) < (x4.length : Int) then (nat_short.l0 k x0 x1 (x4.set ((wrap64 ((wrap64 ((x0.length : Int) - 1)) - x14)) : Int).toNat ((IntKind.u64.wrap (Int.tdiv (Go.bits .or .u64 (IntKind.u64.wrap (x6 * 4294967296)) (IntKind.u64.wrap (rd x0 (wrap64 ((wrap64 ((x0.length : Int) - 1)) - x14))))) (IntKind.u64.wrap (x1)))) % 4294967296)) (Int.tmod (Go.bits .or .u64 (IntKind.u64.wrap (x6 * 4294967296)) (IntKind.u64.wrap (rd x0 (wrap64 ((wrap64 ((x0.length : Int) - 1)) - x14))))) (IntKind.u64.wrap (x1))) x13 (wrap64 (x14 + 1))) else (none))) else (none)) else (none)) else ((nat_trim.f k x4).bind fun t506 => (some (t506, (x6) % 4294967296)))
def nat_short.f (k : Nat) (l0 : List Int) (a1 : Int) : Option (List Int × Int) := if 0 ≤ (l0.length : Int) then (if ((l0.length : Int) : Int).toNat ≤ 70368744177664 then (nat_short.l0 k l0 a1 (List.replicate ((l0.length : Int) : Int).toNat 0) 0 (l0.length : Int) 0) else (none)) else (none)
set_option maxHeartbeats 8000000 in
set_option maxRecDepth 100000 in
theorem nat_short.calls (k : Nat) (A0 : Option Addr) (c0 : Nat) (l0 : List Int) (a1 : Int) (r1 : List Int) (r2 : Int) (w : World) (hr0 : Kd.C (Kd.int .u32) w A0 l0.length l0) (hc0 : l0.length ≤ c0) (h : nat_short.f k l0 a1 = some (r1, r2)) :
    Calls Try.prog 76 #[.slice A0 l0.length c0, .int .u32 a1] w fun e w' => ∃ v0_ : Value, e = .returned (.tuple #[v0_, .int .u32 r2]) ∧ Kd.V (Kd.int .u32) 59 w' w.heap.size (fun k_ => (w.heap.size ≤ k_)) v0_ r1 ∧ Below w.heap.size w w' := by
  have HR0 := Aside0.mk hr0
  have HC0 := Aside0.mk hc0
  clear hr0 hc0
  have HB := Aside0.mk (Below.refl w.heap.size w)
  have H : (if 0 ≤ (l0.length : Int) then (if ((l0.length : Int) : Int).toNat ≤ 70368744177664 then (nat_short.l0 k l0 a1 (List.replicate ((l0.length : Int) : Int).toNat 0) 0 (l0.length : Int) 0) else (none)) else (none)) = some (r1, r2) := h
  clear h
  by_cases c3 : 0 ≤ (l0.length : Int)
  · rw [if_pos c3] at H
    have c3b0 := eq_true c3
    have c3b1 : decide (0 ≤ (l0.length : Int)) = true := decide_eq_true c3
    clear c3
    by_cases c4 : ((l0.length : Int) : Int).toNat ≤ 70368744177664
    · rw [if_pos c4] at H
      have c4b0 := eq_true c4
      have c4b1 : decide (((l0.length : Int) : Int).toNat ≤ 70368744177664) = true := decide_eq_true c4
      clear c4
      obtain ⟨y501, hy501⟩ : ∃ y_ : List Int, y_ = (List.replicate ((l0.length : Int) : Int).toNat 0) := ⟨_, rfl⟩
      replace H : (nat_short.l0 k l0 a1 y501 0 (l0.length : Int) 0) = some (r1, r2) := by (rw [hy501]; with_reducible exact H)
      have Ny501 := Aside0.mk hy501
      clear hy501
      have H' := Aside0.mk H
      clear H
      go_enter Try.func76, Try.ntmps76
      go_wp2_with ((with_reducible refine gate_dst (N := 11) rfl ?_); refine Kd.R_make (Kd.int .u32) _ 59 rfl (N := 11) rfl 30 _ _ rfl (l0.length : Int) rfl rfl Try.underlying30 (.int .u32 0) 4 info59 rfl (by decide) (by omega) 0 (ok := fun _ => True) (okp := fun _ => True) rfl (fun _ hk => hk) trivial (of_decide_eq_true (by (with_reducible assumption))) (Nat.le_trans (Nat.mul_le_mul_right _ (of_decide_eq_true (by (with_reducible assumption)) : (l0.length : Int).toNat ≤ 70368744177664)) (by omega)) (Below.refl _ _) (Nat.le_refl _) ?_; intro v502 w5 ho6 hb hg_ hnew_; clear hg_ hnew_; (rw [← Ny501.out] at ho6); have HO503 := Aside0.mk (Kd.R_lower (Kd.R_newM (M := fun k_ => (w.heap.size ≤ k_)) ho6 (below_size (HB.out)) (fun k_ h_ => h_)) (below_size (HB.out))); replace HB := Aside0.mk (below_step (HB.out) hb); clear hb ho6)
      go_loopg [6, 14] k (fun kq v6 v14 w' => ∃ (x4_1 : List Int) (x6_1 : Int) (x14_1 : Int), v6 = .int .u64 x6_1 ∧ v14 = .int .i64 x14_1 ∧ Aside0 (nat_short.l0 kq l0 a1 x4_1 x6_1 (l0.length : Int) x14_1 = some (r1, r2)) ∧ Aside0 (kq ≤ k) ∧ Aside0 (Kd.R (Kd.int .u32) 59 w' w.heap.size (fun k_ => (w.heap.size ≤ k_)) v502 x4_1) ∧ Aside0 (Below w.heap.size w w'))
      case atStart => exact ⟨(y501), (0), (0), (by (rfl)), (by (rfl)), H', ⟨Nat.le_refl _⟩, ⟨by exact Kd.R_mono HO503.out (fun _ hk => hk.1)⟩, ⟨(HB.out)⟩⟩
      case round =>
        clear H'
        try clear c3b0
        try clear c3b1
        try clear c4b0
        try clear c4b1
        obtain ⟨x4_1, x6_1, x14_1, rfl, rfl, HA, HK1, HO_4, HB⟩ := hrel
        cases gk with
        | zero => exact absurd HA.out (by simp [nat_short.l0])
        | succ k1 =>
          have H := HA.out
          clear HA
          simp only [nat_short.l0] at H
          by_cases c7 : x14_1 < (l0.length : Int)
          · rw [if_pos c7] at H
            have c7b0 : decide (x14_1 < (l0.length : Int)) = true := decide_eq_true c7
            clear c7
            obtain ⟨ji8, hji8⟩ : ∃ j_ : Int, (wrap64 ((wrap64 ((l0.length : Int) - 1)) - x14_1)) = j_ := ⟨_, rfl⟩
            replace H : (if 0 ≤ (ji8) then (if (ji8) < (l0.length : Int) then (if (IntKind.u64.wrap (a1)) = 0 then (none) else (if (ji8) < (x4_1.length : Int) then (nat_short.l0 k1 l0 a1 (x4_1.set ((ji8) : Int).toNat ((IntKind.u64.wrap (Int.tdiv (Go.bits .or .u64 (IntKind.u64.wrap (x6_1 * 4294967296)) (IntKind.u64.wrap (rd l0 (ji8)))) (IntKind.u64.wrap (a1)))) % 4294967296)) (Int.tmod (Go.bits .or .u64 (IntKind.u64.wrap (x6_1 * 4294967296)) (IntKind.u64.wrap (rd l0 (ji8)))) (IntKind.u64.wrap (a1))) (l0.length : Int) (wrap64 (x14_1 + 1))) else (none))) else (none)) else (none)) = some (r1, r2) := by (rw [hji8] at H; exact H)
            have hji8w : (IntKind.i64.wrap ((wrap64 ((l0.length : Int) - 1)) - x14_1)) = ji8 := (i64_w _).trans hji8
            by_cases c9 : 0 ≤ (ji8)
            · rw [if_pos c9] at H
              have c9b0 : decide (0 ≤ (ji8)) = true := decide_eq_true c9
              clear c9
              by_cases c10 : (ji8) < (l0.length : Int)
              · rw [if_pos c10] at H
                have c10b0 : decide ((ji8) < (l0.length : Int)) = true := decide_eq_true c10
                clear c10
                by_cases c11 : (IntKind.u64.wrap (a1)) = 0
                · rw [if_pos c11] at H
                  exact absurd H (by simp)
                · rw [if_neg c11] at H
                  have c11b0 : ((IntKind.u64.wrap (a1)) == 0) = false := beq_eq_false_iff_ne.mpr c11
                  have c11b1 : ((IntKind.u64.wrap (a1)) != 0) = true := bne_iff_ne.mpr c11
                  by_cases c12 : (ji8) < (x4_1.length : Int)
                  · rw [if_pos c12] at H
                    have c12b0 : decide ((ji8) < (x4_1.length : Int)) = true := decide_eq_true c12
                    clear c12
                    obtain ⟨y505, hy505⟩ : ∃ y_ : List Int, y_ = (x4_1.set ((ji8) : Int).toNat ((IntKind.u64.wrap (Int.tdiv (Go.bits .or .u64 (IntKind.u64.wrap (x6_1 * 4294967296)) (IntKind.u64.wrap (rd l0 (ji8)))) (IntKind.u64.wrap (a1)))) % 4294967296)) := ⟨_, rfl⟩
                    replace H : (nat_short.l0 k1 l0 a1 y505 (Int.tmod (Go.bits .or .u64 (IntKind.u64.wrap (x6_1 * 4294967296)) (IntKind.u64.wrap (rd l0 (ji8)))) (IntKind.u64.wrap (a1))) (l0.length : Int) (wrap64 (x14_1 + 1))) = some (r1, r2) := by (rw [hy505]; with_reducible exact H)
                    have Ny505 := Aside0.mk hy505
                    clear hy505
                    have H' := Aside0.mk H
                    clear H
                    have p504 : 0 ≤ ((ji8) : Int) := of_decide_eq_true (by (with_reducible assumption))
                    have q504 : (ji8) < (l0.length : Int) := of_decide_eq_true (by (with_reducible assumption))
                    obtain ⟨ad504, e504, hx504_0⟩ := Kd.at_int HR0.out (ji8) p504 q504
                    cases e504
                    replace hx504_0 := (HB.out.cell (World.block_lt_of_cell? w _ hx504_0)).trans hx504_0
                    replace p504 := eq_true p504
                    replace q504 := eq_true q504
                    have p13 : 0 ≤ ((ji8) : Int) := of_decide_eq_true (by (with_reducible assumption))
                    have q13 : ((ji8) : Int) < ((x4_1.length : Int) : Int) := of_decide_eq_true (by (with_reducible assumption))
                    obtain ⟨go13, co13, eo13, gb13, gl13, cl13, HG13⟩ := Kd.R_form HO_4.out (by omega)
                    (cases eo13)
                    have GB13 := Aside0.mk gb13
                    have GG13 := Aside0.mk HG13
                    clear gb13 gl13 HG13
                    obtain ⟨hx13_0, hf13_0⟩ := Kd.R_celln 0 HO_4.out ((ji8) : Int) p13 q13
                    replace p13 := eq_true p13
                    replace q13 := eq_true q13
                    have HP14 := Kd.R_putg HO_4.out ((ji8) : Int) ((IntKind.u64.wrap (Int.tdiv (Go.bits .or .u64 (IntKind.u64.wrap (x6_1 * 4294967296)) (IntKind.u64.wrap (rd l0 (ji8)))) (IntKind.u64.wrap (a1)))) % 4294967296)
                    go_wp2_with ((with_reducible refine gate_store (t := 59) (p := 37) rfl ?_); refine store_event (t := 59) (p := 37) (v := ?vo_w15) (w1 := (wr.setCell ⟨go13, ((ji8) : Int).toNat, none⟩ (.int .u32 ((IntKind.u64.wrap (Int.tdiv (Go.bits .or .u64 (IntKind.u64.wrap (x6_1 * 4294967296)) (IntKind.u64.wrap (rd l0 (ji8)))) (IntKind.u64.wrap (a1)))) % 4294967296)))) ?hg ?ho ?hn ?hr ?_; (case ho => rfl); (case hg => rfl); (case hn => rfl); (case hr => (go_simp; done)); intro w15 hw; have hg : wr.grownBy w15 (some go13) := (by rw [hw]; exact HP14.2); have hp_ : Kd.R (Kd.int .u32) 59 w15 w.heap.size (fun k_ => (w.heap.size ≤ k_)) (.slice (some ⟨go13, 0, none⟩) x4_1.length co13) y505 := (by rw [hw, Ny505.out]; exact HP14.1); clear HP14; replace HO_4 := Aside0.mk (hp_); replace HB := Aside0.mk (by rw [hw]; exact below_set (HB.out) GB13.out : Below w.heap.size w w15); clear hg hw hp_)
                    go_roundg k1
                    case measure => have := HK1.out; omega
                    case rel => exact ⟨(y505), (Int.tmod (Go.bits .or .u64 (IntKind.u64.wrap (x6_1 * 4294967296)) (IntKind.u64.wrap (rd l0 (ji8)))) (IntKind.u64.wrap (a1))), (wrap64 (x14_1 + 1)), (by (rfl)), (by (rfl)), H', ⟨by have := HK1.out; omega⟩, ⟨by exact HO_4.out⟩, ⟨(HB.out)⟩⟩
                  · rw [if_neg c12] at H
                    exact absurd H (by simp)
              · rw [if_neg c10] at H
                exact absurd H (by simp)
            · rw [if_neg c9] at H
              exact absurd H (by simp)
          · rw [if_neg c7] at H
            have c7b0 : decide (x14_1 < (l0.length : Int)) = false := decide_eq_false c7
            clear c7
            replace H := Option.bind_eq_some_iff.mp H
            obtain ⟨t506, A160, H⟩ := H
            replace H : (some (t506, (x6_1) % 4294967296)) = some (r1, r2) := H
            have A16 := Aside0.mk A160
            clear A160
            simp only [Option.some.injEq, Prod.mk.injEq] at H
            obtain ⟨rfl, rfl⟩ := H
            obtain ⟨Ao17, co17, eo17⟩ := Kd.R_slice HO_4.out
            subst eo17
            go_wp2_with ((with_reducible refine gate_callee (f := 65) rfl ?_); refine goesL_ (some 44) rfl rfl Try.func65 (by kernel_rfl) rfl #[.slice Ao17 x4_1.length co17] rfl (by (try simp only [List.map_toArray, List.map_cons, List.map_nil]); rfl) ?_; (with_reducible refine (nat_trim.calls k1 (fun k_ => some k_ = (.slice Ao17 x4_1.length co17 : Value).ownBlock) _ _ x4_1 t506 _ ?side1 A16.out).mono ?_); (case side1 => exact Kd.R_V (Kd.R_tight rfl (HO_4.out))); rintro e w18 ⟨v507, rfl, ho0, hb⟩; refine ⟨_, rfl, ?_⟩; have n0_ := Aside0.mk (Kd.R_below (HO_4.out) hb); have n1_ := Aside0.mk (Kd.V_lower (Kd.V_mono (ok' := fun k_ => (w.heap.size ≤ k_)) ho0 (fun k_ hk_ => Or.elim hk_ (fun hs_ => ((HO_4.out).1 k_ hs_.symm)) (fun hn_ => (Nat.le_trans (below_size (HB.out)) hn_)))) (below_size (HB.out))); have n2_ := Aside0.mk (below_step (HB.out) hb); clear HO_4; clear HB; have HO_4 := n0_; have HO508 := n1_; have HB := n2_; clear n0_ n1_ n2_; (try clear hb); (try clear ho0))
            go_ret2
            exact ⟨_, by (rfl), by exact HO508.out, (HB.out)⟩
    · rw [if_neg c4] at H
      exact absurd H (by simp)
  · rw [if_neg c3] at H
    exact absurd H (by simp)
end Go.Proofs.Ytmgjjdodjamomaa.PB
