/- Functions with the same answers as the Go code, and the proofs of that; printed by a turned copy of the print, shortened by programs (wip/tools). -/
import Derived.Test.YtmgjjdodjamomaaFW
import Derived.Test.YtmgjjdodjamomaaFx0
namespace Go.Proofs.Ytmgjjdodjamomaa.PB
open Go.RowKit Go.Proofs.YtmgjjdodjamomaaW.PrintWords Go.Proofs.YtmgjjdodjamomaaW.PrintLast Go.Proofs.YtmgjjdodjamomaaW.PrintMore
attribute [local go_sem] max2_int max_two
set_option linter.unusedVariables false
set_option linter.unusedSimpArgs false
def nat_trim.l0 : Nat → List Int → Int → Option (List Int)
  | 0, _, _ => none
  | k + 1, x0, x3 => if x3 > 0 then (if 0 ≤ (wrap64 (x3 - 1)) then (if (wrap64 (x3 - 1)) < (x0.length : Int) then (if (rd x0 (wrap64 (x3 - 1))) = 0 then (nat_trim.l0 k x0 (wrap64 (x3 - 1))) else (if 0 ≤ x3 then (if x3 ≤ (x0.length : Int) then (some (x0.take (x3 : Int).toNat)) else (none)) else (none))) else (none)) else (none)) else (if 0 ≤ x3 then (if x3 ≤ (x0.length : Int) then (some (x0.take (x3 : Int).toNat)) else (none)) else (none))
def nat_trim.f (k : Nat) (l0 : List Int) : Option (List Int) := nat_trim.l0 k l0 (l0.length : Int)
set_option maxHeartbeats 8000000 in
set_option maxRecDepth 100000 in
theorem nat_trim.calls (k : Nat) (P0_ : Nat → Prop) (A0 : Option Addr) (c0 : Nat) (l0 : List Int) (r : List Int) (w : World) (hs0 : Kd.V (Kd.int .u32) 59 w w.heap.size (fun k_ => P0_ k_) (.slice A0 l0.length c0) l0) (h : nat_trim.f k l0 = some r) :
    Calls Try.prog 65 #[.slice A0 l0.length c0] w fun e w' => ∃ v0_ : Value, e = .returned (v0_) ∧ Kd.V (Kd.int .u32) 59 w' w.heap.size (fun k_ => (P0_ k_ ∨ w.heap.size ≤ k_)) v0_ r ∧ Below w.heap.size w w' := by
  have HO0 := Aside0.mk (show Kd.V (Kd.int .u32) 59 w w.heap.size (fun k_ => (P0_ k_ ∨ w.heap.size ≤ k_)) (.slice A0 l0.length c0) l0 from Kd.V_mono hs0 (fun k_ hk => .inl hk))
  have HB := Aside0.mk (Below.refl w.heap.size w)
  have H : (nat_trim.l0 k l0 (l0.length : Int)) = some r := h
  clear h
  have H' := Aside0.mk H
  clear H
  go_enter Try.func65, Try.ntmps65
  go_wp2
  go_loopg [3] k (fun kq v3 w' => ∃ (x3_1 : Int), v3 = .int .i64 x3_1 ∧ Aside0 (nat_trim.l0 kq l0 x3_1 = some r) ∧ Aside0 (kq ≤ k) ∧ Aside0 (Kd.V (Kd.int .u32) 59 w' w.heap.size (fun k_ => (P0_ k_ ∨ w.heap.size ≤ k_)) (.slice A0 l0.length c0) l0) ∧ Aside0 (Below w.heap.size w w'))
  case atStart => exact ⟨(l0.length : Int), (by (rfl)), H', ⟨Nat.le_refl _⟩, ⟨by exact HO0.out⟩, ⟨(HB.out)⟩⟩
  case round =>
    clear H'
    obtain ⟨x3_1, rfl, HA, HK1, HO_0, HB⟩ := hrel
    cases gk with
    | zero => exact absurd HA.out (by simp [nat_trim.l0])
    | succ k1 =>
      have H := HA.out
      clear HA
      simp only [nat_trim.l0] at H
      by_cases c2 : x3_1 > 0
      · rw [if_pos c2] at H
        have c2b0 : decide (0 < x3_1) = true := decide_eq_true c2
        clear c2
        obtain ⟨ji3, hji3⟩ : ∃ j_ : Int, (wrap64 (x3_1 - 1)) = j_ := ⟨_, rfl⟩
        replace H : (if 0 ≤ (ji3) then (if (ji3) < (l0.length : Int) then (if (rd l0 (ji3)) = 0 then (nat_trim.l0 k1 l0 ji3) else (if 0 ≤ x3_1 then (if x3_1 ≤ (l0.length : Int) then (some (l0.take (x3_1 : Int).toNat)) else (none)) else (none))) else (none)) else (none)) = some r := by (rw [hji3] at H; exact H)
        have hji3w : (IntKind.i64.wrap (x3_1 - 1)) = ji3 := (i64_w _).trans hji3
        by_cases c4 : 0 ≤ (ji3)
        · rw [if_pos c4] at H
          have c4b0 : decide (0 ≤ (ji3)) = true := decide_eq_true c4
          clear c4
          by_cases c5 : (ji3) < (l0.length : Int)
          · rw [if_pos c5] at H
            have c5b0 : decide ((ji3) < (l0.length : Int)) = true := decide_eq_true c5
            clear c5
            by_cases c6 : (rd l0 (ji3)) = 0
            · rw [if_pos c6] at H
              have c6b0 : ((rd l0 (ji3)) == 0) = true := beq_iff_eq.mpr c6
              have c6b1 : ((rd l0 (ji3)) != 0) = false := bne_eq_false_iff_eq.mpr c6
              clear c6
              have H' := Aside0.mk H
              clear H
              have p458 : 0 ≤ ((ji3) : Int) := of_decide_eq_true (by (with_reducible assumption))
              have q458 : (ji3) < (l0.length : Int) := of_decide_eq_true (by (with_reducible assumption))
              obtain ⟨ad458, e458, hx458_0⟩ := Kd.at_int (Kd.V_reads' HO_0.out).2.2 (ji3) p458 q458
              cases e458
              replace p458 := eq_true p458
              replace q458 := eq_true q458
              go_wp2
              go_roundg k1
              case measure => have := HK1.out; omega
              case rel => exact ⟨(ji3), (by (rfl)), H', ⟨by have := HK1.out; omega⟩, ⟨by exact HO_0.out⟩, ⟨(HB.out)⟩⟩
            · rw [if_neg c6] at H
              have c6b0 : ((rd l0 (ji3)) == 0) = false := beq_eq_false_iff_ne.mpr c6
              have c6b1 : ((rd l0 (ji3)) != 0) = true := bne_iff_ne.mpr c6
              by_cases c7 : 0 ≤ x3_1
              · rw [if_pos c7] at H
                have c7b0 := eq_true c7
                have c7b1 : decide (0 ≤ x3_1) = true := decide_eq_true c7
                clear c7
                by_cases c8 : x3_1 ≤ (l0.length : Int)
                · rw [if_pos c8] at H
                  have c8b0 := eq_true c8
                  have c8b1 : decide (x3_1 ≤ (l0.length : Int)) = true := decide_eq_true c8
                  clear c8
                  obtain ⟨y459, hy459⟩ : ∃ y_ : List Int, y_ = (l0.take (x3_1 : Int).toNat) := ⟨_, rfl⟩
                  replace H : (some y459) = some r := by (rw [hy459]; with_reducible exact H)
                  have Ny459 := Aside0.mk hy459
                  clear hy459
                  obtain rfl := Option.some.inj H
                  have p458 : 0 ≤ ((ji3) : Int) := of_decide_eq_true (by (with_reducible assumption))
                  have q458 : (ji3) < (l0.length : Int) := of_decide_eq_true (by (with_reducible assumption))
                  obtain ⟨ad458, e458, hx458_0⟩ := Kd.at_int (Kd.V_reads' HO_0.out).2.2 (ji3) p458 q458
                  cases e458
                  replace p458 := eq_true p458
                  replace q458 := eq_true q458
                  have q9 : (x3_1 : Int) ≤ ((l0.length : Int) : Int) := of_decide_eq_true (by (with_reducible assumption))
                  obtain ⟨i09, hi09, _, hsz9, _⟩ := info_parts info59
                  have hroom9 : l0.length ≤ c0 := (Kd.V_reads' HO_0.out).2.1
                  have hC9 : Kd.F (Kd.int .u32) _ _ (some ad458) l0.length l0 := (Kd.V_at (base := w.heap.size) HO_0.out).2.2
                  have hcut9 := cut_to3 (P := Try.prog) 30 59 .i64 .i64 Try.underlying30 hi09 (some ad458) l0.length c0 x3_1 (of_decide_eq_true (by (with_reducible assumption))) q9 hroom9
                  have hr9 := Kd.F_take (m := (x3_1 : Int).toNat) hC9 (by omega)
                  have hy9 : y459.length = (x3_1 : Int).toNat := (by rw [Ny459.out, List.length_take]; omega)
                  rw [← Ny459.out] at hr9
                  rw [← hy9] at hcut9
                  have HO463 := Aside0.mk (show Kd.V (Kd.int .u32) 59 _ w.heap.size _ (.slice (some ad458) y459.length y459.length) y459 from Kd.V_mk (by omega) hr9)
                  have HC463 := Aside0.mk (show y459.length ≤ y459.length from by omega)
                  clear hr9 hC9 hroom9 hi09 hsz9
                  have KY9 := Aside0.mk hy9
                  clear hy9
                  replace q9 := eq_true q9
                  go_wp2
                  go_ret
                  exact ⟨_, by (rfl), by exact HO463.out, (HB.out)⟩
                · rw [if_neg c8] at H
                  exact absurd H (by simp)
              · rw [if_neg c7] at H
                exact absurd H (by simp)
          · rw [if_neg c5] at H
            exact absurd H (by simp)
        · rw [if_neg c4] at H
          exact absurd H (by simp)
      · rw [if_neg c2] at H
        have c2b0 : decide (0 < x3_1) = false := decide_eq_false c2
        clear c2
        by_cases c10 : 0 ≤ x3_1
        · rw [if_pos c10] at H
          have c10b0 := eq_true c10
          have c10b1 : decide (0 ≤ x3_1) = true := decide_eq_true c10
          clear c10
          by_cases c11 : x3_1 ≤ (l0.length : Int)
          · rw [if_pos c11] at H
            have c11b0 := eq_true c11
            have c11b1 : decide (x3_1 ≤ (l0.length : Int)) = true := decide_eq_true c11
            clear c11
            obtain ⟨y464, hy464⟩ : ∃ y_ : List Int, y_ = (l0.take (x3_1 : Int).toNat) := ⟨_, rfl⟩
            replace H : (some y464) = some r := by (rw [hy464]; with_reducible exact H)
            have Ny464 := Aside0.mk hy464
            clear hy464
            obtain rfl := Option.some.inj H
            have q12 : (x3_1 : Int) ≤ ((l0.length : Int) : Int) := of_decide_eq_true (by (with_reducible assumption))
            obtain ⟨i012, hi012, _, hsz12, _⟩ := info_parts info59
            have hroom12 : l0.length ≤ c0 := (Kd.V_reads' HO_0.out).2.1
            have hC12 : Kd.F (Kd.int .u32) _ _ A0 l0.length l0 := (Kd.V_at (base := w.heap.size) HO_0.out).2.2
            have hcut12 := cut_to3 (P := Try.prog) 30 59 .i64 .i64 Try.underlying30 hi012 A0 l0.length c0 x3_1 (of_decide_eq_true (by (with_reducible assumption))) q12 hroom12
            have hr12 := Kd.F_take (m := (x3_1 : Int).toNat) hC12 (by omega)
            have hy12 : y464.length = (x3_1 : Int).toNat := (by rw [Ny464.out, List.length_take]; omega)
            rw [← Ny464.out] at hr12
            rw [← hy12] at hcut12
            have HO468 := Aside0.mk (show Kd.V (Kd.int .u32) 59 _ w.heap.size _ (.slice A0 y464.length y464.length) y464 from Kd.V_mk (by omega) hr12)
            have HC468 := Aside0.mk (show y464.length ≤ y464.length from by omega)
            clear hr12 hC12 hroom12 hi012 hsz12
            have KY12 := Aside0.mk hy12
            clear hy12
            replace q12 := eq_true q12
            go_wp2
            go_ret
            exact ⟨_, by (rfl), by exact HO468.out, (HB.out)⟩
          · rw [if_neg c11] at H
            exact absurd H (by simp)
        · rw [if_neg c10] at H
          exact absurd H (by simp)
theorem ln_wr (b m : Nat) (h : m ≤ 8) (hb : b ≤ 24) : wrap64 ((b : Int) + wrap64 (m : Int)) = ((b + m : Nat) : Int) := by unfold wrap64; omega
theorem ln_wr0 (m : Nat) (h : m ≤ 8) : wrap64 (wrap64 (m : Int)) = (m : Int) := by unfold wrap64; omega
def bits_Len32.f (a0 : Int) : Option (Int) := if 0 ≤ a0 then if a0 ≤ 4294967295 then some (Lib.bitLen a0.toNat) else none else none
set_option maxHeartbeats 4000000 in
set_option maxRecDepth 100000 in
theorem bits_Len32.calls (a0 : Int) (r : Int) (w : World) (h : bits_Len32.f a0 = some r) :
    Calls Try.prog 72 #[.int .u32 a0] w fun e w' => e = .returned (.int .i64 r) ∧ Drawn0 w w' := by
  unfold bits_Len32.f at h
  by_cases h0 : 0 ≤ a0
  · rw [if_pos h0] at h
    by_cases h1 : a0 ≤ 4294967295
    · rw [if_pos h1] at h
      obtain rfl := Option.some.inj h
      clear h
      have u9 := Try.underlying9
      have i1 : 0 ≤ a0 / 65536 / 256 := by omega
      have j1 : a0 / 65536 / 256 ≤ 255 := by omega
      have i2 : 0 ≤ a0 / 65536 := by omega
      have i3 : 0 ≤ a0 / 256 := by omega
      by_cases c1 : 65536 ≤ a0
      · by_cases c2 : 256 ≤ a0 / 65536
        · go_enter Try.func72, Try.ntmps72
          go_wp2
          go_ret
          refine ⟨congrArg Ending.returned (congrArg (Value.int IntKind.i64) ?_), Drawn0.refl _⟩
          rw [Lib.len8_of (a0 / 65536 / 256) i1 j1]
          have e : (a0 / 65536 / 256).toNat = a0.toNat / 16777216 := by omega
          have l := Lib.bitLen_le8' (a0 / 65536 / 256) i1 j1
          have s := Lib.bitLen_shift24 a0.toNat (by omega) (by omega)
          rw [e] at l ⊢
          rw [s]
          exact ln_wr 24 _ l (by decide)
        · have j2 : a0 / 65536 ≤ 255 := by omega
          have c2' : a0 / 65536 < 256 := by omega
          clear c2
          go_enter Try.func72, Try.ntmps72
          go_wp2
          go_ret
          refine ⟨congrArg Ending.returned (congrArg (Value.int IntKind.i64) ?_), Drawn0.refl _⟩
          rw [Lib.len8_of (a0 / 65536) i2 j2]
          have e : (a0 / 65536).toNat = a0.toNat / 65536 := by omega
          have l := Lib.bitLen_le8' (a0 / 65536) i2 j2
          have s := Lib.bitLen_shift16 a0.toNat (by omega) (by omega)
          rw [e] at l ⊢
          rw [s]
          exact ln_wr 16 _ l (by decide)
      · have c1' : a0 < 65536 := by omega
        clear c1
        by_cases c3 : 256 ≤ a0
        · have j3 : a0 / 256 ≤ 255 := by omega
          go_enter Try.func72, Try.ntmps72
          go_wp2
          go_ret
          refine ⟨congrArg Ending.returned (congrArg (Value.int IntKind.i64) ?_), Drawn0.refl _⟩
          rw [Lib.len8_of (a0 / 256) i3 j3]
          have e : (a0 / 256).toNat = a0.toNat / 256 := by omega
          have l := Lib.bitLen_le8' (a0 / 256) i3 j3
          have s := Lib.bitLen_shift8 a0.toNat (by omega) (by omega)
          rw [e] at l ⊢
          rw [s]
          exact ln_wr 8 _ l (by decide)
        · have j4 : a0 ≤ 255 := by omega
          have c3' : a0 < 256 := by omega
          clear c3
          go_enter Try.func72, Try.ntmps72
          go_wp2
          go_ret
          refine ⟨congrArg Ending.returned (congrArg (Value.int IntKind.i64) ?_), Drawn0.refl _⟩
          rw [Lib.len8_of a0 h0 j4]
          have l := Lib.bitLen_le8' a0 h0 j4
          exact ln_wr0 _ l
    · rw [if_neg h1] at h; exact absurd h (by simp)
  · rw [if_neg h0] at h; exact absurd h (by simp)
def bits_LeadingZeros32.f (a0 : Int) : Option (Int) := (bits_Len32.f a0).bind fun t469 => (some (wrap64 (32 - t469)))
set_option maxHeartbeats 8000000 in
set_option maxRecDepth 100000 in
theorem bits_LeadingZeros32.calls (a0 : Int) (r : Int) (w : World) (h : bits_LeadingZeros32.f a0 = some r) :
    Calls Try.prog 66 #[.int .u32 a0] w fun e w' => e = .returned (.int .i64 r) ∧ Drawn0 w w' := by
  have H : ((bits_Len32.f a0).bind fun t469 => (some (wrap64 (32 - t469)))) = some r := h
  clear h
  replace H := Option.bind_eq_some_iff.mp H
  obtain ⟨t469, A20, H⟩ := H
  replace H : (some (wrap64 (32 - t469))) = some r := H
  have A2 := Aside0.mk A20
  clear A20
  obtain rfl := Option.some.inj H
  go_enter Try.func66, Try.ntmps66
  go_wp2_with ((with_reducible refine gate_callee (f := 72) rfl ?_); refine goesL_ (some 4) rfl rfl Try.func72 (by kernel_rfl) rfl #[.int .u32 a0] rfl (by (try simp only [List.map_toArray, List.map_cons, List.map_nil]); rfl) ?_; (with_reducible refine (bits_Len32.calls a0 t469 _ A2.out).mono ?_); rintro e w' ⟨rfl, ⟨nd, rfl⟩⟩; refine ⟨_, rfl, ?_⟩)
  go_ret
  exact ⟨by (rfl), by repeat (first | exact Drawn0.refl _ | apply Drawn0.step)⟩
def nat_Bits.f (k : Nat) (l0 : List Int) : Option (Int) := (nat_trim.f k l0).bind fun t470 => (if (t470.length : Int) = 0 then (some 0) else (if 0 ≤ (wrap64 ((t470.length : Int) - 1)) then (if (wrap64 ((t470.length : Int) - 1)) < (t470.length : Int) then ((bits_LeadingZeros32.f (rd t470 (wrap64 ((t470.length : Int) - 1)))).bind fun t474 => (some (wrap64 ((wrap64 (32 * (t470.length : Int))) - t474)))) else (none)) else (none)))
set_option maxHeartbeats 8000000 in
set_option maxRecDepth 100000 in
theorem nat_Bits.calls (k : Nat) (A0 : Option Addr) (c0 : Nat) (l0 : List Int) (r : Int) (w : World) (hr0 : Kd.C (Kd.int .u32) w A0 l0.length l0) (hc0 : l0.length ≤ c0) (h : nat_Bits.f k l0 = some r) :
    Calls Try.prog 63 #[.slice A0 l0.length c0] w fun e w' => e = .returned (.int .i64 r) ∧ Below w.heap.size w w' := by
  have HR0 := Aside0.mk hr0
  have HC0 := Aside0.mk hc0
  clear hr0 hc0
  have HB := Aside0.mk (Below.refl w.heap.size w)
  have H : ((nat_trim.f k l0).bind fun t470 => (if (t470.length : Int) = 0 then (some 0) else (if 0 ≤ (wrap64 ((t470.length : Int) - 1)) then (if (wrap64 ((t470.length : Int) - 1)) < (t470.length : Int) then ((bits_LeadingZeros32.f (rd t470 (wrap64 ((t470.length : Int) - 1)))).bind fun t474 => (some (wrap64 ((wrap64 (32 * (t470.length : Int))) - t474)))) else (none)) else (none)))) = some r := h
  clear h
  replace H := Option.bind_eq_some_iff.mp H
  obtain ⟨t470, A20, H⟩ := H
  replace H : (if (t470.length : Int) = 0 then (some 0) else (if 0 ≤ (wrap64 ((t470.length : Int) - 1)) then (if (wrap64 ((t470.length : Int) - 1)) < (t470.length : Int) then ((bits_LeadingZeros32.f (rd t470 (wrap64 ((t470.length : Int) - 1)))).bind fun t474 => (some (wrap64 ((wrap64 (32 * (t470.length : Int))) - t474)))) else (none)) else (none))) = some r := H
  have A2 := Aside0.mk A20
  clear A20
  by_cases c3 : (t470.length : Int) = 0
  · rw [if_pos c3] at H
    have c3b0 : ((t470.length : Int) == 0) = true := beq_iff_eq.mpr c3
    have c3b1 : ((t470.length : Int) != 0) = false := bne_eq_false_iff_eq.mpr c3
    clear c3
    obtain rfl := Option.some.inj H
    go_enter Try.func63, Try.ntmps63
    go_wp2_with ((with_reducible refine gate_callee (f := 65) rfl ?_); refine goesL_ (some 4) rfl rfl Try.func65 (by kernel_rfl) rfl #[.slice A0 l0.length c0] rfl (by (try simp only [List.map_toArray, List.map_cons, List.map_nil]); rfl) ?_; (with_reducible refine (nat_trim.calls k (fun k_ => k_ < w.heap.size) _ _ l0 t470 _ ?side1 A2.out).mono ?_); (case side1 => exact Kd.V_mk HC0.out (Kd.F_below (Kd.C_F (Kd.heap_int .u32) HR0.out) (HB.out))); rintro e w4 ⟨v471, rfl, ho0, hb⟩; refine ⟨_, rfl, ?_⟩; have HO472 := Aside0.mk (Kd.V_lower (Kd.V_mono (ok' := fun k_ => True) ho0 (fun k_ hk_ => trivial)) (below_size (HB.out))); replace HB := Aside0.mk (below_step (HB.out) hb); (try clear hb); (try clear ho0); obtain ⟨Ao5, co5, eo5⟩ := Kd.V_slice HO472.out; subst eo5)
    go_ret
    exact ⟨by (rfl), (HB.out)⟩
  · rw [if_neg c3] at H
    have c3b0 : ((t470.length : Int) == 0) = false := beq_eq_false_iff_ne.mpr c3
    have c3b1 : ((t470.length : Int) != 0) = true := bne_iff_ne.mpr c3
    have c3b2 : ¬ (t470 = []) := fun h_ => c3 (by rw [h_]; rfl)
    obtain ⟨ji6, hji6⟩ : ∃ j_ : Int, (wrap64 ((t470.length : Int) - 1)) = j_ := ⟨_, rfl⟩
    replace H : (if 0 ≤ (ji6) then (if (ji6) < (t470.length : Int) then ((bits_LeadingZeros32.f (rd t470 (ji6))).bind fun t474 => (some (wrap64 ((wrap64 (32 * (t470.length : Int))) - t474)))) else (none)) else (none)) = some r := by (rw [hji6] at H; exact H)
    have hji6w : (IntKind.i64.wrap ((t470.length : Int) - 1)) = ji6 := (i64_w _).trans hji6
    by_cases c7 : 0 ≤ (ji6)
    · rw [if_pos c7] at H
      have c7b0 : decide (0 ≤ (ji6)) = true := decide_eq_true c7
      clear c7
      by_cases c8 : (ji6) < (t470.length : Int)
      · rw [if_pos c8] at H
        have c8b0 : decide ((ji6) < (t470.length : Int)) = true := decide_eq_true c8
        clear c8
        replace H := Option.bind_eq_some_iff.mp H
        obtain ⟨t474, A90, H⟩ := H
        replace H : (some (wrap64 ((wrap64 (32 * (t470.length : Int))) - t474))) = some r := H
        have A9 := Aside0.mk A90
        clear A90
        obtain rfl := Option.some.inj H
        go_enter Try.func63, Try.ntmps63
        go_wp2_with (first | ((with_reducible refine gate_callee (f := 65) rfl ?_); refine goesL_ (some 4) rfl rfl Try.func65 (by kernel_rfl) rfl #[.slice A0 l0.length c0] rfl (by (try simp only [List.map_toArray, List.map_cons, List.map_nil]); rfl) ?_; (with_reducible refine (nat_trim.calls k (fun k_ => k_ < w.heap.size) _ _ l0 t470 _ ?side1 A2.out).mono ?_); (case side1 => exact Kd.V_mk HC0.out (Kd.F_below (Kd.C_F (Kd.heap_int .u32) HR0.out) (HB.out))); rintro e w10 ⟨v471, rfl, ho0, hb⟩; refine ⟨_, rfl, ?_⟩; have HO472 := Aside0.mk (Kd.V_lower (Kd.V_mono (ok' := fun k_ => True) ho0 (fun k_ hk_ => trivial)) (below_size (HB.out))); replace HB := Aside0.mk (below_step (HB.out) hb); (try clear hb); (try clear ho0); obtain ⟨Ao11, co11, eo11⟩ := Kd.V_slice HO472.out; subst eo11; have p473 : 0 ≤ ((ji6) : Int) := of_decide_eq_true (by (with_reducible assumption)); have q473 : (ji6) < (t470.length : Int) := of_decide_eq_true (by (with_reducible assumption)); obtain ⟨ad473, e473, hx473_0⟩ := Kd.at_int (Kd.V_reads' HO472.out).2.2 (ji6) p473 q473; cases e473; replace p473 := eq_true p473; replace q473 := eq_true q473) | ((with_reducible refine gate_callee (f := 66) rfl ?_); refine goesL_ (some 17) rfl rfl Try.func66 (by kernel_rfl) rfl #[.int .u32 (rd t470 (ji6))] rfl (by (try simp only [List.map_toArray, List.map_cons, List.map_nil]); rfl) ?_; (with_reducible refine (bits_LeadingZeros32.calls (rd t470 (ji6)) t474 _ A9.out).mono ?_); rintro e w' ⟨rfl, ⟨nd, rfl⟩⟩; refine ⟨_, rfl, ?_⟩))
        go_ret
        exact ⟨by (rfl), by repeat (with_reducible first | exact HB.out | apply pw_below_drewN)⟩
      · rw [if_neg c8] at H
        exact absurd H (by simp)
    · rw [if_neg c7] at H
      exact absurd H (by simp)
def whole_Sign.f (k : Nat) (a0_0 : Bool) (l0_1 : List Int) : Option (Int) := (nat_Bits.f k l0_1).bind fun t476 => (if t476 = 0 then (some 0) else (if a0_0 = true then (some (-1)) else (some 1)))
set_option maxHeartbeats 8000000 in
set_option maxRecDepth 100000 in
theorem whole_Sign.calls (k : Nat) (a0_0 : Bool) (A0_1 : Option Addr) (c0_1 : Nat) (l0_1 : List Int) (r : Int) (w : World) (hr0_1 : Kd.C (Kd.int .u32) w A0_1 l0_1.length l0_1) (hc0_1 : l0_1.length ≤ c0_1) (h : whole_Sign.f k a0_0 l0_1 = some r) :
    Calls Try.prog 67 #[.agg #[.bool a0_0, .slice A0_1 l0_1.length c0_1]] w fun e w' => e = .returned (.int .i64 r) ∧ Below w.heap.size w w' := by
  have hu32 := Try.underlying32
  have HR0_1 := Aside0.mk hr0_1
  have HC0_1 := Aside0.mk hc0_1
  clear hr0_1 hc0_1
  have HB := Aside0.mk (Below.refl w.heap.size w)
  have H : ((nat_Bits.f k l0_1).bind fun t476 => (if t476 = 0 then (some 0) else (if a0_0 = true then (some (-1)) else (some 1)))) = some r := h
  clear h
  replace H := Option.bind_eq_some_iff.mp H
  obtain ⟨t476, A20, H⟩ := H
  replace H : (if t476 = 0 then (some 0) else (if a0_0 = true then (some (-1)) else (some 1))) = some r := H
  have A2 := Aside0.mk A20
  clear A20
  by_cases c3 : t476 = 0
  · rw [if_pos c3] at H
    have c3b0 : (t476 == 0) = true := beq_iff_eq.mpr c3
    have c3b1 : (t476 != 0) = false := bne_eq_false_iff_eq.mpr c3
    clear c3
    obtain rfl := Option.some.inj H
    go_enter Try.func67, Try.ntmps67
    go_wp2_with (first | ((with_reducible refine gate_dst (N := 1) rfl ?_); refine box_event ?hg (N := 1) ?hd (cs := #[.bool a0_0, .slice A0_1 l0_1.length c0_1]) (t := 32) ?hr ?_; (case hd => rfl); (case hg => rfl); (case hr => (go_simp; done)); intro gb475 hg w4 hbox hb; have n0_ := Aside0.mk (below_step (HB.out) hb); have n1_ := Aside0.mk (hbox); have n2_ := Aside0.mk (by rw [hg]; exact (below_size (HB.out)) : w.heap.size ≤ gb475); have n3_ := Aside0.mk (by rw [hg]; exact (below_size (HB.out)) : w.heap.size ≤ gb475); clear HB; have HB := n0_; have BK475 := n1_; have GW475 := n2_; have GE475 := n3_; clear n0_ n1_ n2_ n3_; clear hb hbox hg; have hcz5_0 : w4.cell? ⟨gb475, 0, none⟩ = some (.bool a0_0) := (blk_cell BK475.out 0).trans rfl; have hcz5_1 : w4.cell? ⟨gb475, 1, none⟩ = some (.slice A0_1 l0_1.length c0_1) := (blk_cell BK475.out 1).trans rfl; have hfz5_0 := blk_frozen BK475.out 0; have hfz5_1 := blk_frozen BK475.out 1) | ((with_reducible refine gate_callee (f := 63) rfl ?_); refine goesL_ (some 6) rfl rfl Try.func63 (by kernel_rfl) rfl #[.slice A0_1 l0_1.length c0_1] rfl (by (try simp only [List.map_toArray, List.map_cons, List.map_nil]); rfl) ?_; (with_reducible refine (nat_Bits.calls k _ _ l0_1 t476 _ ?side1 ?side2 A2.out).mono ?_); (case side1 => exact (Kd.C_below HR0_1.out HB.out)); (case side2 => exact HC0_1.out); rintro e w6 ⟨rfl, hb⟩; refine ⟨_, rfl, ?_⟩; replace BK475 := Aside0.mk (blk_below (g := gb475) (o := .cells #[.bool a0_0, .slice A0_1 l0_1.length c0_1] 32 (0, 0)) (BK475.out) hb); replace HB := Aside0.mk (below_step (HB.out) hb); (try clear hb)))
    go_ret
    exact ⟨by (rfl), (HB.out)⟩
  · rw [if_neg c3] at H
    have c3b0 : (t476 == 0) = false := beq_eq_false_iff_ne.mpr c3
    have c3b1 : (t476 != 0) = true := bne_iff_ne.mpr c3
    by_cases c7 : a0_0 = true
    · subst c7
      have H1 : (some (-1)) = some r := by rw [if_pos rfl] at H; exact H
      clear H
      have H := H1
      clear H1
      obtain rfl := Option.some.inj H
      go_enter Try.func67, Try.ntmps67
      go_wp2_with (first | ((with_reducible refine gate_dst (N := 1) rfl ?_); refine box_event ?hg (N := 1) ?hd (cs := #[.bool true, .slice A0_1 l0_1.length c0_1]) (t := 32) ?hr ?_; (case hd => rfl); (case hg => rfl); (case hr => (go_simp; done)); intro gb475 hg w8 hbox hb; have n0_ := Aside0.mk (below_step (HB.out) hb); have n1_ := Aside0.mk (hbox); have n2_ := Aside0.mk (by rw [hg]; exact (below_size (HB.out)) : w.heap.size ≤ gb475); have n3_ := Aside0.mk (by rw [hg]; exact (below_size (HB.out)) : w.heap.size ≤ gb475); clear HB; have HB := n0_; have BK475 := n1_; have GW475 := n2_; have GE475 := n3_; clear n0_ n1_ n2_ n3_; clear hb hbox hg; have hcz9_0 : w8.cell? ⟨gb475, 0, none⟩ = some (.bool true) := (blk_cell BK475.out 0).trans rfl; have hcz9_1 : w8.cell? ⟨gb475, 1, none⟩ = some (.slice A0_1 l0_1.length c0_1) := (blk_cell BK475.out 1).trans rfl; have hfz9_0 := blk_frozen BK475.out 0; have hfz9_1 := blk_frozen BK475.out 1) | ((with_reducible refine gate_callee (f := 63) rfl ?_); refine goesL_ (some 6) rfl rfl Try.func63 (by kernel_rfl) rfl #[.slice A0_1 l0_1.length c0_1] rfl (by (try simp only [List.map_toArray, List.map_cons, List.map_nil]); rfl) ?_; (with_reducible refine (nat_Bits.calls k _ _ l0_1 t476 _ ?side1 ?side2 A2.out).mono ?_); (case side1 => exact (Kd.C_below HR0_1.out HB.out)); (case side2 => exact HC0_1.out); rintro e w10 ⟨rfl, hb⟩; refine ⟨_, rfl, ?_⟩; replace BK475 := Aside0.mk (blk_below (g := gb475) (o := .cells #[.bool true, .slice A0_1 l0_1.length c0_1] 32 (0, 0)) (BK475.out) hb); replace HB := Aside0.mk (below_step (HB.out) hb); (try clear hb); have hcz11_0 : w10.cell? ⟨gb475, 0, none⟩ = some (.bool true) := (blk_cell BK475.out 0).trans rfl; have hcz11_1 : w10.cell? ⟨gb475, 1, none⟩ = some (.slice A0_1 l0_1.length c0_1) := (blk_cell BK475.out 1).trans rfl; have hfz11_0 := blk_frozen BK475.out 0; have hfz11_1 := blk_frozen BK475.out 1))
      go_ret
      exact ⟨by (rfl), (HB.out)⟩
    · replace c7 := Bool.eq_false_iff.mpr c7
      subst c7
      have H1 : (some 1) = some r := by rw [if_neg (show ¬ (false = true) by decide)] at H; exact H
      clear H
      have H := H1
      clear H1
      obtain rfl := Option.some.inj H
      go_enter Try.func67, Try.ntmps67
      go_wp2_with (first | ((with_reducible refine gate_dst (N := 1) rfl ?_); refine box_event ?hg (N := 1) ?hd (cs := #[.bool false, .slice A0_1 l0_1.length c0_1]) (t := 32) ?hr ?_; (case hd => rfl); (case hg => rfl); (case hr => (go_simp; done)); intro gb475 hg w12 hbox hb; have n0_ := Aside0.mk (below_step (HB.out) hb); have n1_ := Aside0.mk (hbox); have n2_ := Aside0.mk (by rw [hg]; exact (below_size (HB.out)) : w.heap.size ≤ gb475); have n3_ := Aside0.mk (by rw [hg]; exact (below_size (HB.out)) : w.heap.size ≤ gb475); clear HB; have HB := n0_; have BK475 := n1_; have GW475 := n2_; have GE475 := n3_; clear n0_ n1_ n2_ n3_; clear hb hbox hg; have hcz13_0 : w12.cell? ⟨gb475, 0, none⟩ = some (.bool false) := (blk_cell BK475.out 0).trans rfl; have hcz13_1 : w12.cell? ⟨gb475, 1, none⟩ = some (.slice A0_1 l0_1.length c0_1) := (blk_cell BK475.out 1).trans rfl; have hfz13_0 := blk_frozen BK475.out 0; have hfz13_1 := blk_frozen BK475.out 1) | ((with_reducible refine gate_callee (f := 63) rfl ?_); refine goesL_ (some 6) rfl rfl Try.func63 (by kernel_rfl) rfl #[.slice A0_1 l0_1.length c0_1] rfl (by (try simp only [List.map_toArray, List.map_cons, List.map_nil]); rfl) ?_; (with_reducible refine (nat_Bits.calls k _ _ l0_1 t476 _ ?side1 ?side2 A2.out).mono ?_); (case side1 => exact (Kd.C_below HR0_1.out HB.out)); (case side2 => exact HC0_1.out); rintro e w14 ⟨rfl, hb⟩; refine ⟨_, rfl, ?_⟩; replace BK475 := Aside0.mk (blk_below (g := gb475) (o := .cells #[.bool false, .slice A0_1 l0_1.length c0_1] 32 (0, 0)) (BK475.out) hb); replace HB := Aside0.mk (below_step (HB.out) hb); (try clear hb); have hcz15_0 : w14.cell? ⟨gb475, 0, none⟩ = some (.bool false) := (blk_cell BK475.out 0).trans rfl; have hcz15_1 : w14.cell? ⟨gb475, 1, none⟩ = some (.slice A0_1 l0_1.length c0_1) := (blk_cell BK475.out 1).trans rfl; have hfz15_0 := blk_frozen BK475.out 0; have hfz15_1 := blk_frozen BK475.out 1))
      go_ret
      exact ⟨by (rfl), (HB.out)⟩
def slices_Clone_uint32_uint32.f (l0 : List Int) : Option (List Int) := if l0.length < 35184372088832 then some l0 else none
theorem slices_Clone_uint32_uint32.calls (A0 : Option Addr) (c0 : Nat) (l0 : List Int) (r : List Int) (w : World) (hr0 : Kd.C (Kd.int .u32) w A0 l0.length l0) (hc0 : l0.length ≤ c0) (h : slices_Clone_uint32_uint32.f l0 = some r) :
    Calls Try.prog 74 #[.slice A0 l0.length c0] w fun e w' => ∃ v0_ : Value, e = .returned (v0_) ∧ Kd.R (Kd.int .u32) 59 w' w.heap.size (fun _ => True) v0_ r ∧ Below w.heap.size w w' := by
  have HR0 := Aside0.mk hr0
  have HC0 := Aside0.mk hc0
  clear hr0 hc0
  have HB := Aside0.mk (Below.refl w.heap.size w)
  unfold slices_Clone_uint32_uint32.f at h
  by_cases hl : l0.length < 35184372088832
  · rw [if_pos hl] at h
    obtain rfl := Option.some.inj h
    clear h
    have LM := Aside0.mk hl
    clear hl
    cases A0 with
    | none =>
      have hnil := Aside0.mk (show l0 = [] from by
        rcases Nat.eq_zero_or_pos l0.length with e | e
        · exact List.length_eq_zero_iff.mp e
        · obtain ⟨ad, ea, _⟩ := Kd.at_int HR0.out 0 (by omega) (by omega)
          cases ea)
      go_enter Try.func74, Try.ntmps74
      have heq := fun (W : World) => Lib.run_eql_slice_nil (P := Try.prog) W 30 59 none l0.length c0 0 0 Try.underlying30
      go_wp2
      go_ret
      exact ⟨_, rfl, by rw [hnil.out]; exact Kd.R_nil _ _ _ _ _, HB.out⟩
    | some x =>
      go_enter Try.func74, Try.ntmps74
      have heq := fun (W : World) => Lib.run_eql_slice_nil (P := Try.prog) W 30 59 (some x) l0.length c0 0 0 Try.underlying30
      go_wp2_with (first | ((with_reducible refine gate_dst (N := 5) rfl ?_); refine Kd.R_lit (Kd.int .u32) _ 59 ?hg (N := 5) ?hd (xs := ([] : List Int)) (inner := []) (ok := fun _ => True) (okp := fun _ => True) ?hr ?hp (fun _ hk => hk) trivial (Below.refl _ _) (Nat.le_refl _) (by simp) ?_; (case hd => rfl); (case hg => rfl); (case hr => (go_simp; done)); (case hp => exact (Reps.none _ _)); intro v1 w1 hn hb hg_ hnew_; clear hg_ hnew_; replace HB := Aside0.mk (below_step HB.out hb); have HO := Aside0.mk hn; clear hn hb) | ((with_reducible refine gate_builtin (b := .append) (xs := #[.tmp 5, .tmp 6]) rfl ?_); at_builtin; refine Kd.R_append_rows (Kd.int .u32) (w0 := w) w.heap.size rfl (.tmp 5) (.tmp 6) 30 59 (.int .u32 0) 4 rfl Try.underlying30 info59 rfl (by decide) (by omega) v1 ([] : List Int) l0 _ _ _ (fun _ => True) (fun _ => False) rfl rfl ?aO ?aR (fun _ _ h => h) (fun _ h => h.elim) ?aF ?aB ?aS ?aL ?_; (case aR => exact Kd.C_below HR0.out HB.out); (case aB => exact HB.out); (case aF => exact (fun _ _ => trivial)); (case aO => exact HO.out); (case aS => exact below_size HB.out); (case aL => have := LM.out; simp; omega); intro v2 w2 ho hb hg hat; rw [List.nil_append] at ho; have n0_ := Aside0.mk hb; have n1_ := Aside0.mk ho; clear HB HO; have HB := n0_; have HO := n1_; clear n0_ n1_ ho hb hg hat))
      go_ret
      exact ⟨_, rfl, HO.out, HB.out⟩
  · rw [if_neg hl] at h
    exact absurd h (by simp)
end Go.Proofs.Ytmgjjdodjamomaa.PB
