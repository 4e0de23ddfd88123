/- Functions with the same answers as the Go code, and the proofs of that; printed by a turned copy of the print, shortened by programs (wip/tools). -/
import Derived.Test.YtmgjjdodjamomaaFW
import Derived.Test.YtmgjjdodjamomaaFx0
import Derived.Test.YtmgjjdodjamomaaFx1
import Derived.Test.YtmgjjdodjamomaaFx10
import Derived.Test.YtmgjjdodjamomaaFx11
import Derived.Test.YtmgjjdodjamomaaFx13
import Derived.Test.YtmgjjdodjamomaaFx19
import Derived.Test.YtmgjjdodjamomaaFx2
import Derived.Test.YtmgjjdodjamomaaFx20
import Derived.Test.YtmgjjdodjamomaaFx21
import Derived.Test.YtmgjjdodjamomaaFx24
import Derived.Test.YtmgjjdodjamomaaFx25
import Derived.Test.YtmgjjdodjamomaaFx26
import Derived.Test.YtmgjjdodjamomaaFx27
import Derived.Test.YtmgjjdodjamomaaFx28
import Derived.Test.YtmgjjdodjamomaaFx29
import Derived.Test.YtmgjjdodjamomaaFx3
import Derived.Test.YtmgjjdodjamomaaFx30
import Derived.Test.YtmgjjdodjamomaaFx31
import Derived.Test.YtmgjjdodjamomaaFx32
import Derived.Test.YtmgjjdodjamomaaFx4
import Derived.Test.YtmgjjdodjamomaaFx7
import Derived.Test.YtmgjjdodjamomaaFx8
namespace Go.Proofs.Ytmgjjdodjamomaa.PB
open Go.RowKit Go.Proofs.YtmgjjdodjamomaaW.PrintWords Go.Proofs.YtmgjjdodjamomaaW.PrintLast Go.Proofs.YtmgjjdodjamomaaW.PrintMore
attribute [local go_sem] max2_int max_two
set_option linter.unusedVariables false
set_option linter.unusedSimpArgs false
mutual
def primroseref01_Gcd.l0 : Nat → List Int → List Int → Option (List Int)
  | 0, _, _ => none
  | k + 1, x0, x1 => if (x1.length : Int) > 0 then ((primroseref01_Small.f k x0).bind fun bt680 => ((primroseref01_Small.f k x1).bind fun bt682 => (if bt680.2 = true then (primroseref01_Gcd.j1 k x0 x1 bt680.1 bt682.1 bt682.2) else (primroseref01_Gcd.j1 k x0 x1 bt680.1 bt682.1 false)))) else (some x0)
def primroseref01_Gcd.j1 : Nat → List Int → List Int → Int → Int → Bool → Option (List Int)
  | 0, _, _, _, _, _ => none
  | k + 1, x0, x1, x5, x7, x32 => if x32 = true then (primroseref01_Gcd.l1 k x5 x7) else ((primroseref01_DivMod.f k x0 x1).bind fun bt687 => (primroseref01_Gcd.l0 k x1 bt687.2.1))
def primroseref01_Gcd.l1 : Nat → Int → Int → Option (List Int)
  | 0, _, _ => none
  | k + 1, x5, x7 => if x7 > 0 then (if x7 = 0 then (none) else (primroseref01_Gcd.l1 k x7 (Int.tmod x5 x7))) else ((primroseref01_Of.f k x5).bind fun t684 => (some t684))
end
def primroseref01_Gcd.f (k : Nat) (l0 : List Int) (l1 : List Int) : Option (List Int) := (primroseref01_Plain.f k l0).bind fun t674 => ((primroseref01_Plain.f k l1).bind fun t677 => (primroseref01_Gcd.l0 k t674 t677))
set_option maxHeartbeats 8000000 in
set_option maxRecDepth 100000 in
theorem primroseref01_Gcd.calls (k : Nat) (A0 : Option Addr) (c0 : Nat) (l0 : List Int) (A1 : Option Addr) (c1 : Nat) (l1 : List Int) (r : List Int) (w : World) (hr0 : Kd.C (Kd.int .u32) w A0 l0.length l0) (hc0 : l0.length ≤ c0) (hr1 : Kd.C (Kd.int .u32) w A1 l1.length l1) (hc1 : l1.length ≤ c1) (h : primroseref01_Gcd.f k l0 l1 = some r) :
    Calls Try.prog 59 #[.slice A0 l0.length c0, .slice A1 l1.length c1] w fun e w' => ∃ v0_ : Value, e = .returned (v0_) ∧ Kd.R (Kd.int .u32) 59 w' w.heap.size (fun _ => True) v0_ r ∧ Below w.heap.size w w' := by
  have HR0 := Aside0.mk hr0
  have HC0 := Aside0.mk hc0
  clear hr0 hc0
  have HR1 := Aside0.mk hr1
  have HC1 := Aside0.mk hc1
  clear hr1 hc1
  have HB := Aside0.mk (Below.refl w.heap.size w)
  have H : ((primroseref01_Plain.f k l0).bind fun t674 => ((primroseref01_Plain.f k l1).bind fun t677 => (primroseref01_Gcd.l0 k t674 t677))) = some r := h
  clear h
  replace H := Option.bind_eq_some_iff.mp H
  obtain ⟨t674, A30, H⟩ := H
  replace H : ((primroseref01_Plain.f k l1).bind fun t677 => (primroseref01_Gcd.l0 k t674 t677)) = some r := H
  have A3 := Aside0.mk A30
  clear A30
  replace H := Option.bind_eq_some_iff.mp H
  obtain ⟨t677, A40, H⟩ := H
  replace H : (primroseref01_Gcd.l0 k t674 t677) = some r := H
  have A4 := Aside0.mk A40
  clear A40
  have H' := Aside0.mk H
  clear H
  go_enter Try.func59, Try.ntmps59
  go_wp2_with (first | (go_at_call 51; (with_reducible refine (primroseref01_Plain.calls k _ _ l0 t674 _ ?side1 ?side2 A3.out).mono ?_); (case side1 => exact HR0.out); (case side2 => exact HC0.out); rintro e w5 ⟨v675, rfl, ho0, hb⟩; have HO676 := Aside0.mk (Kd.R_lower ho0 (below_size (HB.out))); replace HB := Aside0.mk (below_step (HB.out) hb); (try clear hb); (try clear ho0)) | (go_at_call 51; (with_reducible refine (primroseref01_Plain.calls k _ _ l1 t677 _ ?side1 ?side2 A4.out).mono ?_); (case side1 => exact (Kd.C_below HR1.out HB.out)); (case side2 => exact HC1.out); rintro e w6 ⟨v678, rfl, ho0, hb⟩; have n0_ := Aside0.mk (Kd.R_elder' (HO676.out) (Kd.R_base ho0) hb); have n1_ := Aside0.mk (Kd.R_lower (Kd.R_new' ho0 (Kd.R_lt (HO676.out))) (below_size (HB.out))); have n2_ := Aside0.mk (below_step (HB.out) hb); clear HO676; clear HB; have HO676 := n0_; have HO679 := n1_; have HB := n2_; clear n0_ n1_ n2_; (try clear hb); (try clear ho0)))
  go_loopg [0, 1] k (fun kq v0 v1 w' => ∃ (x0_1 : List Int) (x1_1 : List Int), Aside0 (primroseref01_Gcd.l0 kq x0_1 x1_1 = some r) ∧ Aside0 (kq ≤ k) ∧ Aside0 (Kd.R (Kd.int .u32) 59 w' w.heap.size (fun k_ => some k_ ≠ (v1 : Value).ownBlock) v0 x0_1) ∧ Aside0 (Kd.R (Kd.int .u32) 59 w' w.heap.size (fun k_ => some k_ ≠ (v0 : Value).ownBlock) v1 x1_1) ∧ Aside0 (Below w.heap.size w w'))
  case atStart => exact ⟨(t674), (t677), H', ⟨Nat.le_refl _⟩, ⟨by exact Kd.R_mono HO676.out (fun _ hk => hk.2)⟩, ⟨by exact Kd.R_mono HO679.out (fun _ hk => hk.2)⟩, ⟨(HB.out)⟩⟩
  case round =>
    clear H'
    obtain ⟨x0_1, x1_1, HA, HK1, HO_0, HO_1, HB⟩ := hrel
    cases gk with
    | zero => exact absurd HA.out (by simp [primroseref01_Gcd.l0])
    | succ k1 =>
      have H := HA.out
      clear HA
      simp only [primroseref01_Gcd.l0] at H
      by_cases c7 : (x1_1.length : Int) > 0
      · rw [if_pos c7] at H
        have c7b0 : decide (0 < (x1_1.length : Int)) = true := decide_eq_true c7
        have c7b1 : decide (0 < x1_1.length) = true := decide_eq_true (by omega)
        clear c7
        replace H := Option.bind_eq_some_iff.mp H
        obtain ⟨⟨t680, t681⟩, A80, H⟩ := H
        replace H : ((primroseref01_Small.f k1 x1_1).bind fun bt682 => (if t681 = true then (primroseref01_Gcd.j1 k1 x0_1 x1_1 t680 bt682.1 bt682.2) else (primroseref01_Gcd.j1 k1 x0_1 x1_1 t680 bt682.1 false))) = some r := H
        have A8 := Aside0.mk A80
        clear A80
        replace H := Option.bind_eq_some_iff.mp H
        obtain ⟨⟨t682, t683⟩, A90, H⟩ := H
        replace H : (if t681 = true then (primroseref01_Gcd.j1 k1 x0_1 x1_1 t680 t682 t683) else (primroseref01_Gcd.j1 k1 x0_1 x1_1 t680 t682 false)) = some r := H
        have A9 := Aside0.mk A90
        clear A90
        have HC10 := Aside0.mk H
        clear H
        obtain ⟨Ao11, co11, eo11⟩ := Kd.R_slice HO_1.out
        subst eo11
        obtain ⟨Ao12, co12, eo12⟩ := Kd.R_slice HO_0.out
        subst eo12
        go_upto_region 5 with (first | (go_at_call 55; (with_reducible refine (primroseref01_Small.calls k1 _ _ x0_1 t680 t681 _ ?side1 ?side2 A8.out).mono ?_); (case side1 => exact (Kd.R_reads' HO_0.out).2.2); (case side2 => exact (Kd.R_reads' HO_0.out).2.1); rintro e w13 ⟨rfl, hb⟩; replace HO_0 := Aside0.mk (Kd.R_below (HO_0.out) hb); replace HO_1 := Aside0.mk (Kd.R_below (HO_1.out) hb); replace HB := Aside0.mk (below_step (HB.out) hb); (try clear hb)) | (go_at_call 55; (with_reducible refine (primroseref01_Small.calls k1 _ _ x1_1 t682 t683 _ ?side1 ?side2 A9.out).mono ?_); (case side1 => exact (Kd.R_reads' HO_1.out).2.2); (case side2 => exact (Kd.R_reads' HO_1.out).2.1); rintro e w14 ⟨rfl, hb⟩; replace HO_0 := Aside0.mk (Kd.R_below (HO_0.out) hb); replace HO_1 := Aside0.mk (Kd.R_below (HO_1.out) hb); replace HB := Aside0.mk (below_step (HB.out) hb); (try clear hb)))
        go_cut [32] (fun v32 wc => ∃ (kq : Nat) (x32_9 : Bool), v32 = .bool x32_9 ∧ Aside0 (primroseref01_Gcd.j1 kq x0_1 x1_1 t680 t682 x32_9 = some r) ∧ Aside0 (kq ≤ k1) ∧ Aside0 (Kd.R (Kd.int .u32) 59 wc w.heap.size (fun k_ => some k_ ≠ ((.slice Ao11 x1_1.length co11) : Value).ownBlock) (.slice Ao12 x0_1.length co12) x0_1) ∧ Aside0 (Kd.R (Kd.int .u32) 59 wc w.heap.size (fun k_ => some k_ ≠ ((.slice Ao12 x0_1.length co12) : Value).ownBlock) (.slice Ao11 x1_1.length co11) x1_1) ∧ Aside0 (Below w.heap.size w wc))
        case first =>
          have H := HC10.out
          clear HC10
          by_cases c15 : t681 = true
          · subst c15
            have H1 : (primroseref01_Gcd.j1 k1 x0_1 x1_1 t680 t682 t683) = some r := by rw [if_pos rfl] at H; exact H
            clear H
            have H := H1
            clear H1
            have H' := Aside0.mk H
            clear H
            go_wp2
            go_meet
            case rel => exact ⟨_, (t683), (by (rfl)), H', ⟨by have := HK1.out; (omega)⟩, ⟨by exact HO_0.out⟩, ⟨by exact HO_1.out⟩, ⟨(HB.out)⟩⟩
          · replace c15 := Bool.eq_false_iff.mpr c15
            subst c15
            have H1 : (primroseref01_Gcd.j1 k1 x0_1 x1_1 t680 t682 false) = some r := by rw [if_neg (show ¬ (false = true) by decide)] at H; exact H
            clear H
            have H := H1
            clear H1
            have H' := Aside0.mk H
            clear H
            go_wp2
            go_meet
            case rel => exact ⟨_, (false), (by (rfl)), H', ⟨by have := HK1.out; (omega)⟩, ⟨by exact HO_0.out⟩, ⟨by exact HO_1.out⟩, ⟨(HB.out)⟩⟩
        case rest =>
          clear HC10
          try clear c7b0
          try clear c7b1
          obtain ⟨kq, x32_9, rfl, HA, HJ9, HO_0, HO_1, HB⟩ := hcut
          cases kq with
          | zero => exact absurd HA.out (by simp [primroseref01_Gcd.j1])
          | succ kj9 =>
            have H := HA.out
            clear HA
            simp only [primroseref01_Gcd.j1] at H
            by_cases c16 : x32_9 = true
            · subst c16
              have H1 : (primroseref01_Gcd.l1 kj9 t680 t682) = some r := by rw [if_pos rfl] at H; exact H
              clear H
              have H := H1
              clear H1
              have H' := Aside0.mk H
              clear H
              go_wp2
              go_loopg [5, 7] kj9 (fun kq v5 v7 w' => ∃ (x5_3 : Int) (x7_3 : Int), v5 = .int .i64 x5_3 ∧ v7 = .int .i64 x7_3 ∧ Aside0 (primroseref01_Gcd.l1 kq x5_3 x7_3 = some r) ∧ Aside0 (kq ≤ kj9) ∧ Aside0 (Below w.heap.size w w'))
              case atStart => exact ⟨(t680), (t682), (by (rfl)), (by (rfl)), H', ⟨Nat.le_refl _⟩, ⟨(HB.out)⟩⟩
              case round =>
                clear H'
                obtain ⟨x5_3, x7_3, rfl, rfl, HA, HK3, HB⟩ := hrel
                cases gk with
                | zero => exact absurd HA.out (by simp [primroseref01_Gcd.l1])
                | succ k3 =>
                  have H := HA.out
                  clear HA
                  simp only [primroseref01_Gcd.l1] at H
                  by_cases c17 : x7_3 > 0
                  · rw [if_pos c17] at H
                    have c17b0 : decide (0 < x7_3) = true := decide_eq_true c17
                    clear c17
                    by_cases c18 : x7_3 = 0
                    · rw [if_pos c18] at H
                      exact absurd H (by simp)
                    · rw [if_neg c18] at H
                      have c18b0 : (x7_3 == 0) = false := beq_eq_false_iff_ne.mpr c18
                      have c18b1 : (x7_3 != 0) = true := bne_iff_ne.mpr c18
                      have H' := Aside0.mk H
                      clear H
                      go_wp2
                      repeat (go_quiet (fail); try go_wp2)
                      go_roundg k3
                      case measure => have := HK1.out; have := HJ9.out; have := HK3.out; omega
                      case rel => exact ⟨(x7_3), (Int.tmod x5_3 x7_3), (by (rfl)), (by (rfl)), H', ⟨by have := HK1.out; have := HJ9.out; have := HK3.out; omega⟩, ⟨by repeat (with_reducible first | exact HB.out | apply pw_below_drewN)⟩⟩
                  · rw [if_neg c17] at H
                    have c17b0 : decide (0 < x7_3) = false := decide_eq_false c17
                    clear c17
                    replace H := Option.bind_eq_some_iff.mp H
                    obtain ⟨t684, A190, H⟩ := H
                    replace H : (some t684) = some r := H
                    have A19 := Aside0.mk A190
                    clear A190
                    obtain rfl := Option.some.inj H
                    go_wp2_with (go_at_call 54; (with_reducible refine (primroseref01_Of.calls k3 x5_3 t684 _ A19.out).mono ?_); rintro e w20 ⟨v685, rfl, ho0, hb⟩; have HO686 := Aside0.mk (Kd.R_lower ho0 (below_size (HB.out))); replace HB := Aside0.mk (below_step (HB.out) hb); (try clear hb); (try clear ho0))
                    go_ret
                    exact ⟨_, by (rfl), by exact HO686.out, (HB.out)⟩
            · replace c16 := Bool.eq_false_iff.mpr c16
              subst c16
              have H1 : ((primroseref01_DivMod.f kj9 x0_1 x1_1).bind fun bt687 => (primroseref01_Gcd.l0 kj9 x1_1 bt687.2.1)) = some r := by rw [if_neg (show ¬ (false = true) by decide)] at H; exact H
              clear H
              have H := H1
              clear H1
              replace H := Option.bind_eq_some_iff.mp H
              obtain ⟨⟨t687, t688, t689⟩, A210, H⟩ := H
              replace H : (primroseref01_Gcd.l0 kj9 x1_1 t688) = some r := H
              have A21 := Aside0.mk A210
              clear A210
              have H' := Aside0.mk H
              clear H
              go_wp2_with (go_at_call 53; (with_reducible refine (primroseref01_DivMod.calls kj9 _ _ x0_1 _ _ x1_1 t687 t688 t689 _ ?side1 ?side2 ?side3 ?side4 A21.out).mono ?_); (case side1 => exact (Kd.R_reads' HO_0.out).2.2); (case side2 => exact (Kd.R_reads' HO_0.out).2.1); (case side3 => exact (Kd.R_reads' HO_1.out).2.2); (case side4 => exact (Kd.R_reads' HO_1.out).2.1); rintro e w22 ⟨v690, v692, rfl, ho0, ho1, hb⟩; have n0_ := Aside0.mk (Kd.R_mono (Kd.R_told (Kd.R_told (Kd.R_old (HO_0.out) hb) (Kd.R_base ho0)) (Kd.R_base ho1)) (fun _ h_ => h_.1)); have n1_ := Aside0.mk (Kd.R_mono (Kd.R_told (Kd.R_told (Kd.R_old (HO_1.out) hb) (Kd.R_base ho0)) (Kd.R_base ho1)) (fun _ h_ => h_.1)); have n2_ := Aside0.mk (Kd.R_lower (Kd.R_new' (Kd.R_new' ho0 (Kd.R_lt (HO_0.out))) (Kd.R_lt (HO_1.out))) (below_size (HB.out))); have n3_ := Aside0.mk (Kd.R_lower (Kd.R_new' (Kd.R_new' ho1 (Kd.R_lt (HO_0.out))) (Kd.R_lt (HO_1.out))) (below_size (HB.out))); have n4_ := Aside0.mk (below_step (HB.out) hb); clear HO_0; clear HO_1; clear HB; have HO_0 := n0_; have HO_1 := n1_; have HO691 := n2_; have HO693 := n3_; have HB := n4_; clear n0_ n1_ n2_ n3_ n4_; (try clear hb); (try clear ho0); (try clear ho1))
              go_roundg kj9
              case measure => have := HK1.out; have := HJ9.out; omega
              case rel => exact ⟨(x1_1), (t688), H', ⟨by have := HK1.out; have := HJ9.out; omega⟩, ⟨by exact Kd.R_mono HO_1.out (fun _ hk => hk.2)⟩, ⟨by exact Kd.R_mono HO693.out (fun _ hk => hk.2)⟩, ⟨(HB.out)⟩⟩
      · rw [if_neg c7] at H
        have c7b0 : decide (0 < (x1_1.length : Int)) = false := decide_eq_false c7
        have c7b1 : decide (0 < x1_1.length) = false := decide_eq_false (by omega)
        clear c7
        obtain rfl := Option.some.inj H
        obtain ⟨Ao23, co23, eo23⟩ := Kd.R_slice HO_1.out
        subst eo23
        go_wp2
        go_ret
        exact ⟨_, by (rfl), by exact Kd.R_mono HO_0.out (fun _ hk => trivial), (HB.out)⟩
def primroseref03_over.f (k : Nat) (a0_0 : Bool) (l0_1 : List Int) (l1 : List Int) : Option (Bool × List Int × List Int) := (primroseref02_Sign.f k a0_0 l0_1).bind fun t696 => (if t696 = 0 then ((primroseref03_Zero.f k).bind fun bt697 => (some (bt697.1, bt697.2.1, bt697.2.2))) else ((primroseref01_Bits.f k l1).bind fun t704 => (if t704 = 1 then ((primroseref02_Plain.f k a0_0 l0_1).bind fun bt705 => ((primroseref01_Of.f k 1).bind fun t709 => (some (bt705.1, bt705.2, t709)))) else ((primroseref01_Gcd.f k l0_1 l1).bind fun t712 => ((primroseref01_DivMod.f k l0_1 t712).bind fun bt715 => ((primroseref01_DivMod.f k l1 t712).bind fun bt722 => ((primroseref02_Make.f k a0_0 bt715.1).bind fun bt729 => (some (bt729.1, bt729.2, bt722.1)))))))))
set_option maxHeartbeats 8000000 in
set_option maxRecDepth 100000 in
theorem primroseref03_over.calls (k : Nat) (a0_0 : Bool) (A0_1 : Option Addr) (c0_1 : Nat) (l0_1 : List Int) (A1 : Option Addr) (c1 : Nat) (l1 : List Int) (r1 : Bool) (r2 : List Int) (r3 : List Int) (w : World) (hr0_1 : Kd.C (Kd.int .u32) w A0_1 l0_1.length l0_1) (hc0_1 : l0_1.length ≤ c0_1) (hr1 : Kd.C (Kd.int .u32) w A1 l1.length l1) (hc1 : l1.length ≤ c1) (h : primroseref03_over.f k a0_0 l0_1 l1 = some (r1, r2, r3)) :
    Calls Try.prog 50 #[.agg #[.bool a0_0, .slice A0_1 l0_1.length c0_1], .slice A1 l1.length c1] w fun e w' => ∃ v1_ v2_ : Value, e = .returned (.agg #[.bool r1, v1_, v2_]) ∧ Kd.R (Kd.int .u32) 59 w' w.heap.size (fun k_ => some k_ ≠ (v2_ : Value).ownBlock) v1_ r2 ∧ Kd.R (Kd.int .u32) 59 w' w.heap.size (fun k_ => some k_ ≠ (v1_ : Value).ownBlock) v2_ r3 ∧ Below w.heap.size w w' := by
  have hu32 := Try.underlying32
  have hu39 := Try.underlying39
  have HR0_1 := Aside0.mk hr0_1
  have HC0_1 := Aside0.mk hc0_1
  clear hr0_1 hc0_1
  have HR1 := Aside0.mk hr1
  have HC1 := Aside0.mk hc1
  clear hr1 hc1
  have HB := Aside0.mk (Below.refl w.heap.size w)
  have H : ((primroseref02_Sign.f k a0_0 l0_1).bind fun t696 => (if t696 = 0 then ((primroseref03_Zero.f k).bind fun bt697 => (some (bt697.1, bt697.2.1, bt697.2.2))) else ((primroseref01_Bits.f k l1).bind fun t704 => (if t704 = 1 then ((primroseref02_Plain.f k a0_0 l0_1).bind fun bt705 => ((primroseref01_Of.f k 1).bind fun t709 => (some (bt705.1, bt705.2, t709)))) else ((primroseref01_Gcd.f k l0_1 l1).bind fun t712 => ((primroseref01_DivMod.f k l0_1 t712).bind fun bt715 => ((primroseref01_DivMod.f k l1 t712).bind fun bt722 => ((primroseref02_Make.f k a0_0 bt715.1).bind fun bt729 => (some (bt729.1, bt729.2, bt722.1)))))))))) = some (r1, r2, r3) := h
  clear h
  replace H := Option.bind_eq_some_iff.mp H
  obtain ⟨t696, A30, H⟩ := H
  replace H : (if t696 = 0 then ((primroseref03_Zero.f k).bind fun bt697 => (some (bt697.1, bt697.2.1, bt697.2.2))) else ((primroseref01_Bits.f k l1).bind fun t704 => (if t704 = 1 then ((primroseref02_Plain.f k a0_0 l0_1).bind fun bt705 => ((primroseref01_Of.f k 1).bind fun t709 => (some (bt705.1, bt705.2, t709)))) else ((primroseref01_Gcd.f k l0_1 l1).bind fun t712 => ((primroseref01_DivMod.f k l0_1 t712).bind fun bt715 => ((primroseref01_DivMod.f k l1 t712).bind fun bt722 => ((primroseref02_Make.f k a0_0 bt715.1).bind fun bt729 => (some (bt729.1, bt729.2, bt722.1))))))))) = some (r1, r2, r3) := H
  have A3 := Aside0.mk A30
  clear A30
  by_cases c4 : t696 = 0
  · rw [if_pos c4] at H
    have c4b0 : (t696 == 0) = true := beq_iff_eq.mpr c4
    have c4b1 : (t696 != 0) = false := bne_eq_false_iff_eq.mpr c4
    clear c4
    replace H := Option.bind_eq_some_iff.mp H
    obtain ⟨⟨t697, t698, t701⟩, A50, H⟩ := H
    replace H : (some (t697, t698, t701)) = some (r1, r2, r3) := H
    have A5 := Aside0.mk A50
    clear A50
    simp only [Option.some.injEq, Prod.mk.injEq] at H
    obtain ⟨rfl, rfl, rfl⟩ := H
    go_enter Try.func50, Try.ntmps50
    go_wp2_with (first | ((with_reducible refine gate_dst (N := 2) rfl ?_); refine box_event ?hg (N := 2) ?hd (cs := #[.bool a0_0, .slice A0_1 l0_1.length c0_1]) (t := 32) ?hr ?_; (case hd => rfl); (case hg => rfl); (case hr => (go_simp; done)); intro gb694 hg w6 hbox hb; have n0_ := Aside0.mk (below_step (HB.out) hb); have n1_ := Aside0.mk (hbox); have n2_ := Aside0.mk (by rw [hg]; exact (below_size (HB.out)) : w.heap.size ≤ gb694); have n3_ := Aside0.mk (by rw [hg]; exact (below_size (HB.out)) : w.heap.size ≤ gb694); clear HB; have HB := n0_; have BK694 := n1_; have GW694 := n2_; have GE694 := n3_; clear n0_ n1_ n2_ n3_; clear hb hbox hg) | ((with_reducible refine gate_dst (N := 4) rfl ?_); refine box_event ?hg (N := 4) ?hd (cs := #[.bool false, .slice none 0 0, .slice none 0 0]) (t := 39) ?hr ?_; (case hd => rfl); (case hg => rfl); (case hr => (go_simp; done)); intro gb695 hg w7 hbox hb; have n0_ := Aside0.mk (blk_below (g := gb694) (o := .cells #[.bool a0_0, .slice A0_1 l0_1.length c0_1] 32 (0, 0)) (BK694.out) hb); have n1_ := Aside0.mk (below_step (HB.out) hb); have n2_ := Aside0.mk (hbox); have n3_ := Aside0.mk (by rw [hg]; exact (below_size (HB.out)) : w.heap.size ≤ gb695); have n4_ := Aside0.mk (by rw [hg]; exact (below_size (HB.out)) : w.heap.size ≤ gb695); have n5_ := Aside0.mk (by rw [hg]; exact Nat.ne_of_lt (blk_lt (g := gb694) (o := .cells #[.bool a0_0, .slice A0_1 l0_1.length c0_1] 32 (0, 0)) (BK694.out)) : gb694 ≠ gb695); have n6_ := Aside0.mk (by rw [hg]; exact Nat.ne_of_gt (blk_lt (g := gb694) (o := .cells #[.bool a0_0, .slice A0_1 l0_1.length c0_1] 32 (0, 0)) (BK694.out)) : gb695 ≠ gb694); clear BK694; clear HB; have BK694 := n0_; have HB := n1_; have BK695 := n2_; have GW695 := n3_; have GE695 := n4_; have NB694_695 := n5_; have NB695_694 := n6_; clear n0_ n1_ n2_ n3_ n4_ n5_ n6_; clear hb hbox hg; have hnb8 := NB694_695.out; have hnc8 := NB695_694.out; have hcz9_0 : w7.cell? ⟨gb694, 0, none⟩ = some (.bool a0_0) := (blk_cell BK694.out 0).trans rfl; have hcz9_1 : w7.cell? ⟨gb694, 1, none⟩ = some (.slice A0_1 l0_1.length c0_1) := (blk_cell BK694.out 1).trans rfl; have hfz9_0 := blk_frozen BK694.out 0; have hfz9_1 := blk_frozen BK694.out 1) | ((with_reducible refine gate_callee (f := 57) rfl ?_); refine goesL_ (some 13) rfl rfl Try.func57 (by kernel_rfl) rfl #[.agg #[.bool a0_0, .slice A0_1 l0_1.length c0_1]] rfl (by (try simp only [List.map_toArray, List.map_cons, List.map_nil]); rfl) ?_; (with_reducible refine (primroseref02_Sign.calls k a0_0 _ _ l0_1 t696 _ ?side1 ?side2 A3.out).mono ?_); (case side1 => exact (Kd.C_below HR0_1.out HB.out)); (case side2 => exact HC0_1.out); rintro e w10 ⟨rfl, hb⟩; refine ⟨_, rfl, ?_⟩; replace BK694 := Aside0.mk (blk_below (g := gb694) (o := .cells #[.bool a0_0, .slice A0_1 l0_1.length c0_1] 32 (0, 0)) (BK694.out) hb); replace BK695 := Aside0.mk (blk_below (g := gb695) (o := .cells #[.bool false, .slice none 0 0, .slice none 0 0] 39 (0, 0)) (BK695.out) hb); replace HB := Aside0.mk (below_step (HB.out) hb); (try clear hb)) | ((with_reducible refine gate_callee (f := 49) rfl ?_); refine goesL_ (some 15) rfl rfl Try.func49 (by kernel_rfl) rfl #[] rfl (by (try simp only [List.map_toArray, List.map_cons, List.map_nil]); (done)) ?_; (with_reducible refine (primroseref03_Zero.calls k  t697 t698 t701 _ A5.out).mono ?_); rintro e w11 ⟨v699, v702, rfl, ho0, ho1, hb⟩; refine ⟨_, rfl, ?_⟩; have HO700 := Aside0.mk (Kd.R_lower ho0 (below_size (HB.out))); have HO703 := Aside0.mk (Kd.R_lower ho1 (below_size (HB.out))); replace BK694 := Aside0.mk (blk_below (g := gb694) (o := .cells #[.bool a0_0, .slice A0_1 l0_1.length c0_1] 32 (0, 0)) (BK694.out) hb); replace BK695 := Aside0.mk (blk_below (g := gb695) (o := .cells #[.bool false, .slice none 0 0, .slice none 0 0] 39 (0, 0)) (BK695.out) hb); replace HB := Aside0.mk (below_step (HB.out) hb); (try clear hb); (try clear ho0); (try clear ho1); have hcz12_0 : w11.cell? ⟨gb695, 0, none⟩ = some (.bool false) := (blk_cell BK695.out 0).trans rfl; have hcz12_1 : w11.cell? ⟨gb695, 1, none⟩ = some (.slice none 0 0) := (blk_cell BK695.out 1).trans rfl; have hcz12_2 : w11.cell? ⟨gb695, 2, none⟩ = some (.slice none 0 0) := (blk_cell BK695.out 2).trans rfl; have hfz12_0 := blk_frozen BK695.out 0; have hfz12_1 := blk_frozen BK695.out 1; have hfz12_2 := blk_frozen BK695.out 2; obtain ⟨Ao13, co13, eo13⟩ := Kd.R_slice HO700.out; subst eo13; obtain ⟨Ao14, co14, eo14⟩ := Kd.R_slice HO703.out; subst eo14))
    refine bodyPost_ret (results_cell_row rfl _ _ gb695 39 #[.bool t697, .slice Ao13 t698.length co13, .slice Ao14 t701.length co14] (0, 0) _ rfl (by refine blk_put (cs := #[.bool t697, .slice Ao13 t698.length co13, .slice none 0 0]) ?_ 2 _ rfl; refine blk_put (cs := #[.bool t697, .slice none 0 0, .slice none 0 0]) ?_ 1 _ rfl; refine blk_put (cs := #[.bool false, .slice none 0 0, .slice none 0 0]) ?_ 0 _ rfl; exact BK695.out) Try.underlying39 rfl (by kernel_rfl)) rfl ?_
    exact ⟨_, _, by (rfl), by exact Kd.R_mono (Kd.R_far (p := ⟨gb695, 2, none⟩) (Kd.R_far (p := ⟨gb695, 1, none⟩) (Kd.R_far (p := ⟨gb695, 0, none⟩) (Kd.R_types HO700.out BK695.out (by decide)) (fun _ hk => hk.2) (.bool t697)) (fun _ hk => hk.2) (.slice Ao13 t698.length co13)) (fun _ hk => hk.2) (.slice Ao14 t701.length co14)) (fun _ hk => hk.1), by exact Kd.R_mono (Kd.R_far (p := ⟨gb695, 2, none⟩) (Kd.R_far (p := ⟨gb695, 1, none⟩) (Kd.R_far (p := ⟨gb695, 0, none⟩) (Kd.R_types HO703.out BK695.out (by decide)) (fun _ hk => hk.2) (.bool t697)) (fun _ hk => hk.2) (.slice Ao13 t698.length co13)) (fun _ hk => hk.2) (.slice Ao14 t701.length co14)) (fun _ hk => hk.1), by repeat (with_reducible first | exact HB.out | refine below_set ?_ GE695.out)⟩
  · rw [if_neg c4] at H
    have c4b0 : (t696 == 0) = false := beq_eq_false_iff_ne.mpr c4
    have c4b1 : (t696 != 0) = true := bne_iff_ne.mpr c4
    replace H := Option.bind_eq_some_iff.mp H
    obtain ⟨t704, A150, H⟩ := H
    replace H : (if t704 = 1 then ((primroseref02_Plain.f k a0_0 l0_1).bind fun bt705 => ((primroseref01_Of.f k 1).bind fun t709 => (some (bt705.1, bt705.2, t709)))) else ((primroseref01_Gcd.f k l0_1 l1).bind fun t712 => ((primroseref01_DivMod.f k l0_1 t712).bind fun bt715 => ((primroseref01_DivMod.f k l1 t712).bind fun bt722 => ((primroseref02_Make.f k a0_0 bt715.1).bind fun bt729 => (some (bt729.1, bt729.2, bt722.1))))))) = some (r1, r2, r3) := H
    have A15 := Aside0.mk A150
    clear A150
    by_cases c16 : t704 = 1
    · rw [if_pos c16] at H
      have c16b0 : (t704 == 1) = true := beq_iff_eq.mpr c16
      have c16b1 : (t704 != 1) = false := bne_eq_false_iff_eq.mpr c16
      clear c16
      replace H := Option.bind_eq_some_iff.mp H
      obtain ⟨⟨t705, t706⟩, A170, H⟩ := H
      replace H : ((primroseref01_Of.f k 1).bind fun t709 => (some (t705, t706, t709))) = some (r1, r2, r3) := H
      have A17 := Aside0.mk A170
      clear A170
      replace H := Option.bind_eq_some_iff.mp H
      obtain ⟨t709, A180, H⟩ := H
      replace H : (some (t705, t706, t709)) = some (r1, r2, r3) := H
      have A18 := Aside0.mk A180
      clear A180
      simp only [Option.some.injEq, Prod.mk.injEq] at H
      obtain ⟨rfl, rfl, rfl⟩ := H
      go_enter Try.func50, Try.ntmps50
      go_wp2_with (first | ((with_reducible refine gate_dst (N := 2) rfl ?_); refine box_event ?hg (N := 2) ?hd (cs := #[.bool a0_0, .slice A0_1 l0_1.length c0_1]) (t := 32) ?hr ?_; (case hd => rfl); (case hg => rfl); (case hr => (go_simp; done)); intro gb694 hg w19 hbox hb; have n0_ := Aside0.mk (below_step (HB.out) hb); have n1_ := Aside0.mk (hbox); have n2_ := Aside0.mk (by rw [hg]; exact (below_size (HB.out)) : w.heap.size ≤ gb694); have n3_ := Aside0.mk (by rw [hg]; exact (below_size (HB.out)) : w.heap.size ≤ gb694); clear HB; have HB := n0_; have BK694 := n1_; have GW694 := n2_; have GE694 := n3_; clear n0_ n1_ n2_ n3_; clear hb hbox hg) | ((with_reducible refine gate_dst (N := 4) rfl ?_); refine box_event ?hg (N := 4) ?hd (cs := #[.bool false, .slice none 0 0, .slice none 0 0]) (t := 39) ?hr ?_; (case hd => rfl); (case hg => rfl); (case hr => (go_simp; done)); intro gb695 hg w20 hbox hb; have n0_ := Aside0.mk (blk_below (g := gb694) (o := .cells #[.bool a0_0, .slice A0_1 l0_1.length c0_1] 32 (0, 0)) (BK694.out) hb); have n1_ := Aside0.mk (below_step (HB.out) hb); have n2_ := Aside0.mk (hbox); have n3_ := Aside0.mk (by rw [hg]; exact (below_size (HB.out)) : w.heap.size ≤ gb695); have n4_ := Aside0.mk (by rw [hg]; exact (below_size (HB.out)) : w.heap.size ≤ gb695); have n5_ := Aside0.mk (by rw [hg]; exact Nat.ne_of_lt (blk_lt (g := gb694) (o := .cells #[.bool a0_0, .slice A0_1 l0_1.length c0_1] 32 (0, 0)) (BK694.out)) : gb694 ≠ gb695); have n6_ := Aside0.mk (by rw [hg]; exact Nat.ne_of_gt (blk_lt (g := gb694) (o := .cells #[.bool a0_0, .slice A0_1 l0_1.length c0_1] 32 (0, 0)) (BK694.out)) : gb695 ≠ gb694); clear BK694; clear HB; have BK694 := n0_; have HB := n1_; have BK695 := n2_; have GW695 := n3_; have GE695 := n4_; have NB694_695 := n5_; have NB695_694 := n6_; clear n0_ n1_ n2_ n3_ n4_ n5_ n6_; clear hb hbox hg; have hnb21 := NB694_695.out; have hnc21 := NB695_694.out; have hcz22_0 : w20.cell? ⟨gb694, 0, none⟩ = some (.bool a0_0) := (blk_cell BK694.out 0).trans rfl; have hcz22_1 : w20.cell? ⟨gb694, 1, none⟩ = some (.slice A0_1 l0_1.length c0_1) := (blk_cell BK694.out 1).trans rfl; have hfz22_0 := blk_frozen BK694.out 0; have hfz22_1 := blk_frozen BK694.out 1) | ((with_reducible refine gate_callee (f := 57) rfl ?_); refine goesL_ (some 13) rfl rfl Try.func57 (by kernel_rfl) rfl #[.agg #[.bool a0_0, .slice A0_1 l0_1.length c0_1]] rfl (by (try simp only [List.map_toArray, List.map_cons, List.map_nil]); rfl) ?_; (with_reducible refine (primroseref02_Sign.calls k a0_0 _ _ l0_1 t696 _ ?side1 ?side2 A3.out).mono ?_); (case side1 => exact (Kd.C_below HR0_1.out HB.out)); (case side2 => exact HC0_1.out); rintro e w23 ⟨rfl, hb⟩; refine ⟨_, rfl, ?_⟩; replace BK694 := Aside0.mk (blk_below (g := gb694) (o := .cells #[.bool a0_0, .slice A0_1 l0_1.length c0_1] 32 (0, 0)) (BK694.out) hb); replace BK695 := Aside0.mk (blk_below (g := gb695) (o := .cells #[.bool false, .slice none 0 0, .slice none 0 0] 39 (0, 0)) (BK695.out) hb); replace HB := Aside0.mk (below_step (HB.out) hb); (try clear hb)) | ((with_reducible refine gate_callee (f := 48) rfl ?_); refine goesL_ (some 17) rfl rfl Try.func48 (by kernel_rfl) rfl #[.slice A1 l1.length c1] rfl (by (try simp only [List.map_toArray, List.map_cons, List.map_nil]); rfl) ?_; (with_reducible refine (primroseref01_Bits.calls k _ _ l1 t704 _ ?side1 ?side2 A15.out).mono ?_); (case side1 => exact (Kd.C_below HR1.out HB.out)); (case side2 => exact HC1.out); rintro e w24 ⟨rfl, hb⟩; refine ⟨_, rfl, ?_⟩; replace BK694 := Aside0.mk (blk_below (g := gb694) (o := .cells #[.bool a0_0, .slice A0_1 l0_1.length c0_1] 32 (0, 0)) (BK694.out) hb); replace BK695 := Aside0.mk (blk_below (g := gb695) (o := .cells #[.bool false, .slice none 0 0, .slice none 0 0] 39 (0, 0)) (BK695.out) hb); replace HB := Aside0.mk (below_step (HB.out) hb); (try clear hb); have hcz25_0 : w24.cell? ⟨gb694, 0, none⟩ = some (.bool a0_0) := (blk_cell BK694.out 0).trans rfl; have hcz25_1 : w24.cell? ⟨gb694, 1, none⟩ = some (.slice A0_1 l0_1.length c0_1) := (blk_cell BK694.out 1).trans rfl; have hfz25_0 := blk_frozen BK694.out 0; have hfz25_1 := blk_frozen BK694.out 1) | ((with_reducible refine gate_callee (f := 58) rfl ?_); refine goesL_ (some 20) rfl rfl Try.func58 (by kernel_rfl) rfl #[.agg #[.bool a0_0, .slice A0_1 l0_1.length c0_1]] rfl (by (try simp only [List.map_toArray, List.map_cons, List.map_nil]); rfl) ?_; (with_reducible refine (primroseref02_Plain.calls k a0_0 _ _ l0_1 t705 t706 _ ?side1 ?side2 A17.out).mono ?_); (case side1 => exact (Kd.C_below HR0_1.out HB.out)); (case side2 => exact HC0_1.out); rintro e w26 ⟨v707, rfl, ho0, hb⟩; refine ⟨_, rfl, ?_⟩; have HO708 := Aside0.mk (Kd.R_lower ho0 (below_size (HB.out))); replace BK694 := Aside0.mk (blk_below (g := gb694) (o := .cells #[.bool a0_0, .slice A0_1 l0_1.length c0_1] 32 (0, 0)) (BK694.out) hb); replace BK695 := Aside0.mk (blk_below (g := gb695) (o := .cells #[.bool false, .slice none 0 0, .slice none 0 0] 39 (0, 0)) (BK695.out) hb); replace HB := Aside0.mk (below_step (HB.out) hb); (try clear hb); (try clear ho0)) | ((with_reducible refine gate_callee (f := 54) rfl ?_); refine goesL_ (some 21) rfl rfl Try.func54 (by kernel_rfl) rfl #[.int .i64 1] rfl (by (try simp only [List.map_toArray, List.map_cons, List.map_nil]); rfl) ?_; (with_reducible refine (primroseref01_Of.calls k 1 t709 _ A18.out).mono ?_); rintro e w27 ⟨v710, rfl, ho0, hb⟩; refine ⟨_, rfl, ?_⟩; have n0_ := Aside0.mk (Kd.R_elder' (HO708.out) (Kd.R_base ho0) hb); have n1_ := Aside0.mk (Kd.R_lower (Kd.R_new' ho0 (Kd.R_lt (HO708.out))) (below_size (HB.out))); have n2_ := Aside0.mk (blk_below (g := gb694) (o := .cells #[.bool a0_0, .slice A0_1 l0_1.length c0_1] 32 (0, 0)) (BK694.out) hb); have n3_ := Aside0.mk (blk_below (g := gb695) (o := .cells #[.bool false, .slice none 0 0, .slice none 0 0] 39 (0, 0)) (BK695.out) hb); have n4_ := Aside0.mk (below_step (HB.out) hb); clear HO708; clear BK694; clear BK695; clear HB; have HO708 := n0_; have HO711 := n1_; have BK694 := n2_; have BK695 := n3_; have HB := n4_; clear n0_ n1_ n2_ n3_ n4_; (try clear hb); (try clear ho0); obtain ⟨Ao28, co28, eo28⟩ := Kd.R_slice HO711.out; subst eo28; obtain ⟨Ao29, co29, eo29⟩ := Kd.R_slice HO708.out; subst eo29; have hcz30_0 : w27.cell? ⟨gb695, 0, none⟩ = some (.bool false) := (blk_cell BK695.out 0).trans rfl; have hcz30_1 : w27.cell? ⟨gb695, 1, none⟩ = some (.slice none 0 0) := (blk_cell BK695.out 1).trans rfl; have hcz30_2 : w27.cell? ⟨gb695, 2, none⟩ = some (.slice none 0 0) := (blk_cell BK695.out 2).trans rfl; have hfz30_0 := blk_frozen BK695.out 0; have hfz30_1 := blk_frozen BK695.out 1; have hfz30_2 := blk_frozen BK695.out 2))
      refine bodyPost_ret (results_cell_row rfl _ _ gb695 39 #[.bool t705, .slice Ao29 t706.length co29, .slice Ao28 t709.length co28] (0, 0) _ rfl (by refine blk_put (cs := #[.bool t705, .slice Ao29 t706.length co29, .slice none 0 0]) ?_ 2 _ rfl; refine blk_put (cs := #[.bool t705, .slice none 0 0, .slice none 0 0]) ?_ 1 _ rfl; refine blk_put (cs := #[.bool false, .slice none 0 0, .slice none 0 0]) ?_ 0 _ rfl; exact BK695.out) Try.underlying39 rfl (by kernel_rfl)) rfl ?_
      exact ⟨_, _, by (rfl), by exact Kd.R_mono (Kd.R_far (p := ⟨gb695, 2, none⟩) (Kd.R_far (p := ⟨gb695, 1, none⟩) (Kd.R_far (p := ⟨gb695, 0, none⟩) (Kd.R_types HO708.out BK695.out (by decide)) (fun _ hk => hk.2) (.bool t705)) (fun _ hk => hk.2) (.slice Ao29 t706.length co29)) (fun _ hk => hk.2) (.slice Ao28 t709.length co28)) (fun _ hk => hk.1.2), by exact Kd.R_mono (Kd.R_far (p := ⟨gb695, 2, none⟩) (Kd.R_far (p := ⟨gb695, 1, none⟩) (Kd.R_far (p := ⟨gb695, 0, none⟩) (Kd.R_types HO711.out BK695.out (by decide)) (fun _ hk => hk.2) (.bool t705)) (fun _ hk => hk.2) (.slice Ao29 t706.length co29)) (fun _ hk => hk.2) (.slice Ao28 t709.length co28)) (fun _ hk => hk.1.2), by repeat (with_reducible first | exact HB.out | refine below_set ?_ GE695.out)⟩
    · rw [if_neg c16] at H
      have c16b0 : (t704 == 1) = false := beq_eq_false_iff_ne.mpr c16
      have c16b1 : (t704 != 1) = true := bne_iff_ne.mpr c16
      replace H := Option.bind_eq_some_iff.mp H
      obtain ⟨t712, A310, H⟩ := H
      replace H : ((primroseref01_DivMod.f k l0_1 t712).bind fun bt715 => ((primroseref01_DivMod.f k l1 t712).bind fun bt722 => ((primroseref02_Make.f k a0_0 bt715.1).bind fun bt729 => (some (bt729.1, bt729.2, bt722.1))))) = some (r1, r2, r3) := H
      have A31 := Aside0.mk A310
      clear A310
      replace H := Option.bind_eq_some_iff.mp H
      obtain ⟨⟨t715, t716, t717⟩, A320, H⟩ := H
      replace H : ((primroseref01_DivMod.f k l1 t712).bind fun bt722 => ((primroseref02_Make.f k a0_0 t715).bind fun bt729 => (some (bt729.1, bt729.2, bt722.1)))) = some (r1, r2, r3) := H
      have A32 := Aside0.mk A320
      clear A320
      replace H := Option.bind_eq_some_iff.mp H
      obtain ⟨⟨t722, t723, t724⟩, A330, H⟩ := H
      replace H : ((primroseref02_Make.f k a0_0 t715).bind fun bt729 => (some (bt729.1, bt729.2, t722))) = some (r1, r2, r3) := H
      have A33 := Aside0.mk A330
      clear A330
      replace H := Option.bind_eq_some_iff.mp H
      obtain ⟨⟨t729, t730⟩, A340, H⟩ := H
      replace H : (some (t729, t730, t722)) = some (r1, r2, r3) := H
      have A34 := Aside0.mk A340
      clear A340
      simp only [Option.some.injEq, Prod.mk.injEq] at H
      obtain ⟨rfl, rfl, rfl⟩ := H
      go_enter Try.func50, Try.ntmps50
      go_wp2_with (first | ((with_reducible refine gate_dst (N := 2) rfl ?_); refine box_event ?hg (N := 2) ?hd (cs := #[.bool a0_0, .slice A0_1 l0_1.length c0_1]) (t := 32) ?hr ?_; (case hd => rfl); (case hg => rfl); (case hr => (go_simp; done)); intro gb694 hg w35 hbox hb; have n0_ := Aside0.mk (below_step (HB.out) hb); have n1_ := Aside0.mk (hbox); have n2_ := Aside0.mk (by rw [hg]; exact (below_size (HB.out)) : w.heap.size ≤ gb694); have n3_ := Aside0.mk (by rw [hg]; exact (below_size (HB.out)) : w.heap.size ≤ gb694); clear HB; have HB := n0_; have BK694 := n1_; have GW694 := n2_; have GE694 := n3_; clear n0_ n1_ n2_ n3_; clear hb hbox hg) | ((with_reducible refine gate_dst (N := 4) rfl ?_); refine box_event ?hg (N := 4) ?hd (cs := #[.bool false, .slice none 0 0, .slice none 0 0]) (t := 39) ?hr ?_; (case hd => rfl); (case hg => rfl); (case hr => (go_simp; done)); intro gb695 hg w36 hbox hb; have n0_ := Aside0.mk (blk_below (g := gb694) (o := .cells #[.bool a0_0, .slice A0_1 l0_1.length c0_1] 32 (0, 0)) (BK694.out) hb); have n1_ := Aside0.mk (below_step (HB.out) hb); have n2_ := Aside0.mk (hbox); have n3_ := Aside0.mk (by rw [hg]; exact (below_size (HB.out)) : w.heap.size ≤ gb695); have n4_ := Aside0.mk (by rw [hg]; exact (below_size (HB.out)) : w.heap.size ≤ gb695); have n5_ := Aside0.mk (by rw [hg]; exact Nat.ne_of_lt (blk_lt (g := gb694) (o := .cells #[.bool a0_0, .slice A0_1 l0_1.length c0_1] 32 (0, 0)) (BK694.out)) : gb694 ≠ gb695); have n6_ := Aside0.mk (by rw [hg]; exact Nat.ne_of_gt (blk_lt (g := gb694) (o := .cells #[.bool a0_0, .slice A0_1 l0_1.length c0_1] 32 (0, 0)) (BK694.out)) : gb695 ≠ gb694); clear BK694; clear HB; have BK694 := n0_; have HB := n1_; have BK695 := n2_; have GW695 := n3_; have GE695 := n4_; have NB694_695 := n5_; have NB695_694 := n6_; clear n0_ n1_ n2_ n3_ n4_ n5_ n6_; clear hb hbox hg; have hnb37 := NB694_695.out; have hnc37 := NB695_694.out; have hcz38_0 : w36.cell? ⟨gb694, 0, none⟩ = some (.bool a0_0) := (blk_cell BK694.out 0).trans rfl; have hcz38_1 : w36.cell? ⟨gb694, 1, none⟩ = some (.slice A0_1 l0_1.length c0_1) := (blk_cell BK694.out 1).trans rfl; have hfz38_0 := blk_frozen BK694.out 0; have hfz38_1 := blk_frozen BK694.out 1) | ((with_reducible refine gate_callee (f := 57) rfl ?_); refine goesL_ (some 13) rfl rfl Try.func57 (by kernel_rfl) rfl #[.agg #[.bool a0_0, .slice A0_1 l0_1.length c0_1]] rfl (by (try simp only [List.map_toArray, List.map_cons, List.map_nil]); rfl) ?_; (with_reducible refine (primroseref02_Sign.calls k a0_0 _ _ l0_1 t696 _ ?side1 ?side2 A3.out).mono ?_); (case side1 => exact (Kd.C_below HR0_1.out HB.out)); (case side2 => exact HC0_1.out); rintro e w39 ⟨rfl, hb⟩; refine ⟨_, rfl, ?_⟩; replace BK694 := Aside0.mk (blk_below (g := gb694) (o := .cells #[.bool a0_0, .slice A0_1 l0_1.length c0_1] 32 (0, 0)) (BK694.out) hb); replace BK695 := Aside0.mk (blk_below (g := gb695) (o := .cells #[.bool false, .slice none 0 0, .slice none 0 0] 39 (0, 0)) (BK695.out) hb); replace HB := Aside0.mk (below_step (HB.out) hb); (try clear hb)) | ((with_reducible refine gate_callee (f := 48) rfl ?_); refine goesL_ (some 17) rfl rfl Try.func48 (by kernel_rfl) rfl #[.slice A1 l1.length c1] rfl (by (try simp only [List.map_toArray, List.map_cons, List.map_nil]); rfl) ?_; (with_reducible refine (primroseref01_Bits.calls k _ _ l1 t704 _ ?side1 ?side2 A15.out).mono ?_); (case side1 => exact (Kd.C_below HR1.out HB.out)); (case side2 => exact HC1.out); rintro e w40 ⟨rfl, hb⟩; refine ⟨_, rfl, ?_⟩; replace BK694 := Aside0.mk (blk_below (g := gb694) (o := .cells #[.bool a0_0, .slice A0_1 l0_1.length c0_1] 32 (0, 0)) (BK694.out) hb); replace BK695 := Aside0.mk (blk_below (g := gb695) (o := .cells #[.bool false, .slice none 0 0, .slice none 0 0] 39 (0, 0)) (BK695.out) hb); replace HB := Aside0.mk (below_step (HB.out) hb); (try clear hb); have hcz41_0 : w40.cell? ⟨gb694, 0, none⟩ = some (.bool a0_0) := (blk_cell BK694.out 0).trans rfl; have hcz41_1 : w40.cell? ⟨gb694, 1, none⟩ = some (.slice A0_1 l0_1.length c0_1) := (blk_cell BK694.out 1).trans rfl; have hfz41_0 := blk_frozen BK694.out 0; have hfz41_1 := blk_frozen BK694.out 1) | ((with_reducible refine gate_callee (f := 59) rfl ?_); refine goesL_ (some 26) rfl rfl Try.func59 (by kernel_rfl) rfl #[.slice A0_1 l0_1.length c0_1, .slice A1 l1.length c1] rfl (by (try simp only [List.map_toArray, List.map_cons, List.map_nil]); rfl) ?_; (with_reducible refine (primroseref01_Gcd.calls k _ _ l0_1 _ _ l1 t712 _ ?side1 ?side2 ?side3 ?side4 A31.out).mono ?_); (case side1 => exact (Kd.C_below HR0_1.out HB.out)); (case side2 => exact HC0_1.out); (case side3 => exact (Kd.C_below HR1.out HB.out)); (case side4 => exact HC1.out); rintro e w42 ⟨v713, rfl, ho0, hb⟩; refine ⟨_, rfl, ?_⟩; have HO714 := Aside0.mk (Kd.R_lower ho0 (below_size (HB.out))); replace BK694 := Aside0.mk (blk_below (g := gb694) (o := .cells #[.bool a0_0, .slice A0_1 l0_1.length c0_1] 32 (0, 0)) (BK694.out) hb); replace BK695 := Aside0.mk (blk_below (g := gb695) (o := .cells #[.bool false, .slice none 0 0, .slice none 0 0] 39 (0, 0)) (BK695.out) hb); replace HB := Aside0.mk (below_step (HB.out) hb); (try clear hb); (try clear ho0); have hcz43_0 : w42.cell? ⟨gb694, 0, none⟩ = some (.bool a0_0) := (blk_cell BK694.out 0).trans rfl; have hcz43_1 : w42.cell? ⟨gb694, 1, none⟩ = some (.slice A0_1 l0_1.length c0_1) := (blk_cell BK694.out 1).trans rfl; have hfz43_0 := blk_frozen BK694.out 0; have hfz43_1 := blk_frozen BK694.out 1; obtain ⟨Ao44, co44, eo44⟩ := Kd.R_slice HO714.out; subst eo44) | ((with_reducible refine gate_callee (f := 53) rfl ?_); refine goesL_ (some 31) rfl rfl Try.func53 (by kernel_rfl) rfl #[.slice A0_1 l0_1.length c0_1, .slice Ao44 t712.length co44] rfl (by (try simp only [List.map_toArray, List.map_cons, List.map_nil]); rfl) ?_; (with_reducible refine (primroseref01_DivMod.calls k _ _ l0_1 _ _ t712 t715 t716 t717 _ ?side1 ?side2 ?side3 ?side4 A32.out).mono ?_); (case side1 => exact (Kd.C_below HR0_1.out HB.out)); (case side2 => exact HC0_1.out); (case side3 => exact (Kd.R_reads' HO714.out).2.2); (case side4 => exact (Kd.R_reads' HO714.out).2.1); rintro e w45 ⟨v718, v720, rfl, ho0, ho1, hb⟩; refine ⟨_, rfl, ?_⟩; have n0_ := Aside0.mk (Kd.R_mono (Kd.R_told (Kd.R_told (Kd.R_old (HO714.out) hb) (Kd.R_base ho0)) (Kd.R_base ho1)) (fun _ h_ => h_.1)); have n1_ := Aside0.mk (Kd.R_lower (Kd.R_new' ho0 (Kd.R_lt (HO714.out))) (below_size (HB.out))); have n2_ := Aside0.mk (Kd.R_lower (Kd.R_new' ho1 (Kd.R_lt (HO714.out))) (below_size (HB.out))); have n3_ := Aside0.mk (blk_below (g := gb694) (o := .cells #[.bool a0_0, .slice A0_1 l0_1.length c0_1] 32 (0, 0)) (BK694.out) hb); have n4_ := Aside0.mk (blk_below (g := gb695) (o := .cells #[.bool false, .slice none 0 0, .slice none 0 0] 39 (0, 0)) (BK695.out) hb); have n5_ := Aside0.mk (below_step (HB.out) hb); clear HO714; clear BK694; clear BK695; clear HB; have HO714 := n0_; have HO719 := n1_; have HO721 := n2_; have BK694 := n3_; have BK695 := n4_; have HB := n5_; clear n0_ n1_ n2_ n3_ n4_ n5_; (try clear hb); (try clear ho0); (try clear ho1)) | ((with_reducible refine gate_callee (f := 53) rfl ?_); refine goesL_ (some 38) rfl rfl Try.func53 (by kernel_rfl) rfl #[.slice A1 l1.length c1, .slice Ao44 t712.length co44] rfl (by (try simp only [List.map_toArray, List.map_cons, List.map_nil]); rfl) ?_; (with_reducible refine (primroseref01_DivMod.calls k _ _ l1 _ _ t712 t722 t723 t724 _ ?side1 ?side2 ?side3 ?side4 A33.out).mono ?_); (case side1 => exact (Kd.C_below HR1.out HB.out)); (case side2 => exact HC1.out); (case side3 => exact (Kd.R_reads' HO714.out).2.2); (case side4 => exact (Kd.R_reads' HO714.out).2.1); rintro e w46 ⟨v725, v727, rfl, ho0, ho1, hb⟩; refine ⟨_, rfl, ?_⟩; have n0_ := Aside0.mk (Kd.R_mono (Kd.R_told (Kd.R_told (Kd.R_old (HO714.out) hb) (Kd.R_base ho0)) (Kd.R_base ho1)) (fun _ h_ => h_.1)); have n1_ := Aside0.mk (Kd.R_mono (Kd.R_told (Kd.R_told (Kd.R_old (HO719.out) hb) (Kd.R_base ho0)) (Kd.R_base ho1)) (fun _ h_ => h_.1)); have n2_ := Aside0.mk (Kd.R_mono (Kd.R_told (Kd.R_told (Kd.R_old (HO721.out) hb) (Kd.R_base ho0)) (Kd.R_base ho1)) (fun _ h_ => h_.1)); have n3_ := Aside0.mk (Kd.R_lower (Kd.R_new' (Kd.R_new' (Kd.R_new' ho0 (Kd.R_lt (HO714.out))) (Kd.R_lt (HO719.out))) (Kd.R_lt (HO721.out))) (below_size (HB.out))); have n4_ := Aside0.mk (Kd.R_lower (Kd.R_new' (Kd.R_new' (Kd.R_new' ho1 (Kd.R_lt (HO714.out))) (Kd.R_lt (HO719.out))) (Kd.R_lt (HO721.out))) (below_size (HB.out))); have n5_ := Aside0.mk (blk_below (g := gb694) (o := .cells #[.bool a0_0, .slice A0_1 l0_1.length c0_1] 32 (0, 0)) (BK694.out) hb); have n6_ := Aside0.mk (blk_below (g := gb695) (o := .cells #[.bool false, .slice none 0 0, .slice none 0 0] 39 (0, 0)) (BK695.out) hb); have n7_ := Aside0.mk (below_step (HB.out) hb); clear HO714; clear HO719; clear HO721; clear BK694; clear BK695; clear HB; have HO714 := n0_; have HO719 := n1_; have HO721 := n2_; have HO726 := n3_; have HO728 := n4_; have BK694 := n5_; have BK695 := n6_; have HB := n7_; clear n0_ n1_ n2_ n3_ n4_ n5_ n6_ n7_; (try clear hb); (try clear ho0); (try clear ho1); have hcz47_0 : w46.cell? ⟨gb694, 0, none⟩ = some (.bool a0_0) := (blk_cell BK694.out 0).trans rfl; have hcz47_1 : w46.cell? ⟨gb694, 1, none⟩ = some (.slice A0_1 l0_1.length c0_1) := (blk_cell BK694.out 1).trans rfl; have hfz47_0 := blk_frozen BK694.out 0; have hfz47_1 := blk_frozen BK694.out 1; obtain ⟨Ao48, co48, eo48⟩ := Kd.R_slice HO719.out; subst eo48) | ((with_reducible refine gate_callee (f := 40) rfl ?_); refine goesL_ (some 45) rfl rfl Try.func40 (by kernel_rfl) rfl #[.bool a0_0, .slice Ao48 t715.length co48] rfl (by (try simp only [List.map_toArray, List.map_cons, List.map_nil]); rfl) ?_; (with_reducible refine (primroseref02_Make.calls k a0_0 _ _ t715 t729 t730 _ ?side1 ?side2 A34.out).mono ?_); (case side1 => exact (Kd.R_reads' HO719.out).2.2); (case side2 => exact (Kd.R_reads' HO719.out).2.1); rintro e w49 ⟨v731, rfl, ho0, hb⟩; refine ⟨_, rfl, ?_⟩; have n0_ := Aside0.mk (Kd.R_elder' (HO714.out) (Kd.R_base ho0) hb); have n1_ := Aside0.mk (Kd.R_elder' (HO719.out) (Kd.R_base ho0) hb); have n2_ := Aside0.mk (Kd.R_elder' (HO721.out) (Kd.R_base ho0) hb); have n3_ := Aside0.mk (Kd.R_elder' (HO726.out) (Kd.R_base ho0) hb); have n4_ := Aside0.mk (Kd.R_elder' (HO728.out) (Kd.R_base ho0) hb); have n5_ := Aside0.mk (Kd.R_lower (Kd.R_new' (Kd.R_new' (Kd.R_new' (Kd.R_new' (Kd.R_new' ho0 (Kd.R_lt (HO714.out))) (Kd.R_lt (HO719.out))) (Kd.R_lt (HO721.out))) (Kd.R_lt (HO726.out))) (Kd.R_lt (HO728.out))) (below_size (HB.out))); have n6_ := Aside0.mk (blk_below (g := gb694) (o := .cells #[.bool a0_0, .slice A0_1 l0_1.length c0_1] 32 (0, 0)) (BK694.out) hb); have n7_ := Aside0.mk (blk_below (g := gb695) (o := .cells #[.bool false, .slice none 0 0, .slice none 0 0] 39 (0, 0)) (BK695.out) hb); have n8_ := Aside0.mk (below_step (HB.out) hb); clear HO714; clear HO719; clear HO721; clear HO726; clear HO728; clear BK694; clear BK695; clear HB; have HO714 := n0_; have HO719 := n1_; have HO721 := n2_; have HO726 := n3_; have HO728 := n4_; have HO732 := n5_; have BK694 := n6_; have BK695 := n7_; have HB := n8_; clear n0_ n1_ n2_ n3_ n4_ n5_ n6_ n7_ n8_; (try clear hb); (try clear ho0); obtain ⟨Ao50, co50, eo50⟩ := Kd.R_slice HO726.out; subst eo50; obtain ⟨Ao51, co51, eo51⟩ := Kd.R_slice HO732.out; subst eo51; have hcz52_0 : w49.cell? ⟨gb695, 0, none⟩ = some (.bool false) := (blk_cell BK695.out 0).trans rfl; have hcz52_1 : w49.cell? ⟨gb695, 1, none⟩ = some (.slice none 0 0) := (blk_cell BK695.out 1).trans rfl; have hcz52_2 : w49.cell? ⟨gb695, 2, none⟩ = some (.slice none 0 0) := (blk_cell BK695.out 2).trans rfl; have hfz52_0 := blk_frozen BK695.out 0; have hfz52_1 := blk_frozen BK695.out 1; have hfz52_2 := blk_frozen BK695.out 2))
      refine bodyPost_ret (results_cell_row rfl _ _ gb695 39 #[.bool t729, .slice Ao51 t730.length co51, .slice Ao50 t722.length co50] (0, 0) _ rfl (by refine blk_put (cs := #[.bool t729, .slice Ao51 t730.length co51, .slice none 0 0]) ?_ 2 _ rfl; refine blk_put (cs := #[.bool t729, .slice none 0 0, .slice none 0 0]) ?_ 1 _ rfl; refine blk_put (cs := #[.bool false, .slice none 0 0, .slice none 0 0]) ?_ 0 _ rfl; exact BK695.out) Try.underlying39 rfl (by kernel_rfl)) rfl ?_
      exact ⟨_, _, by (rfl), by exact Kd.R_mono (Kd.R_far (p := ⟨gb695, 2, none⟩) (Kd.R_far (p := ⟨gb695, 1, none⟩) (Kd.R_far (p := ⟨gb695, 0, none⟩) (Kd.R_types HO732.out BK695.out (by decide)) (fun _ hk => hk.2) (.bool t729)) (fun _ hk => hk.2) (.slice Ao51 t730.length co51)) (fun _ hk => hk.2) (.slice Ao50 t722.length co50)) (fun _ hk => hk.1.1.2), by exact Kd.R_mono (Kd.R_far (p := ⟨gb695, 2, none⟩) (Kd.R_far (p := ⟨gb695, 1, none⟩) (Kd.R_far (p := ⟨gb695, 0, none⟩) (Kd.R_types HO726.out BK695.out (by decide)) (fun _ hk => hk.2) (.bool t729)) (fun _ hk => hk.2) (.slice Ao51 t730.length co51)) (fun _ hk => hk.2) (.slice Ao50 t722.length co50)) (fun _ hk => hk.1.2), by repeat (with_reducible first | exact HB.out | refine below_set ?_ GE695.out)⟩
end Go.Proofs.Ytmgjjdodjamomaa.PB
