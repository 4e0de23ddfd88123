/- Functions with the same answers as the Go code, and the proofs of that; printed by a turned copy of the print, shortened by programs (wip/tools). -/
import Derived.Test.YtmgjjdodjamomaaFW
import Derived.Test.YtmgjjdodjamomaaFx0
import Derived.Test.YtmgjjdodjamomaaFx24
import Derived.Test.YtmgjjdodjamomaaFx27
import Derived.Test.YtmgjjdodjamomaaFx28
import Derived.Test.YtmgjjdodjamomaaFx29
namespace Go.Proofs.Ytmgjjdodjamomaa.PB
open Go.RowKit Go.Proofs.YtmgjjdodjamomaaW.PrintWords Go.Proofs.YtmgjjdodjamomaaW.PrintLast Go.Proofs.YtmgjjdodjamomaaW.PrintMore
attribute [local go_sem] max2_int max_two
set_option linter.unusedVariables false
set_option linter.unusedSimpArgs false
mutual
def nat_long.l0 : Nat → List Int → List Int → List Int → Int → Int → Int → Int → Int → Int → Option (List Int × List Int)
  | 0, _, _, _, _, _, _, _, _, _ => none
  | k + 1, x1, x4, x5, x6, x7, x8, x9, x49, x50 => if x50 < x49 then (if 0 ≤ (wrap64 ((wrap64 ((wrap64 ((x4.length : Int) - 1)) - x50)) + x7)) then (if (wrap64 ((wrap64 ((wrap64 ((x4.length : Int) - 1)) - x50)) + x7)) < (x5.length : Int) then (if 0 ≤ (wrap64 ((wrap64 ((wrap64 ((wrap64 ((x4.length : Int) - 1)) - x50)) + x7)) - 1)) then (if (wrap64 ((wrap64 ((wrap64 ((wrap64 ((x4.length : Int) - 1)) - x50)) + x7)) - 1)) < (x5.length : Int) then (if x8 = 0 then (none) else (nat_long.l1 k x1 x4 x5 x6 x7 x8 x9 (wrap64 ((wrap64 ((x4.length : Int) - 1)) - x50)) (IntKind.u64.wrap (Int.tdiv (Go.bits .or .u64 (IntKind.u64.wrap ((IntKind.u64.wrap (rd x5 (wrap64 ((wrap64 ((wrap64 ((x4.length : Int) - 1)) - x50)) + x7)))) * 4294967296)) (IntKind.u64.wrap (rd x5 (wrap64 ((wrap64 ((wrap64 ((wrap64 ((x4.length : Int) - 1)) - x50)) + x7)) - 1))))) x8)) (Int.tmod (Go.bits .or .u64 (IntKind.u64.wrap ((IntKind.u64.wrap (rd x5 (wrap64 ((wrap64 ((wrap64 ((x4.length : Int) - 1)) - x50)) + x7)))) * 4294967296)) (IntKind.u64.wrap (rd x5 (wrap64 ((wrap64 ((wrap64 ((wrap64 ((x4.length : Int) - 1)) - x50)) + x7)) - 1))))) x8) x49 x50)) else (none)) else (none)) else (none)) else (none)) else ((nat_trim.f k x4).bind fun t543 => ((nat_trim.f k x5).bind fun t546 => ((nat_down.f k t546 x6).bind fun t549 => (some (t543, t549)))))
def nat_long.j3 : Nat → List Int → List Int → List Int → Int → Int → Int → Int → Int → Int → Int → Int → Option (List Int × List Int)
  | 0, _, _, _, _, _, _, _, _, _, _, _ => none
  | k + 1, x1, x4, x5, x6, x7, x8, x9, x11, x13, x49, x50 => if x13 = 0 then (nat_long.l0 k x1 x4 x5 x6 x7 x8 x9 x49 (wrap64 (x50 + 1))) else (if 0 ≤ x11 then (if x11 ≤ (wrap64 ((wrap64 (x11 + x7)) + 1)) then (if (wrap64 ((wrap64 (x11 + x7)) + 1)) ≤ (x5.length : Int) then ((nat_less.whole.f k x5 x11 (wrap64 ((wrap64 (x11 + x7)) + 1)) x1 x13).bind fun bt559 => (if bt559.1 = true then ((nat_back.whole.f k bt559.2 x11 (wrap64 ((wrap64 (x11 + x7)) + 1)) x1).bind fun t565 => (if x11 < (x4.length : Int) then (nat_long.l0 k x1 (x4.set (x11 : Int).toNat ((IntKind.u64.wrap (x13 - 1)) % 4294967296)) t565 x6 x7 x8 x9 x49 (wrap64 (x50 + 1))) else (none))) else (if x11 < (x4.length : Int) then (nat_long.l0 k x1 (x4.set (x11 : Int).toNat ((x13) % 4294967296)) bt559.2 x6 x7 x8 x9 x49 (wrap64 (x50 + 1))) else (none)))) else (none)) else (none)) else (none))
def nat_long.l1 : Nat → List Int → List Int → List Int → Int → Int → Int → Int → Int → Int → Int → Int → Int → Option (List Int × List Int)
  | 0, _, _, _, _, _, _, _, _, _, _, _, _ => none
  | k + 1, x1, x4, x5, x6, x7, x8, x9, x11, x13, x14, x49, x50 => if x13 ≥ 4294967296 then (nat_long.j2 k x1 x4 x5 x6 x7 x8 x9 x11 x13 x14 x49 x50 true) else (if 0 ≤ (wrap64 ((wrap64 (x11 + x7)) - 2)) then (if (wrap64 ((wrap64 (x11 + x7)) - 2)) < (x5.length : Int) then (nat_long.j2 k x1 x4 x5 x6 x7 x8 x9 x11 x13 x14 x49 x50 (decide ((IntKind.u64.wrap (x13 * x9)) > (Go.bits .or .u64 (IntKind.u64.wrap (x14 * 4294967296)) (IntKind.u64.wrap (rd x5 (wrap64 ((wrap64 (x11 + x7)) - 2)))))))) else (none)) else (none))
def nat_long.j2 : Nat → List Int → List Int → List Int → Int → Int → Int → Int → Int → Int → Int → Int → Int → Bool → Option (List Int × List Int)
  | 0, _, _, _, _, _, _, _, _, _, _, _, _, _ => none
  | k + 1, x1, x4, x5, x6, x7, x8, x9, x11, x13, x14, x49, x50, x99 => if x99 = true then (if (IntKind.u64.wrap (x14 + x8)) ≥ 4294967296 then (nat_long.j3 k x1 x4 x5 x6 x7 x8 x9 x11 (IntKind.u64.wrap (x13 - 1)) x49 x50) else (nat_long.l1 k x1 x4 x5 x6 x7 x8 x9 x11 (IntKind.u64.wrap (x13 - 1)) (IntKind.u64.wrap (x14 + x8)) x49 x50)) else (nat_long.j3 k x1 x4 x5 x6 x7 x8 x9 x11 x13 x49 x50)
end
def nat_long.f (k : Nat) (l0 : List Int) (l1 : List Int) : Option (List Int × List Int) := if 0 ≤ (wrap64 ((l1.length : Int) - 1)) then (if (wrap64 ((l1.length : Int) - 1)) < (l1.length : Int) then ((bits_LeadingZeros32.f (rd l1 (wrap64 ((l1.length : Int) - 1)))).bind fun t528 => ((nat_up.f k l0 t528).bind fun t529 => ((nat_up.f k l1 t528).bind fun t532 => ((nat_trim.f k t532).bind fun t535 => (if 0 ≤ (wrap64 ((t529.length : Int) - (t535.length : Int))) then (if (wrap64 ((t529.length : Int) - (t535.length : Int)) : Int).toNat ≤ 70368744177664 then ((some (List.replicate (wrap64 ((t529.length : Int) - (t535.length : Int)) : Int).toNat 0 : List Int)).bind fun y538 => (if 0 ≤ (wrap64 ((t535.length : Int) - 1)) then (if (wrap64 ((t535.length : Int) - 1)) < (t535.length : Int) then (if 0 ≤ (wrap64 ((t535.length : Int) - 2)) then (if (wrap64 ((t535.length : Int) - 2)) < (t535.length : Int) then (nat_long.l0 k t535 y538 t529 t528 (t535.length : Int) (IntKind.u64.wrap (rd t535 (wrap64 ((t535.length : Int) - 1)))) (IntKind.u64.wrap (rd t535 (wrap64 ((t535.length : Int) - 2)))) (y538.length : Int) 0) else (none)) else (none)) else (none)) else (none))) else (none)) else (none)))))) else (none)) else (none)
set_option maxHeartbeats 8000000 in
set_option maxRecDepth 100000 in
theorem nat_long.calls (k : Nat) (A0 : Option Addr) (c0 : Nat) (l0 : List Int) (A1 : Option Addr) (c1 : Nat) (l1 : List Int) (r1 : List Int) (r2 : List Int) (w : World) (hr0 : Kd.C (Kd.int .u32) w A0 l0.length l0) (hc0 : l0.length ≤ c0) (hr1 : Kd.C (Kd.int .u32) w A1 l1.length l1) (hc1 : l1.length ≤ c1) (h : nat_long.f k l0 l1 = some (r1, r2)) :
    Calls Try.prog 77 #[.slice A0 l0.length c0, .slice A1 l1.length c1] w fun e w' => ∃ v0_ v1_ : Value, e = .returned (.tuple #[v0_, v1_]) ∧ Kd.V (Kd.int .u32) 59 w' w.heap.size (fun k_ => (w.heap.size ≤ k_)) v0_ r1 ∧ Kd.V (Kd.int .u32) 59 w' w.heap.size (fun k_ => (w.heap.size ≤ k_)) v1_ r2 ∧ Below w.heap.size w w' := by
  have HR0 := Aside0.mk hr0
  have HC0 := Aside0.mk hc0
  clear hr0 hc0
  have HR1 := Aside0.mk hr1
  have HC1 := Aside0.mk hc1
  clear hr1 hc1
  have HB := Aside0.mk (Below.refl w.heap.size w)
  have H : (if 0 ≤ (wrap64 ((l1.length : Int) - 1)) then (if (wrap64 ((l1.length : Int) - 1)) < (l1.length : Int) then ((bits_LeadingZeros32.f (rd l1 (wrap64 ((l1.length : Int) - 1)))).bind fun t528 => ((nat_up.f k l0 t528).bind fun t529 => ((nat_up.f k l1 t528).bind fun t532 => ((nat_trim.f k t532).bind fun t535 => (if 0 ≤ (wrap64 ((t529.length : Int) - (t535.length : Int))) then (if (wrap64 ((t529.length : Int) - (t535.length : Int)) : Int).toNat ≤ 70368744177664 then ((some (List.replicate (wrap64 ((t529.length : Int) - (t535.length : Int)) : Int).toNat 0 : List Int)).bind fun y538 => (if 0 ≤ (wrap64 ((t535.length : Int) - 1)) then (if (wrap64 ((t535.length : Int) - 1)) < (t535.length : Int) then (if 0 ≤ (wrap64 ((t535.length : Int) - 2)) then (if (wrap64 ((t535.length : Int) - 2)) < (t535.length : Int) then (nat_long.l0 k t535 y538 t529 t528 (t535.length : Int) (IntKind.u64.wrap (rd t535 (wrap64 ((t535.length : Int) - 1)))) (IntKind.u64.wrap (rd t535 (wrap64 ((t535.length : Int) - 2)))) (y538.length : Int) 0) else (none)) else (none)) else (none)) else (none))) else (none)) else (none)))))) else (none)) else (none)) = some (r1, r2) := h
  clear h
  obtain ⟨ji3, hji3⟩ : ∃ j_ : Int, (wrap64 ((l1.length : Int) - 1)) = j_ := ⟨_, rfl⟩
  replace H : (if 0 ≤ (ji3) then (if (ji3) < (l1.length : Int) then ((bits_LeadingZeros32.f (rd l1 (ji3))).bind fun t528 => ((nat_up.f k l0 t528).bind fun t529 => ((nat_up.f k l1 t528).bind fun t532 => ((nat_trim.f k t532).bind fun t535 => (if 0 ≤ (wrap64 ((t529.length : Int) - (t535.length : Int))) then (if (wrap64 ((t529.length : Int) - (t535.length : Int)) : Int).toNat ≤ 70368744177664 then ((some (List.replicate (wrap64 ((t529.length : Int) - (t535.length : Int)) : Int).toNat 0 : List Int)).bind fun y538 => (if 0 ≤ (wrap64 ((t535.length : Int) - 1)) then (if (wrap64 ((t535.length : Int) - 1)) < (t535.length : Int) then (if 0 ≤ (wrap64 ((t535.length : Int) - 2)) then (if (wrap64 ((t535.length : Int) - 2)) < (t535.length : Int) then (nat_long.l0 k t535 y538 t529 t528 (t535.length : Int) (IntKind.u64.wrap (rd t535 (wrap64 ((t535.length : Int) - 1)))) (IntKind.u64.wrap (rd t535 (wrap64 ((t535.length : Int) - 2)))) (y538.length : Int) 0) else (none)) else (none)) else (none)) else (none))) else (none)) else (none)))))) else (none)) else (none)) = some (r1, r2) := by (rw [hji3] at H; exact H)
  have hji3w : (IntKind.i64.wrap ((l1.length : Int) - 1)) = ji3 := (i64_w _).trans hji3
  by_cases c4 : 0 ≤ (ji3)
  · rw [if_pos c4] at H
    have c4b0 : decide (0 ≤ (ji3)) = true := decide_eq_true c4
    clear c4
    by_cases c5 : (ji3) < (l1.length : Int)
    · rw [if_pos c5] at H
      have c5b0 : decide ((ji3) < (l1.length : Int)) = true := decide_eq_true c5
      clear c5
      replace H := Option.bind_eq_some_iff.mp H
      obtain ⟨t528, A60, H⟩ := H
      replace H : ((nat_up.f k l0 t528).bind fun t529 => ((nat_up.f k l1 t528).bind fun t532 => ((nat_trim.f k t532).bind fun t535 => (if 0 ≤ (wrap64 ((t529.length : Int) - (t535.length : Int))) then (if (wrap64 ((t529.length : Int) - (t535.length : Int)) : Int).toNat ≤ 70368744177664 then ((some (List.replicate (wrap64 ((t529.length : Int) - (t535.length : Int)) : Int).toNat 0 : List Int)).bind fun y538 => (if 0 ≤ (wrap64 ((t535.length : Int) - 1)) then (if (wrap64 ((t535.length : Int) - 1)) < (t535.length : Int) then (if 0 ≤ (wrap64 ((t535.length : Int) - 2)) then (if (wrap64 ((t535.length : Int) - 2)) < (t535.length : Int) then (nat_long.l0 k t535 y538 t529 t528 (t535.length : Int) (IntKind.u64.wrap (rd t535 (wrap64 ((t535.length : Int) - 1)))) (IntKind.u64.wrap (rd t535 (wrap64 ((t535.length : Int) - 2)))) (y538.length : Int) 0) else (none)) else (none)) else (none)) else (none))) else (none)) else (none))))) = some (r1, r2) := H
      have A6 := Aside0.mk A60
      clear A60
      replace H := Option.bind_eq_some_iff.mp H
      obtain ⟨t529, A70, H⟩ := H
      replace H : ((nat_up.f k l1 t528).bind fun t532 => ((nat_trim.f k t532).bind fun t535 => (if 0 ≤ (wrap64 ((t529.length : Int) - (t535.length : Int))) then (if (wrap64 ((t529.length : Int) - (t535.length : Int)) : Int).toNat ≤ 70368744177664 then ((some (List.replicate (wrap64 ((t529.length : Int) - (t535.length : Int)) : Int).toNat 0 : List Int)).bind fun y538 => (if 0 ≤ (wrap64 ((t535.length : Int) - 1)) then (if (wrap64 ((t535.length : Int) - 1)) < (t535.length : Int) then (if 0 ≤ (wrap64 ((t535.length : Int) - 2)) then (if (wrap64 ((t535.length : Int) - 2)) < (t535.length : Int) then (nat_long.l0 k t535 y538 t529 t528 (t535.length : Int) (IntKind.u64.wrap (rd t535 (wrap64 ((t535.length : Int) - 1)))) (IntKind.u64.wrap (rd t535 (wrap64 ((t535.length : Int) - 2)))) (y538.length : Int) 0) else (none)) else (none)) else (none)) else (none))) else (none)) else (none)))) = some (r1, r2) := H
      have A7 := Aside0.mk A70
      clear A70
      replace H := Option.bind_eq_some_iff.mp H
      obtain ⟨t532, A80, H⟩ := H
      replace H : ((nat_trim.f k t532).bind fun t535 => (if 0 ≤ (wrap64 ((t529.length : Int) - (t535.length : Int))) then (if (wrap64 ((t529.length : Int) - (t535.length : Int)) : Int).toNat ≤ 70368744177664 then ((some (List.replicate (wrap64 ((t529.length : Int) - (t535.length : Int)) : Int).toNat 0 : List Int)).bind fun y538 => (if 0 ≤ (wrap64 ((t535.length : Int) - 1)) then (if (wrap64 ((t535.length : Int) - 1)) < (t535.length : Int) then (if 0 ≤ (wrap64 ((t535.length : Int) - 2)) then (if (wrap64 ((t535.length : Int) - 2)) < (t535.length : Int) then (nat_long.l0 k t535 y538 t529 t528 (t535.length : Int) (IntKind.u64.wrap (rd t535 (wrap64 ((t535.length : Int) - 1)))) (IntKind.u64.wrap (rd t535 (wrap64 ((t535.length : Int) - 2)))) (y538.length : Int) 0) else (none)) else (none)) else (none)) else (none))) else (none)) else (none))) = some (r1, r2) := H
      have A8 := Aside0.mk A80
      clear A80
      replace H := Option.bind_eq_some_iff.mp H
      obtain ⟨t535, A90, H⟩ := H
      replace H : (if 0 ≤ (wrap64 ((t529.length : Int) - (t535.length : Int))) then (if (wrap64 ((t529.length : Int) - (t535.length : Int)) : Int).toNat ≤ 70368744177664 then ((some (List.replicate (wrap64 ((t529.length : Int) - (t535.length : Int)) : Int).toNat 0 : List Int)).bind fun y538 => (if 0 ≤ (wrap64 ((t535.length : Int) - 1)) then (if (wrap64 ((t535.length : Int) - 1)) < (t535.length : Int) then (if 0 ≤ (wrap64 ((t535.length : Int) - 2)) then (if (wrap64 ((t535.length : Int) - 2)) < (t535.length : Int) then (nat_long.l0 k t535 y538 t529 t528 (t535.length : Int) (IntKind.u64.wrap (rd t535 (wrap64 ((t535.length : Int) - 1)))) (IntKind.u64.wrap (rd t535 (wrap64 ((t535.length : Int) - 2)))) (y538.length : Int) 0) else (none)) else (none)) else (none)) else (none))) else (none)) else (none)) = some (r1, r2) := H
      have A9 := Aside0.mk A90
      clear A90
      obtain ⟨ji10, hji10⟩ : ∃ j_ : Int, (wrap64 ((t529.length : Int) - (t535.length : Int))) = j_ := ⟨_, rfl⟩
      replace H : (if 0 ≤ (ji10) then (if (ji10 : Int).toNat ≤ 70368744177664 then ((some (List.replicate (ji10 : Int).toNat 0 : List Int)).bind fun y538 => (if 0 ≤ (wrap64 ((t535.length : Int) - 1)) then (if (wrap64 ((t535.length : Int) - 1)) < (t535.length : Int) then (if 0 ≤ (wrap64 ((t535.length : Int) - 2)) then (if (wrap64 ((t535.length : Int) - 2)) < (t535.length : Int) then (nat_long.l0 k t535 y538 t529 t528 (t535.length : Int) (IntKind.u64.wrap (rd t535 (wrap64 ((t535.length : Int) - 1)))) (IntKind.u64.wrap (rd t535 (wrap64 ((t535.length : Int) - 2)))) (y538.length : Int) 0) else (none)) else (none)) else (none)) else (none))) else (none)) else (none)) = some (r1, r2) := by (rw [hji10] at H; exact H)
      have hji10w : (IntKind.i64.wrap ((t529.length : Int) - (t535.length : Int))) = ji10 := (i64_w _).trans hji10
      by_cases c11 : 0 ≤ (ji10)
      · rw [if_pos c11] at H
        have c11b0 := eq_true c11
        have c11b1 : decide (0 ≤ (ji10)) = true := decide_eq_true c11
        clear c11
        by_cases c12 : (ji10 : Int).toNat ≤ 70368744177664
        · rw [if_pos c12] at H
          have c12b0 := eq_true c12
          have c12b1 : decide ((ji10 : Int).toNat ≤ 70368744177664) = true := decide_eq_true c12
          clear c12
          obtain ⟨y538, hy538⟩ : ∃ y_ : List Int, y_ = (List.replicate (ji10 : Int).toNat 0) := ⟨_, rfl⟩
          replace H : (if 0 ≤ (wrap64 ((t535.length : Int) - 1)) then (if (wrap64 ((t535.length : Int) - 1)) < (t535.length : Int) then (if 0 ≤ (wrap64 ((t535.length : Int) - 2)) then (if (wrap64 ((t535.length : Int) - 2)) < (t535.length : Int) then (nat_long.l0 k t535 y538 t529 t528 (t535.length : Int) (IntKind.u64.wrap (rd t535 (wrap64 ((t535.length : Int) - 1)))) (IntKind.u64.wrap (rd t535 (wrap64 ((t535.length : Int) - 2)))) (y538.length : Int) 0) else (none)) else (none)) else (none)) else (none)) = some (r1, r2) := by (have H2_ := (Option.bind_some _ _).symm.trans H; rw [hy538]; with_reducible exact H2_)
          have Ny538 := Aside0.mk hy538
          clear hy538
          obtain ⟨ji13, hji13⟩ : ∃ j_ : Int, (wrap64 ((t535.length : Int) - 1)) = j_ := ⟨_, rfl⟩
          replace H : (if 0 ≤ (ji13) then (if (ji13) < (t535.length : Int) then (if 0 ≤ (wrap64 ((t535.length : Int) - 2)) then (if (wrap64 ((t535.length : Int) - 2)) < (t535.length : Int) then (nat_long.l0 k t535 y538 t529 t528 (t535.length : Int) (IntKind.u64.wrap (rd t535 (ji13))) (IntKind.u64.wrap (rd t535 (wrap64 ((t535.length : Int) - 2)))) (y538.length : Int) 0) else (none)) else (none)) else (none)) else (none)) = some (r1, r2) := by (rw [hji13] at H; exact H)
          have hji13w : (IntKind.i64.wrap ((t535.length : Int) - 1)) = ji13 := (i64_w _).trans hji13
          by_cases c14 : 0 ≤ (ji13)
          · rw [if_pos c14] at H
            have c14b0 : decide (0 ≤ (ji13)) = true := decide_eq_true c14
            clear c14
            by_cases c15 : (ji13) < (t535.length : Int)
            · rw [if_pos c15] at H
              have c15b0 : decide ((ji13) < (t535.length : Int)) = true := decide_eq_true c15
              clear c15
              obtain ⟨ji16, hji16⟩ : ∃ j_ : Int, (wrap64 ((t535.length : Int) - 2)) = j_ := ⟨_, rfl⟩
              replace H : (if 0 ≤ (ji16) then (if (ji16) < (t535.length : Int) then (nat_long.l0 k t535 y538 t529 t528 (t535.length : Int) (IntKind.u64.wrap (rd t535 (ji13))) (IntKind.u64.wrap (rd t535 (ji16))) (y538.length : Int) 0) else (none)) else (none)) = some (r1, r2) := by (rw [hji16] at H; exact H)
              have hji16w : (IntKind.i64.wrap ((t535.length : Int) - 2)) = ji16 := (i64_w _).trans hji16
              by_cases c17 : 0 ≤ (ji16)
              · rw [if_pos c17] at H
                have c17b0 : decide (0 ≤ (ji16)) = true := decide_eq_true c17
                clear c17
                by_cases c18 : (ji16) < (t535.length : Int)
                · rw [if_pos c18] at H
                  have c18b0 : decide ((ji16) < (t535.length : Int)) = true := decide_eq_true c18
                  clear c18
                  have H' := Aside0.mk H
                  clear H
                  have p527 : 0 ≤ ((ji3) : Int) := of_decide_eq_true (by (with_reducible assumption))
                  have q527 : (ji3) < (l1.length : Int) := of_decide_eq_true (by (with_reducible assumption))
                  obtain ⟨ad527, e527, hx527_0⟩ := Kd.at_int HR1.out (ji3) p527 q527
                  cases e527
                  replace p527 := eq_true p527
                  replace q527 := eq_true q527
                  go_enter Try.func77, Try.ntmps77
                  (go_wp2)
                  go_step3
                  go_wp2_with (first | (go_at_call 66; (with_reducible refine (bits_LeadingZeros32.calls (rd l1 (ji3)) t528 _ A6.out).mono ?_); rintro e w' ⟨rfl, ⟨nd, rfl⟩⟩) | (go_at_call 78; (with_reducible refine (nat_up.calls k _ _ l0 t528 t529 _ ?side1 ?side2 A7.out).mono ?_); (case side1 => exact HR0.out); (case side2 => exact HC0.out); rintro e w19 ⟨v530, rfl, ho0, hb⟩; have HO531 := Aside0.mk (Kd.R_lower (Kd.R_newM (M := fun k_ => (w.heap.size ≤ k_)) ho0 (below_size (by repeat (with_reducible first | exact HB.out | apply pw_below_drewN))) (fun k_ h_ => h_)) (below_size (by repeat (with_reducible first | exact HB.out | apply pw_below_drewN)))); replace HB := Aside0.mk (below_step (by repeat (with_reducible first | exact HB.out | apply pw_below_drewN)) hb); (try clear hb); (try clear ho0)) | (go_at_call 78; (with_reducible refine (nat_up.calls k _ _ l1 t528 t532 _ ?side1 ?side2 A8.out).mono ?_); (case side1 => exact (Kd.C_below HR1.out HB.out)); (case side2 => exact HC1.out); rintro e w20 ⟨v533, rfl, ho0, hb⟩; have n0_ := Aside0.mk (Kd.R_elder' (HO531.out) (Kd.R_base ho0) hb); have n1_ := Aside0.mk (Kd.R_lower (Kd.R_new' (Kd.R_newM (M := fun k_ => (w.heap.size ≤ k_)) ho0 (below_size (HB.out)) (fun k_ h_ => h_)) (Kd.R_lt (HO531.out))) (below_size (HB.out))); have n2_ := Aside0.mk (below_step (HB.out) hb); clear HO531; clear HB; have HO531 := n0_; have HO534 := n1_; have HB := n2_; clear n0_ n1_ n2_; (try clear hb); (try clear ho0); obtain ⟨Ao21, co21, eo21⟩ := Kd.R_slice HO534.out; subst eo21) | (go_at_call 65; (with_reducible refine (nat_trim.calls k (fun k_ => some k_ = (.slice Ao21 t532.length co21 : Value).ownBlock) _ _ t532 t535 _ ?side1 A9.out).mono ?_); (case side1 => exact Kd.R_V (Kd.R_tight rfl (HO534.out))); rintro e w22 ⟨v536, rfl, ho0, hb⟩; have n0_ := Aside0.mk (Kd.R_below (HO531.out) hb); have n1_ := Aside0.mk (Kd.R_below (HO534.out) hb); have n2_ := Aside0.mk (Kd.V_lower (Kd.V_mono (ok' := fun k_ => (w.heap.size ≤ k_) ∧ some k_ ≠ (v530 : Value).ownBlock) ho0 (fun k_ hk_ => ⟨Or.elim hk_ (fun hs_ => ((HO534.out).1 k_ hs_.symm).1.1) (fun hn_ => (Nat.le_trans (below_size (HB.out)) hn_)), Or.elim hk_ (fun hs_ => ((HO534.out).1 k_ hs_.symm).2) (fun hn_ => (Kd.fresh' (Kd.R_lt (HO531.out)) k_ hn_))⟩)) (below_size (HB.out))); have n3_ := Aside0.mk (below_step (HB.out) hb); clear HO531; clear HO534; clear HB; have HO531 := n0_; have HO534 := n1_; have HO537 := n2_; have HB := n3_; clear n0_ n1_ n2_ n3_; (try clear hb); (try clear ho0); obtain ⟨Ao23, co23, eo23⟩ := Kd.V_slice HO537.out; subst eo23; obtain ⟨Ao24, co24, eo24⟩ := Kd.R_slice HO531.out; subst eo24) | ((with_reducible refine gate_dst (N := 35) rfl ?_); refine Kd.R_make (Kd.int .u32) _ 59 rfl (N := 35) rfl 30 _ _ rfl ji10 rfl rfl Try.underlying30 (.int .u32 0) 4 info59 rfl (by decide) (by omega) 0 (ok := fun _ => True) (okp := fun _ => True) rfl (fun _ hk => hk) trivial (of_decide_eq_true (by (with_reducible assumption))) (Nat.le_trans (Nat.mul_le_mul_right _ (of_decide_eq_true (by (with_reducible assumption)) : ji10.toNat ≤ 70368744177664)) (by omega)) (Below.refl _ _) (Nat.le_refl _) ?_; intro v539 w25 ho26 hb hg_ hnew_; clear hg_ hnew_; (rw [← Ny538.out] at ho26); have n0_ := Aside0.mk (Kd.R_elder' (HO531.out) (Kd.R_base ho26) hb); have n1_ := Aside0.mk (Kd.R_elder' (HO534.out) (Kd.R_base ho26) hb); have n2_ := Aside0.mk (Kd.V_elder' (HO537.out) (Kd.R_base ho26) hb); have n3_ := Aside0.mk (Kd.R_lower (Kd.R_new' (Kd.R_new' (Kd.R_newM (M := fun k_ => (w.heap.size ≤ k_)) ho26 (below_size (HB.out)) (fun k_ h_ => h_)) (Kd.R_lt (HO531.out))) (Kd.R_lt (HO534.out))) (below_size (HB.out))); have n4_ := Aside0.mk (below_step (HB.out) hb); clear HO531; clear HO534; clear HO537; clear HB; have HO531 := n0_; have HO534 := n1_; have HO537 := n2_; have HO540 := n3_; have HB := n4_; clear n0_ n1_ n2_ n3_ n4_; clear hb ho26; have p541 : 0 ≤ ((ji13) : Int) := of_decide_eq_true (by (with_reducible assumption)); have q541 : (ji13) < (t535.length : Int) := of_decide_eq_true (by (with_reducible assumption)); obtain ⟨ad541, e541, hx541_0⟩ := Kd.at_int (Kd.V_reads' HO537.out).2.2 (ji13) p541 q541; cases e541; replace p541 := eq_true p541; replace q541 := eq_true q541; have p542 : 0 ≤ ((ji16) : Int) := of_decide_eq_true (by (with_reducible assumption)); have q542 : (ji16) < (t535.length : Int) := of_decide_eq_true (by (with_reducible assumption)); obtain ⟨ad542, e542, hx542_0⟩ := Kd.at_int (Kd.V_reads' HO537.out).2.2 (ji16) p542 q542; obtain rfl : ad541 = ad542 := (by injection e542); replace p542 := eq_true p542; replace q542 := eq_true q542; obtain ⟨Ao27, co27, eo27⟩ := Kd.R_slice HO540.out; subst eo27))
                  repeat (go_quiet ((go_at_call 66; (with_reducible refine (bits_LeadingZeros32.calls (rd l1 (ji3)) t528 _ A6.out).mono ?_); rintro e w' ⟨rfl, ⟨nd, rfl⟩⟩)); try go_wp2_with (go_at_call 66; (with_reducible refine (bits_LeadingZeros32.calls (rd l1 (ji3)) t528 _ A6.out).mono ?_); rintro e w' ⟨rfl, ⟨nd, rfl⟩⟩))
                  try (go_step3; go_wp2)
                  go_loopg [50] k (fun kq v50 w' => ∃ (x4_1 : List Int) (x5_1 : List Int) (x50_1 : Int), v50 = .int .i64 x50_1 ∧ Aside0 (nat_long.l0 kq t535 x4_1 x5_1 t528 (t535.length : Int) (IntKind.u64.wrap (rd t535 (ji13))) (IntKind.u64.wrap (rd t535 (ji16))) (y538.length : Int) x50_1 = some (r1, r2)) ∧ Aside0 (kq ≤ k) ∧ Aside0 (Kd.V (Kd.int .u32) 59 w' w.heap.size (fun k_ => (w.heap.size ≤ k_) ∧ some k_ ≠ ((.slice Ao27 y538.length co27) : Value).ownBlock ∧ some k_ ≠ ((.slice Ao24 t529.length co24) : Value).ownBlock) (.slice (some ad541) t535.length co23) t535) ∧ Aside0 (Kd.R (Kd.int .u32) 59 w' w.heap.size (fun k_ => (w.heap.size ≤ k_) ∧ some k_ ≠ ((.slice Ao24 t529.length co24) : Value).ownBlock) (.slice Ao27 y538.length co27) x4_1) ∧ Aside0 (Kd.R (Kd.int .u32) 59 w' w.heap.size (fun k_ => (w.heap.size ≤ k_) ∧ some k_ ≠ ((.slice Ao27 y538.length co27) : Value).ownBlock) (.slice Ao24 t529.length co24) x5_1) ∧ Aside0 (Below w.heap.size w w'))
                  case atStart => exact ⟨(y538), (t529), (0), (by (rfl)), H', ⟨Nat.le_refl _⟩, ⟨by (with_reducible repeat (apply Kd.V_drewN)); exact Kd.V_mono HO537.out (fun _ hk => ⟨hk.1.1, ⟨hk.2, hk.1.2⟩⟩)⟩, ⟨by (with_reducible repeat (apply Kd.R_drewN)); exact Kd.R_mono HO540.out (fun _ hk => ⟨hk.1.1.1, hk.1.2⟩)⟩, ⟨by (with_reducible repeat (apply Kd.R_drewN)); exact Kd.R_mono HO531.out (fun _ hk => ⟨hk.1.1.1, hk.2⟩)⟩, ⟨by repeat (with_reducible first | exact HB.out | apply pw_below_drewN)⟩⟩
                  case round =>
                    clear H'
                    try clear c4b0
                    try clear c5b0
                    try clear c11b0
                    try clear c11b1
                    try clear c12b0
                    try clear c12b1
                    try clear c14b0
                    try clear c15b0
                    try clear c17b0
                    try clear c18b0
                    try clear hx527_0
                    try clear hx541_0
                    try clear hx542_0
                    try clear p527
                    try clear p541
                    try clear p542
                    try clear q527
                    try clear q541
                    try clear q542
                    obtain ⟨x4_1, x5_1, x50_1, rfl, HA, HK1, HO_1, HO_4, HO_5, HB⟩ := hrel
                    have hl4_1 := (Kd.R_reads' HO_4.out).1
                    rw [hl4_1] at HO_4
                    (try simp only [hl4_1])
                    (try simp only [hl4_1] at HO_1)
                    (try simp only [hl4_1] at HO_5)
                    have hl5_1 := (Kd.R_reads' HO_5.out).1
                    rw [hl5_1] at HO_5
                    (try simp only [hl5_1])
                    (try simp only [hl5_1] at HO_1)
                    (try simp only [hl5_1] at HO_4)
                    cases gk with
                    | zero => exact absurd HA.out (by simp [nat_long.l0])
                    | succ k1 =>
                      have H := HA.out
                      clear HA
                      simp only [nat_long.l0] at H
                      by_cases c28 : x50_1 < (y538.length : Int)
                      · rw [if_pos c28] at H
                        have c28b0 : decide (x50_1 < (y538.length : Int)) = true := decide_eq_true c28
                        (try (have c28b0l := c28b0; simp only [hl4_1] at c28b0l))
                        clear c28
                        obtain ⟨ji29, hji29⟩ : ∃ j_ : Int, (wrap64 ((wrap64 ((wrap64 ((x4_1.length : Int) - 1)) - x50_1)) + (t535.length : Int))) = j_ := ⟨_, rfl⟩
                        replace H : (if 0 ≤ (ji29) then (if (ji29) < (x5_1.length : Int) then (if 0 ≤ (wrap64 ((ji29) - 1)) then (if (wrap64 ((ji29) - 1)) < (x5_1.length : Int) then (if (IntKind.u64.wrap (rd t535 (ji13))) = 0 then (none) else (nat_long.l1 k1 t535 x4_1 x5_1 t528 (t535.length : Int) (IntKind.u64.wrap (rd t535 (ji13))) (IntKind.u64.wrap (rd t535 (ji16))) (wrap64 ((wrap64 ((x4_1.length : Int) - 1)) - x50_1)) (IntKind.u64.wrap (Int.tdiv (Go.bits .or .u64 (IntKind.u64.wrap ((IntKind.u64.wrap (rd x5_1 (ji29))) * 4294967296)) (IntKind.u64.wrap (rd x5_1 (wrap64 ((ji29) - 1))))) (IntKind.u64.wrap (rd t535 (ji13))))) (Int.tmod (Go.bits .or .u64 (IntKind.u64.wrap ((IntKind.u64.wrap (rd x5_1 (ji29))) * 4294967296)) (IntKind.u64.wrap (rd x5_1 (wrap64 ((ji29) - 1))))) (IntKind.u64.wrap (rd t535 (ji13)))) (y538.length : Int) x50_1)) else (none)) else (none)) else (none)) else (none)) = some (r1, r2) := by (rw [hji29] at H; exact H)
                        have hji29w : (IntKind.i64.wrap ((wrap64 ((wrap64 ((x4_1.length : Int) - 1)) - x50_1)) + (t535.length : Int))) = ji29 := (i64_w _).trans hji29
                        by_cases c30 : 0 ≤ (ji29)
                        · rw [if_pos c30] at H
                          have c30b0 : decide (0 ≤ (ji29)) = true := decide_eq_true c30
                          clear c30
                          by_cases c31 : (ji29) < (x5_1.length : Int)
                          · rw [if_pos c31] at H
                            have c31b0 : decide ((ji29) < (x5_1.length : Int)) = true := decide_eq_true c31
                            clear c31
                            obtain ⟨ji32, hji32⟩ : ∃ j_ : Int, (wrap64 ((ji29) - 1)) = j_ := ⟨_, rfl⟩
                            replace H : (if 0 ≤ (ji32) then (if (ji32) < (x5_1.length : Int) then (if (IntKind.u64.wrap (rd t535 (ji13))) = 0 then (none) else (nat_long.l1 k1 t535 x4_1 x5_1 t528 (t535.length : Int) (IntKind.u64.wrap (rd t535 (ji13))) (IntKind.u64.wrap (rd t535 (ji16))) (wrap64 ((wrap64 ((x4_1.length : Int) - 1)) - x50_1)) (IntKind.u64.wrap (Int.tdiv (Go.bits .or .u64 (IntKind.u64.wrap ((IntKind.u64.wrap (rd x5_1 (ji29))) * 4294967296)) (IntKind.u64.wrap (rd x5_1 (ji32)))) (IntKind.u64.wrap (rd t535 (ji13))))) (Int.tmod (Go.bits .or .u64 (IntKind.u64.wrap ((IntKind.u64.wrap (rd x5_1 (ji29))) * 4294967296)) (IntKind.u64.wrap (rd x5_1 (ji32)))) (IntKind.u64.wrap (rd t535 (ji13)))) (y538.length : Int) x50_1)) else (none)) else (none)) = some (r1, r2) := by (rw [hji32] at H; exact H)
                            have hji32w : (IntKind.i64.wrap ((ji29) - 1)) = ji32 := (i64_w _).trans hji32
                            by_cases c33 : 0 ≤ (ji32)
                            · rw [if_pos c33] at H
                              have c33b0 : decide (0 ≤ (ji32)) = true := decide_eq_true c33
                              clear c33
                              by_cases c34 : (ji32) < (x5_1.length : Int)
                              · rw [if_pos c34] at H
                                have c34b0 : decide ((ji32) < (x5_1.length : Int)) = true := decide_eq_true c34
                                clear c34
                                by_cases c35 : (IntKind.u64.wrap (rd t535 (ji13))) = 0
                                · rw [if_pos c35] at H
                                  exact absurd H (by simp)
                                · rw [if_neg c35] at H
                                  have c35b0 : ((IntKind.u64.wrap (rd t535 (ji13))) == 0) = false := beq_eq_false_iff_ne.mpr c35
                                  have c35b1 : ((IntKind.u64.wrap (rd t535 (ji13))) != 0) = true := bne_iff_ne.mpr c35
                                  have HC36 := Aside0.mk H
                                  clear H
                                  have p552 : 0 ≤ ((ji29) : Int) := of_decide_eq_true (by (with_reducible assumption))
                                  have q552 : (ji29) < (x5_1.length : Int) := of_decide_eq_true (by (with_reducible assumption))
                                  obtain ⟨ad552, e552, hx552_0⟩ := Kd.at_int (Kd.R_reads' HO_5.out).2.2 (ji29) p552 q552
                                  cases e552
                                  replace p552 := eq_true p552
                                  replace q552 := eq_true q552
                                  have p553 : 0 ≤ ((ji32) : Int) := of_decide_eq_true (by (with_reducible assumption))
                                  have q553 : (ji32) < (x5_1.length : Int) := of_decide_eq_true (by (with_reducible assumption))
                                  obtain ⟨ad553, e553, hx553_0⟩ := Kd.at_int (Kd.R_reads' HO_5.out).2.2 (ji32) p553 q553
                                  obtain rfl : ad552 = ad553 := (by injection e553)
                                  replace p553 := eq_true p553
                                  replace q553 := eq_true q553
                                  go_upto_block 2 with (fail)
                                  repeat (go_quiet (fail); go_upto_block 2 with (fail))
                                  go_cut [13] (fun v13 wc => ∃ (kq : Nat) (x13_35 : Int), v13 = .int .u64 x13_35 ∧ Aside0 (nat_long.j3 kq t535 x4_1 x5_1 t528 (t535.length : Int) (IntKind.u64.wrap (rd t535 (ji13))) (IntKind.u64.wrap (rd t535 (ji16))) (wrap64 ((wrap64 ((x4_1.length : Int) - 1)) - x50_1)) x13_35 (y538.length : Int) x50_1 = some (r1, r2)) ∧ Aside0 (kq ≤ k1) ∧ Aside0 (Kd.V (Kd.int .u32) 59 wc w.heap.size (fun k_ => (w.heap.size ≤ k_) ∧ some k_ ≠ ((.slice Ao27 x4_1.length co27) : Value).ownBlock ∧ some k_ ≠ ((.slice (some ad552) x5_1.length co24) : Value).ownBlock) (.slice (some ad541) t535.length co23) t535) ∧ Aside0 (Kd.R (Kd.int .u32) 59 wc w.heap.size (fun k_ => (w.heap.size ≤ k_) ∧ some k_ ≠ ((.slice (some ad552) x5_1.length co24) : Value).ownBlock) (.slice Ao27 x4_1.length co27) x4_1) ∧ Aside0 (Kd.R (Kd.int .u32) 59 wc w.heap.size (fun k_ => (w.heap.size ≤ k_) ∧ some k_ ≠ ((.slice Ao27 x4_1.length co27) : Value).ownBlock) (.slice (some ad552) x5_1.length co24) x5_1) ∧ Aside0 (Below w.heap.size w wc))
                                  case first =>
                                    have H := HC36.out
                                    clear HC36
                                    have H' := Aside0.mk H
                                    clear H
                                    go_wp2
                                    go_loopg [13, 14] k1 (fun kq v13 v14 w' => ∃ (x13_2 : Int) (x14_2 : Int), v13 = .int .u64 x13_2 ∧ v14 = .int .u64 x14_2 ∧ Aside0 (nat_long.l1 kq t535 x4_1 x5_1 t528 (t535.length : Int) (IntKind.u64.wrap (rd t535 (ji13))) (IntKind.u64.wrap (rd t535 (ji16))) (wrap64 ((wrap64 ((x4_1.length : Int) - 1)) - x50_1)) x13_2 x14_2 (y538.length : Int) x50_1 = some (r1, r2)) ∧ Aside0 (kq ≤ k1) ∧ Aside0 (Kd.V (Kd.int .u32) 59 w' w.heap.size (fun k_ => (w.heap.size ≤ k_) ∧ some k_ ≠ ((.slice Ao27 x4_1.length co27) : Value).ownBlock ∧ some k_ ≠ ((.slice (some ad552) x5_1.length co24) : Value).ownBlock) (.slice (some ad541) t535.length co23) t535) ∧ Aside0 (Kd.R (Kd.int .u32) 59 w' w.heap.size (fun k_ => (w.heap.size ≤ k_) ∧ some k_ ≠ ((.slice (some ad552) x5_1.length co24) : Value).ownBlock) (.slice Ao27 x4_1.length co27) x4_1) ∧ Aside0 (Kd.R (Kd.int .u32) 59 w' w.heap.size (fun k_ => (w.heap.size ≤ k_) ∧ some k_ ≠ ((.slice Ao27 x4_1.length co27) : Value).ownBlock) (.slice (some ad552) x5_1.length co24) x5_1) ∧ Aside0 (Below w.heap.size w w'))
                                    case atStart => exact ⟨(IntKind.u64.wrap (Int.tdiv (Go.bits .or .u64 (IntKind.u64.wrap ((IntKind.u64.wrap (rd x5_1 (ji29))) * 4294967296)) (IntKind.u64.wrap (rd x5_1 (ji32)))) (IntKind.u64.wrap (rd t535 (ji13))))), (Int.tmod (Go.bits .or .u64 (IntKind.u64.wrap ((IntKind.u64.wrap (rd x5_1 (ji29))) * 4294967296)) (IntKind.u64.wrap (rd x5_1 (ji32)))) (IntKind.u64.wrap (rd t535 (ji13)))), (by (rfl)), (by (rfl)), H', ⟨Nat.le_refl _⟩, ⟨by (with_reducible repeat (apply Kd.V_drewN)); exact HO_1.out⟩, ⟨by (with_reducible repeat (apply Kd.R_drewN)); exact HO_4.out⟩, ⟨by (with_reducible repeat (apply Kd.R_drewN)); exact HO_5.out⟩, ⟨by repeat (with_reducible first | exact HB.out | apply pw_below_drewN)⟩⟩
                                    case round =>
                                      clear H'
                                      try clear c28b0
                                      try clear c30b0
                                      try clear c31b0
                                      try clear c33b0
                                      try clear c34b0
                                      try clear c35
                                      try clear c35b0
                                      try clear c35b1
                                      try clear hx552_0
                                      try clear hx553_0
                                      try clear p552
                                      try clear p553
                                      try clear q552
                                      try clear q553
                                      obtain ⟨x13_2, x14_2, rfl, rfl, HA, HK2, HO_1, HO_4, HO_5, HB⟩ := hrel
                                      cases gk with
                                      | zero => exact absurd HA.out (by simp [nat_long.l1])
                                      | succ k2 =>
                                        have H := HA.out
                                        clear HA
                                        simp only [nat_long.l1] at H
                                        have HC37 := Aside0.mk H
                                        clear H
                                        go_upto_region 12 with (fail)
                                        go_cut [99] (fun v99 wc => ∃ (kq : Nat) (x99_36 : Bool), v99 = .bool x99_36 ∧ Aside0 (nat_long.j2 kq t535 x4_1 x5_1 t528 (t535.length : Int) (IntKind.u64.wrap (rd t535 (ji13))) (IntKind.u64.wrap (rd t535 (ji16))) (wrap64 ((wrap64 ((x4_1.length : Int) - 1)) - x50_1)) x13_2 x14_2 (y538.length : Int) x50_1 x99_36 = some (r1, r2)) ∧ Aside0 (kq ≤ k2) ∧ Aside0 (Kd.V (Kd.int .u32) 59 wc w.heap.size (fun k_ => (w.heap.size ≤ k_) ∧ some k_ ≠ ((.slice Ao27 x4_1.length co27) : Value).ownBlock ∧ some k_ ≠ ((.slice (some ad552) x5_1.length co24) : Value).ownBlock) (.slice (some ad541) t535.length co23) t535) ∧ Aside0 (Kd.R (Kd.int .u32) 59 wc w.heap.size (fun k_ => (w.heap.size ≤ k_) ∧ some k_ ≠ ((.slice (some ad552) x5_1.length co24) : Value).ownBlock) (.slice Ao27 x4_1.length co27) x4_1) ∧ Aside0 (Kd.R (Kd.int .u32) 59 wc w.heap.size (fun k_ => (w.heap.size ≤ k_) ∧ some k_ ≠ ((.slice Ao27 x4_1.length co27) : Value).ownBlock) (.slice (some ad552) x5_1.length co24) x5_1) ∧ Aside0 (Below w.heap.size w wc))
                                        case first =>
                                          have H := HC37.out
                                          clear HC37
                                          by_cases c38 : x13_2 ≥ 4294967296
                                          · rw [if_pos c38] at H
                                            have c38b0 : decide (4294967296 ≤ x13_2) = true := decide_eq_true c38
                                            clear c38
                                            (skip)
                                            have H' := Aside0.mk H
                                            clear H
                                            go_wp2
                                            go_meet
                                            case rel => exact ⟨_, (true), (by (rfl)), H', ⟨by have := HK1.out; have := HK2.out; (omega)⟩, ⟨by exact HO_1.out⟩, ⟨by exact HO_4.out⟩, ⟨by exact HO_5.out⟩, ⟨(HB.out)⟩⟩
                                          · rw [if_neg c38] at H
                                            have c38b0 : decide (4294967296 ≤ x13_2) = false := decide_eq_false c38
                                            clear c38
                                            (skip)
                                            obtain ⟨ji39, hji39⟩ : ∃ j_ : Int, (wrap64 ((wrap64 ((wrap64 ((wrap64 ((x4_1.length : Int) - 1)) - x50_1)) + (t535.length : Int))) - 2)) = j_ := ⟨_, rfl⟩
                                            replace H : (if 0 ≤ (ji39) then (if (ji39) < (x5_1.length : Int) then (nat_long.j2 k2 t535 x4_1 x5_1 t528 (t535.length : Int) (IntKind.u64.wrap (rd t535 (ji13))) (IntKind.u64.wrap (rd t535 (ji16))) (wrap64 ((wrap64 ((x4_1.length : Int) - 1)) - x50_1)) x13_2 x14_2 (y538.length : Int) x50_1 (decide ((IntKind.u64.wrap (x13_2 * (IntKind.u64.wrap (rd t535 (ji16))))) > (Go.bits .or .u64 (IntKind.u64.wrap (x14_2 * 4294967296)) (IntKind.u64.wrap (rd x5_1 (ji39))))))) else (none)) else (none)) = some (r1, r2) := by (rw [hji39] at H; exact H)
                                            have hji39w : (IntKind.i64.wrap ((wrap64 ((wrap64 ((wrap64 ((x4_1.length : Int) - 1)) - x50_1)) + (t535.length : Int))) - 2)) = ji39 := (i64_w _).trans hji39
                                            (try (have hji39v := hji39; simp only [hji29] at hji39v; have hji39u := (i64_w _).trans hji39v))
                                            by_cases c40 : 0 ≤ (ji39)
                                            · rw [if_pos c40] at H
                                              have c40b0 : decide (0 ≤ (ji39)) = true := decide_eq_true c40
                                              clear c40
                                              by_cases c41 : (ji39) < (x5_1.length : Int)
                                              · rw [if_pos c41] at H
                                                have c41b0 : decide ((ji39) < (x5_1.length : Int)) = true := decide_eq_true c41
                                                clear c41
                                                have H' := Aside0.mk H
                                                clear H
                                                have p554 : 0 ≤ ((ji39) : Int) := of_decide_eq_true (by (with_reducible assumption))
                                                have q554 : (ji39) < (x5_1.length : Int) := of_decide_eq_true (by (with_reducible assumption))
                                                obtain ⟨ad554, e554, hx554_0⟩ := Kd.at_int (Kd.R_reads' HO_5.out).2.2 (ji39) p554 q554
                                                obtain rfl : ad552 = ad554 := (by injection e554)
                                                replace p554 := eq_true p554
                                                replace q554 := eq_true q554
                                                go_wp2
                                                go_meet
                                                case rel => exact ⟨_, (decide ((IntKind.u64.wrap (x13_2 * (IntKind.u64.wrap (rd t535 (ji16))))) > (Go.bits .or .u64 (IntKind.u64.wrap (x14_2 * 4294967296)) (IntKind.u64.wrap (rd x5_1 (ji39)))))), (by (rfl)), H', ⟨by have := HK1.out; have := HK2.out; (omega)⟩, ⟨by exact HO_1.out⟩, ⟨by exact HO_4.out⟩, ⟨by exact HO_5.out⟩, ⟨(HB.out)⟩⟩
                                              · rw [if_neg c41] at H
                                                exact absurd H (by simp)
                                            · rw [if_neg c40] at H
                                              exact absurd H (by simp)
                                        case rest =>
                                          clear HC37
                                          obtain ⟨kq, x99_36, rfl, HA, HJ36, HO_1, HO_4, HO_5, HB⟩ := hcut
                                          cases kq with
                                          | zero => exact absurd HA.out (by simp [nat_long.j2])
                                          | succ kj36 =>
                                            have H := HA.out
                                            clear HA
                                            simp only [nat_long.j2] at H
                                            by_cases c42 : x99_36 = true
                                            · subst c42
                                              have H1 : (if (IntKind.u64.wrap (x14_2 + (IntKind.u64.wrap (rd t535 (ji13))))) ≥ 4294967296 then (nat_long.j3 kj36 t535 x4_1 x5_1 t528 (t535.length : Int) (IntKind.u64.wrap (rd t535 (ji13))) (IntKind.u64.wrap (rd t535 (ji16))) (wrap64 ((wrap64 ((x4_1.length : Int) - 1)) - x50_1)) (IntKind.u64.wrap (x13_2 - 1)) (y538.length : Int) x50_1) else (nat_long.l1 kj36 t535 x4_1 x5_1 t528 (t535.length : Int) (IntKind.u64.wrap (rd t535 (ji13))) (IntKind.u64.wrap (rd t535 (ji16))) (wrap64 ((wrap64 ((x4_1.length : Int) - 1)) - x50_1)) (IntKind.u64.wrap (x13_2 - 1)) (IntKind.u64.wrap (x14_2 + (IntKind.u64.wrap (rd t535 (ji13))))) (y538.length : Int) x50_1)) = some (r1, r2) := by rw [if_pos rfl] at H; exact H
                                              clear H
                                              have H := H1
                                              clear H1
                                              by_cases c43 : (IntKind.u64.wrap (x14_2 + (IntKind.u64.wrap (rd t535 (ji13))))) ≥ 4294967296
                                              · rw [if_pos c43] at H
                                                have c43b0 : decide (4294967296 ≤ (IntKind.u64.wrap (x14_2 + (IntKind.u64.wrap (rd t535 (ji13)))))) = true := decide_eq_true c43
                                                clear c43
                                                have H' := Aside0.mk H
                                                clear H
                                                go_wp2
                                                go_meet
                                                case rel => exact ⟨_, (IntKind.u64.wrap (x13_2 - 1)), (by (rfl)), H', ⟨by have := HK1.out; have := HK2.out; have := HJ36.out; (omega)⟩, ⟨by exact HO_1.out⟩, ⟨by exact HO_4.out⟩, ⟨by exact HO_5.out⟩, ⟨(HB.out)⟩⟩
                                              · rw [if_neg c43] at H
                                                have c43b0 : decide (4294967296 ≤ (IntKind.u64.wrap (x14_2 + (IntKind.u64.wrap (rd t535 (ji13)))))) = false := decide_eq_false c43
                                                clear c43
                                                have H' := Aside0.mk H
                                                clear H
                                                go_wp2
                                                go_roundg kj36
                                                case measure => have := HK1.out; have := HK2.out; have := HJ36.out; omega
                                                case rel => exact ⟨(IntKind.u64.wrap (x13_2 - 1)), (IntKind.u64.wrap (x14_2 + (IntKind.u64.wrap (rd t535 (ji13))))), (by (rfl)), (by (rfl)), H', ⟨by have := HK1.out; have := HK2.out; have := HJ36.out; omega⟩, ⟨by exact HO_1.out⟩, ⟨by exact HO_4.out⟩, ⟨by exact HO_5.out⟩, ⟨(HB.out)⟩⟩
                                            · replace c42 := Bool.eq_false_iff.mpr c42
                                              subst c42
                                              have H1 : (nat_long.j3 kj36 t535 x4_1 x5_1 t528 (t535.length : Int) (IntKind.u64.wrap (rd t535 (ji13))) (IntKind.u64.wrap (rd t535 (ji16))) (wrap64 ((wrap64 ((x4_1.length : Int) - 1)) - x50_1)) x13_2 (y538.length : Int) x50_1) = some (r1, r2) := by rw [if_neg (show ¬ (false = true) by decide)] at H; exact H
                                              clear H
                                              have H := H1
                                              clear H1
                                              have H' := Aside0.mk H
                                              clear H
                                              go_wp2
                                              go_meet
                                              case rel => exact ⟨_, (x13_2), (by (rfl)), H', ⟨by have := HK1.out; have := HK2.out; have := HJ36.out; (omega)⟩, ⟨by exact HO_1.out⟩, ⟨by exact HO_4.out⟩, ⟨by exact HO_5.out⟩, ⟨(HB.out)⟩⟩
                                  case rest =>
                                    clear HC36
                                    try clear c28b0
                                    try clear c30b0
                                    try clear c31b0
                                    try clear c33b0
                                    try clear c34b0
                                    try clear c35
                                    try clear c35b0
                                    try clear c35b1
                                    try clear hx552_0
                                    try clear hx553_0
                                    try clear p552
                                    try clear p553
                                    try clear q552
                                    try clear q553
                                    obtain ⟨kq, x13_35, rfl, HA, HJ35, HO_1, HO_4, HO_5, HB⟩ := hcut
                                    cases kq with
                                    | zero => exact absurd HA.out (by simp [nat_long.j3])
                                    | succ kj35 =>
                                      have H := HA.out
                                      clear HA
                                      simp only [nat_long.j3] at H
                                      by_cases c44 : x13_35 = 0
                                      · rw [if_pos c44] at H
                                        have c44b0 : (x13_35 == 0) = true := beq_iff_eq.mpr c44
                                        have c44b1 : (x13_35 != 0) = false := bne_eq_false_iff_eq.mpr c44
                                        clear c44
                                        have H' := Aside0.mk H
                                        clear H
                                        go_wp2
                                        (try simp only [← hl4_1, ← hl5_1])
                                        go_roundg kj35
                                        case measure => have := HK1.out; have := HJ35.out; omega
                                        case rel => exact ⟨(x4_1), (x5_1), (wrap64 (x50_1 + 1)), (by (rfl)), H', ⟨by have := HK1.out; have := HJ35.out; omega⟩, ⟨by (try simp only [hl4_1]); (try simp only [hl5_1]); exact HO_1.out⟩, ⟨by (try simp only [hl4_1]); (try simp only [hl5_1]); exact HO_4.out⟩, ⟨by (try simp only [hl4_1]); (try simp only [hl5_1]); exact HO_5.out⟩, ⟨(HB.out)⟩⟩
                                      · rw [if_neg c44] at H
                                        have c44b0 : (x13_35 == 0) = false := beq_eq_false_iff_ne.mpr c44
                                        have c44b1 : (x13_35 != 0) = true := bne_iff_ne.mpr c44
                                        obtain ⟨ji45, hji45⟩ : ∃ j_ : Int, (wrap64 ((wrap64 ((x4_1.length : Int) - 1)) - x50_1)) = j_ := ⟨_, rfl⟩
                                        replace H : (if 0 ≤ (ji45) then (if (ji45) ≤ (wrap64 ((wrap64 ((ji45) + (t535.length : Int))) + 1)) then (if (wrap64 ((wrap64 ((ji45) + (t535.length : Int))) + 1)) ≤ (x5_1.length : Int) then ((nat_less.whole.f kj35 x5_1 (ji45) (wrap64 ((wrap64 ((ji45) + (t535.length : Int))) + 1)) t535 x13_35).bind fun bt559 => (if bt559.1 = true then ((nat_back.whole.f kj35 bt559.2 (ji45) (wrap64 ((wrap64 ((ji45) + (t535.length : Int))) + 1)) t535).bind fun t565 => (if (ji45) < (x4_1.length : Int) then (nat_long.l0 kj35 t535 (x4_1.set ((ji45) : Int).toNat ((IntKind.u64.wrap (x13_35 - 1)) % 4294967296)) t565 t528 (t535.length : Int) (IntKind.u64.wrap (rd t535 (ji13))) (IntKind.u64.wrap (rd t535 (ji16))) (y538.length : Int) (wrap64 (x50_1 + 1))) else (none))) else (if (ji45) < (x4_1.length : Int) then (nat_long.l0 kj35 t535 (x4_1.set ((ji45) : Int).toNat ((x13_35) % 4294967296)) bt559.2 t528 (t535.length : Int) (IntKind.u64.wrap (rd t535 (ji13))) (IntKind.u64.wrap (rd t535 (ji16))) (y538.length : Int) (wrap64 (x50_1 + 1))) else (none)))) else (none)) else (none)) else (none)) = some (r1, r2) := by (rw [hji45] at H; exact H)
                                        have hji45w : (IntKind.i64.wrap ((wrap64 ((x4_1.length : Int) - 1)) - x50_1)) = ji45 := (i64_w _).trans hji45
                                        by_cases c46 : 0 ≤ (ji45)
                                        · rw [if_pos c46] at H
                                          have c46b0 := eq_true c46
                                          have c46b1 : decide (0 ≤ (ji45)) = true := decide_eq_true c46
                                          clear c46
                                          by_cases c47 : (ji45) ≤ (wrap64 ((wrap64 ((ji45) + (t535.length : Int))) + 1))
                                          · rw [if_pos c47] at H
                                            have c47b0 := eq_true c47
                                            have c47b1 : decide ((ji45) ≤ (wrap64 ((wrap64 ((ji45) + (t535.length : Int))) + 1))) = true := decide_eq_true c47
                                            by_cases c48 : (wrap64 ((wrap64 ((ji45) + (t535.length : Int))) + 1)) ≤ (x5_1.length : Int)
                                            · rw [if_pos c48] at H
                                              have c48b0 := eq_true c48
                                              have c48b1 : decide ((wrap64 ((wrap64 ((ji45) + (t535.length : Int))) + 1)) ≤ (x5_1.length : Int)) = true := decide_eq_true c48
                                              obtain ⟨y555, hy555⟩ : ∃ y_ : List Int, y_ = ((x5_1.take ((wrap64 ((wrap64 ((ji45) + (t535.length : Int))) + 1)) : Int).toNat).drop ((ji45) : Int).toNat) := ⟨_, rfl⟩
                                              replace H : ((nat_less.whole.f kj35 x5_1 (ji45) (wrap64 ((wrap64 ((ji45) + (t535.length : Int))) + 1)) t535 x13_35).bind fun bt559 => (if bt559.1 = true then ((nat_back.whole.f kj35 bt559.2 (ji45) (wrap64 ((wrap64 ((ji45) + (t535.length : Int))) + 1)) t535).bind fun t565 => (if (ji45) < (x4_1.length : Int) then (nat_long.l0 kj35 t535 (x4_1.set ((ji45) : Int).toNat ((IntKind.u64.wrap (x13_35 - 1)) % 4294967296)) t565 t528 (t535.length : Int) (IntKind.u64.wrap (rd t535 (ji13))) (IntKind.u64.wrap (rd t535 (ji16))) (y538.length : Int) (wrap64 (x50_1 + 1))) else (none))) else (if (ji45) < (x4_1.length : Int) then (nat_long.l0 kj35 t535 (x4_1.set ((ji45) : Int).toNat ((x13_35) % 4294967296)) bt559.2 t528 (t535.length : Int) (IntKind.u64.wrap (rd t535 (ji13))) (IntKind.u64.wrap (rd t535 (ji16))) (y538.length : Int) (wrap64 (x50_1 + 1))) else (none)))) = some (r1, r2) := (H)
                                              have Ny555 := Aside0.mk hy555
                                              clear hy555
                                              replace H := Option.bind_eq_some_iff.mp H
                                              obtain ⟨⟨t559, t560⟩, A490, H⟩ := H
                                              replace H : (if t559 = true then ((nat_back.whole.f kj35 t560 (ji45) (wrap64 ((wrap64 ((ji45) + (t535.length : Int))) + 1)) t535).bind fun t565 => (if (ji45) < (x4_1.length : Int) then (nat_long.l0 kj35 t535 (x4_1.set ((ji45) : Int).toNat ((IntKind.u64.wrap (x13_35 - 1)) % 4294967296)) t565 t528 (t535.length : Int) (IntKind.u64.wrap (rd t535 (ji13))) (IntKind.u64.wrap (rd t535 (ji16))) (y538.length : Int) (wrap64 (x50_1 + 1))) else (none))) else (if (ji45) < (x4_1.length : Int) then (nat_long.l0 kj35 t535 (x4_1.set ((ji45) : Int).toNat ((x13_35) % 4294967296)) t560 t528 (t535.length : Int) (IntKind.u64.wrap (rd t535 (ji13))) (IntKind.u64.wrap (rd t535 (ji16))) (y538.length : Int) (wrap64 (x50_1 + 1))) else (none))) = some (r1, r2) := H
                                              have A49 := Aside0.mk A490
                                              clear A490
                                              by_cases c50 : t559 = true
                                              · subst c50
                                                have H1 : ((nat_back.whole.f kj35 t560 (ji45) (wrap64 ((wrap64 ((ji45) + (t535.length : Int))) + 1)) t535).bind fun t565 => (if (ji45) < (x4_1.length : Int) then (nat_long.l0 kj35 t535 (x4_1.set ((ji45) : Int).toNat ((IntKind.u64.wrap (x13_35 - 1)) % 4294967296)) t565 t528 (t535.length : Int) (IntKind.u64.wrap (rd t535 (ji13))) (IntKind.u64.wrap (rd t535 (ji16))) (y538.length : Int) (wrap64 (x50_1 + 1))) else (none))) = some (r1, r2) := by rw [if_pos rfl] at H; exact H
                                                clear H
                                                have H := H1
                                                clear H1
                                                have c51b0 := eq_true (of_decide_eq_true (by (with_reducible assumption)) : 0 ≤ (ji45))
                                                have c52b0 := eq_true (of_decide_eq_true (by (with_reducible assumption)) : (ji45) ≤ (wrap64 ((wrap64 ((ji45) + (t535.length : Int))) + 1)))
                                                have c53b0 := eq_true (of_decide_eq_true (by (with_reducible assumption)) : (wrap64 ((wrap64 ((ji45) + (t535.length : Int))) + 1)) ≤ (x5_1.length : Int))
                                                obtain ⟨y561, hy561⟩ : ∃ y_ : List Int, y_ = ((t560.take ((wrap64 ((wrap64 ((ji45) + (t535.length : Int))) + 1)) : Int).toNat).drop ((ji45) : Int).toNat) := ⟨_, rfl⟩
                                                replace H : ((nat_back.whole.f kj35 t560 (ji45) (wrap64 ((wrap64 ((ji45) + (t535.length : Int))) + 1)) t535).bind fun t565 => (if (ji45) < (x4_1.length : Int) then (nat_long.l0 kj35 t535 (x4_1.set ((ji45) : Int).toNat ((IntKind.u64.wrap (x13_35 - 1)) % 4294967296)) t565 t528 (t535.length : Int) (IntKind.u64.wrap (rd t535 (ji13))) (IntKind.u64.wrap (rd t535 (ji16))) (y538.length : Int) (wrap64 (x50_1 + 1))) else (none))) = some (r1, r2) := (H)
                                                have Ny561 := Aside0.mk hy561
                                                clear hy561
                                                replace H := Option.bind_eq_some_iff.mp H
                                                obtain ⟨t565, A540, H⟩ := H
                                                replace H : (if (ji45) < (x4_1.length : Int) then (nat_long.l0 kj35 t535 (x4_1.set ((ji45) : Int).toNat ((IntKind.u64.wrap (x13_35 - 1)) % 4294967296)) t565 t528 (t535.length : Int) (IntKind.u64.wrap (rd t535 (ji13))) (IntKind.u64.wrap (rd t535 (ji16))) (y538.length : Int) (wrap64 (x50_1 + 1))) else (none)) = some (r1, r2) := H
                                                have A54 := Aside0.mk A540
                                                clear A540
                                                by_cases c55 : (ji45) < (x4_1.length : Int)
                                                · rw [if_pos c55] at H
                                                  have c55b0 : decide ((ji45) < (x4_1.length : Int)) = true := decide_eq_true c55
                                                  clear c55
                                                  obtain ⟨y566, hy566⟩ : ∃ y_ : List Int, y_ = (x4_1.set ((ji45) : Int).toNat ((IntKind.u64.wrap (x13_35 - 1)) % 4294967296)) := ⟨_, rfl⟩
                                                  replace H : (nat_long.l0 kj35 t535 y566 t565 t528 (t535.length : Int) (IntKind.u64.wrap (rd t535 (ji13))) (IntKind.u64.wrap (rd t535 (ji16))) (y538.length : Int) (wrap64 (x50_1 + 1))) = some (r1, r2) := by (rw [hy566]; with_reducible exact H)
                                                  have Ny566 := Aside0.mk hy566
                                                  clear hy566
                                                  have H' := Aside0.mk H
                                                  clear H
                                                  have q57 : ((wrap64 ((wrap64 ((ji45) + (t535.length : Int))) + 1)) : Int) ≤ ((x5_1.length : Int) : Int) := of_decide_eq_true (by (with_reducible assumption))
                                                  obtain ⟨i057, hi057, _, hsz57, _⟩ := info_parts info59
                                                  have hroom57 : x5_1.length ≤ co24 := (Kd.R_reads' HO_5.out).2.1
                                                  have hC57 : Kd.C (Kd.int .u32) _ (some ad552) x5_1.length x5_1 := (Kd.R_reads' HO_5.out).2.2
                                                  have ql57 : ((ji45) : Int) ≤ ((wrap64 ((wrap64 ((ji45) + (t535.length : Int))) + 1)) : Int) := of_decide_eq_true (by (with_reducible assumption))
                                                  have q057 : (0 : Int) ≤ ((ji45) : Int) := of_decide_eq_true (by (with_reducible assumption))
                                                  have hcut57 := cut_mid (P := Try.prog) 30 59 .i64 .i64 Try.underlying30 hi057 1 hsz57 (some ad552) x5_1.length co24 (ji45) (wrap64 ((wrap64 ((ji45) + (t535.length : Int))) + 1)) q057 ql57 q57 hroom57
                                                  have hr57 := Kd.C_mid (lo := ((ji45) : Int).toNat) (hi := ((wrap64 ((wrap64 ((ji45) + (t535.length : Int))) + 1)) : Int).toNat) (c := co24) hC57 (by omega) (by omega) hroom57
                                                  obtain ⟨A57, hA57⟩ : ∃ A1, A1 = (if co24 = ((ji45) : Int).toNat then (some ad552) else ((some ad552) : Option Addr).map (·.add (((ji45) : Int).toNat * 1))) := ⟨_, rfl⟩
                                                  obtain ⟨c57, hc57⟩ : ∃ c1, c1 = co24 - ((ji45) : Int).toNat := ⟨_, rfl⟩
                                                  have hy57 : y555.length = ((wrap64 ((wrap64 ((ji45) + (t535.length : Int))) + 1)) : Int).toNat - ((ji45) : Int).toNat := (by rw [Ny555.out, List.length_drop, List.length_take] <;> omega)
                                                  rw [show ((x5_1).take ((wrap64 ((wrap64 ((ji45) + (t535.length : Int))) + 1)) : Int).toNat).drop ((ji45) : Int).toNat = y555 from Ny555.out.symm] at hr57
                                                  replace hr57 : Kd.C (Kd.int .u32) _ A57 y555.length y555 := (by rw [hA57]; exact hr57)
                                                  rw [← hy57, ← hA57, ← hc57] at hcut57
                                                  have HR558 := Aside0.mk hr57
                                                  have HC558 := Aside0.mk (show y555.length ≤ c57 from by rw [hy57, hc57]; exact Nat.sub_le_sub_right (Nat.le_trans (by omega) hroom57) _)
                                                  clear hr57 hC57 hroom57 hi057 hsz57 hc57
                                                  have KY57 := Aside0.mk hy57
                                                  have KA57 := Aside0.mk hA57
                                                  clear hy57 hA57
                                                  have KL57 := Aside0.mk (show ((wrap64 ((wrap64 ((ji45) + (t535.length : Int))) + 1)) : Int).toNat ≤ x5_1.length from by omega)
                                                  have KM57 := Aside0.mk (show ((ji45) : Int).toNat ≤ ((wrap64 ((wrap64 ((ji45) + (t535.length : Int))) + 1)) : Int).toNat from by omega)
                                                  replace q57 := eq_true q57
                                                  go_wp2_with (first | (go_at_call 79; (with_reducible refine (nat_less.whole.calls kj35 (fun k_ => some k_ = (.slice (some ad552) x5_1.length co24 : Value).ownBlock) (.slice (some ad552) x5_1.length co24) x5_1 (ji45) (wrap64 ((wrap64 ((ji45) + (t535.length : Int))) + 1)) _ _ t535 x13_35 true t560 w _ ?side1 ?side2 ?side3 ?side4 A49.out _ _ _ rfl _ _ _ KA57.out KY57.out).mono ?_); (case side1 => exact HB.out); (case side2 => exact Kd.R_tight rfl HO_5.out); (case side3 => exact Kd.C_kept_ownV (HO_1.out) (fun k_ hk_ hs_ => (hk_.2.2) hs_)); (case side4 => exact (Kd.V_reads' HO_1.out).2.1); rintro e w58 ⟨rfl, hy0, hb, hkp⟩; replace HO_1 := Aside0.mk (Kd.V_mono (ok' := fun k_ => (w.heap.size ≤ k_) ∧ some k_ ≠ (.slice Ao27 x4_1.length co27 : Value).ownBlock ∧ some k_ ≠ (.slice (some ad552) x5_1.length co24 : Value).ownBlock) (Kd.V_keptB (HO_1.out) hkp (fun k_ hk_ hs_ => (hk_.2.2) hs_)) (fun k_ hk_ => ⟨hk_.1.1, hk_.1.2.1, hk_.1.2.2⟩)); replace HO_4 := Aside0.mk (Kd.R_mono (ok' := fun k_ => (w.heap.size ≤ k_) ∧ some k_ ≠ (.slice (some ad552) x5_1.length co24 : Value).ownBlock) (Kd.R_keptB (HO_4.out) hkp (fun k_ hk_ hs_ => (hk_.2) hs_)) (fun k_ hk_ => ⟨hk_.1.1, hk_.1.2⟩)); replace HO_5 := Aside0.mk (Kd.R_reok rfl hy0 (fun k_ e_ => HO_5.out.1 k_ e_)); replace HB := Aside0.mk (hb); (try clear hb); (try clear hkp); (try clear hy0); have hlx59 := (Kd.R_reads' HO_5.out).1; have q59 : ((wrap64 ((wrap64 ((ji45) + (t535.length : Int))) + 1)) : Int) ≤ ((x5_1.length : Int) : Int) := of_decide_eq_true (by (with_reducible assumption)); obtain ⟨i059, hi059, _, hsz59, _⟩ := info_parts info59; have hroom59 : x5_1.length ≤ co24 := (Kd.R_reads' HO_5.out).2.1; have hroomc59 : t560.length ≤ co24 := (by rw [← hlx59]; exact hroom59); have hC59 : Kd.C (Kd.int .u32) _ (some ad552) t560.length t560 := (Kd.R_reads' HO_5.out).2.2; have ql59 : ((ji45) : Int) ≤ ((wrap64 ((wrap64 ((ji45) + (t535.length : Int))) + 1)) : Int) := of_decide_eq_true (by (with_reducible assumption)); have q059 : (0 : Int) ≤ ((ji45) : Int) := of_decide_eq_true (by (with_reducible assumption)); have hcut59 := cut_mid (P := Try.prog) 30 59 .i64 .i64 Try.underlying30 hi059 1 hsz59 (some ad552) x5_1.length co24 (ji45) (wrap64 ((wrap64 ((ji45) + (t535.length : Int))) + 1)) q059 ql59 q59 hroom59; have hr59 := Kd.C_mid (lo := ((ji45) : Int).toNat) (hi := ((wrap64 ((wrap64 ((ji45) + (t535.length : Int))) + 1)) : Int).toNat) (c := co24) hC59 (by omega) (by omega) hroomc59; obtain ⟨A59, hA59⟩ : ∃ A1, A1 = (if co24 = ((ji45) : Int).toNat then (some ad552) else ((some ad552) : Option Addr).map (·.add (((ji45) : Int).toNat * 1))) := ⟨_, rfl⟩; obtain ⟨c59, hc59⟩ : ∃ c1, c1 = co24 - ((ji45) : Int).toNat := ⟨_, rfl⟩; have hy59 : y561.length = ((wrap64 ((wrap64 ((ji45) + (t535.length : Int))) + 1)) : Int).toNat - ((ji45) : Int).toNat := (by rw [Ny561.out, List.length_drop, List.length_take] <;> omega); rw [show ((t560).take ((wrap64 ((wrap64 ((ji45) + (t535.length : Int))) + 1)) : Int).toNat).drop ((ji45) : Int).toNat = y561 from Ny561.out.symm] at hr59; replace hr59 : Kd.C (Kd.int .u32) _ A59 y561.length y561 := (by rw [hA59]; exact hr59); rw [← hy59, ← hA59, ← hc59] at hcut59; have HR564 := Aside0.mk hr59; have HC564 := Aside0.mk (show y561.length ≤ c59 from by rw [hy59, hc59]; exact Nat.sub_le_sub_right (Nat.le_trans (by omega) hroom59) _); clear hr59 hC59 hroom59 hi059 hsz59 hc59 hroomc59; have KY59 := Aside0.mk hy59; have KA59 := Aside0.mk hA59; clear hy59 hA59; have KE59 := Aside0.mk hlx59; have KL59 := Aside0.mk (show ((wrap64 ((wrap64 ((ji45) + (t535.length : Int))) + 1)) : Int).toNat ≤ t560.length from by omega); have KM59 := Aside0.mk (show ((ji45) : Int).toNat ≤ ((wrap64 ((wrap64 ((ji45) + (t535.length : Int))) + 1)) : Int).toNat from by omega); clear hlx59; replace q59 := eq_true q59) | (go_at_call 80; (with_reducible refine (nat_back.whole.calls kj35 (fun k_ => some k_ = (.slice (some ad552) x5_1.length co24 : Value).ownBlock) (.slice (some ad552) x5_1.length co24) t560 (ji45) (wrap64 ((wrap64 ((ji45) + (t535.length : Int))) + 1)) _ _ t535 t565 w _ ?side1 ?side2 ?side3 ?side4 A54.out _ _ _ rfl _ _ _ KA57.out KY57.out).mono ?_); (case side1 => exact HB.out); (case side2 => exact Kd.R_tight rfl HO_5.out); (case side3 => exact Kd.C_kept_ownV (HO_1.out) (fun k_ hk_ hs_ => (hk_.2.2) hs_)); (case side4 => exact (Kd.V_reads' HO_1.out).2.1); rintro e w60 ⟨rfl, hy0, hb, hkp⟩; replace HO_1 := Aside0.mk (Kd.V_mono (ok' := fun k_ => (w.heap.size ≤ k_) ∧ some k_ ≠ (.slice Ao27 x4_1.length co27 : Value).ownBlock ∧ some k_ ≠ (.slice (some ad552) x5_1.length co24 : Value).ownBlock) (Kd.V_keptB (HO_1.out) hkp (fun k_ hk_ hs_ => (hk_.2.2) hs_)) (fun k_ hk_ => ⟨hk_.1.1, hk_.1.2.1, hk_.1.2.2⟩)); replace HO_4 := Aside0.mk (Kd.R_mono (ok' := fun k_ => (w.heap.size ≤ k_) ∧ some k_ ≠ (.slice (some ad552) x5_1.length co24 : Value).ownBlock) (Kd.R_keptB (HO_4.out) hkp (fun k_ hk_ hs_ => (hk_.2) hs_)) (fun k_ hk_ => ⟨hk_.1.1, hk_.1.2⟩)); replace HO_5 := Aside0.mk (Kd.R_reok rfl hy0 (fun k_ e_ => HO_5.out.1 k_ e_)); replace HB := Aside0.mk (hb); (try clear hb); (try clear hkp); (try clear hy0); have p56 : 0 ≤ ((ji45) : Int) := of_decide_eq_true (by (with_reducible assumption)); have q56 : ((ji45) : Int) < ((x4_1.length : Int) : Int) := of_decide_eq_true (by (with_reducible assumption)); obtain ⟨go56, co56, eo56, gb56, gl56, cl56, HG56⟩ := Kd.R_form HO_4.out (by omega); (cases eo56); have GB56 := Aside0.mk gb56; have GG56 := Aside0.mk HG56; clear gb56 gl56 HG56; obtain ⟨hx56_0, hf56_0⟩ := Kd.R_celln 0 HO_4.out ((ji45) : Int) p56 q56; replace p56 := eq_true p56; replace q56 := eq_true q56; obtain ⟨hy61_, hz61_⟩ := Kd.R_celln 0 HO_4.out ((ji45) : Int) (of_decide_eq_true (by (with_reducible assumption))) (of_decide_eq_true (by (with_reducible assumption))); have HP61 := Kd.R_putg HO_4.out ((ji45) : Int) ((IntKind.u64.wrap (x13_35 - 1)) % 4294967296)) | ((with_reducible refine gate_store (t := 59) (p := 134) rfl ?_); refine store_event (t := 59) (p := 134) (v := ?vo_w62) (w1 := (w60.setCell ⟨go56, ((ji45) : Int).toNat, none⟩ (.int .u32 ((IntKind.u64.wrap (x13_35 - 1)) % 4294967296)))) ?hg ?ho ?hn ?hr ?_; (case ho => rfl); (case hg => rfl); (case hn => rfl); (case hr => (go_simp; done)); intro w62 hw; have hg : w60.grownBy w62 (some go56) := (by rw [hw]; exact HP61.2); have hp_ : Kd.R (Kd.int .u32) 59 w62 w.heap.size (fun k_ => (w.heap.size ≤ k_) ∧ some k_ ≠ (.slice (some ad552) x5_1.length co24 : Value).ownBlock) (.slice (some ⟨go56, 0, none⟩) x4_1.length co27) y566 := (by rw [hw, Ny566.out]; exact HP61.1); clear HP61; replace HO_1 := Aside0.mk (Kd.V_afterv (v := (.slice (some ⟨go56, 0, none⟩) x4_1.length co27)) (v1 := (.slice (some ⟨go56, 0, none⟩) x4_1.length co27)) (ok := (fun k_ => (w.heap.size ≤ k_) ∧ some k_ ≠ (.slice (some ad552) x5_1.length co24 : Value).ownBlock)) (Kd.V_mono HO_1.out (fun _ hk => ⟨⟨hk.1, hk.2.2⟩, hk.2.1⟩)) hg (.inl rfl)); replace HO_4 := Aside0.mk (hp_); replace HO_5 := Aside0.mk (Kd.R_after (v := (.slice (some ⟨go56, 0, none⟩) x4_1.length co27)) (v1 := (.slice (some ⟨go56, 0, none⟩) x4_1.length co27)) (ok := (fun k_ => (w.heap.size ≤ k_))) (HO_5.out) hg (.inl rfl)); replace HB := Aside0.mk (by rw [hw]; exact below_set (HB.out) GB56.out : Below w.heap.size w w62); clear hg hw hp_))
                                                  (try simp only [← hl4_1, ← hl5_1])
                                                  go_roundg kj35
                                                  case measure => have := HK1.out; have := HJ35.out; omega
                                                  case rel => exact ⟨(y566), (t565), (wrap64 (x50_1 + 1)), (by (rfl)), H', ⟨by have := HK1.out; have := HJ35.out; omega⟩, ⟨by (try simp only [hl4_1]); (try simp only [hl5_1]); exact Kd.V_mono HO_1.out (fun _ hk => ⟨hk.1.1, ⟨hk.2, hk.1.2⟩⟩)⟩, ⟨by (try simp only [hl4_1]); (try simp only [hl5_1]); exact HO_4.out⟩, ⟨by (try simp only [hl4_1]); (try simp only [hl5_1]); exact HO_5.out⟩, ⟨(HB.out)⟩⟩
                                                · rw [if_neg c55] at H
                                                  exact absurd H (by simp)
                                              · replace c50 := Bool.eq_false_iff.mpr c50
                                                subst c50
                                                have H1 : (if (ji45) < (x4_1.length : Int) then (nat_long.l0 kj35 t535 (x4_1.set ((ji45) : Int).toNat ((x13_35) % 4294967296)) t560 t528 (t535.length : Int) (IntKind.u64.wrap (rd t535 (ji13))) (IntKind.u64.wrap (rd t535 (ji16))) (y538.length : Int) (wrap64 (x50_1 + 1))) else (none)) = some (r1, r2) := by rw [if_neg (show ¬ (false = true) by decide)] at H; exact H
                                                clear H
                                                have H := H1
                                                clear H1
                                                by_cases c63 : (ji45) < (x4_1.length : Int)
                                                · rw [if_pos c63] at H
                                                  have c63b0 : decide ((ji45) < (x4_1.length : Int)) = true := decide_eq_true c63
                                                  clear c63
                                                  obtain ⟨y567, hy567⟩ : ∃ y_ : List Int, y_ = (x4_1.set ((ji45) : Int).toNat ((x13_35) % 4294967296)) := ⟨_, rfl⟩
                                                  replace H : (nat_long.l0 kj35 t535 y567 t560 t528 (t535.length : Int) (IntKind.u64.wrap (rd t535 (ji13))) (IntKind.u64.wrap (rd t535 (ji16))) (y538.length : Int) (wrap64 (x50_1 + 1))) = some (r1, r2) := by (rw [hy567]; with_reducible exact H)
                                                  have Ny567 := Aside0.mk hy567
                                                  clear hy567
                                                  have H' := Aside0.mk H
                                                  clear H
                                                  have q65 : ((wrap64 ((wrap64 ((ji45) + (t535.length : Int))) + 1)) : Int) ≤ ((x5_1.length : Int) : Int) := of_decide_eq_true (by (with_reducible assumption))
                                                  obtain ⟨i065, hi065, _, hsz65, _⟩ := info_parts info59
                                                  have hroom65 : x5_1.length ≤ co24 := (Kd.R_reads' HO_5.out).2.1
                                                  have hC65 : Kd.C (Kd.int .u32) _ (some ad552) x5_1.length x5_1 := (Kd.R_reads' HO_5.out).2.2
                                                  have ql65 : ((ji45) : Int) ≤ ((wrap64 ((wrap64 ((ji45) + (t535.length : Int))) + 1)) : Int) := of_decide_eq_true (by (with_reducible assumption))
                                                  have q065 : (0 : Int) ≤ ((ji45) : Int) := of_decide_eq_true (by (with_reducible assumption))
                                                  have hcut65 := cut_mid (P := Try.prog) 30 59 .i64 .i64 Try.underlying30 hi065 1 hsz65 (some ad552) x5_1.length co24 (ji45) (wrap64 ((wrap64 ((ji45) + (t535.length : Int))) + 1)) q065 ql65 q65 hroom65
                                                  have hr65 := Kd.C_mid (lo := ((ji45) : Int).toNat) (hi := ((wrap64 ((wrap64 ((ji45) + (t535.length : Int))) + 1)) : Int).toNat) (c := co24) hC65 (by omega) (by omega) hroom65
                                                  obtain ⟨A65, hA65⟩ : ∃ A1, A1 = (if co24 = ((ji45) : Int).toNat then (some ad552) else ((some ad552) : Option Addr).map (·.add (((ji45) : Int).toNat * 1))) := ⟨_, rfl⟩
                                                  obtain ⟨c65, hc65⟩ : ∃ c1, c1 = co24 - ((ji45) : Int).toNat := ⟨_, rfl⟩
                                                  have hy65 : y555.length = ((wrap64 ((wrap64 ((ji45) + (t535.length : Int))) + 1)) : Int).toNat - ((ji45) : Int).toNat := (by rw [Ny555.out, List.length_drop, List.length_take] <;> omega)
                                                  rw [show ((x5_1).take ((wrap64 ((wrap64 ((ji45) + (t535.length : Int))) + 1)) : Int).toNat).drop ((ji45) : Int).toNat = y555 from Ny555.out.symm] at hr65
                                                  replace hr65 : Kd.C (Kd.int .u32) _ A65 y555.length y555 := (by rw [hA65]; exact hr65)
                                                  rw [← hy65, ← hA65, ← hc65] at hcut65
                                                  have HR558 := Aside0.mk hr65
                                                  have HC558 := Aside0.mk (show y555.length ≤ c65 from by rw [hy65, hc65]; exact Nat.sub_le_sub_right (Nat.le_trans (by omega) hroom65) _)
                                                  clear hr65 hC65 hroom65 hi065 hsz65 hc65
                                                  have KY65 := Aside0.mk hy65
                                                  have KA65 := Aside0.mk hA65
                                                  clear hy65 hA65
                                                  have KL65 := Aside0.mk (show ((wrap64 ((wrap64 ((ji45) + (t535.length : Int))) + 1)) : Int).toNat ≤ x5_1.length from by omega)
                                                  have KM65 := Aside0.mk (show ((ji45) : Int).toNat ≤ ((wrap64 ((wrap64 ((ji45) + (t535.length : Int))) + 1)) : Int).toNat from by omega)
                                                  replace q65 := eq_true q65
                                                  go_wp2_with (first | (go_at_call 79; (with_reducible refine (nat_less.whole.calls kj35 (fun k_ => some k_ = (.slice (some ad552) x5_1.length co24 : Value).ownBlock) (.slice (some ad552) x5_1.length co24) x5_1 (ji45) (wrap64 ((wrap64 ((ji45) + (t535.length : Int))) + 1)) _ _ t535 x13_35 false t560 w _ ?side1 ?side2 ?side3 ?side4 A49.out _ _ _ rfl _ _ _ KA65.out KY65.out).mono ?_); (case side1 => exact HB.out); (case side2 => exact Kd.R_tight rfl HO_5.out); (case side3 => exact Kd.C_kept_ownV (HO_1.out) (fun k_ hk_ hs_ => (hk_.2.2) hs_)); (case side4 => exact (Kd.V_reads' HO_1.out).2.1); rintro e w66 ⟨rfl, hy0, hb, hkp⟩; replace HO_1 := Aside0.mk (Kd.V_mono (ok' := fun k_ => (w.heap.size ≤ k_) ∧ some k_ ≠ (.slice Ao27 x4_1.length co27 : Value).ownBlock ∧ some k_ ≠ (.slice (some ad552) x5_1.length co24 : Value).ownBlock) (Kd.V_keptB (HO_1.out) hkp (fun k_ hk_ hs_ => (hk_.2.2) hs_)) (fun k_ hk_ => ⟨hk_.1.1, hk_.1.2.1, hk_.1.2.2⟩)); replace HO_4 := Aside0.mk (Kd.R_mono (ok' := fun k_ => (w.heap.size ≤ k_) ∧ some k_ ≠ (.slice (some ad552) x5_1.length co24 : Value).ownBlock) (Kd.R_keptB (HO_4.out) hkp (fun k_ hk_ hs_ => (hk_.2) hs_)) (fun k_ hk_ => ⟨hk_.1.1, hk_.1.2⟩)); replace HO_5 := Aside0.mk (Kd.R_reok rfl hy0 (fun k_ e_ => HO_5.out.1 k_ e_)); replace HB := Aside0.mk (hb); (try clear hb); (try clear hkp); (try clear hy0); have p64 : 0 ≤ ((ji45) : Int) := of_decide_eq_true (by (with_reducible assumption)); have q64 : ((ji45) : Int) < ((x4_1.length : Int) : Int) := of_decide_eq_true (by (with_reducible assumption)); obtain ⟨go64, co64, eo64, gb64, gl64, cl64, HG64⟩ := Kd.R_form HO_4.out (by omega); (cases eo64); have GB64 := Aside0.mk gb64; have GG64 := Aside0.mk HG64; clear gb64 gl64 HG64; obtain ⟨hx64_0, hf64_0⟩ := Kd.R_celln 0 HO_4.out ((ji45) : Int) p64 q64; replace p64 := eq_true p64; replace q64 := eq_true q64; obtain ⟨hy67_, hz67_⟩ := Kd.R_celln 0 HO_4.out ((ji45) : Int) (of_decide_eq_true (by (with_reducible assumption))) (of_decide_eq_true (by (with_reducible assumption))); have HP67 := Kd.R_putg HO_4.out ((ji45) : Int) ((x13_35) % 4294967296)) | ((with_reducible refine gate_store (t := 59) (p := 134) rfl ?_); refine store_event (t := 59) (p := 134) (v := ?vo_w68) (w1 := (w66.setCell ⟨go64, ((ji45) : Int).toNat, none⟩ (.int .u32 ((x13_35) % 4294967296)))) ?hg ?ho ?hn ?hr ?_; (case ho => rfl); (case hg => rfl); (case hn => rfl); (case hr => (go_simp; done)); intro w68 hw; have hg : w66.grownBy w68 (some go64) := (by rw [hw]; exact HP67.2); have hp_ : Kd.R (Kd.int .u32) 59 w68 w.heap.size (fun k_ => (w.heap.size ≤ k_) ∧ some k_ ≠ (.slice (some ad552) x5_1.length co24 : Value).ownBlock) (.slice (some ⟨go64, 0, none⟩) x4_1.length co27) y567 := (by rw [hw, Ny567.out]; exact HP67.1); clear HP67; replace HO_1 := Aside0.mk (Kd.V_afterv (v := (.slice (some ⟨go64, 0, none⟩) x4_1.length co27)) (v1 := (.slice (some ⟨go64, 0, none⟩) x4_1.length co27)) (ok := (fun k_ => (w.heap.size ≤ k_) ∧ some k_ ≠ (.slice (some ad552) x5_1.length co24 : Value).ownBlock)) (Kd.V_mono HO_1.out (fun _ hk => ⟨⟨hk.1, hk.2.2⟩, hk.2.1⟩)) hg (.inl rfl)); replace HO_4 := Aside0.mk (hp_); replace HO_5 := Aside0.mk (Kd.R_after (v := (.slice (some ⟨go64, 0, none⟩) x4_1.length co27)) (v1 := (.slice (some ⟨go64, 0, none⟩) x4_1.length co27)) (ok := (fun k_ => (w.heap.size ≤ k_))) (HO_5.out) hg (.inl rfl)); replace HB := Aside0.mk (by rw [hw]; exact below_set (HB.out) GB64.out : Below w.heap.size w w68); clear hg hw hp_))
                                                  (try simp only [← hl4_1, ← hl5_1])
                                                  go_roundg kj35
                                                  case measure => have := HK1.out; have := HJ35.out; omega
                                                  case rel => exact ⟨(y567), (t560), (wrap64 (x50_1 + 1)), (by (rfl)), H', ⟨by have := HK1.out; have := HJ35.out; omega⟩, ⟨by (try simp only [hl4_1]); (try simp only [hl5_1]); exact Kd.V_mono HO_1.out (fun _ hk => ⟨hk.1.1, ⟨hk.2, hk.1.2⟩⟩)⟩, ⟨by (try simp only [hl4_1]); (try simp only [hl5_1]); exact HO_4.out⟩, ⟨by (try simp only [hl4_1]); (try simp only [hl5_1]); exact HO_5.out⟩, ⟨(HB.out)⟩⟩
                                                · rw [if_neg c63] at H
                                                  exact absurd H (by simp)
                                            · rw [if_neg c48] at H
                                              exact absurd H (by simp)
                                          · rw [if_neg c47] at H
                                            exact absurd H (by simp)
                                        · rw [if_neg c46] at H
                                          exact absurd H (by simp)
                              · rw [if_neg c34] at H
                                exact absurd H (by simp)
                            · rw [if_neg c33] at H
                              exact absurd H (by simp)
                          · rw [if_neg c31] at H
                            exact absurd H (by simp)
                        · rw [if_neg c30] at H
                          exact absurd H (by simp)
                      · rw [if_neg c28] at H
                        have c28b0 : decide (x50_1 < (y538.length : Int)) = false := decide_eq_false c28
                        (try (have c28b0l := c28b0; simp only [hl4_1] at c28b0l))
                        clear c28
                        replace H := Option.bind_eq_some_iff.mp H
                        obtain ⟨t543, A690, H⟩ := H
                        replace H : ((nat_trim.f k1 x5_1).bind fun t546 => ((nat_down.f k1 t546 t528).bind fun t549 => (some (t543, t549)))) = some (r1, r2) := H
                        have A69 := Aside0.mk A690
                        clear A690
                        replace H := Option.bind_eq_some_iff.mp H
                        obtain ⟨t546, A700, H⟩ := H
                        replace H : ((nat_down.f k1 t546 t528).bind fun t549 => (some (t543, t549))) = some (r1, r2) := H
                        have A70 := Aside0.mk A700
                        clear A700
                        replace H := Option.bind_eq_some_iff.mp H
                        obtain ⟨t549, A710, H⟩ := H
                        replace H : (some (t543, t549)) = some (r1, r2) := H
                        have A71 := Aside0.mk A710
                        clear A710
                        simp only [Option.some.injEq, Prod.mk.injEq] at H
                        obtain ⟨rfl, rfl⟩ := H
                        go_wp2_with (first | (go_at_call 65; (with_reducible refine (nat_trim.calls k1 (fun k_ => some k_ = (.slice Ao27 x4_1.length co27 : Value).ownBlock) _ _ x4_1 t543 _ ?side1 A69.out).mono ?_); (case side1 => exact Kd.R_V (Kd.R_tight rfl (HO_4.out))); rintro e w72 ⟨v544, rfl, ho0, hb⟩; have n0_ := Aside0.mk (Kd.V_below (HO_1.out) hb); have n1_ := Aside0.mk (Kd.R_below (HO_4.out) hb); have n2_ := Aside0.mk (Kd.R_below (HO_5.out) hb); have n3_ := Aside0.mk (Kd.V_lower (Kd.V_mono (ok' := fun k_ => (w.heap.size ≤ k_) ∧ some k_ ≠ (.slice Ao24 x5_1.length co24 : Value).ownBlock) ho0 (fun k_ hk_ => ⟨Or.elim hk_ (fun hs_ => ((HO_4.out).1 k_ hs_.symm).1) (fun hn_ => (Nat.le_trans (below_size (HB.out)) hn_)), Or.elim hk_ (fun hs_ => ((HO_4.out).1 k_ hs_.symm).2) (fun hn_ => (Kd.fresh' (Kd.R_lt (HO_5.out)) k_ hn_))⟩)) (below_size (HB.out))); have n4_ := Aside0.mk (below_step (HB.out) hb); clear HO_1; clear HO_4; clear HO_5; clear HB; have HO_1 := n0_; have HO_4 := n1_; have HO_5 := n2_; have HO545 := n3_; have HB := n4_; clear n0_ n1_ n2_ n3_ n4_; (try clear hb); (try clear ho0)) | (go_at_call 65; (with_reducible refine (nat_trim.calls k1 (fun k_ => some k_ = (.slice Ao24 x5_1.length co24 : Value).ownBlock) _ _ x5_1 t546 _ ?side1 A70.out).mono ?_); (case side1 => exact Kd.R_V (Kd.R_tight rfl (HO_5.out))); rintro e w73 ⟨v547, rfl, ho0, hb⟩; have n0_ := Aside0.mk (Kd.V_below (HO_1.out) hb); have n1_ := Aside0.mk (Kd.R_below (HO_4.out) hb); have n2_ := Aside0.mk (Kd.R_below (HO_5.out) hb); have n3_ := Aside0.mk (Kd.V_below (HO545.out) hb); have n4_ := Aside0.mk (Kd.V_lower (Kd.V_mono (ok' := fun k_ => (w.heap.size ≤ k_) ∧ some k_ ≠ (.slice Ao27 x4_1.length co27 : Value).ownBlock) ho0 (fun k_ hk_ => ⟨Or.elim hk_ (fun hs_ => ((HO_5.out).1 k_ hs_.symm).1) (fun hn_ => (Nat.le_trans (below_size (HB.out)) hn_)), Or.elim hk_ (fun hs_ => ((HO_5.out).1 k_ hs_.symm).2) (fun hn_ => (Kd.fresh' (Kd.R_lt (HO_4.out)) k_ hn_))⟩)) (below_size (HB.out))); have n5_ := Aside0.mk (below_step (HB.out) hb); clear HO_1; clear HO_4; clear HO_5; clear HO545; clear HB; have HO_1 := n0_; have HO_4 := n1_; have HO_5 := n2_; have HO545 := n3_; have HO548 := n4_; have HB := n5_; clear n0_ n1_ n2_ n3_ n4_ n5_; (try clear hb); (try clear ho0); obtain ⟨Ao74, co74, eo74⟩ := Kd.V_slice HO548.out; subst eo74) | (go_at_call 81; (with_reducible refine (nat_down.calls k1 _ _ t546 t528 t549 _ ?side1 ?side2 A71.out).mono ?_); (case side1 => exact (Kd.V_reads' HO548.out).2.2); (case side2 => exact (Kd.V_reads' HO548.out).2.1); rintro e w75 ⟨v550, rfl, ho0, hb⟩; have n0_ := Aside0.mk (Kd.V_below (HO_1.out) hb); have n1_ := Aside0.mk (Kd.R_below (HO_4.out) hb); have n2_ := Aside0.mk (Kd.R_below (HO_5.out) hb); have n3_ := Aside0.mk (Kd.V_below (HO545.out) hb); have n4_ := Aside0.mk (Kd.V_below (HO548.out) hb); have n5_ := Aside0.mk (Kd.V_lower (Kd.V_mono (ok' := fun k_ => (w.heap.size ≤ k_) ∧ some k_ ≠ (.slice Ao27 x4_1.length co27 : Value).ownBlock ∧ some k_ ≠ (.slice Ao24 x5_1.length co24 : Value).ownBlock) ho0 (fun k_ hk_ => ⟨(Nat.le_trans (below_size (HB.out)) hk_), (Kd.fresh' (Kd.R_lt (HO_4.out)) k_ hk_), (Kd.fresh' (Kd.R_lt (HO_5.out)) k_ hk_)⟩)) (below_size (HB.out))); have n6_ := Aside0.mk (below_step (HB.out) hb); clear HO_1; clear HO_4; clear HO_5; clear HO545; clear HO548; clear HB; have HO_1 := n0_; have HO_4 := n1_; have HO_5 := n2_; have HO545 := n3_; have HO548 := n4_; have HO551 := n5_; have HB := n6_; clear n0_ n1_ n2_ n3_ n4_ n5_ n6_; (try clear hb); (try clear ho0)))
                        (rw [Exit.noGoto_ret]; go_ret2)
                        exact ⟨_, _, by (rfl), by exact Kd.V_mono HO545.out (fun _ hk => hk.1), by exact Kd.V_mono HO551.out (fun _ hk => hk.1), (HB.out)⟩
                · rw [if_neg c18] at H
                  exact absurd H (by simp)
              · rw [if_neg c17] at H
                exact absurd H (by simp)
            · rw [if_neg c15] at H
              exact absurd H (by simp)
          · rw [if_neg c14] at H
            exact absurd H (by simp)
        · rw [if_neg c12] at H
          exact absurd H (by simp)
      · rw [if_neg c11] at H
        exact absurd H (by simp)
    · rw [if_neg c5] at H
      exact absurd H (by simp)
  · rw [if_neg c4] at H
    exact absurd H (by simp)
end Go.Proofs.Ytmgjjdodjamomaa.PB
