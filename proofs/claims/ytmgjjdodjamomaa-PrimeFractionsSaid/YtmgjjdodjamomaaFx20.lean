/- Functions with the same answers as the Go code, and the proofs of that; printed by a turned copy of the print, shortened by programs (wip/tools). -/
import Derived.Test.YtmgjjdodjamomaaFW
import Derived.Test.YtmgjjdodjamomaaFx0
namespace Go.Proofs.Ytmgjjdodjamomaa.PB
open Go.RowKit Go.Proofs.YtmgjjdodjamomaaW.PrintWords Go.Proofs.YtmgjjdodjamomaaW.PrintLast Go.Proofs.YtmgjjdodjamomaaW.PrintMore
attribute [local go_sem] max2_int max_two
set_option linter.unusedVariables false
set_option linter.unusedSimpArgs false
def primroseref01_push.l0 : Nat → List Int → Int → Int → Option (List Int)
  | 0, _, _, _ => none
  | k + 1, x0, x1, x4 => if x4 < (x0.length : Int) then (if 0 ≤ x4 then (primroseref01_push.l0 k (x0.set (x4 : Int).toNat (((((rd x0 x4) * 2) % 4294967296) + x1) % 4294967296)) ((rd x0 x4) / 2147483648) (wrap64 (x4 + 1))) else (none)) else (some x0)
def primroseref01_push.f (k : Nat) (l0 : List Int) (a1 : Int) : Option (List Int) := primroseref01_push.l0 k l0 a1 0
set_option maxHeartbeats 8000000 in
set_option maxRecDepth 100000 in
theorem primroseref01_push.calls (k : Nat) (P0_ : Nat → Prop) (u9000_ : Value) (l0 : List Int) (a1 : Int) (r : List Int) (w0 w : World) (hB : Below w0.heap.size w0 w) (ho0 : Kd.R (Kd.int .u32) 59 w w0.heap.size P0_ u9000_ l0) (h : primroseref01_push.f k l0 a1 = some r) :
    Calls Try.prog 60 #[u9000_, .int .u32 a1] w fun e w' => e = .returned (.tuple #[]) ∧ Kd.R (Kd.int .u32) 59 w' w0.heap.size (fun k_ => (P0_ k_ ∨ w.heap.size ≤ k_)) u9000_ r ∧ Below w0.heap.size w0 w' ∧ Kept w w' (fun k_ => P0_ k_) := by
  have HO0 := Aside0.mk (show Kd.R (Kd.int .u32) 59 w w0.heap.size (fun k_ => (P0_ k_ ∨ w.heap.size ≤ k_)) u9000_ l0 from Kd.R_mono ho0 (fun k_ hk => (.inl hk)))
  have HK := Aside0.mk (Kept.refl w (fun k_ => P0_ k_))
  have HW0 := Aside0.mk hB.size
  have HB := Aside0.mk hB
  clear hB
  have H : (primroseref01_push.l0 k l0 a1 0) = some r := h
  clear h
  have H' := Aside0.mk H
  clear H
  go_enter Try.func60, Try.ntmps60
  go_wp2
  go_loopg [1, 4] k (fun kq v1 v4 w' => ∃ (x0_1 : List Int) (x1_1 : Int) (x4_1 : Int), v1 = .int .u32 x1_1 ∧ v4 = .int .i64 x4_1 ∧ Aside0 (primroseref01_push.l0 kq x0_1 x1_1 x4_1 = some r) ∧ Aside0 (kq ≤ k) ∧ Aside0 (Kd.R (Kd.int .u32) 59 w' w0.heap.size (fun k_ => (P0_ k_ ∨ w.heap.size ≤ k_)) u9000_ x0_1) ∧ Aside0 (Kept w w' (fun k_ => P0_ k_)) ∧ Aside0 (Below w0.heap.size w0 w'))
  case atStart => exact ⟨(l0), (a1), (0), (by (rfl)), (by (rfl)), H', ⟨Nat.le_refl _⟩, ⟨by exact HO0.out⟩, ⟨(HK.out)⟩, ⟨(HB.out)⟩⟩
  case round =>
    clear H'
    obtain ⟨x0_1, x1_1, x4_1, rfl, rfl, HA, HK1, HO_0, HK, HB⟩ := hrel
    cases gk with
    | zero => exact absurd HA.out (by simp [primroseref01_push.l0])
    | succ k1 =>
      have H := HA.out
      clear HA
      simp only [primroseref01_push.l0] at H
      by_cases c3 : x4_1 < (x0_1.length : Int)
      · rw [if_pos c3] at H
        have c3b0 : decide (x4_1 < (x0_1.length : Int)) = true := decide_eq_true c3
        clear c3
        by_cases c4 : 0 ≤ x4_1
        · rw [if_pos c4] at H
          have c4b0 : decide (0 ≤ x4_1) = true := decide_eq_true c4
          clear c4
          obtain ⟨y335, hy335⟩ : ∃ y_ : List Int, y_ = (x0_1.set (x4_1 : Int).toNat (((((rd x0_1 x4_1) * 2) % 4294967296) + x1_1) % 4294967296)) := ⟨_, rfl⟩
          replace H : (primroseref01_push.l0 k1 y335 ((rd x0_1 x4_1) / 2147483648) (wrap64 (x4_1 + 1))) = some r := by (rw [hy335]; with_reducible exact H)
          have Ny335 := Aside0.mk hy335
          clear hy335
          have H' := Aside0.mk H
          clear H
          obtain ⟨Ao6, co6, eo6⟩ := Kd.R_slice HO_0.out
          subst eo6
          have p333 : 0 ≤ (x4_1 : Int) := of_decide_eq_true (by (with_reducible assumption))
          have q333 : x4_1 < (x0_1.length : Int) := of_decide_eq_true (by (with_reducible assumption))
          obtain ⟨ad333, e333, hx333_0⟩ := Kd.at_int (Kd.R_reads' HO_0.out).2.2 x4_1 p333 q333
          cases e333
          replace p333 := eq_true p333
          replace q333 := eq_true q333
          have p334 : 0 ≤ (x4_1 : Int) := of_decide_eq_true (by (with_reducible assumption))
          have q334 : x4_1 < (x0_1.length : Int) := of_decide_eq_true (by (with_reducible assumption))
          obtain ⟨ad334, e334, hx334_0⟩ := Kd.at_int (Kd.R_reads' HO_0.out).2.2 x4_1 p334 q334
          obtain rfl : ad333 = ad334 := (by injection e334)
          replace p334 := eq_true p334
          replace q334 := eq_true q334
          have p5 : 0 ≤ (x4_1 : Int) := of_decide_eq_true (by (with_reducible assumption))
          have q5 : (x4_1 : Int) < ((x0_1.length : Int) : Int) := of_decide_eq_true (by (with_reducible assumption))
          obtain ⟨go5, co5, eo5, gb5, gl5, cl5, HG5⟩ := Kd.R_form HO_0.out (by omega)
          (cases eo5)
          have GB5 := Aside0.mk gb5
          have GG5 := Aside0.mk HG5
          clear gb5 gl5 HG5
          have HMgo5 := Aside0.mk (show (P0_ go5 ∨ w.heap.size ≤ go5) from (HO_0.out.1 _ rfl))
          (simp only [add_plain] at hx333_0)
          (simp only [add_plain] at hx334_0)
          obtain ⟨hx5_0, hf5_0⟩ := Kd.R_celln 0 HO_0.out (x4_1 : Int) p5 q5
          replace p5 := eq_true p5
          replace q5 := eq_true q5
          have HP7 := Kd.R_putg HO_0.out (x4_1 : Int) (((((rd x0_1 x4_1) * 2) % 4294967296) + x1_1) % 4294967296)
          go_wp2_with ((with_reducible refine gate_store (t := 59) (p := 26) rfl ?_); refine store_event (t := 59) (p := 26) (v := ?vo_w8) (w1 := (wr.setCell ⟨go5, (x4_1 : Int).toNat, none⟩ (.int .u32 (((((rd x0_1 x4_1) * 2) % 4294967296) + x1_1) % 4294967296)))) ?hg ?ho ?hn ?hr ?_; (case ho => rfl); (case hg => rfl); (case hn => rfl); (case hr => (go_simp; done)); intro w8 hw; have hg : wr.grownBy w8 (some go5) := (by rw [hw]; exact HP7.2); have hp_ : Kd.R (Kd.int .u32) 59 w8 w0.heap.size (fun k_ => (P0_ k_ ∨ w.heap.size ≤ k_)) (.slice (some ⟨go5, 0, none⟩) x0_1.length co6) y335 := (by rw [hw, Ny335.out]; exact HP7.1); clear HP7; have n0_ := Aside0.mk (hp_); have n1_ := Aside0.mk (by rw [hw]; exact below_set (HB.out) GB5.out : Below w0.heap.size w0 w8); have n2_ := Aside0.mk (Kept.of_grown (S := (fun k_ => P0_ k_)) hg (HK.out) (fun k_ e_ => (HO_0.out.1 k_ e_))); clear HO_0; clear HB; clear HK; have HO_0 := n0_; have HB := n1_; have HK := n2_; clear n0_ n1_ n2_; clear hg hw hp_)
          go_roundg k1
          case measure => have := HK1.out; omega
          case rel => exact ⟨(y335), ((rd x0_1 x4_1) / 2147483648), (wrap64 (x4_1 + 1)), (by (rfl)), (by (rfl)), H', ⟨by have := HK1.out; omega⟩, ⟨by exact HO_0.out⟩, ⟨(HK.out)⟩, ⟨(HB.out)⟩⟩
        · rw [if_neg c4] at H
          exact absurd H (by simp)
      · rw [if_neg c3] at H
        have c3b0 : decide (x4_1 < (x0_1.length : Int)) = false := decide_eq_false c3
        clear c3
        obtain rfl := Option.some.inj H
        obtain ⟨Ao9, co9, eo9⟩ := Kd.R_slice HO_0.out
        subst eo9
        go_wp2
        (go_end0)
        exact ⟨by (rfl), by exact HO_0.out, (HB.out), (HK.out)⟩
def primroseref01_bit.f (l0 : List Int) (a1 : Int) : Option (Int) := if (wrap64 (Int.tdiv a1 32)) ≥ (l0.length : Int) then (some 0) else (if 0 ≤ (wrap64 (Int.tdiv a1 32)) then (if (wrap64 (Int.tdiv a1 32)) < (l0.length : Int) then (if 0 ≤ (Int.tmod a1 32) then (some (Go.bits .and .u32 (shr .u32 (rd l0 (wrap64 (Int.tdiv a1 32))) (Int.tmod a1 32)) 1)) else (none)) else (none)) else (none))
set_option maxHeartbeats 8000000 in
set_option maxRecDepth 100000 in
theorem primroseref01_bit.calls (A0 : Option Addr) (c0 : Nat) (l0 : List Int) (a1 : Int) (r : Int) (w : World) (hr0 : Kd.C (Kd.int .u32) w A0 l0.length l0) (hc0 : l0.length ≤ c0) (h : primroseref01_bit.f l0 a1 = some r) :
    Calls Try.prog 61 #[.slice A0 l0.length c0, .int .i64 a1] w fun e w' => e = .returned (.int .u32 r) ∧ Drawn0 w w' := by
  have HR0 := Aside0.mk hr0
  have HC0 := Aside0.mk hc0
  clear hr0 hc0
  have H : (if (wrap64 (Int.tdiv a1 32)) ≥ (l0.length : Int) then (some 0) else (if 0 ≤ (wrap64 (Int.tdiv a1 32)) then (if (wrap64 (Int.tdiv a1 32)) < (l0.length : Int) then (if 0 ≤ (Int.tmod a1 32) then (some (Go.bits .and .u32 (shr .u32 (rd l0 (wrap64 (Int.tdiv a1 32))) (Int.tmod a1 32)) 1)) else (none)) else (none)) else (none))) = some r := h
  clear h
  by_cases c3 : (wrap64 (Int.tdiv a1 32)) ≥ (l0.length : Int)
  · rw [if_pos c3] at H
    have c3b0 : decide ((l0.length : Int) ≤ (wrap64 (Int.tdiv a1 32))) = true := decide_eq_true c3
    clear c3
    obtain rfl := Option.some.inj H
    go_enter Try.func61, Try.ntmps61
    go_wp2
    go_ret
    exact ⟨by (rfl), (Drawn0.refl _)⟩
  · rw [if_neg c3] at H
    have c3b0 : decide ((l0.length : Int) ≤ (wrap64 (Int.tdiv a1 32))) = false := decide_eq_false c3
    clear c3
    obtain ⟨ji4, hji4⟩ : ∃ j_ : Int, (wrap64 (Int.tdiv a1 32)) = j_ := ⟨_, rfl⟩
    replace H : (if 0 ≤ (ji4) then (if (ji4) < (l0.length : Int) then (if 0 ≤ (Int.tmod a1 32) then (some (Go.bits .and .u32 (shr .u32 (rd l0 (ji4)) (Int.tmod a1 32)) 1)) else (none)) else (none)) else (none)) = some r := by (rw [hji4] at H; exact H)
    (try rw [hji4] at c3b0)
    have hji4w : (IntKind.i64.wrap (Int.tdiv a1 32)) = ji4 := (i64_w _).trans hji4
    by_cases c5 : 0 ≤ (ji4)
    · rw [if_pos c5] at H
      have c5b0 : decide (0 ≤ (ji4)) = true := decide_eq_true c5
      clear c5
      by_cases c6 : (ji4) < (l0.length : Int)
      · rw [if_pos c6] at H
        have c6b0 : decide ((ji4) < (l0.length : Int)) = true := decide_eq_true c6
        clear c6
        obtain ⟨ji7, hji7⟩ : ∃ j_ : Int, (Int.tmod a1 32) = j_ := ⟨_, rfl⟩
        replace H : (if 0 ≤ (ji7) then (some (Go.bits .and .u32 (shr .u32 (rd l0 (ji4)) (ji7)) 1)) else (none)) = some r := by (rw [hji7] at H; exact H)
        by_cases c8 : 0 ≤ (ji7)
        · rw [if_pos c8] at H
          have c8b0 := eq_true c8
          have c8b1 : decide (0 ≤ (ji7)) = true := decide_eq_true c8
          clear c8
          obtain ⟨ji9, hji9⟩ : ∃ j_ : Int, (shr .u32 (rd l0 (ji4)) (ji7)) = j_ := ⟨_, rfl⟩
          replace H : (some (Go.bits .and .u32 (ji9) 1)) = some r := by (rw [hji9] at H; exact H)
          have hji9_ : ((rd l0 (ji4)) / 2 ^ min (ji7).toNat 32) = ji9 := hji9
          have hji9z : (ji7) ≤ 32 → ((rd l0 (ji4)) / 2 ^ (ji7).toNat) = ji9 := shr_small hji9
          obtain rfl := Option.some.inj H
          have p336 : 0 ≤ ((ji4) : Int) := of_decide_eq_true (by (with_reducible assumption))
          have q336 : (ji4) < (l0.length : Int) := of_decide_eq_true (by (with_reducible assumption))
          obtain ⟨ad336, e336, hx336_0⟩ := Kd.at_int HR0.out (ji4) p336 q336
          cases e336
          replace p336 := eq_true p336
          replace q336 := eq_true q336
          go_enter Try.func61, Try.ntmps61
          go_wp2
          go_ret
          exact ⟨by (rfl), (Drawn0.refl _)⟩
        · rw [if_neg c8] at H
          exact absurd H (by simp)
      · rw [if_neg c6] at H
        exact absurd H (by simp)
    · rw [if_neg c5] at H
      exact absurd H (by simp)
def primroseref01_take.l0 : Nat → List Int → List Int → Int → Int → Option (List Int)
  | 0, _, _, _, _ => none
  | k + 1, x0, x1, x4, x5 => if x5 < (x0.length : Int) then (if 0 ≤ x5 then (if x5 < (x1.length : Int) then (if (wrap64 ((wrap64 ((wrap64 (rd x0 x5)) - x4)) - (wrap64 (rd x1 x5)))) < 0 then (primroseref01_take.l0 k (x0.set (x5 : Int).toNat ((wrap64 ((wrap64 ((wrap64 ((wrap64 (rd x0 x5)) - x4)) - (wrap64 (rd x1 x5)))) + 4294967296)) % 4294967296)) x1 1 (wrap64 (x5 + 1))) else (primroseref01_take.l0 k (x0.set (x5 : Int).toNat ((wrap64 ((wrap64 ((wrap64 (rd x0 x5)) - x4)) - (wrap64 (rd x1 x5)))) % 4294967296)) x1 0 (wrap64 (x5 + 1)))) else (if (wrap64 ((wrap64 (rd x0 x5)) - x4)) < 0 then (primroseref01_take.l0 k (x0.set (x5 : Int).toNat ((wrap64 ((wrap64 ((wrap64 (rd x0 x5)) - x4)) + 4294967296)) % 4294967296)) x1 1 (wrap64 (x5 + 1))) else (primroseref01_take.l0 k (x0.set (x5 : Int).toNat ((wrap64 ((wrap64 (rd x0 x5)) - x4)) % 4294967296)) x1 0 (wrap64 (x5 + 1))))) else (none)) else (some x0)
def primroseref01_take.f (k : Nat) (l0 : List Int) (l1 : List Int) : Option (List Int) := primroseref01_take.l0 k l0 l1 0 0
set_option maxHeartbeats 8000000 in
set_option maxRecDepth 100000 in
theorem primroseref01_take.calls (k : Nat) (P0_ : Nat → Prop) (u9000_ : Value) (l0 : List Int) (A1 : Option Addr) (c1 : Nat) (l1 : List Int) (r : List Int) (w0 w : World) (hB : Below w0.heap.size w0 w) (ho0 : Kd.R (Kd.int .u32) 59 w w0.heap.size P0_ u9000_ l0) (hr1 : ∀ W_, Kept w W_ (fun k_ => P0_ k_) → Kd.C (Kd.int .u32) W_ A1 l1.length l1) (hc1 : l1.length ≤ c1) (h : primroseref01_take.f k l0 l1 = some r) :
    Calls Try.prog 62 #[u9000_, .slice A1 l1.length c1] w fun e w' => e = .returned (.tuple #[]) ∧ Kd.R (Kd.int .u32) 59 w' w0.heap.size (fun k_ => (P0_ k_ ∨ w.heap.size ≤ k_)) u9000_ r ∧ Below w0.heap.size w0 w' ∧ Kept w w' (fun k_ => P0_ k_) := by
  have HO0 := Aside0.mk (show Kd.R (Kd.int .u32) 59 w w0.heap.size (fun k_ => (P0_ k_ ∨ w.heap.size ≤ k_)) u9000_ l0 from Kd.R_mono ho0 (fun k_ hk => (.inl hk)))
  have HR1 := Aside0.mk hr1
  have HC1 := Aside0.mk hc1
  clear hr1 hc1
  have HK := Aside0.mk (Kept.refl w (fun k_ => P0_ k_))
  have HW0 := Aside0.mk hB.size
  have HB := Aside0.mk hB
  clear hB
  have H : (primroseref01_take.l0 k l0 l1 0 0) = some r := h
  clear h
  have H' := Aside0.mk H
  clear H
  go_enter Try.func62, Try.ntmps62
  go_wp2
  go_loopg [4, 5] k (fun kq v4 v5 w' => ∃ (x0_1 : List Int) (x4_1 : Int) (x5_1 : Int), v4 = .int .i64 x4_1 ∧ v5 = .int .i64 x5_1 ∧ Aside0 (primroseref01_take.l0 kq x0_1 l1 x4_1 x5_1 = some r) ∧ Aside0 (kq ≤ k) ∧ Aside0 (Kd.R (Kd.int .u32) 59 w' w0.heap.size (fun k_ => (P0_ k_ ∨ w.heap.size ≤ k_)) u9000_ x0_1) ∧ Aside0 (Kept w w' (fun k_ => P0_ k_)) ∧ Aside0 (Below w0.heap.size w0 w'))
  case atStart => exact ⟨(l0), (0), (0), (by (rfl)), (by (rfl)), H', ⟨Nat.le_refl _⟩, ⟨by exact HO0.out⟩, ⟨(HK.out)⟩, ⟨(HB.out)⟩⟩
  case round =>
    clear H'
    obtain ⟨x0_1, x4_1, x5_1, rfl, rfl, HA, HK1, HO_0, HK, HB⟩ := hrel
    cases gk with
    | zero => exact absurd HA.out (by simp [primroseref01_take.l0])
    | succ k1 =>
      have H := HA.out
      clear HA
      simp only [primroseref01_take.l0] at H
      by_cases c3 : x5_1 < (x0_1.length : Int)
      · rw [if_pos c3] at H
        have c3b0 : decide (x5_1 < (x0_1.length : Int)) = true := decide_eq_true c3
        clear c3
        by_cases c4 : 0 ≤ x5_1
        · rw [if_pos c4] at H
          have c4b0 : decide (0 ≤ x5_1) = true := decide_eq_true c4
          clear c4
          by_cases c5 : x5_1 < (l1.length : Int)
          · rw [if_pos c5] at H
            have c5b0 : decide (x5_1 < (l1.length : Int)) = true := decide_eq_true c5
            clear c5
            by_cases c6 : (wrap64 ((wrap64 ((wrap64 (rd x0_1 x5_1)) - x4_1)) - (wrap64 (rd l1 x5_1)))) < 0
            · rw [if_pos c6] at H
              have c6b0 : decide ((wrap64 ((wrap64 ((wrap64 (rd x0_1 x5_1)) - x4_1)) - (wrap64 (rd l1 x5_1)))) < 0) = true := decide_eq_true c6
              clear c6
              obtain ⟨y339, hy339⟩ : ∃ y_ : List Int, y_ = (x0_1.set (x5_1 : Int).toNat ((wrap64 ((wrap64 ((wrap64 ((wrap64 (rd x0_1 x5_1)) - x4_1)) - (wrap64 (rd l1 x5_1)))) + 4294967296)) % 4294967296)) := ⟨_, rfl⟩
              replace H : (primroseref01_take.l0 k1 y339 l1 1 (wrap64 (x5_1 + 1))) = some r := by (rw [hy339]; with_reducible exact H)
              have Ny339 := Aside0.mk hy339
              clear hy339
              have H' := Aside0.mk H
              clear H
              obtain ⟨Ao8, co8, eo8⟩ := Kd.R_slice HO_0.out
              subst eo8
              have p337 : 0 ≤ (x5_1 : Int) := of_decide_eq_true (by (with_reducible assumption))
              have q337 : x5_1 < (x0_1.length : Int) := of_decide_eq_true (by (with_reducible assumption))
              obtain ⟨ad337, e337, hx337_0⟩ := Kd.at_int (Kd.R_reads' HO_0.out).2.2 x5_1 p337 q337
              cases e337
              replace p337 := eq_true p337
              replace q337 := eq_true q337
              have p338 : 0 ≤ (x5_1 : Int) := of_decide_eq_true (by (with_reducible assumption))
              have q338 : x5_1 < (l1.length : Int) := of_decide_eq_true (by (with_reducible assumption))
              obtain ⟨ad338, e338, hx338_0⟩ := Kd.at_int (Kd.C_kept_now HR1.out HK.out) x5_1 p338 q338
              cases e338
              replace p338 := eq_true p338
              replace q338 := eq_true q338
              have p7 : 0 ≤ (x5_1 : Int) := of_decide_eq_true (by (with_reducible assumption))
              have q7 : (x5_1 : Int) < ((x0_1.length : Int) : Int) := of_decide_eq_true (by (with_reducible assumption))
              obtain ⟨go7, co7, eo7, gb7, gl7, cl7, HG7⟩ := Kd.R_form HO_0.out (by omega)
              (cases eo7)
              have GB7 := Aside0.mk gb7
              have GG7 := Aside0.mk HG7
              clear gb7 gl7 HG7
              have HMgo7 := Aside0.mk (show (P0_ go7 ∨ w.heap.size ≤ go7) from (HO_0.out.1 _ rfl))
              (simp only [add_plain] at hx337_0)
              obtain ⟨hx7_0, hf7_0⟩ := Kd.R_celln 0 HO_0.out (x5_1 : Int) p7 q7
              replace p7 := eq_true p7
              replace q7 := eq_true q7
              have HP9 := Kd.R_putg HO_0.out (x5_1 : Int) ((wrap64 ((wrap64 ((wrap64 ((wrap64 (rd x0_1 x5_1)) - x4_1)) - (wrap64 (rd l1 x5_1)))) + 4294967296)) % 4294967296)
              go_wp2_with ((with_reducible refine gate_store (t := 59) (p := 39) rfl ?_); refine store_event (t := 59) (p := 39) (v := ?vo_w10) (w1 := (wr.setCell ⟨go7, (x5_1 : Int).toNat, none⟩ (.int .u32 ((wrap64 ((wrap64 ((wrap64 ((wrap64 (rd x0_1 x5_1)) - x4_1)) - (wrap64 (rd l1 x5_1)))) + 4294967296)) % 4294967296)))) ?hg ?ho ?hn ?hr ?_; (case ho => rfl); (case hg => rfl); (case hn => rfl); (case hr => (go_simp; done)); intro w10 hw; have hg : wr.grownBy w10 (some go7) := (by rw [hw]; exact HP9.2); have hp_ : Kd.R (Kd.int .u32) 59 w10 w0.heap.size (fun k_ => (P0_ k_ ∨ w.heap.size ≤ k_)) (.slice (some ⟨go7, 0, none⟩) x0_1.length co8) y339 := (by rw [hw, Ny339.out]; exact HP9.1); clear HP9; have n0_ := Aside0.mk (hp_); have n1_ := Aside0.mk (by rw [hw]; exact below_set (HB.out) GB7.out : Below w0.heap.size w0 w10); have n2_ := Aside0.mk (Kept.of_grown (S := (fun k_ => P0_ k_)) hg (HK.out) (fun k_ e_ => (HO_0.out.1 k_ e_))); clear HO_0; clear HB; clear HK; have HO_0 := n0_; have HB := n1_; have HK := n2_; clear n0_ n1_ n2_; clear hg hw hp_)
              go_roundg k1
              case measure => have := HK1.out; omega
              case rel => exact ⟨(y339), (1), (wrap64 (x5_1 + 1)), (by (rfl)), (by (rfl)), H', ⟨by have := HK1.out; omega⟩, ⟨by exact HO_0.out⟩, ⟨(HK.out)⟩, ⟨(HB.out)⟩⟩
            · rw [if_neg c6] at H
              have c6b0 : decide ((wrap64 ((wrap64 ((wrap64 (rd x0_1 x5_1)) - x4_1)) - (wrap64 (rd l1 x5_1)))) < 0) = false := decide_eq_false c6
              clear c6
              obtain ⟨y340, hy340⟩ : ∃ y_ : List Int, y_ = (x0_1.set (x5_1 : Int).toNat ((wrap64 ((wrap64 ((wrap64 (rd x0_1 x5_1)) - x4_1)) - (wrap64 (rd l1 x5_1)))) % 4294967296)) := ⟨_, rfl⟩
              replace H : (primroseref01_take.l0 k1 y340 l1 0 (wrap64 (x5_1 + 1))) = some r := by (rw [hy340]; with_reducible exact H)
              have Ny340 := Aside0.mk hy340
              clear hy340
              have H' := Aside0.mk H
              clear H
              obtain ⟨Ao12, co12, eo12⟩ := Kd.R_slice HO_0.out
              subst eo12
              have p337 : 0 ≤ (x5_1 : Int) := of_decide_eq_true (by (with_reducible assumption))
              have q337 : x5_1 < (x0_1.length : Int) := of_decide_eq_true (by (with_reducible assumption))
              obtain ⟨ad337, e337, hx337_0⟩ := Kd.at_int (Kd.R_reads' HO_0.out).2.2 x5_1 p337 q337
              cases e337
              replace p337 := eq_true p337
              replace q337 := eq_true q337
              have p338 : 0 ≤ (x5_1 : Int) := of_decide_eq_true (by (with_reducible assumption))
              have q338 : x5_1 < (l1.length : Int) := of_decide_eq_true (by (with_reducible assumption))
              obtain ⟨ad338, e338, hx338_0⟩ := Kd.at_int (Kd.C_kept_now HR1.out HK.out) x5_1 p338 q338
              cases e338
              replace p338 := eq_true p338
              replace q338 := eq_true q338
              have p11 : 0 ≤ (x5_1 : Int) := of_decide_eq_true (by (with_reducible assumption))
              have q11 : (x5_1 : Int) < ((x0_1.length : Int) : Int) := of_decide_eq_true (by (with_reducible assumption))
              obtain ⟨go11, co11, eo11, gb11, gl11, cl11, HG11⟩ := Kd.R_form HO_0.out (by omega)
              (cases eo11)
              have GB11 := Aside0.mk gb11
              have GG11 := Aside0.mk HG11
              clear gb11 gl11 HG11
              have HMgo11 := Aside0.mk (show (P0_ go11 ∨ w.heap.size ≤ go11) from (HO_0.out.1 _ rfl))
              (simp only [add_plain] at hx337_0)
              obtain ⟨hx11_0, hf11_0⟩ := Kd.R_celln 0 HO_0.out (x5_1 : Int) p11 q11
              replace p11 := eq_true p11
              replace q11 := eq_true q11
              have HP13 := Kd.R_putg HO_0.out (x5_1 : Int) ((wrap64 ((wrap64 ((wrap64 (rd x0_1 x5_1)) - x4_1)) - (wrap64 (rd l1 x5_1)))) % 4294967296)
              go_wp2_with ((with_reducible refine gate_store (t := 59) (p := 39) rfl ?_); refine store_event (t := 59) (p := 39) (v := ?vo_w14) (w1 := (wr.setCell ⟨go11, (x5_1 : Int).toNat, none⟩ (.int .u32 ((wrap64 ((wrap64 ((wrap64 (rd x0_1 x5_1)) - x4_1)) - (wrap64 (rd l1 x5_1)))) % 4294967296)))) ?hg ?ho ?hn ?hr ?_; (case ho => rfl); (case hg => rfl); (case hn => rfl); (case hr => (go_simp; done)); intro w14 hw; have hg : wr.grownBy w14 (some go11) := (by rw [hw]; exact HP13.2); have hp_ : Kd.R (Kd.int .u32) 59 w14 w0.heap.size (fun k_ => (P0_ k_ ∨ w.heap.size ≤ k_)) (.slice (some ⟨go11, 0, none⟩) x0_1.length co12) y340 := (by rw [hw, Ny340.out]; exact HP13.1); clear HP13; have n0_ := Aside0.mk (hp_); have n1_ := Aside0.mk (by rw [hw]; exact below_set (HB.out) GB11.out : Below w0.heap.size w0 w14); have n2_ := Aside0.mk (Kept.of_grown (S := (fun k_ => P0_ k_)) hg (HK.out) (fun k_ e_ => (HO_0.out.1 k_ e_))); clear HO_0; clear HB; clear HK; have HO_0 := n0_; have HB := n1_; have HK := n2_; clear n0_ n1_ n2_; clear hg hw hp_)
              go_roundg k1
              case measure => have := HK1.out; omega
              case rel => exact ⟨(y340), (0), (wrap64 (x5_1 + 1)), (by (rfl)), (by (rfl)), H', ⟨by have := HK1.out; omega⟩, ⟨by exact HO_0.out⟩, ⟨(HK.out)⟩, ⟨(HB.out)⟩⟩
          · rw [if_neg c5] at H
            have c5b0 : decide (x5_1 < (l1.length : Int)) = false := decide_eq_false c5
            clear c5
            by_cases c15 : (wrap64 ((wrap64 (rd x0_1 x5_1)) - x4_1)) < 0
            · rw [if_pos c15] at H
              have c15b0 : decide ((wrap64 ((wrap64 (rd x0_1 x5_1)) - x4_1)) < 0) = true := decide_eq_true c15
              clear c15
              obtain ⟨y341, hy341⟩ : ∃ y_ : List Int, y_ = (x0_1.set (x5_1 : Int).toNat ((wrap64 ((wrap64 ((wrap64 (rd x0_1 x5_1)) - x4_1)) + 4294967296)) % 4294967296)) := ⟨_, rfl⟩
              replace H : (primroseref01_take.l0 k1 y341 l1 1 (wrap64 (x5_1 + 1))) = some r := by (rw [hy341]; with_reducible exact H)
              have Ny341 := Aside0.mk hy341
              clear hy341
              have H' := Aside0.mk H
              clear H
              obtain ⟨Ao17, co17, eo17⟩ := Kd.R_slice HO_0.out
              subst eo17
              have p337 : 0 ≤ (x5_1 : Int) := of_decide_eq_true (by (with_reducible assumption))
              have q337 : x5_1 < (x0_1.length : Int) := of_decide_eq_true (by (with_reducible assumption))
              obtain ⟨ad337, e337, hx337_0⟩ := Kd.at_int (Kd.R_reads' HO_0.out).2.2 x5_1 p337 q337
              cases e337
              replace p337 := eq_true p337
              replace q337 := eq_true q337
              have p16 : 0 ≤ (x5_1 : Int) := of_decide_eq_true (by (with_reducible assumption))
              have q16 : (x5_1 : Int) < ((x0_1.length : Int) : Int) := of_decide_eq_true (by (with_reducible assumption))
              obtain ⟨go16, co16, eo16, gb16, gl16, cl16, HG16⟩ := Kd.R_form HO_0.out (by omega)
              (cases eo16)
              have GB16 := Aside0.mk gb16
              have GG16 := Aside0.mk HG16
              clear gb16 gl16 HG16
              have HMgo16 := Aside0.mk (show (P0_ go16 ∨ w.heap.size ≤ go16) from (HO_0.out.1 _ rfl))
              (simp only [add_plain] at hx337_0)
              obtain ⟨hx16_0, hf16_0⟩ := Kd.R_celln 0 HO_0.out (x5_1 : Int) p16 q16
              replace p16 := eq_true p16
              replace q16 := eq_true q16
              have HP18 := Kd.R_putg HO_0.out (x5_1 : Int) ((wrap64 ((wrap64 ((wrap64 (rd x0_1 x5_1)) - x4_1)) + 4294967296)) % 4294967296)
              go_wp2_with ((with_reducible refine gate_store (t := 59) (p := 39) rfl ?_); refine store_event (t := 59) (p := 39) (v := ?vo_w19) (w1 := (wr.setCell ⟨go16, (x5_1 : Int).toNat, none⟩ (.int .u32 ((wrap64 ((wrap64 ((wrap64 (rd x0_1 x5_1)) - x4_1)) + 4294967296)) % 4294967296)))) ?hg ?ho ?hn ?hr ?_; (case ho => rfl); (case hg => rfl); (case hn => rfl); (case hr => (go_simp; done)); intro w19 hw; have hg : wr.grownBy w19 (some go16) := (by rw [hw]; exact HP18.2); have hp_ : Kd.R (Kd.int .u32) 59 w19 w0.heap.size (fun k_ => (P0_ k_ ∨ w.heap.size ≤ k_)) (.slice (some ⟨go16, 0, none⟩) x0_1.length co17) y341 := (by rw [hw, Ny341.out]; exact HP18.1); clear HP18; have n0_ := Aside0.mk (hp_); have n1_ := Aside0.mk (by rw [hw]; exact below_set (HB.out) GB16.out : Below w0.heap.size w0 w19); have n2_ := Aside0.mk (Kept.of_grown (S := (fun k_ => P0_ k_)) hg (HK.out) (fun k_ e_ => (HO_0.out.1 k_ e_))); clear HO_0; clear HB; clear HK; have HO_0 := n0_; have HB := n1_; have HK := n2_; clear n0_ n1_ n2_; clear hg hw hp_)
              go_roundg k1
              case measure => have := HK1.out; omega
              case rel => exact ⟨(y341), (1), (wrap64 (x5_1 + 1)), (by (rfl)), (by (rfl)), H', ⟨by have := HK1.out; omega⟩, ⟨by exact HO_0.out⟩, ⟨(HK.out)⟩, ⟨(HB.out)⟩⟩
            · rw [if_neg c15] at H
              have c15b0 : decide ((wrap64 ((wrap64 (rd x0_1 x5_1)) - x4_1)) < 0) = false := decide_eq_false c15
              clear c15
              obtain ⟨y342, hy342⟩ : ∃ y_ : List Int, y_ = (x0_1.set (x5_1 : Int).toNat ((wrap64 ((wrap64 (rd x0_1 x5_1)) - x4_1)) % 4294967296)) := ⟨_, rfl⟩
              replace H : (primroseref01_take.l0 k1 y342 l1 0 (wrap64 (x5_1 + 1))) = some r := by (rw [hy342]; with_reducible exact H)
              have Ny342 := Aside0.mk hy342
              clear hy342
              have H' := Aside0.mk H
              clear H
              obtain ⟨Ao21, co21, eo21⟩ := Kd.R_slice HO_0.out
              subst eo21
              have p337 : 0 ≤ (x5_1 : Int) := of_decide_eq_true (by (with_reducible assumption))
              have q337 : x5_1 < (x0_1.length : Int) := of_decide_eq_true (by (with_reducible assumption))
              obtain ⟨ad337, e337, hx337_0⟩ := Kd.at_int (Kd.R_reads' HO_0.out).2.2 x5_1 p337 q337
              cases e337
              replace p337 := eq_true p337
              replace q337 := eq_true q337
              have p20 : 0 ≤ (x5_1 : Int) := of_decide_eq_true (by (with_reducible assumption))
              have q20 : (x5_1 : Int) < ((x0_1.length : Int) : Int) := of_decide_eq_true (by (with_reducible assumption))
              obtain ⟨go20, co20, eo20, gb20, gl20, cl20, HG20⟩ := Kd.R_form HO_0.out (by omega)
              (cases eo20)
              have GB20 := Aside0.mk gb20
              have GG20 := Aside0.mk HG20
              clear gb20 gl20 HG20
              have HMgo20 := Aside0.mk (show (P0_ go20 ∨ w.heap.size ≤ go20) from (HO_0.out.1 _ rfl))
              (simp only [add_plain] at hx337_0)
              obtain ⟨hx20_0, hf20_0⟩ := Kd.R_celln 0 HO_0.out (x5_1 : Int) p20 q20
              replace p20 := eq_true p20
              replace q20 := eq_true q20
              have HP22 := Kd.R_putg HO_0.out (x5_1 : Int) ((wrap64 ((wrap64 (rd x0_1 x5_1)) - x4_1)) % 4294967296)
              go_wp2_with ((with_reducible refine gate_store (t := 59) (p := 39) rfl ?_); refine store_event (t := 59) (p := 39) (v := ?vo_w23) (w1 := (wr.setCell ⟨go20, (x5_1 : Int).toNat, none⟩ (.int .u32 ((wrap64 ((wrap64 (rd x0_1 x5_1)) - x4_1)) % 4294967296)))) ?hg ?ho ?hn ?hr ?_; (case ho => rfl); (case hg => rfl); (case hn => rfl); (case hr => (go_simp; done)); intro w23 hw; have hg : wr.grownBy w23 (some go20) := (by rw [hw]; exact HP22.2); have hp_ : Kd.R (Kd.int .u32) 59 w23 w0.heap.size (fun k_ => (P0_ k_ ∨ w.heap.size ≤ k_)) (.slice (some ⟨go20, 0, none⟩) x0_1.length co21) y342 := (by rw [hw, Ny342.out]; exact HP22.1); clear HP22; have n0_ := Aside0.mk (hp_); have n1_ := Aside0.mk (by rw [hw]; exact below_set (HB.out) GB20.out : Below w0.heap.size w0 w23); have n2_ := Aside0.mk (Kept.of_grown (S := (fun k_ => P0_ k_)) hg (HK.out) (fun k_ e_ => (HO_0.out.1 k_ e_))); clear HO_0; clear HB; clear HK; have HO_0 := n0_; have HB := n1_; have HK := n2_; clear n0_ n1_ n2_; clear hg hw hp_)
              go_roundg k1
              case measure => have := HK1.out; omega
              case rel => exact ⟨(y342), (0), (wrap64 (x5_1 + 1)), (by (rfl)), (by (rfl)), H', ⟨by have := HK1.out; omega⟩, ⟨by exact HO_0.out⟩, ⟨(HK.out)⟩, ⟨(HB.out)⟩⟩
        · rw [if_neg c4] at H
          exact absurd H (by simp)
      · rw [if_neg c3] at H
        have c3b0 : decide (x5_1 < (x0_1.length : Int)) = false := decide_eq_false c3
        clear c3
        obtain rfl := Option.some.inj H
        obtain ⟨Ao24, co24, eo24⟩ := Kd.R_slice HO_0.out
        subst eo24
        go_wp2
        (go_end0)
        exact ⟨by (rfl), by exact HO_0.out, (HB.out), (HK.out)⟩
end Go.Proofs.Ytmgjjdodjamomaa.PB
