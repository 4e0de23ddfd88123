/- Functions with the same answers as the Go code, and the proofs of that; printed by a turned copy of the print, shortened by programs (wip/tools). -/
import Derived.Test.YtmgjjdodjamomaaFW
import Derived.Test.YtmgjjdodjamomaaFx0
import Derived.Test.YtmgjjdodjamomaaFx24
namespace Go.Proofs.Ytmgjjdodjamomaa.PB
open Go.RowKit Go.Proofs.YtmgjjdodjamomaaW.PrintWords Go.Proofs.YtmgjjdodjamomaaW.PrintLast Go.Proofs.YtmgjjdodjamomaaW.PrintMore
attribute [local go_sem] max2_int max_two
set_option linter.unusedVariables false
set_option linter.unusedSimpArgs false
def nat_down.l0 : Nat → List Int → Int → List Int → List Int → Int → Int → Option (List Int)
  | 0, _, _, _, _, _, _ => none
  | k + 1, x0, x1, x5, x11, x12, x13 => if x13 < x12 then (if 0 ≤ x13 then (if x13 < (x11.length : Int) then (if 0 ≤ x1 then (if x13 < (x5.length : Int) then ((some (x5.set (x13 : Int).toNat (shr .u32 (rd x11 x13) x1) : List Int)).bind fun y520 => (if (wrap64 (x13 + 1)) < (x0.length : Int) then (if 0 ≤ (wrap64 (x13 + 1)) then (nat_down.l0 k x0 x1 (y520.set (x13 : Int).toNat (Go.bits .or .u32 (rd y520 x13) ((shr .u64 (IntKind.u64.wrap ((IntKind.u64.wrap (rd x0 (wrap64 (x13 + 1)))) * 4294967296)) x1) % 4294967296))) x11 x12 (wrap64 (x13 + 1))) else (none)) else (nat_down.l0 k x0 x1 y520 x11 x12 (wrap64 (x13 + 1))))) else (none)) else (none)) else (none)) else (none)) else ((nat_trim.f k x5).bind fun t524 => (some t524))
def nat_down.f (k : Nat) (l0 : List Int) (a1 : Int) : Option (List Int) := if 0 ≤ (l0.length : Int) then (if ((l0.length : Int) : Int).toNat ≤ 70368744177664 then (nat_down.l0 k l0 a1 (List.replicate ((l0.length : Int) : Int).toNat 0) l0 (l0.length : Int) 0) else (none)) else (none)
def nat_down.T7 : Bool × List (List Nat × List Nat) := (true, [([], []), ([], []), ([0, 1], [0, 1]), ([2], [2]), ([], []), ([], []), ([5], [5]), ([4, 6], [4, 6]), ([7], [7]), ([8], [8]), ([9], [9]), ([], []), ([10, 11], [10, 11]), ([12], [12]), ([3, 13], [3, 13]), ([0, 1, 0, 1, 2, 3, 4, 5, 6, 7, 8, 9, 10, 11, 12, 13, 14], [0, 1]), ([15, 14, 0, 1, 2, 3, 4, 5, 6, 7, 8, 9, 10, 11, 12, 13, 14], [14, 15])])
def nat_down.B7 : List Nat := [0, 0, 3, 7, 0, 0, 32, 112, 240, 496, 1008, 0, 4080, 8176, 16383, 32767, 65535]
theorem nat_down.tab7 : rtab .any (opsOf Try.f81 7) = nat_down.T7 := by kernel_rfl
theorem nat_down.bits7 : waitsOk nat_down.T7.2 nat_down.B7 = true := by kernel_rfl
set_option maxHeartbeats 8000000 in
set_option maxRecDepth 100000 in
theorem nat_down.calls (k : Nat) (A0 : Option Addr) (c0 : Nat) (l0 : List Int) (a1 : Int) (r : List Int) (w : World) (hr0 : Kd.C (Kd.int .u32) w A0 l0.length l0) (hc0 : l0.length ≤ c0) (h : nat_down.f k l0 a1 = some r) :
    Calls Try.prog 81 #[.slice A0 l0.length c0, .int .i64 a1] w fun e w' => ∃ v0_ : Value, e = .returned (v0_) ∧ Kd.V (Kd.int .u32) 59 w' w.heap.size (fun k_ => (w.heap.size ≤ k_)) v0_ r ∧ Below w.heap.size w w' := by
  have HR0 := Aside0.mk hr0
  have HC0 := Aside0.mk hc0
  clear hr0 hc0
  have HB := Aside0.mk (Below.refl w.heap.size w)
  have H : (if 0 ≤ (l0.length : Int) then (if ((l0.length : Int) : Int).toNat ≤ 70368744177664 then (nat_down.l0 k l0 a1 (List.replicate ((l0.length : Int) : Int).toNat 0) l0 (l0.length : Int) 0) else (none)) else (none)) = some r := h
  clear h
  by_cases c3 : 0 ≤ (l0.length : Int)
  · rw [if_pos c3] at H
    have c3b0 := eq_true c3
    have c3b1 : decide (0 ≤ (l0.length : Int)) = true := decide_eq_true c3
    clear c3
    by_cases c4 : ((l0.length : Int) : Int).toNat ≤ 70368744177664
    · rw [if_pos c4] at H
      have c4b0 := eq_true c4
      have c4b1 : decide (((l0.length : Int) : Int).toNat ≤ 70368744177664) = true := decide_eq_true c4
      clear c4
      obtain ⟨y516, hy516⟩ : ∃ y_ : List Int, y_ = (List.replicate ((l0.length : Int) : Int).toNat 0) := ⟨_, rfl⟩
      replace H : (nat_down.l0 k l0 a1 y516 l0 (l0.length : Int) 0) = some r := by (rw [hy516]; with_reducible exact H)
      have Ny516 := Aside0.mk hy516
      clear hy516
      have H' := Aside0.mk H
      clear H
      go_enter Try.func81, Try.ntmps81
      go_wp2_with ((with_reducible refine gate_dst (N := 10) rfl ?_); refine Kd.R_make (Kd.int .u32) _ 59 rfl (N := 10) rfl 30 _ _ rfl (l0.length : Int) rfl rfl Try.underlying30 (.int .u32 0) 4 info59 rfl (by decide) (by omega) 0 (ok := fun _ => True) (okp := fun _ => True) rfl (fun _ hk => hk) trivial (of_decide_eq_true (by (with_reducible assumption))) (Nat.le_trans (Nat.mul_le_mul_right _ (of_decide_eq_true (by (with_reducible assumption)) : (l0.length : Int).toNat ≤ 70368744177664)) (by omega)) (Below.refl _ _) (Nat.le_refl _) ?_; intro v517 w5 ho6 hb hg_ hnew_; clear hg_ hnew_; (rw [← Ny516.out] at ho6); have HO518 := Aside0.mk (Kd.R_lower (Kd.R_newM (M := fun k_ => (w.heap.size ≤ k_)) ho6 (below_size (HB.out)) (fun k_ h_ => h_)) (below_size (HB.out))); replace HB := Aside0.mk (below_step (HB.out) hb); clear hb ho6)
      go_loopg [13] k (fun kq v13 w' => ∃ (x5_1 : List Int) (x13_1 : Int), v13 = .int .i64 x13_1 ∧ Aside0 (nat_down.l0 kq l0 a1 x5_1 l0 (l0.length : Int) x13_1 = some r) ∧ Aside0 (kq ≤ k) ∧ Aside0 (Kd.R (Kd.int .u32) 59 w' w.heap.size (fun k_ => (w.heap.size ≤ k_)) v517 x5_1) ∧ Aside0 (Below w.heap.size w w'))
      case atStart => exact ⟨(y516), (0), (by (rfl)), H', ⟨Nat.le_refl _⟩, ⟨by exact Kd.R_mono HO518.out (fun _ hk => hk.1)⟩, ⟨(HB.out)⟩⟩
      case round =>
        clear H'
        try clear c3b0
        try clear c3b1
        try clear c4b0
        try clear c4b1
        obtain ⟨x5_1, x13_1, rfl, HA, HK1, HO_5, HB⟩ := hrel
        cases gk with
        | zero => exact absurd HA.out (by simp [nat_down.l0])
        | succ k1 =>
          have H := HA.out
          clear HA
          simp only [nat_down.l0] at H
          by_cases c7 : x13_1 < (l0.length : Int)
          · rw [if_pos c7] at H
            have c7b0 : decide (x13_1 < (l0.length : Int)) = true := decide_eq_true c7
            clear c7
            by_cases c8 : 0 ≤ x13_1
            · rw [if_pos c8] at H
              have c8b0 : decide (0 ≤ x13_1) = true := decide_eq_true c8
              clear c8
              by_cases c9 : x13_1 < (l0.length : Int)
              · rw [if_pos c9] at H
                have c9b0 : decide (x13_1 < (l0.length : Int)) = true := decide_eq_true c9
                clear c9
                by_cases c10 : 0 ≤ a1
                · rw [if_pos c10] at H
                  have c10b0 := eq_true c10
                  have c10b1 : decide (0 ≤ a1) = true := decide_eq_true c10
                  clear c10
                  obtain ⟨ji11, hji11⟩ : ∃ j_ : Int, (shr .u32 (rd l0 x13_1) a1) = j_ := ⟨_, rfl⟩
                  replace H : (if x13_1 < (x5_1.length : Int) then ((some (x5_1.set (x13_1 : Int).toNat (ji11) : List Int)).bind fun y520 => (if (wrap64 (x13_1 + 1)) < (l0.length : Int) then (if 0 ≤ (wrap64 (x13_1 + 1)) then (nat_down.l0 k1 l0 a1 (y520.set (x13_1 : Int).toNat (Go.bits .or .u32 (rd y520 x13_1) ((shr .u64 (IntKind.u64.wrap ((IntKind.u64.wrap (rd l0 (wrap64 (x13_1 + 1)))) * 4294967296)) a1) % 4294967296))) l0 (l0.length : Int) (wrap64 (x13_1 + 1))) else (none)) else (nat_down.l0 k1 l0 a1 y520 l0 (l0.length : Int) (wrap64 (x13_1 + 1))))) else (none)) = some r := by (rw [hji11] at H; exact H)
                  have hji11_ : ((rd l0 x13_1) / 2 ^ min a1.toNat 32) = ji11 := hji11
                  have hji11z : a1 ≤ 32 → ((rd l0 x13_1) / 2 ^ a1.toNat) = ji11 := shr_small hji11
                  by_cases c12 : x13_1 < (x5_1.length : Int)
                  · rw [if_pos c12] at H
                    have c12b0 : decide (x13_1 < (x5_1.length : Int)) = true := decide_eq_true c12
                    clear c12
                    obtain ⟨y520, hy520⟩ : ∃ y_ : List Int, y_ = (x5_1.set (x13_1 : Int).toNat (ji11)) := ⟨_, rfl⟩
                    replace H : (if (wrap64 (x13_1 + 1)) < (l0.length : Int) then (if 0 ≤ (wrap64 (x13_1 + 1)) then (nat_down.l0 k1 l0 a1 (y520.set (x13_1 : Int).toNat (Go.bits .or .u32 (rd y520 x13_1) ((shr .u64 (IntKind.u64.wrap ((IntKind.u64.wrap (rd l0 (wrap64 (x13_1 + 1)))) * 4294967296)) a1) % 4294967296))) l0 (l0.length : Int) (wrap64 (x13_1 + 1))) else (none)) else (nat_down.l0 k1 l0 a1 y520 l0 (l0.length : Int) (wrap64 (x13_1 + 1)))) = some r := by (have H2_ := (Option.bind_some _ _).symm.trans H; rw [hy520]; with_reducible exact H2_)
                    have Ny520 := Aside0.mk hy520
                    clear hy520
                    by_cases c14 : (wrap64 (x13_1 + 1)) < (l0.length : Int)
                    · rw [if_pos c14] at H
                      have c14b0 : decide ((wrap64 (x13_1 + 1)) < (l0.length : Int)) = true := decide_eq_true c14
                      clear c14
                      obtain ⟨ji15, hji15⟩ : ∃ j_ : Int, (wrap64 (x13_1 + 1)) = j_ := ⟨_, rfl⟩
                      replace H : (if 0 ≤ (ji15) then (nat_down.l0 k1 l0 a1 (y520.set (x13_1 : Int).toNat (Go.bits .or .u32 (rd y520 x13_1) ((shr .u64 (IntKind.u64.wrap ((IntKind.u64.wrap (rd l0 (ji15))) * 4294967296)) a1) % 4294967296))) l0 (l0.length : Int) ji15) else (none)) = some r := by (rw [hji15] at H; exact H)
                      (try rw [hji15] at c14b0)
                      have hji15w : (IntKind.i64.wrap (x13_1 + 1)) = ji15 := (i64_w _).trans hji15
                      by_cases c16 : 0 ≤ (ji15)
                      · rw [if_pos c16] at H
                        have c16b0 : decide (0 ≤ (ji15)) = true := decide_eq_true c16
                        clear c16
                        have c17b0 := eq_true (of_decide_eq_true (by (with_reducible assumption)) : 0 ≤ a1)
                        obtain ⟨ji18, hji18⟩ : ∃ j_ : Int, (shr .u64 (IntKind.u64.wrap ((IntKind.u64.wrap (rd l0 (ji15))) * 4294967296)) a1) = j_ := ⟨_, rfl⟩
                        replace H : (nat_down.l0 k1 l0 a1 (y520.set (x13_1 : Int).toNat (Go.bits .or .u32 (rd y520 x13_1) ((ji18) % 4294967296))) l0 (l0.length : Int) ji15) = some r := by (rw [hji18] at H; exact H)
                        have hji18_ : ((IntKind.u64.wrap ((IntKind.u64.wrap (rd l0 (ji15))) * 4294967296)) / 2 ^ min a1.toNat 64) = ji18 := hji18
                        have hji18z : a1 ≤ 64 → ((IntKind.u64.wrap ((IntKind.u64.wrap (rd l0 (ji15))) * 4294967296)) / 2 ^ a1.toNat) = ji18 := shr_small hji18
                        obtain ⟨y523, hy523⟩ : ∃ y_ : List Int, y_ = (y520.set (x13_1 : Int).toNat (Go.bits .or .u32 (rd y520 x13_1) ((ji18) % 4294967296))) := ⟨_, rfl⟩
                        replace H : (nat_down.l0 k1 l0 a1 y523 l0 (l0.length : Int) ji15) = some r := by (rw [hy523]; with_reducible exact H)
                        have Ny523 := Aside0.mk hy523
                        clear hy523
                        have H' := Aside0.mk H
                        clear H
                        have p519 : 0 ≤ (x13_1 : Int) := of_decide_eq_true (by (with_reducible assumption))
                        have q519 : x13_1 < (l0.length : Int) := of_decide_eq_true (by (with_reducible assumption))
                        obtain ⟨ad519, e519, hx519_0⟩ := Kd.at_int HR0.out x13_1 p519 q519
                        cases e519
                        replace hx519_0 := (HB.out.cell (World.block_lt_of_cell? w _ hx519_0)).trans hx519_0
                        replace p519 := eq_true p519
                        replace q519 := eq_true q519
                        have p13 : 0 ≤ (x13_1 : Int) := of_decide_eq_true (by (with_reducible assumption))
                        have q13 : (x13_1 : Int) < ((x5_1.length : Int) : Int) := of_decide_eq_true (by (with_reducible assumption))
                        obtain ⟨go13, co13, eo13, gb13, gl13, cl13, HG13⟩ := Kd.R_form HO_5.out (by omega)
                        (cases eo13)
                        have GB13 := Aside0.mk gb13
                        have GG13 := Aside0.mk HG13
                        clear gb13 gl13 HG13
                        obtain ⟨hx13_0, hf13_0⟩ := Kd.R_celln 0 HO_5.out (x13_1 : Int) p13 q13
                        replace p13 := eq_true p13
                        replace q13 := eq_true q13
                        have HP20 := Kd.R_putg HO_5.out (x13_1 : Int) ji11
                        try go_wp2_with ((with_reducible refine gate_store (t := 59) (p := 23) rfl ?_); refine store_event (t := 59) (p := 23) (v := ?vo_w21) (w1 := (wr.setCell ⟨go13, (x13_1 : Int).toNat, none⟩ (.int .u32 ji11))) ?hg ?ho ?hn ?hr ?_; (case ho => rfl); (case hg => rfl); (case hn => rfl); (case hr => (go_simp; done)); intro w21 hw; have hg : wr.grownBy w21 (some go13) := (by rw [hw]; exact HP20.2); have hp_ : Kd.R (Kd.int .u32) 59 w21 w.heap.size (fun k_ => (w.heap.size ≤ k_)) (.slice (some ⟨go13, 0, none⟩) x5_1.length co13) y520 := (by rw [hw, Ny520.out]; exact HP20.1); clear HP20; replace HO_5 := Aside0.mk (hp_); replace HB := Aside0.mk (by rw [hw]; exact below_set (HB.out) GB13.out : Below w.heap.size w w21); clear hg hw hp_)
                        have n0_ := Aside0.mk (Kd.R_drew HO_5.out)
                        have n1_ := Aside0.mk (below_drew1 HB.out)
                        clear HO_5
                        clear HB
                        have HO_5 := n0_
                        have HB := n1_
                        clear n0_ n1_
                        have p521 : 0 ≤ (x13_1 : Int) := of_decide_eq_true (by (with_reducible assumption))
                        have q521 : x13_1 < (y520.length : Int) := (by have h_ : (x13_1 : Int) < ((x5_1.length : Int) : Int) := of_decide_eq_true (by (with_reducible assumption)); (have e_ := (Kd.R_reads' HO_5.out).1; omega))
                        have ql521 : ((x13_1 : Int) < ((x5_1.length : Int) : Int)) = True := eq_true (of_decide_eq_true (by (with_reducible assumption)))
                        obtain ⟨ad521, e521, hx521_0⟩ := Kd.at_int (Kd.R_reads' HO_5.out).2.2 x13_1 p521 q521
                        obtain rfl : (⟨go13, 0, none⟩ : Addr) = ad521 := (by injection e521)
                        (simp only [add_plain] at hx521_0)
                        replace p521 := eq_true p521
                        replace q521 := eq_true q521
                        have p522 : 0 ≤ ((ji15) : Int) := of_decide_eq_true (by (with_reducible assumption))
                        have q522 : (ji15) < (l0.length : Int) := of_decide_eq_true (by (with_reducible assumption))
                        obtain ⟨ad522, e522, hx522_0⟩ := Kd.at_int HR0.out (ji15) p522 q522
                        have hw522_0 := hx522_0
                        obtain rfl : ad519 = ad522 := (by injection e522)
                        replace hx522_0 := (HB.out.cell (World.block_lt_of_cell? w _ hx522_0)).trans hx522_0
                        replace p522 := eq_true p522
                        replace q522 := eq_true q522
                        have p19 : 0 ≤ (x13_1 : Int) := of_decide_eq_true (by (with_reducible assumption))
                        have q19 : (x13_1 : Int) < ((x5_1.length : Int) : Int) := of_decide_eq_true (by (with_reducible assumption))
                        obtain ⟨hx19_0, hf19_0⟩ := Kd.R_celln 0 HO_5.out (x13_1 : Int) p19 q19
                        replace p19 := eq_true p19
                        replace q19 := eq_true q19
                        have HP23 := Kd.R_putn HO_5.out (x13_1 : Int) (Go.bits .or .u32 (rd y520 x13_1) ((ji18) % 4294967296))
                        rw [← Ny523.out] at HP23
                        have HQ23 := Aside0.mk HP23
                        clear HP23
                        refine start_ (n := 17) (S := fun w' => w'.cell? ⟨go13, (x13_1).toNat, none⟩ = some (.int .u32 (rd y520 x13_1)) ∧ w'.cell? (ad519.add (ji15).toNat) = some (.int .u32 (rd l0 (ji15)))) (ds := [16]) #[false, false, false, false, false, false, false, false, false, false, false, false, false, false, false, false, false] (by kernel_rfl) rfl rfl ⟨hx521_0, ((HB.out.cell (World.block_lt_of_cell? w _ hw522_0)).trans hw522_0)⟩ (fun hHeld => ?_); refine with_tabW nat_down.tab7 nat_down.bits7 (fun HT_ HW_ => ?_)
                        generalize w21.drew = w22 at HO_5 HB HQ23 hf19_0 hx19_0 hx521_0 hx522_0 hHeld ⊢
                        refine pure_ (i := 0) (N := some 29) (v := ?_) (a' := ?_) #[true, false, false, false, false, false, false, false, false, false, false, false, false, false, false, false, false] rfl rfl (any_of HT_.out (by kernel_rfl)) (fun _ _ _ h => h) (Or.inl ⟨by rfl, ?_⟩) ?_ ?_
                        rotate_left
                        · intro w'
                          go_simp
                          with_reducible rfl
                        rotate_left
                        · simp only [Act.put, List.setIfInBounds_toArray, List.set_cons_zero, List.set_cons_succ, i64_w, i32_w]
                          rfl
                        refine pure_ (i := 1) (N := some 30) (v := ?_) (a' := ?_) #[true, true, false, false, false, false, false, false, false, false, false, false, false, false, false, false, false] rfl rfl (any_of HT_.out (by kernel_rfl)) (fun _ _ _ h => h) (Or.inl ⟨by rfl, ?_⟩) ?_ ?_
                        rotate_left
                        · intro w'
                          go_simp
                          with_reducible rfl
                        rotate_left
                        · simp only [Act.put, List.setIfInBounds_toArray, List.set_cons_zero, List.set_cons_succ, i64_w, i32_w]
                          rfl
                        refine pure_ (i := 2) (N := some 31) (v := ?_) (a' := ?_) #[true, true, true, false, false, false, false, false, false, false, false, false, false, false, false, false, false] rfl rfl (any_of HT_.out (by kernel_rfl)) (fun _ _ _ h => h) (Or.inl ⟨by rfl, ?_⟩) ?_ ?_
                        rotate_left
                        · intro w'
                          go_simp
                          with_reducible rfl
                        rotate_left
                        · simp only [Act.put, List.setIfInBounds_toArray, List.set_cons_zero, List.set_cons_succ, i64_w, i32_w]
                          rfl
                        refine pure_ (i := 4) (N := some 33) (v := ?_) (a' := ?_) #[true, true, true, false, true, false, false, false, false, false, false, false, false, false, false, false, false] rfl rfl (any_of HT_.out (by kernel_rfl)) (fun _ _ _ h => h) (Or.inl ⟨by rfl, ?_⟩) ?_ ?_
                        rotate_left
                        · intro w'
                          go_simp
                          with_reducible rfl
                        rotate_left
                        · simp only [Act.put, List.setIfInBounds_toArray, List.set_cons_zero, List.set_cons_succ, i64_w, i32_w]
                          rfl
                        refine pure_ (i := 5) (N := some 34) (v := ?_) (a' := ?_) #[true, true, true, false, true, true, false, false, false, false, false, false, false, false, false, false, false] rfl rfl (any_of HT_.out (by kernel_rfl)) (fun _ _ _ h => h) (Or.inl ⟨by rfl, ?_⟩) ?_ ?_
                        rotate_left
                        · intro w'
                          go_simp
                          with_reducible rfl
                        rotate_left
                        · simp only [Act.put, List.setIfInBounds_toArray, List.set_cons_zero, List.set_cons_succ, i64_w, i32_w]
                          rfl
                        refine pure_ (i := 6) (N := some 35) (v := ?_) (a' := ?_) #[true, true, true, false, true, true, true, false, false, false, false, false, false, false, false, false, false] rfl rfl (any_of HT_.out (by kernel_rfl)) (fun _ _ _ h => h) (Or.inl ⟨by rfl, ?_⟩) ?_ ?_
                        rotate_left
                        · intro w'
                          go_simp
                          with_reducible rfl
                        rotate_left
                        · simp only [Act.put, List.setIfInBounds_toArray, List.set_cons_zero, List.set_cons_succ, i64_w, i32_w]
                          rfl
                        refine pure_ (i := 7) (N := some 36) (v := ?_) (a' := ?_) #[true, true, true, false, true, true, true, true, false, false, false, false, false, false, false, false, false] rfl rfl (any_of HT_.out (by kernel_rfl)) (fun _ _ _ h => h) (Or.inl ⟨by rfl, ?_⟩) ?_ ?_
                        rotate_left
                        · intro w'
                          go_simp
                          with_reducible rfl
                        rotate_left
                        · simp only [Act.put, List.setIfInBounds_toArray, List.set_cons_zero, List.set_cons_succ, i64_w, i32_w]
                          rfl
                        refine pure_ (i := 11) (N := some 40) (v := ?_) (a' := ?_) #[true, true, true, false, true, true, true, true, false, false, false, true, false, false, false, false, false] rfl rfl (any_of HT_.out (by kernel_rfl)) (fun _ _ _ h => h) (Or.inl ⟨by rfl, ?_⟩) ?_ ?_
                        rotate_left
                        · intro w'
                          go_simp
                          with_reducible rfl
                        rotate_left
                        · simp only [Act.put, List.setIfInBounds_toArray, List.set_cons_zero, List.set_cons_succ, i64_w, i32_w]
                          rfl
                        refine take_ (i := 3) (N := some 32) (v := ?_) (a' := ?_) #[true, true, true, true, true, true, true, true, false, false, false, true, false, false, false, false, false] rfl rfl (take_ofW HT_.out HW_.out (by kernel_rfl)) (fun _ _ _ h => h) (Or.inl ⟨by rfl, ?_⟩) hHeld ?_ ?_
                        rotate_left
                        · rintro w' ⟨s0, s1⟩
                          go_simp
                          with_reducible rfl
                        rotate_left
                        · simp only [Act.put, List.setIfInBounds_toArray, List.set_cons_zero, List.set_cons_succ, i64_w, i32_w]
                          rfl
                        refine take_ (i := 8) (N := some 37) (v := ?_) (a' := ?_) #[true, true, true, true, true, true, true, true, true, false, false, true, false, false, false, false, false] rfl rfl (take_ofW HT_.out HW_.out (by kernel_rfl)) (fun _ _ _ h => h) (Or.inl ⟨by rfl, ?_⟩) hHeld ?_ ?_
                        rotate_left
                        · rintro w' ⟨s0, s1⟩
                          go_simp
                          with_reducible rfl
                        rotate_left
                        · simp only [Act.put, List.setIfInBounds_toArray, List.set_cons_zero, List.set_cons_succ, i64_w, i32_w]
                          rfl
                        refine pure_ (i := 9) (N := some 38) (v := ?_) (a' := ?_) #[true, true, true, true, true, true, true, true, true, true, false, true, false, false, false, false, false] rfl rfl (any_of HT_.out (by kernel_rfl)) (fun _ _ _ h => h) (Or.inl ⟨by rfl, ?_⟩) ?_ ?_
                        rotate_left
                        · intro w'
                          go_simp
                          with_reducible rfl
                        rotate_left
                        · simp only [Act.put, List.setIfInBounds_toArray, List.set_cons_zero, List.set_cons_succ, i64_w, i32_w]
                          rfl
                        refine pure_ (i := 10) (N := some 39) (v := ?_) (a' := ?_) #[true, true, true, true, true, true, true, true, true, true, true, true, false, false, false, false, false] rfl rfl (any_of HT_.out (by kernel_rfl)) (fun _ _ _ h => h) (Or.inl ⟨by rfl, ?_⟩) ?_ ?_
                        rotate_left
                        · intro w'
                          go_simp
                          with_reducible rfl
                        rotate_left
                        · simp only [Act.put, List.setIfInBounds_toArray, List.set_cons_zero, List.set_cons_succ, i64_w, i32_w]
                          rfl
                        refine pure_ (i := 12) (N := some 41) (v := ?_) (a' := ?_) #[true, true, true, true, true, true, true, true, true, true, true, true, true, false, false, false, false] rfl rfl (any_of HT_.out (by kernel_rfl)) (fun _ _ _ h => h) (Or.inl ⟨by rfl, ?_⟩) ?_ ?_
                        rotate_left
                        · intro w'
                          go_simp
                          with_reducible rfl
                        rotate_left
                        · simp only [Act.put, List.setIfInBounds_toArray, List.set_cons_zero, List.set_cons_succ, i64_w, i32_w]
                          rfl
                        refine pure_ (i := 13) (N := some 42) (v := ?_) (a' := ?_) #[true, true, true, true, true, true, true, true, true, true, true, true, true, true, false, false, false] rfl rfl (any_of HT_.out (by kernel_rfl)) (fun _ _ _ h => h) (Or.inl ⟨by rfl, ?_⟩) ?_ ?_
                        rotate_left
                        · intro w'
                          go_simp
                          with_reducible rfl
                        rotate_left
                        · simp only [Act.put, List.setIfInBounds_toArray, List.set_cons_zero, List.set_cons_succ, i64_w, i32_w]
                          rfl
                        refine pure_ (i := 14) (N := some 43) (v := ?_) (a' := ?_) #[true, true, true, true, true, true, true, true, true, true, true, true, true, true, true, false, false] rfl rfl (any_of HT_.out (by kernel_rfl)) (fun _ _ _ h => h) (Or.inl ⟨by rfl, ?_⟩) ?_ ?_
                        rotate_left
                        · intro w'
                          go_simp
                          with_reducible rfl
                        rotate_left
                        · simp only [Act.put, List.setIfInBounds_toArray, List.set_cons_zero, List.set_cons_succ, i64_w, i32_w]
                          rfl
                        refine pure_ (i := 15) (N := some 44) (v := ?_) (a' := ?_) #[true, true, true, true, true, true, true, true, true, true, true, true, true, true, true, true, false] rfl rfl (any_of HT_.out (by kernel_rfl)) (fun _ _ _ h => h) (Or.inl ⟨by rfl, ?_⟩) ?_ ?_
                        rotate_left
                        · intro w'
                          go_simp
                          with_reducible rfl
                        rotate_left
                        · simp only [Act.put, List.setIfInBounds_toArray, List.set_cons_zero, List.set_cons_succ, i64_w, i32_w]
                          rfl
                        refine last_ (i := 16) (N := none) #[true, true, true, true, true, true, true, true, true, true, true, true, true, true, true, true, true] rfl rfl (one_of HT_.out (by kernel_rfl)) (by decide) (fun K hK => ?_)
                        refine skip_ (w1 := ?_) (by rfl) rfl ?_ ?_
                        rotate_left
                        · go_simp
                          rfl
                        refine hK.out _ _ ?_
                        clear hK K
                        refine done_ (done_of HT_.out (by kernel_rfl)) ?_
                        try go_wp2
                        go_roundg k1
                        case measure => have := HK1.out; omega
                        case rel => exact ⟨(y523), (ji15), (by (rfl)), H', ⟨by have := HK1.out; omega⟩, ⟨by exact HQ23.out⟩, ⟨by repeat (with_reducible first | exact HB.out | refine below_set ?_ GB13.out)⟩⟩
                      · rw [if_neg c16] at H
                        exact absurd H (by simp)
                    · rw [if_neg c14] at H
                      have c14b0 : decide ((wrap64 (x13_1 + 1)) < (l0.length : Int)) = false := decide_eq_false c14
                      clear c14
                      have H' := Aside0.mk H
                      clear H
                      have p519 : 0 ≤ (x13_1 : Int) := of_decide_eq_true (by (with_reducible assumption))
                      have q519 : x13_1 < (l0.length : Int) := of_decide_eq_true (by (with_reducible assumption))
                      obtain ⟨ad519, e519, hx519_0⟩ := Kd.at_int HR0.out x13_1 p519 q519
                      cases e519
                      replace hx519_0 := (HB.out.cell (World.block_lt_of_cell? w _ hx519_0)).trans hx519_0
                      replace p519 := eq_true p519
                      replace q519 := eq_true q519
                      have p13 : 0 ≤ (x13_1 : Int) := of_decide_eq_true (by (with_reducible assumption))
                      have q13 : (x13_1 : Int) < ((x5_1.length : Int) : Int) := of_decide_eq_true (by (with_reducible assumption))
                      obtain ⟨go13, co13, eo13, gb13, gl13, cl13, HG13⟩ := Kd.R_form HO_5.out (by omega)
                      (cases eo13)
                      have GB13 := Aside0.mk gb13
                      have GG13 := Aside0.mk HG13
                      clear gb13 gl13 HG13
                      obtain ⟨hx13_0, hf13_0⟩ := Kd.R_celln 0 HO_5.out (x13_1 : Int) p13 q13
                      replace p13 := eq_true p13
                      replace q13 := eq_true q13
                      have HP24 := Kd.R_putg HO_5.out (x13_1 : Int) ji11
                      go_wp2_with ((with_reducible refine gate_store (t := 59) (p := 23) rfl ?_); refine store_event (t := 59) (p := 23) (v := ?vo_w25) (w1 := (wr.setCell ⟨go13, (x13_1 : Int).toNat, none⟩ (.int .u32 ji11))) ?hg ?ho ?hn ?hr ?_; (case ho => rfl); (case hg => rfl); (case hn => rfl); (case hr => (go_simp; done)); intro w25 hw; have hg : wr.grownBy w25 (some go13) := (by rw [hw]; exact HP24.2); have hp_ : Kd.R (Kd.int .u32) 59 w25 w.heap.size (fun k_ => (w.heap.size ≤ k_)) (.slice (some ⟨go13, 0, none⟩) x5_1.length co13) y520 := (by rw [hw, Ny520.out]; exact HP24.1); clear HP24; replace HO_5 := Aside0.mk (hp_); replace HB := Aside0.mk (by rw [hw]; exact below_set (HB.out) GB13.out : Below w.heap.size w w25); clear hg hw hp_)
                      go_roundg k1
                      case measure => have := HK1.out; omega
                      case rel => exact ⟨(y520), (wrap64 (x13_1 + 1)), (by (rfl)), H', ⟨by have := HK1.out; omega⟩, ⟨by exact HO_5.out⟩, ⟨(HB.out)⟩⟩
                  · rw [if_neg c12] at H
                    exact absurd H (by simp)
                · rw [if_neg c10] at H
                  exact absurd H (by simp)
              · rw [if_neg c9] at H
                exact absurd H (by simp)
            · rw [if_neg c8] at H
              exact absurd H (by simp)
          · rw [if_neg c7] at H
            have c7b0 : decide (x13_1 < (l0.length : Int)) = false := decide_eq_false c7
            clear c7
            replace H := Option.bind_eq_some_iff.mp H
            obtain ⟨t524, A260, H⟩ := H
            replace H : (some t524) = some r := H
            have A26 := Aside0.mk A260
            clear A260
            obtain rfl := Option.some.inj H
            obtain ⟨Ao27, co27, eo27⟩ := Kd.R_slice HO_5.out
            subst eo27
            go_wp2_with ((with_reducible refine gate_callee (f := 65) rfl ?_); refine goesL_ (some 47) rfl rfl Try.func65 (by kernel_rfl) rfl #[.slice Ao27 x5_1.length co27] rfl (by (try simp only [List.map_toArray, List.map_cons, List.map_nil]); rfl) ?_; (with_reducible refine (nat_trim.calls k1 (fun k_ => some k_ = (.slice Ao27 x5_1.length co27 : Value).ownBlock) _ _ x5_1 t524 _ ?side1 A26.out).mono ?_); (case side1 => exact Kd.R_V (Kd.R_tight rfl (HO_5.out))); rintro e w28 ⟨v525, rfl, ho0, hb⟩; refine ⟨_, rfl, ?_⟩; have n0_ := Aside0.mk (Kd.R_below (HO_5.out) hb); have n1_ := Aside0.mk (Kd.V_lower (Kd.V_mono (ok' := fun k_ => (w.heap.size ≤ k_)) ho0 (fun k_ hk_ => Or.elim hk_ (fun hs_ => ((HO_5.out).1 k_ hs_.symm)) (fun hn_ => (Nat.le_trans (below_size (HB.out)) hn_)))) (below_size (HB.out))); have n2_ := Aside0.mk (below_step (HB.out) hb); clear HO_5; clear HB; have HO_5 := n0_; have HO526 := n1_; have HB := n2_; clear n0_ n1_ n2_; (try clear hb); (try clear ho0))
            go_ret
            exact ⟨_, by (rfl), by exact HO526.out, (HB.out)⟩
    · rw [if_neg c4] at H
      exact absurd H (by simp)
  · rw [if_neg c3] at H
    exact absurd H (by simp)
end Go.Proofs.Ytmgjjdodjamomaa.PB
