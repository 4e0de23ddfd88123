/- Printed by a turned copy of the print (wip/tools/turnprint.py): functions with the same answers as the Go code, and the proofs of that. -/
import Derived.Test.YtmgjjdodjamomaaPAx0
import Derived.Test.YtmgjjdodjamomaaPAx3
import Derived.Test.YtmgjjdodjamomaaPAx4
import Derived.Test.YtmgjjdodjamomaaPAx7
import Derived.Test.YtmgjjdodjamomaaPAx8
namespace Go.Proofs.Ytmgjjdodjamomaa.PA
open Go.RowKit Go.Proofs.YtmgjjdodjamomaaW.PrintWords Go.Proofs.YtmgjjdodjamomaaW.PrintLast Go.Proofs.YtmgjjdodjamomaaW.PrintMore
attribute [local go_sem] max2_int min2_int max_two min_two max_three min_three max_four min_four   -- for this text's walks alone
set_option linter.unusedVariables false
set_option linter.unusedSimpArgs false

/-! ### primroselaw05_PrimeField: function 7 -/
mutual
def primroselaw05_PrimeField.j0 : Nat → Int → Int → Int → Int → Bool → Int → Int → Bool → Option (Bool)
  | 0, _, _, _, _, _, _, _, _ => none
  | k + 1, x0, x1, x2, x3, x9, x10, x11, x67 => if x67 = true then (some false) else ((prime_Mul.f k x10 x2 x3).bind fun t178 => ((prime_Mul.f k x0 x2 x3).bind fun t179 => ((prime_Mul.f k x1 x2 x3).bind fun t180 => ((prime_Add.f k t179 t180 x3).bind fun t181 => (if t178 = t181 then (if x10 < 0 then (primroselaw05_PrimeField.j1 k x0 x3 x9 true) else (if x10 ≥ x3 then (primroselaw05_PrimeField.j1 k x0 x3 x9 true) else (if x11 < 0 then (primroselaw05_PrimeField.j1 k x0 x3 x9 true) else (primroselaw05_PrimeField.j1 k x0 x3 x9 (decide (x11 ≥ x3)))))) else (primroselaw05_PrimeField.j1 k x0 x3 x9 true))))))
def primroselaw05_PrimeField.j1 : Nat → Int → Int → Bool → Bool → Option (Bool)
  | 0, _, _, _, _ => none
  | k + 1, x0, x3, x9, x100 => if x100 = true then (some false) else ((prime_Inv.f k x0 x3).bind fun t182 => ((prime_Add.f k x0 0 x3).bind fun t183 => (if t183 = 0 then (if x9 = true then (some (t182 == 0)) else (some false)) else (if x9 = true then ((prime_Mul.f k x0 t182 x3).bind fun t184 => ((prime_Add.f k 1 0 x3).bind fun t185 => (some (t184 == t185)))) else (some false)))))
end
def primroselaw05_PrimeField.f (k : Nat) (a0 : Int) (a1 : Int) (a2 : Int) (a3 : Int) : Option (Bool) := (primroselaw05_awake.f k).bind fun t166 => (if t166 = true then ((primroselaw05_pick.f k a3).bind fun t167 => ((prime_Add.f k a0 a1 t167).bind fun t168 => ((prime_Mul.f k a0 a1 t167).bind fun t169 => ((prime_Add.f k a1 a0 t167).bind fun t170 => (if t168 = t170 then ((prime_Add.f k t168 a2 t167).bind fun t171 => ((prime_Add.f k a1 a2 t167).bind fun t172 => ((prime_Add.f k a0 t172 t167).bind fun t173 => (if t171 = t173 then ((prime_Mul.f k a1 a0 t167).bind fun t174 => (if t169 = t174 then ((prime_Mul.f k t169 a2 t167).bind fun t175 => ((prime_Mul.f k a1 a2 t167).bind fun t176 => ((prime_Mul.f k a0 t176 t167).bind fun t177 => (primroselaw05_PrimeField.j0 k a0 a1 a2 t167 t166 t168 t169 (t175 != t177))))) else (primroselaw05_PrimeField.j0 k a0 a1 a2 t167 t166 t168 t169 true))) else (primroselaw05_PrimeField.j0 k a0 a1 a2 t167 t166 t168 t169 true))))) else (primroselaw05_PrimeField.j0 k a0 a1 a2 t167 t166 t168 t169 true)))))) else (some false))
theorem primroselaw05_PrimeField.mono_l : ∀ k, (∀ y0 y1 y2 y3 y4 y5 y6 y7, LeO (primroselaw05_PrimeField.j0 k y0 y1 y2 y3 y4 y5 y6 y7) (primroselaw05_PrimeField.j0 (k + 1) y0 y1 y2 y3 y4 y5 y6 y7)) ∧ (∀ y0 y1 y2 y3, LeO (primroselaw05_PrimeField.j1 k y0 y1 y2 y3) (primroselaw05_PrimeField.j1 (k + 1) y0 y1 y2 y3))
  | 0 => ⟨fun _ _ _ _ _ _ _ _ r h => by simp [primroselaw05_PrimeField.j0] at h, fun _ _ _ _ r h => by simp [primroselaw05_PrimeField.j1] at h⟩
  | k + 1 => by
    obtain ⟨ih0, ih1⟩ := primroselaw05_PrimeField.mono_l k
    refine ⟨?_, ?_⟩
    · intro y0 y1 y2 y3 y4 y5 y6 y7
      unfold primroselaw05_PrimeField.j0
      repeat' first
      | (with_reducible exact ih0 _ _ _ _ _ _ _ _)
      | (with_reducible exact ih1 _ _ _ _)
      | (with_reducible exact prime_Add.mono _ _ _ _)
      | (with_reducible exact prime_Inv.mono _ _ _)
      | (with_reducible exact prime_Mul.mono _ _ _ _)
      | (with_reducible exact primroselaw05_awake.mono _)
      | (with_reducible exact primroselaw05_pick.mono _ _)
      | (with_reducible exact LeO.refl _)
      | (with_reducible exact LeO.none _)
      | (with_reducible refine LeO.ite ?_ ?_)
      | (with_reducible refine LeO.bind ?_ (fun _ => ?_))
      | exact ih0 _ _ _ _ _ _ _ _
      | exact ih1 _ _ _ _
      | exact prime_Add.mono _ _ _ _
      | exact prime_Inv.mono _ _ _
      | exact prime_Mul.mono _ _ _ _
      | exact primroselaw05_awake.mono _
      | exact primroselaw05_pick.mono _ _
      | exact LeO.none _
      | refine LeO.ite ?_ ?_
      | refine LeO.bind ?_ (fun _ => ?_)
    · intro y0 y1 y2 y3
      unfold primroselaw05_PrimeField.j1
      repeat' first
      | (with_reducible exact ih0 _ _ _ _ _ _ _ _)
      | (with_reducible exact ih1 _ _ _ _)
      | (with_reducible exact prime_Add.mono _ _ _ _)
      | (with_reducible exact prime_Inv.mono _ _ _)
      | (with_reducible exact prime_Mul.mono _ _ _ _)
      | (with_reducible exact primroselaw05_awake.mono _)
      | (with_reducible exact primroselaw05_pick.mono _ _)
      | (with_reducible exact LeO.refl _)
      | (with_reducible exact LeO.none _)
      | (with_reducible refine LeO.ite ?_ ?_)
      | (with_reducible refine LeO.bind ?_ (fun _ => ?_))
      | exact ih0 _ _ _ _ _ _ _ _
      | exact ih1 _ _ _ _
      | exact prime_Add.mono _ _ _ _
      | exact prime_Inv.mono _ _ _
      | exact prime_Mul.mono _ _ _ _
      | exact primroselaw05_awake.mono _
      | exact primroselaw05_pick.mono _ _
      | exact LeO.none _
      | refine LeO.ite ?_ ?_
      | refine LeO.bind ?_ (fun _ => ?_)
theorem primroselaw05_PrimeField.mono : ∀ a0 a1 a2 a3 k, LeO (primroselaw05_PrimeField.f k a0 a1 a2 a3) (primroselaw05_PrimeField.f (k + 1) a0 a1 a2 a3) := by
  intro a0 a1 a2 a3 k
  obtain ⟨ih0, ih1⟩ := primroselaw05_PrimeField.mono_l k
  unfold primroselaw05_PrimeField.f
  repeat' first
      | (with_reducible exact ih0 _ _ _ _ _ _ _ _)
      | (with_reducible exact ih1 _ _ _ _)
      | (with_reducible exact prime_Add.mono _ _ _ _)
      | (with_reducible exact prime_Inv.mono _ _ _)
      | (with_reducible exact prime_Mul.mono _ _ _ _)
      | (with_reducible exact primroselaw05_awake.mono _)
      | (with_reducible exact primroselaw05_pick.mono _ _)
      | (with_reducible exact LeO.refl _)
      | (with_reducible exact LeO.none _)
      | (with_reducible refine LeO.ite ?_ ?_)
      | (with_reducible refine LeO.bind ?_ (fun _ => ?_))
      | exact ih0 _ _ _ _ _ _ _ _
      | exact ih1 _ _ _ _
      | exact prime_Add.mono _ _ _ _
      | exact prime_Inv.mono _ _ _
      | exact prime_Mul.mono _ _ _ _
      | exact primroselaw05_awake.mono _
      | exact primroselaw05_pick.mono _ _
      | exact LeO.none _
      | refine LeO.ite ?_ ?_
      | refine LeO.bind ?_ (fun _ => ?_)
set_option maxHeartbeats 8000000 in
set_option maxRecDepth 100000 in
theorem primroselaw05_PrimeField.calls (k : Nat) (a0 : Int) (a1 : Int) (a2 : Int) (a3 : Int) (r : Bool) (w : World) (h : primroselaw05_PrimeField.f k a0 a1 a2 a3 = some r) :
    Calls Try.prog 7 #[.int .i64 a0, .int .i64 a1, .int .i64 a2, .int .i64 a3] w fun e w' => e = .returned (.bool r) ∧ Below w.heap.size w w' := by
  have HB := Aside0.mk (Below.refl w.heap.size w)
  have H : ((primroselaw05_awake.f k).bind fun t166 => (if t166 = true then ((primroselaw05_pick.f k a3).bind fun t167 => ((prime_Add.f k a0 a1 t167).bind fun t168 => ((prime_Mul.f k a0 a1 t167).bind fun t169 => ((prime_Add.f k a1 a0 t167).bind fun t170 => (if t168 = t170 then ((prime_Add.f k t168 a2 t167).bind fun t171 => ((prime_Add.f k a1 a2 t167).bind fun t172 => ((prime_Add.f k a0 t172 t167).bind fun t173 => (if t171 = t173 then ((prime_Mul.f k a1 a0 t167).bind fun t174 => (if t169 = t174 then ((prime_Mul.f k t169 a2 t167).bind fun t175 => ((prime_Mul.f k a1 a2 t167).bind fun t176 => ((prime_Mul.f k a0 t176 t167).bind fun t177 => (primroselaw05_PrimeField.j0 k a0 a1 a2 t167 t166 t168 t169 (t175 != t177))))) else (primroselaw05_PrimeField.j0 k a0 a1 a2 t167 t166 t168 t169 true))) else (primroselaw05_PrimeField.j0 k a0 a1 a2 t167 t166 t168 t169 true))))) else (primroselaw05_PrimeField.j0 k a0 a1 a2 t167 t166 t168 t169 true)))))) else (some false))) = some r := h
  clear h
  replace H := Option.bind_eq_some_iff.mp H
  obtain ⟨t166, A50, H⟩ := H
  replace H : (if t166 = true then ((primroselaw05_pick.f k a3).bind fun t167 => ((prime_Add.f k a0 a1 t167).bind fun t168 => ((prime_Mul.f k a0 a1 t167).bind fun t169 => ((prime_Add.f k a1 a0 t167).bind fun t170 => (if t168 = t170 then ((prime_Add.f k t168 a2 t167).bind fun t171 => ((prime_Add.f k a1 a2 t167).bind fun t172 => ((prime_Add.f k a0 t172 t167).bind fun t173 => (if t171 = t173 then ((prime_Mul.f k a1 a0 t167).bind fun t174 => (if t169 = t174 then ((prime_Mul.f k t169 a2 t167).bind fun t175 => ((prime_Mul.f k a1 a2 t167).bind fun t176 => ((prime_Mul.f k a0 t176 t167).bind fun t177 => (primroselaw05_PrimeField.j0 k a0 a1 a2 t167 t166 t168 t169 (t175 != t177))))) else (primroselaw05_PrimeField.j0 k a0 a1 a2 t167 t166 t168 t169 true))) else (primroselaw05_PrimeField.j0 k a0 a1 a2 t167 t166 t168 t169 true))))) else (primroselaw05_PrimeField.j0 k a0 a1 a2 t167 t166 t168 t169 true)))))) else (some false)) = some r := H
  have A5 := Aside0.mk A50
  clear A50
  by_cases c6 : t166 = true
  · subst c6
    have H1 : ((primroselaw05_pick.f k a3).bind fun t167 => ((prime_Add.f k a0 a1 t167).bind fun t168 => ((prime_Mul.f k a0 a1 t167).bind fun t169 => ((prime_Add.f k a1 a0 t167).bind fun t170 => (if t168 = t170 then ((prime_Add.f k t168 a2 t167).bind fun t171 => ((prime_Add.f k a1 a2 t167).bind fun t172 => ((prime_Add.f k a0 t172 t167).bind fun t173 => (if t171 = t173 then ((prime_Mul.f k a1 a0 t167).bind fun t174 => (if t169 = t174 then ((prime_Mul.f k t169 a2 t167).bind fun t175 => ((prime_Mul.f k a1 a2 t167).bind fun t176 => ((prime_Mul.f k a0 t176 t167).bind fun t177 => (primroselaw05_PrimeField.j0 k a0 a1 a2 t167 true t168 t169 (t175 != t177))))) else (primroselaw05_PrimeField.j0 k a0 a1 a2 t167 true t168 t169 true))) else (primroselaw05_PrimeField.j0 k a0 a1 a2 t167 true t168 t169 true))))) else (primroselaw05_PrimeField.j0 k a0 a1 a2 t167 true t168 t169 true)))))) = some r := by rw [if_pos rfl] at H; exact H
    clear H
    have H := H1
    clear H1
    replace H := Option.bind_eq_some_iff.mp H
    obtain ⟨t167, A70, H⟩ := H
    replace H : ((prime_Add.f k a0 a1 t167).bind fun t168 => ((prime_Mul.f k a0 a1 t167).bind fun t169 => ((prime_Add.f k a1 a0 t167).bind fun t170 => (if t168 = t170 then ((prime_Add.f k t168 a2 t167).bind fun t171 => ((prime_Add.f k a1 a2 t167).bind fun t172 => ((prime_Add.f k a0 t172 t167).bind fun t173 => (if t171 = t173 then ((prime_Mul.f k a1 a0 t167).bind fun t174 => (if t169 = t174 then ((prime_Mul.f k t169 a2 t167).bind fun t175 => ((prime_Mul.f k a1 a2 t167).bind fun t176 => ((prime_Mul.f k a0 t176 t167).bind fun t177 => (primroselaw05_PrimeField.j0 k a0 a1 a2 t167 true t168 t169 (t175 != t177))))) else (primroselaw05_PrimeField.j0 k a0 a1 a2 t167 true t168 t169 true))) else (primroselaw05_PrimeField.j0 k a0 a1 a2 t167 true t168 t169 true))))) else (primroselaw05_PrimeField.j0 k a0 a1 a2 t167 true t168 t169 true))))) = some r := H
    have A7 := Aside0.mk A70
    clear A70
    replace H := Option.bind_eq_some_iff.mp H
    obtain ⟨t168, A80, H⟩ := H
    replace H : ((prime_Mul.f k a0 a1 t167).bind fun t169 => ((prime_Add.f k a1 a0 t167).bind fun t170 => (if t168 = t170 then ((prime_Add.f k t168 a2 t167).bind fun t171 => ((prime_Add.f k a1 a2 t167).bind fun t172 => ((prime_Add.f k a0 t172 t167).bind fun t173 => (if t171 = t173 then ((prime_Mul.f k a1 a0 t167).bind fun t174 => (if t169 = t174 then ((prime_Mul.f k t169 a2 t167).bind fun t175 => ((prime_Mul.f k a1 a2 t167).bind fun t176 => ((prime_Mul.f k a0 t176 t167).bind fun t177 => (primroselaw05_PrimeField.j0 k a0 a1 a2 t167 true t168 t169 (t175 != t177))))) else (primroselaw05_PrimeField.j0 k a0 a1 a2 t167 true t168 t169 true))) else (primroselaw05_PrimeField.j0 k a0 a1 a2 t167 true t168 t169 true))))) else (primroselaw05_PrimeField.j0 k a0 a1 a2 t167 true t168 t169 true)))) = some r := H
    have A8 := Aside0.mk A80
    clear A80
    replace H := Option.bind_eq_some_iff.mp H
    obtain ⟨t169, A90, H⟩ := H
    replace H : ((prime_Add.f k a1 a0 t167).bind fun t170 => (if t168 = t170 then ((prime_Add.f k t168 a2 t167).bind fun t171 => ((prime_Add.f k a1 a2 t167).bind fun t172 => ((prime_Add.f k a0 t172 t167).bind fun t173 => (if t171 = t173 then ((prime_Mul.f k a1 a0 t167).bind fun t174 => (if t169 = t174 then ((prime_Mul.f k t169 a2 t167).bind fun t175 => ((prime_Mul.f k a1 a2 t167).bind fun t176 => ((prime_Mul.f k a0 t176 t167).bind fun t177 => (primroselaw05_PrimeField.j0 k a0 a1 a2 t167 true t168 t169 (t175 != t177))))) else (primroselaw05_PrimeField.j0 k a0 a1 a2 t167 true t168 t169 true))) else (primroselaw05_PrimeField.j0 k a0 a1 a2 t167 true t168 t169 true))))) else (primroselaw05_PrimeField.j0 k a0 a1 a2 t167 true t168 t169 true))) = some r := H
    have A9 := Aside0.mk A90
    clear A90
    have HC10 := Aside0.mk H
    clear H
    go_enter Try.func7, Try.ntmps7
    go_upto_region 6 with (first | ((with_reducible refine gate_callee (f := 14) rfl ?_); refine goesL_ (some 13) rfl rfl Try.func14 (by kernel_rfl) rfl #[] rfl (by (try simp only [List.map_toArray, List.map_cons, List.map_nil]); first | done | rfl | (simp only [List.length_drop, List.length_take]; rfl)) ?_; (with_reducible refine (primroselaw05_awake.calls k  true _ A5.out).mono ?_); rintro e w11 ⟨rfl, hb⟩; refine ⟨_, rfl, ?_⟩; have n0_ := Aside0.mk (below_step (by repeat (first | (with_reducible first | exact HB.out | apply below_alloc | apply pw_below_drewN | apply below_drew1) | exact HB.out)) hb); clear HB; have HB := n0_; clear n0_; (try clear hb); (try clear hb2); (try clear hk); (try clear hi)) | ((with_reducible refine gate_callee (f := 27) rfl ?_); refine goesL_ (some 17) rfl rfl Try.func27 (by kernel_rfl) rfl #[.int .i64 a3] rfl (by (try simp only [List.map_toArray, List.map_cons, List.map_nil]); first | done | rfl | (simp only [List.length_drop, List.length_take]; rfl)) ?_; (with_reducible refine (primroselaw05_pick.calls k a3 t167 _ A7.out).mono ?_); rintro e w' ⟨rfl, ⟨nd, rfl⟩⟩; refine ⟨_, rfl, ?_⟩) | ((with_reducible refine gate_callee (f := 21) rfl ?_); refine goesL_ (some 21) rfl rfl Try.func21 (by kernel_rfl) rfl #[.int .i64 a0, .int .i64 a1, .int .i64 t167] rfl (by (try simp only [List.map_toArray, List.map_cons, List.map_nil]); first | done | rfl | (simp only [List.length_drop, List.length_take]; rfl)) ?_; (with_reducible refine (prime_Add.calls k a0 a1 t167 t168 _ A8.out).mono ?_); rintro e w' ⟨rfl, ⟨nd, rfl⟩⟩; refine ⟨_, rfl, ?_⟩) | ((with_reducible refine gate_callee (f := 23) rfl ?_); refine goesL_ (some 25) rfl rfl Try.func23 (by kernel_rfl) rfl #[.int .i64 a0, .int .i64 a1, .int .i64 t167] rfl (by (try simp only [List.map_toArray, List.map_cons, List.map_nil]); first | done | rfl | (simp only [List.length_drop, List.length_take]; rfl)) ?_; (with_reducible refine (prime_Mul.calls k a0 a1 t167 t169 _ A9.out).mono ?_); rintro e w' ⟨rfl, ⟨nd, rfl⟩⟩; refine ⟨_, rfl, ?_⟩))
    (try simp only [Act.put, List.setIfInBounds_toArray, List.set_cons_zero, List.set_cons_succ])
    go_cut [67] (fun v67 wc => ∃ (kq : Nat) (x67_9 : Bool), v67 = .bool x67_9 ∧ Aside0 (primroselaw05_PrimeField.j0 kq a0 a1 a2 t167 true t168 t169 x67_9 = some r) ∧ Aside0 (kq ≤ k) ∧ Aside0 (Below w.heap.size w wc))
    case first =>
      have H := HC10.out
      clear HC10
      replace H := Option.bind_eq_some_iff.mp H
      obtain ⟨t170, A120, H⟩ := H
      replace H : (if t168 = t170 then ((prime_Add.f k t168 a2 t167).bind fun t171 => ((prime_Add.f k a1 a2 t167).bind fun t172 => ((prime_Add.f k a0 t172 t167).bind fun t173 => (if t171 = t173 then ((prime_Mul.f k a1 a0 t167).bind fun t174 => (if t169 = t174 then ((prime_Mul.f k t169 a2 t167).bind fun t175 => ((prime_Mul.f k a1 a2 t167).bind fun t176 => ((prime_Mul.f k a0 t176 t167).bind fun t177 => (primroselaw05_PrimeField.j0 k a0 a1 a2 t167 true t168 t169 (t175 != t177))))) else (primroselaw05_PrimeField.j0 k a0 a1 a2 t167 true t168 t169 true))) else (primroselaw05_PrimeField.j0 k a0 a1 a2 t167 true t168 t169 true))))) else (primroselaw05_PrimeField.j0 k a0 a1 a2 t167 true t168 t169 true)) = some r := H
      have A12 := Aside0.mk A120
      clear A120
      by_cases c13 : t168 = t170
      · rw [if_pos c13] at H
        have c13b0 : (t168 == t170) = true := beq_iff_eq.mpr c13
        have c13b1 : (t168 != t170) = false := bne_eq_false_iff_eq.mpr c13
        clear c13
        (first | rw [c13b0] | (simp only [i64_w, i32_w]; rw [c13b0]) | skip)
        replace H := Option.bind_eq_some_iff.mp H
        obtain ⟨t171, A140, H⟩ := H
        replace H : ((prime_Add.f k a1 a2 t167).bind fun t172 => ((prime_Add.f k a0 t172 t167).bind fun t173 => (if t171 = t173 then ((prime_Mul.f k a1 a0 t167).bind fun t174 => (if t169 = t174 then ((prime_Mul.f k t169 a2 t167).bind fun t175 => ((prime_Mul.f k a1 a2 t167).bind fun t176 => ((prime_Mul.f k a0 t176 t167).bind fun t177 => (primroselaw05_PrimeField.j0 k a0 a1 a2 t167 true t168 t169 (t175 != t177))))) else (primroselaw05_PrimeField.j0 k a0 a1 a2 t167 true t168 t169 true))) else (primroselaw05_PrimeField.j0 k a0 a1 a2 t167 true t168 t169 true)))) = some r := H
        have A14 := Aside0.mk A140
        clear A140
        replace H := Option.bind_eq_some_iff.mp H
        obtain ⟨t172, A150, H⟩ := H
        replace H : ((prime_Add.f k a0 t172 t167).bind fun t173 => (if t171 = t173 then ((prime_Mul.f k a1 a0 t167).bind fun t174 => (if t169 = t174 then ((prime_Mul.f k t169 a2 t167).bind fun t175 => ((prime_Mul.f k a1 a2 t167).bind fun t176 => ((prime_Mul.f k a0 t176 t167).bind fun t177 => (primroselaw05_PrimeField.j0 k a0 a1 a2 t167 true t168 t169 (t175 != t177))))) else (primroselaw05_PrimeField.j0 k a0 a1 a2 t167 true t168 t169 true))) else (primroselaw05_PrimeField.j0 k a0 a1 a2 t167 true t168 t169 true))) = some r := H
        have A15 := Aside0.mk A150
        clear A150
        replace H := Option.bind_eq_some_iff.mp H
        obtain ⟨t173, A160, H⟩ := H
        replace H : (if t171 = t173 then ((prime_Mul.f k a1 a0 t167).bind fun t174 => (if t169 = t174 then ((prime_Mul.f k t169 a2 t167).bind fun t175 => ((prime_Mul.f k a1 a2 t167).bind fun t176 => ((prime_Mul.f k a0 t176 t167).bind fun t177 => (primroselaw05_PrimeField.j0 k a0 a1 a2 t167 true t168 t169 (t175 != t177))))) else (primroselaw05_PrimeField.j0 k a0 a1 a2 t167 true t168 t169 true))) else (primroselaw05_PrimeField.j0 k a0 a1 a2 t167 true t168 t169 true)) = some r := H
        have A16 := Aside0.mk A160
        clear A160
        by_cases c17 : t171 = t173
        · rw [if_pos c17] at H
          have c17b0 : (t171 == t173) = true := beq_iff_eq.mpr c17
          have c17b1 : (t171 != t173) = false := bne_eq_false_iff_eq.mpr c17
          clear c17
          replace H := Option.bind_eq_some_iff.mp H
          obtain ⟨t174, A180, H⟩ := H
          replace H : (if t169 = t174 then ((prime_Mul.f k t169 a2 t167).bind fun t175 => ((prime_Mul.f k a1 a2 t167).bind fun t176 => ((prime_Mul.f k a0 t176 t167).bind fun t177 => (primroselaw05_PrimeField.j0 k a0 a1 a2 t167 true t168 t169 (t175 != t177))))) else (primroselaw05_PrimeField.j0 k a0 a1 a2 t167 true t168 t169 true)) = some r := H
          have A18 := Aside0.mk A180
          clear A180
          by_cases c19 : t169 = t174
          · rw [if_pos c19] at H
            have c19b0 : (t169 == t174) = true := beq_iff_eq.mpr c19
            have c19b1 : (t169 != t174) = false := bne_eq_false_iff_eq.mpr c19
            clear c19
            replace H := Option.bind_eq_some_iff.mp H
            obtain ⟨t175, A200, H⟩ := H
            replace H : ((prime_Mul.f k a1 a2 t167).bind fun t176 => ((prime_Mul.f k a0 t176 t167).bind fun t177 => (primroselaw05_PrimeField.j0 k a0 a1 a2 t167 true t168 t169 (t175 != t177)))) = some r := H
            have A20 := Aside0.mk A200
            clear A200
            replace H := Option.bind_eq_some_iff.mp H
            obtain ⟨t176, A210, H⟩ := H
            replace H : ((prime_Mul.f k a0 t176 t167).bind fun t177 => (primroselaw05_PrimeField.j0 k a0 a1 a2 t167 true t168 t169 (t175 != t177))) = some r := H
            have A21 := Aside0.mk A210
            clear A210
            replace H := Option.bind_eq_some_iff.mp H
            obtain ⟨t177, A220, H⟩ := H
            replace H : (primroselaw05_PrimeField.j0 k a0 a1 a2 t167 true t168 t169 (t175 != t177)) = some r := H
            have A22 := Aside0.mk A220
            clear A220
            have H' := Aside0.mk H
            clear H
            go_wp2_with (first | ((with_reducible refine gate_callee (f := 21) rfl ?_); refine goesL_ (some 30) rfl rfl Try.func21 (by kernel_rfl) rfl #[.int .i64 a1, .int .i64 a0, .int .i64 t167] rfl (by (try simp only [List.map_toArray, List.map_cons, List.map_nil]); first | done | rfl | (simp only [List.length_drop, List.length_take]; rfl)) ?_; (with_reducible refine (prime_Add.calls k a1 a0 t167 t170 _ A12.out).mono ?_); rintro e w' ⟨rfl, ⟨nd, rfl⟩⟩; refine ⟨_, rfl, ?_⟩) | (go_at_call 21; (with_reducible refine (prime_Add.calls k t168 a2 t167 t171 _ A14.out).mono ?_); rintro e w' ⟨rfl, ⟨nd, rfl⟩⟩) | (go_at_call 21; (with_reducible refine (prime_Add.calls k a1 a2 t167 t172 _ A15.out).mono ?_); rintro e w' ⟨rfl, ⟨nd, rfl⟩⟩) | (go_at_call 21; (with_reducible refine (prime_Add.calls k a0 t172 t167 t173 _ A16.out).mono ?_); rintro e w' ⟨rfl, ⟨nd, rfl⟩⟩) | (go_at_call 23; (with_reducible refine (prime_Mul.calls k a1 a0 t167 t174 _ A18.out).mono ?_); rintro e w' ⟨rfl, ⟨nd, rfl⟩⟩) | (go_at_call 23; (with_reducible refine (prime_Mul.calls k t169 a2 t167 t175 _ A20.out).mono ?_); rintro e w' ⟨rfl, ⟨nd, rfl⟩⟩) | (go_at_call 23; (with_reducible refine (prime_Mul.calls k a1 a2 t167 t176 _ A21.out).mono ?_); rintro e w' ⟨rfl, ⟨nd, rfl⟩⟩) | (go_at_call 23; (with_reducible refine (prime_Mul.calls k a0 t176 t167 t177 _ A22.out).mono ?_); rintro e w' ⟨rfl, ⟨nd, rfl⟩⟩))
            go_meet
            case rel => exact ⟨_, ((t175 != t177)), (by first | rfl | (simp; done) | (simp [*]; done)), H', ⟨by first | omega | exact Nat.le_refl _⟩, ⟨by repeat (first | (with_reducible first | exact HB.out | apply below_alloc | apply pw_below_drewN | apply below_drew1) | exact HB.out)⟩⟩
          · rw [if_neg c19] at H
            have c19b0 : (t169 == t174) = false := beq_eq_false_iff_ne.mpr c19
            have c19b1 : (t169 != t174) = true := bne_iff_ne.mpr c19
            have H' := Aside0.mk H
            clear H
            go_wp2_with (first | ((with_reducible refine gate_callee (f := 21) rfl ?_); refine goesL_ (some 30) rfl rfl Try.func21 (by kernel_rfl) rfl #[.int .i64 a1, .int .i64 a0, .int .i64 t167] rfl (by (try simp only [List.map_toArray, List.map_cons, List.map_nil]); first | done | rfl | (simp only [List.length_drop, List.length_take]; rfl)) ?_; (with_reducible refine (prime_Add.calls k a1 a0 t167 t170 _ A12.out).mono ?_); rintro e w' ⟨rfl, ⟨nd, rfl⟩⟩; refine ⟨_, rfl, ?_⟩) | (go_at_call 21; (with_reducible refine (prime_Add.calls k t168 a2 t167 t171 _ A14.out).mono ?_); rintro e w' ⟨rfl, ⟨nd, rfl⟩⟩) | (go_at_call 21; (with_reducible refine (prime_Add.calls k a1 a2 t167 t172 _ A15.out).mono ?_); rintro e w' ⟨rfl, ⟨nd, rfl⟩⟩) | (go_at_call 21; (with_reducible refine (prime_Add.calls k a0 t172 t167 t173 _ A16.out).mono ?_); rintro e w' ⟨rfl, ⟨nd, rfl⟩⟩) | (go_at_call 23; (with_reducible refine (prime_Mul.calls k a1 a0 t167 t174 _ A18.out).mono ?_); rintro e w' ⟨rfl, ⟨nd, rfl⟩⟩))
            go_meet
            case rel => exact ⟨_, (true), (by first | rfl | (simp; done) | (simp [*]; done)), H', ⟨by first | omega | exact Nat.le_refl _⟩, ⟨by repeat (first | (with_reducible first | exact HB.out | apply below_alloc | apply pw_below_drewN | apply below_drew1) | exact HB.out)⟩⟩
        · rw [if_neg c17] at H
          have c17b0 : (t171 == t173) = false := beq_eq_false_iff_ne.mpr c17
          have c17b1 : (t171 != t173) = true := bne_iff_ne.mpr c17
          have H' := Aside0.mk H
          clear H
          go_wp2_with (first | ((with_reducible refine gate_callee (f := 21) rfl ?_); refine goesL_ (some 30) rfl rfl Try.func21 (by kernel_rfl) rfl #[.int .i64 a1, .int .i64 a0, .int .i64 t167] rfl (by (try simp only [List.map_toArray, List.map_cons, List.map_nil]); first | done | rfl | (simp only [List.length_drop, List.length_take]; rfl)) ?_; (with_reducible refine (prime_Add.calls k a1 a0 t167 t170 _ A12.out).mono ?_); rintro e w' ⟨rfl, ⟨nd, rfl⟩⟩; refine ⟨_, rfl, ?_⟩) | (go_at_call 21; (with_reducible refine (prime_Add.calls k t168 a2 t167 t171 _ A14.out).mono ?_); rintro e w' ⟨rfl, ⟨nd, rfl⟩⟩) | (go_at_call 21; (with_reducible refine (prime_Add.calls k a1 a2 t167 t172 _ A15.out).mono ?_); rintro e w' ⟨rfl, ⟨nd, rfl⟩⟩) | (go_at_call 21; (with_reducible refine (prime_Add.calls k a0 t172 t167 t173 _ A16.out).mono ?_); rintro e w' ⟨rfl, ⟨nd, rfl⟩⟩))
          go_meet
          case rel => exact ⟨_, (true), (by first | rfl | (simp; done) | (simp [*]; done)), H', ⟨by first | omega | exact Nat.le_refl _⟩, ⟨by repeat (first | (with_reducible first | exact HB.out | apply below_alloc | apply pw_below_drewN | apply below_drew1) | exact HB.out)⟩⟩
      · rw [if_neg c13] at H
        have c13b0 : (t168 == t170) = false := beq_eq_false_iff_ne.mpr c13
        have c13b1 : (t168 != t170) = true := bne_iff_ne.mpr c13
        (first | rw [c13b0] | (simp only [i64_w, i32_w]; rw [c13b0]) | skip)
        have H' := Aside0.mk H
        clear H
        go_wp2_with (first | ((with_reducible refine gate_callee (f := 21) rfl ?_); refine goesL_ (some 30) rfl rfl Try.func21 (by kernel_rfl) rfl #[.int .i64 a1, .int .i64 a0, .int .i64 t167] rfl (by (try simp only [List.map_toArray, List.map_cons, List.map_nil]); first | done | rfl | (simp only [List.length_drop, List.length_take]; rfl)) ?_; (with_reducible refine (prime_Add.calls k a1 a0 t167 t170 _ A12.out).mono ?_); rintro e w' ⟨rfl, ⟨nd, rfl⟩⟩; refine ⟨_, rfl, ?_⟩))
        go_meet
        case rel => exact ⟨_, (true), (by first | rfl | (simp; done) | (simp [*]; done)), H', ⟨by first | omega | exact Nat.le_refl _⟩, ⟨by repeat (first | (with_reducible first | exact HB.out | apply below_alloc | apply pw_below_drewN | apply below_drew1) | exact HB.out)⟩⟩
    case rest =>
      clear HC10
      try clear c1
      try clear c2
      try clear p2
      try clear c6
      try clear c7
      try clear c13
      try clear c13b0
      try clear c13b1
      try clear c14
      try clear c17
      try clear c17b0
      try clear c17b1
      try clear c19
      try clear c19b0
      try clear c19b1
      try clear c21
      obtain ⟨kq, x67_9, rfl, HA, HJ9, HB⟩ := hcut
      cases kq with
      | zero => exact absurd HA.out (by simp [primroselaw05_PrimeField.j0])
      | succ kj9 =>
        have H := HA.out
        clear HA
        simp only [primroselaw05_PrimeField.j0] at H
        by_cases c23 : x67_9 = true
        · subst c23
          have H1 : (some false) = some r := by rw [if_pos rfl] at H; exact H
          clear H
          have H := H1
          clear H1
          obtain rfl := Option.some.inj H
          go_wp2
          go_ret
          exact ⟨by first | rfl | (simp [errW_none, errW_some] <;> rfl) | (simp [*, errW_none, errW_some] <;> rfl), by repeat (first | (with_reducible first | exact HB.out | apply below_alloc | apply pw_below_drewN | apply below_drew1) | exact HB.out)⟩
        · replace c23 := Bool.eq_false_iff.mpr c23
          subst c23
          have H1 : ((prime_Mul.f kj9 t168 a2 t167).bind fun t178 => ((prime_Mul.f kj9 a0 a2 t167).bind fun t179 => ((prime_Mul.f kj9 a1 a2 t167).bind fun t180 => ((prime_Add.f kj9 t179 t180 t167).bind fun t181 => (if t178 = t181 then (if t168 < 0 then (primroselaw05_PrimeField.j1 kj9 a0 t167 true true) else (if t168 ≥ t167 then (primroselaw05_PrimeField.j1 kj9 a0 t167 true true) else (if t169 < 0 then (primroselaw05_PrimeField.j1 kj9 a0 t167 true true) else (primroselaw05_PrimeField.j1 kj9 a0 t167 true (decide (t169 ≥ t167)))))) else (primroselaw05_PrimeField.j1 kj9 a0 t167 true true)))))) = some r := by rw [if_neg (show ¬ (false = true) by decide)] at H; exact H
          clear H
          have H := H1
          clear H1
          have HC24 := Aside0.mk H
          clear H
          go_upto_region 8 with (fail)
          go_cut [100] (fun v100 wc => ∃ (kq : Nat) (x100_23 : Bool), v100 = .bool x100_23 ∧ Aside0 (primroselaw05_PrimeField.j1 kq a0 t167 true x100_23 = some r) ∧ Aside0 (kq ≤ kj9) ∧ Aside0 (Below w.heap.size w wc))
          case first =>
            have H := HC24.out
            clear HC24
            replace H := Option.bind_eq_some_iff.mp H
            obtain ⟨t178, A250, H⟩ := H
            replace H : ((prime_Mul.f kj9 a0 a2 t167).bind fun t179 => ((prime_Mul.f kj9 a1 a2 t167).bind fun t180 => ((prime_Add.f kj9 t179 t180 t167).bind fun t181 => (if t178 = t181 then (if t168 < 0 then (primroselaw05_PrimeField.j1 kj9 a0 t167 true true) else (if t168 ≥ t167 then (primroselaw05_PrimeField.j1 kj9 a0 t167 true true) else (if t169 < 0 then (primroselaw05_PrimeField.j1 kj9 a0 t167 true true) else (primroselaw05_PrimeField.j1 kj9 a0 t167 true (decide (t169 ≥ t167)))))) else (primroselaw05_PrimeField.j1 kj9 a0 t167 true true))))) = some r := H
            have A25 := Aside0.mk A250
            clear A250
            replace H := Option.bind_eq_some_iff.mp H
            obtain ⟨t179, A260, H⟩ := H
            replace H : ((prime_Mul.f kj9 a1 a2 t167).bind fun t180 => ((prime_Add.f kj9 t179 t180 t167).bind fun t181 => (if t178 = t181 then (if t168 < 0 then (primroselaw05_PrimeField.j1 kj9 a0 t167 true true) else (if t168 ≥ t167 then (primroselaw05_PrimeField.j1 kj9 a0 t167 true true) else (if t169 < 0 then (primroselaw05_PrimeField.j1 kj9 a0 t167 true true) else (primroselaw05_PrimeField.j1 kj9 a0 t167 true (decide (t169 ≥ t167)))))) else (primroselaw05_PrimeField.j1 kj9 a0 t167 true true)))) = some r := H
            have A26 := Aside0.mk A260
            clear A260
            replace H := Option.bind_eq_some_iff.mp H
            obtain ⟨t180, A270, H⟩ := H
            replace H : ((prime_Add.f kj9 t179 t180 t167).bind fun t181 => (if t178 = t181 then (if t168 < 0 then (primroselaw05_PrimeField.j1 kj9 a0 t167 true true) else (if t168 ≥ t167 then (primroselaw05_PrimeField.j1 kj9 a0 t167 true true) else (if t169 < 0 then (primroselaw05_PrimeField.j1 kj9 a0 t167 true true) else (primroselaw05_PrimeField.j1 kj9 a0 t167 true (decide (t169 ≥ t167)))))) else (primroselaw05_PrimeField.j1 kj9 a0 t167 true true))) = some r := H
            have A27 := Aside0.mk A270
            clear A270
            replace H := Option.bind_eq_some_iff.mp H
            obtain ⟨t181, A280, H⟩ := H
            replace H : (if t178 = t181 then (if t168 < 0 then (primroselaw05_PrimeField.j1 kj9 a0 t167 true true) else (if t168 ≥ t167 then (primroselaw05_PrimeField.j1 kj9 a0 t167 true true) else (if t169 < 0 then (primroselaw05_PrimeField.j1 kj9 a0 t167 true true) else (primroselaw05_PrimeField.j1 kj9 a0 t167 true (decide (t169 ≥ t167)))))) else (primroselaw05_PrimeField.j1 kj9 a0 t167 true true)) = some r := H
            have A28 := Aside0.mk A280
            clear A280
            by_cases c29 : t178 = t181
            · rw [if_pos c29] at H
              have c29b0 : (t178 == t181) = true := beq_iff_eq.mpr c29
              have c29b1 : (t178 != t181) = false := bne_eq_false_iff_eq.mpr c29
              clear c29
              (first | rw [c29b0] | (simp only [i64_w, i32_w]; rw [c29b0]) | skip)
              by_cases c30 : t168 < 0
              · rw [if_pos c30] at H
                have c30b0 : decide (t168 < 0) = true := decide_eq_true c30
                clear c30
                have H' := Aside0.mk H
                clear H
                go_wp2_with (first | ((with_reducible refine gate_callee (f := 23) rfl ?_); refine goesL_ (some 71) rfl rfl Try.func23 (by kernel_rfl) rfl #[.int .i64 t168, .int .i64 a2, .int .i64 t167] rfl (by (try simp only [List.map_toArray, List.map_cons, List.map_nil]); first | done | rfl | (simp only [List.length_drop, List.length_take]; rfl)) ?_; (with_reducible refine (prime_Mul.calls kj9 t168 a2 t167 t178 _ A25.out).mono ?_); rintro e w' ⟨rfl, ⟨nd, rfl⟩⟩; refine ⟨_, rfl, ?_⟩) | ((with_reducible refine gate_callee (f := 23) rfl ?_); refine goesL_ (some 75) rfl rfl Try.func23 (by kernel_rfl) rfl #[.int .i64 a0, .int .i64 a2, .int .i64 t167] rfl (by (try simp only [List.map_toArray, List.map_cons, List.map_nil]); first | done | rfl | (simp only [List.length_drop, List.length_take]; rfl)) ?_; (with_reducible refine (prime_Mul.calls kj9 a0 a2 t167 t179 _ A26.out).mono ?_); rintro e w' ⟨rfl, ⟨nd, rfl⟩⟩; refine ⟨_, rfl, ?_⟩) | ((with_reducible refine gate_callee (f := 23) rfl ?_); refine goesL_ (some 79) rfl rfl Try.func23 (by kernel_rfl) rfl #[.int .i64 a1, .int .i64 a2, .int .i64 t167] rfl (by (try simp only [List.map_toArray, List.map_cons, List.map_nil]); first | done | rfl | (simp only [List.length_drop, List.length_take]; rfl)) ?_; (with_reducible refine (prime_Mul.calls kj9 a1 a2 t167 t180 _ A27.out).mono ?_); rintro e w' ⟨rfl, ⟨nd, rfl⟩⟩; refine ⟨_, rfl, ?_⟩) | ((with_reducible refine gate_callee (f := 21) rfl ?_); refine goesL_ (some 81) rfl rfl Try.func21 (by kernel_rfl) rfl #[.int .i64 t179, .int .i64 t180, .int .i64 t167] rfl (by (try simp only [List.map_toArray, List.map_cons, List.map_nil]); first | done | rfl | (simp only [List.length_drop, List.length_take]; rfl)) ?_; (with_reducible refine (prime_Add.calls kj9 t179 t180 t167 t181 _ A28.out).mono ?_); rintro e w' ⟨rfl, ⟨nd, rfl⟩⟩; refine ⟨_, rfl, ?_⟩))
                go_meet
                case rel => exact ⟨_, (true), (by first | rfl | (simp; done) | (simp [*]; done)), H', ⟨by have := HJ9.out; first | omega | exact Nat.le_refl _⟩, ⟨by repeat (first | (with_reducible first | exact HB.out | apply below_alloc | apply pw_below_drewN | apply below_drew1) | exact HB.out)⟩⟩
              · rw [if_neg c30] at H
                have c30b0 : decide (t168 < 0) = false := decide_eq_false c30
                clear c30
                by_cases c31 : t168 ≥ t167
                · rw [if_pos c31] at H
                  have c31b0 : decide (t167 ≤ t168) = true := decide_eq_true c31
                  clear c31
                  have H' := Aside0.mk H
                  clear H
                  go_wp2_with (first | ((with_reducible refine gate_callee (f := 23) rfl ?_); refine goesL_ (some 71) rfl rfl Try.func23 (by kernel_rfl) rfl #[.int .i64 t168, .int .i64 a2, .int .i64 t167] rfl (by (try simp only [List.map_toArray, List.map_cons, List.map_nil]); first | done | rfl | (simp only [List.length_drop, List.length_take]; rfl)) ?_; (with_reducible refine (prime_Mul.calls kj9 t168 a2 t167 t178 _ A25.out).mono ?_); rintro e w' ⟨rfl, ⟨nd, rfl⟩⟩; refine ⟨_, rfl, ?_⟩) | ((with_reducible refine gate_callee (f := 23) rfl ?_); refine goesL_ (some 75) rfl rfl Try.func23 (by kernel_rfl) rfl #[.int .i64 a0, .int .i64 a2, .int .i64 t167] rfl (by (try simp only [List.map_toArray, List.map_cons, List.map_nil]); first | done | rfl | (simp only [List.length_drop, List.length_take]; rfl)) ?_; (with_reducible refine (prime_Mul.calls kj9 a0 a2 t167 t179 _ A26.out).mono ?_); rintro e w' ⟨rfl, ⟨nd, rfl⟩⟩; refine ⟨_, rfl, ?_⟩) | ((with_reducible refine gate_callee (f := 23) rfl ?_); refine goesL_ (some 79) rfl rfl Try.func23 (by kernel_rfl) rfl #[.int .i64 a1, .int .i64 a2, .int .i64 t167] rfl (by (try simp only [List.map_toArray, List.map_cons, List.map_nil]); first | done | rfl | (simp only [List.length_drop, List.length_take]; rfl)) ?_; (with_reducible refine (prime_Mul.calls kj9 a1 a2 t167 t180 _ A27.out).mono ?_); rintro e w' ⟨rfl, ⟨nd, rfl⟩⟩; refine ⟨_, rfl, ?_⟩) | ((with_reducible refine gate_callee (f := 21) rfl ?_); refine goesL_ (some 81) rfl rfl Try.func21 (by kernel_rfl) rfl #[.int .i64 t179, .int .i64 t180, .int .i64 t167] rfl (by (try simp only [List.map_toArray, List.map_cons, List.map_nil]); first | done | rfl | (simp only [List.length_drop, List.length_take]; rfl)) ?_; (with_reducible refine (prime_Add.calls kj9 t179 t180 t167 t181 _ A28.out).mono ?_); rintro e w' ⟨rfl, ⟨nd, rfl⟩⟩; refine ⟨_, rfl, ?_⟩))
                  go_meet
                  case rel => exact ⟨_, (true), (by first | rfl | (simp; done) | (simp [*]; done)), H', ⟨by have := HJ9.out; first | omega | exact Nat.le_refl _⟩, ⟨by repeat (first | (with_reducible first | exact HB.out | apply below_alloc | apply pw_below_drewN | apply below_drew1) | exact HB.out)⟩⟩
                · rw [if_neg c31] at H
                  have c31b0 : decide (t167 ≤ t168) = false := decide_eq_false c31
                  clear c31
                  by_cases c32 : t169 < 0
                  · rw [if_pos c32] at H
                    have c32b0 : decide (t169 < 0) = true := decide_eq_true c32
                    clear c32
                    have H' := Aside0.mk H
                    clear H
                    go_wp2_with (first | ((with_reducible refine gate_callee (f := 23) rfl ?_); refine goesL_ (some 71) rfl rfl Try.func23 (by kernel_rfl) rfl #[.int .i64 t168, .int .i64 a2, .int .i64 t167] rfl (by (try simp only [List.map_toArray, List.map_cons, List.map_nil]); first | done | rfl | (simp only [List.length_drop, List.length_take]; rfl)) ?_; (with_reducible refine (prime_Mul.calls kj9 t168 a2 t167 t178 _ A25.out).mono ?_); rintro e w' ⟨rfl, ⟨nd, rfl⟩⟩; refine ⟨_, rfl, ?_⟩) | ((with_reducible refine gate_callee (f := 23) rfl ?_); refine goesL_ (some 75) rfl rfl Try.func23 (by kernel_rfl) rfl #[.int .i64 a0, .int .i64 a2, .int .i64 t167] rfl (by (try simp only [List.map_toArray, List.map_cons, List.map_nil]); first | done | rfl | (simp only [List.length_drop, List.length_take]; rfl)) ?_; (with_reducible refine (prime_Mul.calls kj9 a0 a2 t167 t179 _ A26.out).mono ?_); rintro e w' ⟨rfl, ⟨nd, rfl⟩⟩; refine ⟨_, rfl, ?_⟩) | ((with_reducible refine gate_callee (f := 23) rfl ?_); refine goesL_ (some 79) rfl rfl Try.func23 (by kernel_rfl) rfl #[.int .i64 a1, .int .i64 a2, .int .i64 t167] rfl (by (try simp only [List.map_toArray, List.map_cons, List.map_nil]); first | done | rfl | (simp only [List.length_drop, List.length_take]; rfl)) ?_; (with_reducible refine (prime_Mul.calls kj9 a1 a2 t167 t180 _ A27.out).mono ?_); rintro e w' ⟨rfl, ⟨nd, rfl⟩⟩; refine ⟨_, rfl, ?_⟩) | ((with_reducible refine gate_callee (f := 21) rfl ?_); refine goesL_ (some 81) rfl rfl Try.func21 (by kernel_rfl) rfl #[.int .i64 t179, .int .i64 t180, .int .i64 t167] rfl (by (try simp only [List.map_toArray, List.map_cons, List.map_nil]); first | done | rfl | (simp only [List.length_drop, List.length_take]; rfl)) ?_; (with_reducible refine (prime_Add.calls kj9 t179 t180 t167 t181 _ A28.out).mono ?_); rintro e w' ⟨rfl, ⟨nd, rfl⟩⟩; refine ⟨_, rfl, ?_⟩))
                    go_meet
                    case rel => exact ⟨_, (true), (by first | rfl | (simp; done) | (simp [*]; done)), H', ⟨by have := HJ9.out; first | omega | exact Nat.le_refl _⟩, ⟨by repeat (first | (with_reducible first | exact HB.out | apply below_alloc | apply pw_below_drewN | apply below_drew1) | exact HB.out)⟩⟩
                  · rw [if_neg c32] at H
                    have c32b0 : decide (t169 < 0) = false := decide_eq_false c32
                    clear c32
                    have H' := Aside0.mk H
                    clear H
                    go_wp2_with (first | ((with_reducible refine gate_callee (f := 23) rfl ?_); refine goesL_ (some 71) rfl rfl Try.func23 (by kernel_rfl) rfl #[.int .i64 t168, .int .i64 a2, .int .i64 t167] rfl (by (try simp only [List.map_toArray, List.map_cons, List.map_nil]); first | done | rfl | (simp only [List.length_drop, List.length_take]; rfl)) ?_; (with_reducible refine (prime_Mul.calls kj9 t168 a2 t167 t178 _ A25.out).mono ?_); rintro e w' ⟨rfl, ⟨nd, rfl⟩⟩; refine ⟨_, rfl, ?_⟩) | ((with_reducible refine gate_callee (f := 23) rfl ?_); refine goesL_ (some 75) rfl rfl Try.func23 (by kernel_rfl) rfl #[.int .i64 a0, .int .i64 a2, .int .i64 t167] rfl (by (try simp only [List.map_toArray, List.map_cons, List.map_nil]); first | done | rfl | (simp only [List.length_drop, List.length_take]; rfl)) ?_; (with_reducible refine (prime_Mul.calls kj9 a0 a2 t167 t179 _ A26.out).mono ?_); rintro e w' ⟨rfl, ⟨nd, rfl⟩⟩; refine ⟨_, rfl, ?_⟩) | ((with_reducible refine gate_callee (f := 23) rfl ?_); refine goesL_ (some 79) rfl rfl Try.func23 (by kernel_rfl) rfl #[.int .i64 a1, .int .i64 a2, .int .i64 t167] rfl (by (try simp only [List.map_toArray, List.map_cons, List.map_nil]); first | done | rfl | (simp only [List.length_drop, List.length_take]; rfl)) ?_; (with_reducible refine (prime_Mul.calls kj9 a1 a2 t167 t180 _ A27.out).mono ?_); rintro e w' ⟨rfl, ⟨nd, rfl⟩⟩; refine ⟨_, rfl, ?_⟩) | ((with_reducible refine gate_callee (f := 21) rfl ?_); refine goesL_ (some 81) rfl rfl Try.func21 (by kernel_rfl) rfl #[.int .i64 t179, .int .i64 t180, .int .i64 t167] rfl (by (try simp only [List.map_toArray, List.map_cons, List.map_nil]); first | done | rfl | (simp only [List.length_drop, List.length_take]; rfl)) ?_; (with_reducible refine (prime_Add.calls kj9 t179 t180 t167 t181 _ A28.out).mono ?_); rintro e w' ⟨rfl, ⟨nd, rfl⟩⟩; refine ⟨_, rfl, ?_⟩))
                    go_meet
                    case rel => exact ⟨_, (decide (t169 ≥ t167)), (by first | rfl | (simp; done) | (simp [*]; done)), H', ⟨by have := HJ9.out; first | omega | exact Nat.le_refl _⟩, ⟨by repeat (first | (with_reducible first | exact HB.out | apply below_alloc | apply pw_below_drewN | apply below_drew1) | exact HB.out)⟩⟩
            · rw [if_neg c29] at H
              have c29b0 : (t178 == t181) = false := beq_eq_false_iff_ne.mpr c29
              have c29b1 : (t178 != t181) = true := bne_iff_ne.mpr c29
              (first | rw [c29b0] | (simp only [i64_w, i32_w]; rw [c29b0]) | skip)
              have H' := Aside0.mk H
              clear H
              go_wp2_with (first | ((with_reducible refine gate_callee (f := 23) rfl ?_); refine goesL_ (some 71) rfl rfl Try.func23 (by kernel_rfl) rfl #[.int .i64 t168, .int .i64 a2, .int .i64 t167] rfl (by (try simp only [List.map_toArray, List.map_cons, List.map_nil]); first | done | rfl | (simp only [List.length_drop, List.length_take]; rfl)) ?_; (with_reducible refine (prime_Mul.calls kj9 t168 a2 t167 t178 _ A25.out).mono ?_); rintro e w' ⟨rfl, ⟨nd, rfl⟩⟩; refine ⟨_, rfl, ?_⟩) | ((with_reducible refine gate_callee (f := 23) rfl ?_); refine goesL_ (some 75) rfl rfl Try.func23 (by kernel_rfl) rfl #[.int .i64 a0, .int .i64 a2, .int .i64 t167] rfl (by (try simp only [List.map_toArray, List.map_cons, List.map_nil]); first | done | rfl | (simp only [List.length_drop, List.length_take]; rfl)) ?_; (with_reducible refine (prime_Mul.calls kj9 a0 a2 t167 t179 _ A26.out).mono ?_); rintro e w' ⟨rfl, ⟨nd, rfl⟩⟩; refine ⟨_, rfl, ?_⟩) | ((with_reducible refine gate_callee (f := 23) rfl ?_); refine goesL_ (some 79) rfl rfl Try.func23 (by kernel_rfl) rfl #[.int .i64 a1, .int .i64 a2, .int .i64 t167] rfl (by (try simp only [List.map_toArray, List.map_cons, List.map_nil]); first | done | rfl | (simp only [List.length_drop, List.length_take]; rfl)) ?_; (with_reducible refine (prime_Mul.calls kj9 a1 a2 t167 t180 _ A27.out).mono ?_); rintro e w' ⟨rfl, ⟨nd, rfl⟩⟩; refine ⟨_, rfl, ?_⟩) | ((with_reducible refine gate_callee (f := 21) rfl ?_); refine goesL_ (some 81) rfl rfl Try.func21 (by kernel_rfl) rfl #[.int .i64 t179, .int .i64 t180, .int .i64 t167] rfl (by (try simp only [List.map_toArray, List.map_cons, List.map_nil]); first | done | rfl | (simp only [List.length_drop, List.length_take]; rfl)) ?_; (with_reducible refine (prime_Add.calls kj9 t179 t180 t167 t181 _ A28.out).mono ?_); rintro e w' ⟨rfl, ⟨nd, rfl⟩⟩; refine ⟨_, rfl, ?_⟩))
              go_meet
              case rel => exact ⟨_, (true), (by first | rfl | (simp; done) | (simp [*]; done)), H', ⟨by have := HJ9.out; first | omega | exact Nat.le_refl _⟩, ⟨by repeat (first | (with_reducible first | exact HB.out | apply below_alloc | apply pw_below_drewN | apply below_drew1) | exact HB.out)⟩⟩
          case rest =>
            clear HC24
            try clear c1
            try clear c2
            try clear p2
            try clear c3
            try clear c6
            try clear c7
            try clear c13
            try clear c13b0
            try clear c13b1
            try clear c14
            try clear c17
            try clear c17b0
            try clear c17b1
            try clear c19
            try clear c19b0
            try clear c19b1
            try clear c21
            try clear c23
            try clear c27
            try clear c29
            try clear c29b0
            try clear c29b1
            try clear c30
            try clear c30b0
            try clear c31
            try clear c31b0
            try clear c32
            try clear c32b0
            try clear p2
            obtain ⟨kq, x100_23, rfl, HA, HJ23, HB⟩ := hcut
            cases kq with
            | zero => exact absurd HA.out (by simp [primroselaw05_PrimeField.j1])
            | succ kj23 =>
              have H := HA.out
              clear HA
              simp only [primroselaw05_PrimeField.j1] at H
              by_cases c33 : x100_23 = true
              · subst c33
                have H1 : (some false) = some r := by rw [if_pos rfl] at H; exact H
                clear H
                have H := H1
                clear H1
                obtain rfl := Option.some.inj H
                go_wp2
                go_ret
                exact ⟨by first | rfl | (simp [errW_none, errW_some] <;> rfl) | (simp [*, errW_none, errW_some] <;> rfl), by repeat (first | (with_reducible first | exact HB.out | apply below_alloc | apply pw_below_drewN | apply below_drew1) | exact HB.out)⟩
              · replace c33 := Bool.eq_false_iff.mpr c33
                subst c33
                have H1 : ((prime_Inv.f kj23 a0 t167).bind fun t182 => ((prime_Add.f kj23 a0 0 t167).bind fun t183 => (if t183 = 0 then (if true = true then (some (t182 == 0)) else (some false)) else (if true = true then ((prime_Mul.f kj23 a0 t182 t167).bind fun t184 => ((prime_Add.f kj23 1 0 t167).bind fun t185 => (some (t184 == t185)))) else (some false))))) = some r := by rw [if_neg (show ¬ (false = true) by decide)] at H; exact H
                clear H
                have H := H1
                clear H1
                replace H := Option.bind_eq_some_iff.mp H
                obtain ⟨t182, A340, H⟩ := H
                replace H : ((prime_Add.f kj23 a0 0 t167).bind fun t183 => (if t183 = 0 then (if true = true then (some (t182 == 0)) else (some false)) else (if true = true then ((prime_Mul.f kj23 a0 t182 t167).bind fun t184 => ((prime_Add.f kj23 1 0 t167).bind fun t185 => (some (t184 == t185)))) else (some false)))) = some r := H
                have A34 := Aside0.mk A340
                clear A340
                replace H := Option.bind_eq_some_iff.mp H
                obtain ⟨t183, A350, H⟩ := H
                replace H : (if t183 = 0 then (if true = true then (some (t182 == 0)) else (some false)) else (if true = true then ((prime_Mul.f kj23 a0 t182 t167).bind fun t184 => ((prime_Add.f kj23 1 0 t167).bind fun t185 => (some (t184 == t185)))) else (some false))) = some r := H
                have A35 := Aside0.mk A350
                clear A350
                by_cases c36 : t183 = 0
                · rw [if_pos c36] at H
                  have c36b0 : (t183 == 0) = true := beq_iff_eq.mpr c36
                  have c36b1 : (t183 != 0) = false := bne_eq_false_iff_eq.mpr c36
                  clear c36
                  have H1 : (some (t182 == 0)) = some r := by rw [if_pos rfl] at H; exact H
                  clear H
                  have H := H1
                  clear H1
                  obtain rfl := Option.some.inj H
                  go_wp2_with (first | ((with_reducible refine gate_callee (f := 19) rfl ?_); refine goesL_ (some 103) rfl rfl Try.func19 (by kernel_rfl) rfl #[.int .i64 a0, .int .i64 t167] rfl (by (try simp only [List.map_toArray, List.map_cons, List.map_nil]); first | done | rfl | (simp only [List.length_drop, List.length_take]; rfl)) ?_; (with_reducible refine (prime_Inv.calls kj23 a0 t167 t182 _ A34.out).mono ?_); rintro e w' ⟨rfl, ⟨nd, rfl⟩⟩; refine ⟨_, rfl, ?_⟩) | ((with_reducible refine gate_callee (f := 21) rfl ?_); refine goesL_ (some 106) rfl rfl Try.func21 (by kernel_rfl) rfl #[.int .i64 a0, .int .i64 0, .int .i64 t167] rfl (by (try simp only [List.map_toArray, List.map_cons, List.map_nil]); first | done | rfl | (simp only [List.length_drop, List.length_take]; rfl)) ?_; (with_reducible refine (prime_Add.calls kj23 a0 0 t167 t183 _ A35.out).mono ?_); rintro e w' ⟨rfl, ⟨nd, rfl⟩⟩; refine ⟨_, rfl, ?_⟩))
                  go_ret
                  exact ⟨by first | rfl | (simp [errW_none, errW_some] <;> rfl) | (simp [*, errW_none, errW_some] <;> rfl), by repeat (first | (with_reducible first | exact HB.out | apply below_alloc | apply pw_below_drewN | apply below_drew1) | exact HB.out)⟩
                · rw [if_neg c36] at H
                  have c36b0 : (t183 == 0) = false := beq_eq_false_iff_ne.mpr c36
                  have c36b1 : (t183 != 0) = true := bne_iff_ne.mpr c36
                  have H1 : ((prime_Mul.f kj23 a0 t182 t167).bind fun t184 => ((prime_Add.f kj23 1 0 t167).bind fun t185 => (some (t184 == t185)))) = some r := by rw [if_pos rfl] at H; exact H
                  clear H
                  have H := H1
                  clear H1
                  replace H := Option.bind_eq_some_iff.mp H
                  obtain ⟨t184, A370, H⟩ := H
                  replace H : ((prime_Add.f kj23 1 0 t167).bind fun t185 => (some (t184 == t185))) = some r := H
                  have A37 := Aside0.mk A370
                  clear A370
                  replace H := Option.bind_eq_some_iff.mp H
                  obtain ⟨t185, A380, H⟩ := H
                  replace H : (some (t184 == t185)) = some r := H
                  have A38 := Aside0.mk A380
                  clear A380
                  obtain rfl := Option.some.inj H
                  go_wp2_with (first | ((with_reducible refine gate_callee (f := 19) rfl ?_); refine goesL_ (some 103) rfl rfl Try.func19 (by kernel_rfl) rfl #[.int .i64 a0, .int .i64 t167] rfl (by (try simp only [List.map_toArray, List.map_cons, List.map_nil]); first | done | rfl | (simp only [List.length_drop, List.length_take]; rfl)) ?_; (with_reducible refine (prime_Inv.calls kj23 a0 t167 t182 _ A34.out).mono ?_); rintro e w' ⟨rfl, ⟨nd, rfl⟩⟩; refine ⟨_, rfl, ?_⟩) | ((with_reducible refine gate_callee (f := 21) rfl ?_); refine goesL_ (some 106) rfl rfl Try.func21 (by kernel_rfl) rfl #[.int .i64 a0, .int .i64 0, .int .i64 t167] rfl (by (try simp only [List.map_toArray, List.map_cons, List.map_nil]); first | done | rfl | (simp only [List.length_drop, List.length_take]; rfl)) ?_; (with_reducible refine (prime_Add.calls kj23 a0 0 t167 t183 _ A35.out).mono ?_); rintro e w' ⟨rfl, ⟨nd, rfl⟩⟩; refine ⟨_, rfl, ?_⟩) | (go_at_call 23; (with_reducible refine (prime_Mul.calls kj23 a0 t182 t167 t184 _ A37.out).mono ?_); rintro e w' ⟨rfl, ⟨nd, rfl⟩⟩) | (go_at_call 21; (with_reducible refine (prime_Add.calls kj23 1 0 t167 t185 _ A38.out).mono ?_); rintro e w' ⟨rfl, ⟨nd, rfl⟩⟩))
                  go_ret
                  exact ⟨by first | rfl | (simp [errW_none, errW_some] <;> rfl) | (simp [*, errW_none, errW_some] <;> rfl), by repeat (first | (with_reducible first | exact HB.out | apply below_alloc | apply pw_below_drewN | apply below_drew1) | exact HB.out)⟩
  · replace c6 := Bool.eq_false_iff.mpr c6
    subst c6
    have H1 : (some false) = some r := by rw [if_neg (show ¬ (false = true) by decide)] at H; exact H
    clear H
    have H := H1
    clear H1
    obtain rfl := Option.some.inj H
    go_enter Try.func7, Try.ntmps7
    go_wp2_with (first | ((with_reducible refine gate_callee (f := 14) rfl ?_); refine goesL_ (some 13) rfl rfl Try.func14 (by kernel_rfl) rfl #[] rfl (by (try simp only [List.map_toArray, List.map_cons, List.map_nil]); first | done | rfl | (simp only [List.length_drop, List.length_take]; rfl)) ?_; (with_reducible refine (primroselaw05_awake.calls k  false _ A5.out).mono ?_); rintro e w39 ⟨rfl, hb⟩; refine ⟨_, rfl, ?_⟩; have n0_ := Aside0.mk (below_step (by repeat (first | (with_reducible first | exact HB.out | apply below_alloc | apply pw_below_drewN | apply below_drew1) | exact HB.out)) hb); clear HB; have HB := n0_; clear n0_; (try clear hb); (try clear hb2); (try clear hk); (try clear hi)))
    go_ret
    exact ⟨by first | rfl | (simp [errW_none, errW_some] <;> rfl) | (simp [*, errW_none, errW_some] <;> rfl), by repeat (first | (with_reducible first | exact HB.out | apply below_alloc | apply pw_below_drewN | apply below_drew1) | exact HB.out)⟩

/-- THE ONE PURE STATEMENT of primroselaw05_PrimeField: yours. -/
def primroselaw05_PrimeField.Pure : Prop := ∀ (a0 : Int) (a1 : Int) (a2 : Int) (a3 : Int), (Lit.int .i64 a0).wf = true → (Lit.int .i64 a1).wf = true → (Lit.int .i64 a2).wf = true → (Lit.int .i64 a3).wf = true → ∃ k, primroselaw05_PrimeField.f k a0 a1 a2 a3 = some true
theorem primroselaw05_PrimeField.walk (P : primroselaw05_PrimeField.Pure) (a0 : Int) (a1 : Int) (a2 : Int) (a3 : Int) (w : World) (w0 : (Lit.int .i64 a0).wf = true) (w1 : (Lit.int .i64 a1).wf = true) (w2 : (Lit.int .i64 a2).wf = true) (w3 : (Lit.int .i64 a3).wf = true) :
    Calls Try.prog 7 #[.int .i64 a0, .int .i64 a1, .int .i64 a2, .int .i64 a3] w fun e w' => e = .returned (.bool true) ∧ Below w.heap.size w w' := by
  obtain ⟨k, h⟩ := P a0 a1 a2 a3 w0 w1 w2 w3
  refine (primroselaw05_PrimeField.calls k a0 a1 a2 a3 true w h).mono ?_
  rintro e w' ⟨rfl, hd⟩
  exact ⟨rfl, hd⟩

end Go.Proofs.Ytmgjjdodjamomaa.PA
