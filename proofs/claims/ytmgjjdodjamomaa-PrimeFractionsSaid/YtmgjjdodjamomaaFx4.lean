/- Functions with the same answers as the Go code, and the proofs of that; printed by a turned copy of the print, shortened by programs (wip/tools). -/
import Derived.Test.YtmgjjdodjamomaaFW
import Derived.Test.YtmgjjdodjamomaaFx0
import Derived.Test.YtmgjjdodjamomaaFx1
import Derived.Test.YtmgjjdodjamomaaFx2
import Derived.Test.YtmgjjdodjamomaaFx3
namespace Go.Proofs.Ytmgjjdodjamomaa.PB
open Go.RowKit Go.Proofs.YtmgjjdodjamomaaW.PrintWords Go.Proofs.YtmgjjdodjamomaaW.PrintLast Go.Proofs.YtmgjjdodjamomaaW.PrintMore
attribute [local go_sem] max2_int max_two
set_option linter.unusedVariables false
set_option linter.unusedSimpArgs false
def prime_Half.f (k : Nat) (a0 : Int) (a1 : Int) : Option (Int) := (prime_Is.f k a1).bind fun t109 => (if t109 = true then ((prime_rest.f a0 a1).bind fun t110 => (if t110 > (wrap64 (Int.tdiv a1 2)) then (some (wrap64 (t110 - a1))) else (some t110))) else (some 0))
theorem prime_Half.mono : ∀ a0 a1 k, LeO (prime_Half.f k a0 a1) (prime_Half.f (k + 1) a0 a1) := by
  intro a0 a1 k
  unfold prime_Half.f
  repeat' first | (with_reducible exact prime_Is.mono _ _) | (with_reducible exact LeO.refl _) | (with_reducible refine LeO.bind ?_ (fun _ => ?_))
set_option maxHeartbeats 8000000 in
set_option maxRecDepth 100000 in
theorem prime_Half.calls (k : Nat) (a0 : Int) (a1 : Int) (r : Int) (w : World) (h : prime_Half.f k a0 a1 = some r) :
    Calls Try.prog 25 #[.int .i64 a0, .int .i64 a1] w fun e w' => e = .returned (.int .i64 r) ∧ Drawn0 w w' := by
  have H : ((prime_Is.f k a1).bind fun t109 => (if t109 = true then ((prime_rest.f a0 a1).bind fun t110 => (if t110 > (wrap64 (Int.tdiv a1 2)) then (some (wrap64 (t110 - a1))) else (some t110))) else (some 0))) = some r := h
  clear h
  replace H := Option.bind_eq_some_iff.mp H
  obtain ⟨t109, A30, H⟩ := H
  replace H : (if t109 = true then ((prime_rest.f a0 a1).bind fun t110 => (if t110 > (wrap64 (Int.tdiv a1 2)) then (some (wrap64 (t110 - a1))) else (some t110))) else (some 0)) = some r := H
  have A3 := Aside0.mk A30
  clear A30
  by_cases c4 : t109 = true
  · subst c4
    have H1 : ((prime_rest.f a0 a1).bind fun t110 => (if t110 > (wrap64 (Int.tdiv a1 2)) then (some (wrap64 (t110 - a1))) else (some t110))) = some r := by rw [if_pos rfl] at H; exact H
    clear H
    have H := H1
    clear H1
    replace H := Option.bind_eq_some_iff.mp H
    obtain ⟨t110, A50, H⟩ := H
    replace H : (if t110 > (wrap64 (Int.tdiv a1 2)) then (some (wrap64 (t110 - a1))) else (some t110)) = some r := H
    have A5 := Aside0.mk A50
    clear A50
    by_cases c6 : t110 > (wrap64 (Int.tdiv a1 2))
    · rw [if_pos c6] at H
      have c6b0 : decide ((wrap64 (Int.tdiv a1 2)) < t110) = true := decide_eq_true c6
      clear c6
      obtain rfl := Option.some.inj H
      go_enter Try.func25, Try.ntmps25
      go_wp2_with (first | ((with_reducible refine gate_callee (f := 12) rfl ?_); refine goesL_ (some 7) rfl rfl Try.func12 (by kernel_rfl) rfl #[.int .i64 a1] rfl (by (try simp only [List.map_toArray, List.map_cons, List.map_nil]); rfl) ?_; (with_reducible refine (prime_Is.calls k a1 true _ A3.out).mono ?_); rintro e w' ⟨rfl, ⟨nd, rfl⟩⟩; refine ⟨_, rfl, ?_⟩) | ((with_reducible refine gate_callee (f := 36) rfl ?_); refine goesL_ (some 11) rfl rfl Try.func36 (by kernel_rfl) rfl #[.int .i64 a0, .int .i64 a1] rfl (by (try simp only [List.map_toArray, List.map_cons, List.map_nil]); rfl) ?_; (with_reducible refine (prime_rest.calls a0 a1 t110 _ A5.out).mono ?_); rintro e w' ⟨rfl, ⟨nd, rfl⟩⟩; refine ⟨_, rfl, ?_⟩))
      go_ret
      exact ⟨by (rfl), by repeat (first | exact Drawn0.refl _ | apply Drawn0.step)⟩
    · rw [if_neg c6] at H
      have c6b0 : decide ((wrap64 (Int.tdiv a1 2)) < t110) = false := decide_eq_false c6
      clear c6
      obtain rfl := Option.some.inj H
      go_enter Try.func25, Try.ntmps25
      go_wp2_with (first | ((with_reducible refine gate_callee (f := 12) rfl ?_); refine goesL_ (some 7) rfl rfl Try.func12 (by kernel_rfl) rfl #[.int .i64 a1] rfl (by (try simp only [List.map_toArray, List.map_cons, List.map_nil]); rfl) ?_; (with_reducible refine (prime_Is.calls k a1 true _ A3.out).mono ?_); rintro e w' ⟨rfl, ⟨nd, rfl⟩⟩; refine ⟨_, rfl, ?_⟩) | ((with_reducible refine gate_callee (f := 36) rfl ?_); refine goesL_ (some 11) rfl rfl Try.func36 (by kernel_rfl) rfl #[.int .i64 a0, .int .i64 a1] rfl (by (try simp only [List.map_toArray, List.map_cons, List.map_nil]); rfl) ?_; (with_reducible refine (prime_rest.calls a0 a1 t110 _ A5.out).mono ?_); rintro e w' ⟨rfl, ⟨nd, rfl⟩⟩; refine ⟨_, rfl, ?_⟩))
      go_ret
      exact ⟨by (rfl), by repeat (first | exact Drawn0.refl _ | apply Drawn0.step)⟩
  · replace c4 := Bool.eq_false_iff.mpr c4
    subst c4
    have H1 : (some 0) = some r := by rw [if_neg (show ¬ (false = true) by decide)] at H; exact H
    clear H
    have H := H1
    clear H1
    obtain rfl := Option.some.inj H
    go_enter Try.func25, Try.ntmps25
    go_wp2_with ((with_reducible refine gate_callee (f := 12) rfl ?_); refine goesL_ (some 7) rfl rfl Try.func12 (by kernel_rfl) rfl #[.int .i64 a1] rfl (by (try simp only [List.map_toArray, List.map_cons, List.map_nil]); rfl) ?_; (with_reducible refine (prime_Is.calls k a1 false _ A3.out).mono ?_); rintro e w' ⟨rfl, ⟨nd, rfl⟩⟩; refine ⟨_, rfl, ?_⟩)
    go_ret
    exact ⟨by (rfl), by repeat (first | exact Drawn0.refl _ | apply Drawn0.step)⟩
def primroselaw05_awake.f (k : Nat)  : Option (Bool) := (prime_Is.f k 7).bind fun t111 => (if t111 = true then ((prime_Is.f k 9).bind fun t112 => (if t112 = true then (some false) else ((prime_After.f k 7).bind fun t113 => (if t113 = 11 then ((prime_Inv.f k 3 7).bind fun t114 => (if t114 = 5 then ((prime_Half.f k 4 5).bind fun t115 => (if t115 = (-1) then ((prime_Pow.f k 2 10 1000003).bind fun t116 => (some (t116 == 1024))) else (some false))) else (some false))) else (some false))))) else (some false))
theorem primroselaw05_awake.mono : ∀ k, LeO (primroselaw05_awake.f k ) (primroselaw05_awake.f (k + 1) ) := by
  intro  k
  unfold primroselaw05_awake.f
  repeat' first | (with_reducible exact prime_After.mono _ _) | (with_reducible exact prime_Half.mono _ _ _) | (with_reducible exact prime_Inv.mono _ _ _) | (with_reducible exact prime_Is.mono _ _) | (with_reducible exact prime_Pow.mono _ _ _ _) | (with_reducible exact LeO.refl _) | (with_reducible refine LeO.ite ?_ ?_) | (with_reducible refine LeO.bind ?_ (fun _ => ?_))
set_option maxHeartbeats 8000000 in
set_option maxRecDepth 100000 in
theorem primroselaw05_awake.calls (k : Nat)  (r : Bool) (w : World) (h : primroselaw05_awake.f k  = some r) :
    Calls Try.prog 14 #[] w fun e w' => e = .returned (.bool r) ∧ Below w.heap.size w w' := by
  have HB := Aside0.mk (Below.refl w.heap.size w)
  have H : ((prime_Is.f k 7).bind fun t111 => (if t111 = true then ((prime_Is.f k 9).bind fun t112 => (if t112 = true then (some false) else ((prime_After.f k 7).bind fun t113 => (if t113 = 11 then ((prime_Inv.f k 3 7).bind fun t114 => (if t114 = 5 then ((prime_Half.f k 4 5).bind fun t115 => (if t115 = (-1) then ((prime_Pow.f k 2 10 1000003).bind fun t116 => (some (t116 == 1024))) else (some false))) else (some false))) else (some false))))) else (some false))) = some r := h
  clear h
  replace H := Option.bind_eq_some_iff.mp H
  obtain ⟨t111, A10, H⟩ := H
  replace H : (if t111 = true then ((prime_Is.f k 9).bind fun t112 => (if t112 = true then (some false) else ((prime_After.f k 7).bind fun t113 => (if t113 = 11 then ((prime_Inv.f k 3 7).bind fun t114 => (if t114 = 5 then ((prime_Half.f k 4 5).bind fun t115 => (if t115 = (-1) then ((prime_Pow.f k 2 10 1000003).bind fun t116 => (some (t116 == 1024))) else (some false))) else (some false))) else (some false))))) else (some false)) = some r := H
  have A1 := Aside0.mk A10
  clear A10
  by_cases c2 : t111 = true
  · subst c2
    have H1 : ((prime_Is.f k 9).bind fun t112 => (if t112 = true then (some false) else ((prime_After.f k 7).bind fun t113 => (if t113 = 11 then ((prime_Inv.f k 3 7).bind fun t114 => (if t114 = 5 then ((prime_Half.f k 4 5).bind fun t115 => (if t115 = (-1) then ((prime_Pow.f k 2 10 1000003).bind fun t116 => (some (t116 == 1024))) else (some false))) else (some false))) else (some false))))) = some r := by rw [if_pos rfl] at H; exact H
    clear H
    have H := H1
    clear H1
    replace H := Option.bind_eq_some_iff.mp H
    obtain ⟨t112, A30, H⟩ := H
    replace H : (if t112 = true then (some false) else ((prime_After.f k 7).bind fun t113 => (if t113 = 11 then ((prime_Inv.f k 3 7).bind fun t114 => (if t114 = 5 then ((prime_Half.f k 4 5).bind fun t115 => (if t115 = (-1) then ((prime_Pow.f k 2 10 1000003).bind fun t116 => (some (t116 == 1024))) else (some false))) else (some false))) else (some false)))) = some r := H
    have A3 := Aside0.mk A30
    clear A30
    by_cases c4 : t112 = true
    · subst c4
      have H1 : (some false) = some r := by rw [if_pos rfl] at H; exact H
      clear H
      have H := H1
      clear H1
      obtain rfl := Option.some.inj H
      go_enter Try.func14, Try.ntmps14
      go_wp2_with (first | ((with_reducible refine gate_callee (f := 12) rfl ?_); refine goesL_ (some 1) rfl rfl Try.func12 (by kernel_rfl) rfl #[.int .i64 7] rfl (by (try simp only [List.map_toArray, List.map_cons, List.map_nil]); rfl) ?_; (with_reducible refine (prime_Is.calls k 7 true _ A1.out).mono ?_); rintro e w' ⟨rfl, ⟨nd, rfl⟩⟩; refine ⟨_, rfl, ?_⟩) | (go_at_call 12; (with_reducible refine (prime_Is.calls k 9 true _ A3.out).mono ?_); rintro e w' ⟨rfl, ⟨nd, rfl⟩⟩))
      go_ret
      exact ⟨by (rfl), by repeat (with_reducible first | exact HB.out | apply pw_below_drewN)⟩
    · replace c4 := Bool.eq_false_iff.mpr c4
      subst c4
      have H1 : ((prime_After.f k 7).bind fun t113 => (if t113 = 11 then ((prime_Inv.f k 3 7).bind fun t114 => (if t114 = 5 then ((prime_Half.f k 4 5).bind fun t115 => (if t115 = (-1) then ((prime_Pow.f k 2 10 1000003).bind fun t116 => (some (t116 == 1024))) else (some false))) else (some false))) else (some false))) = some r := by rw [if_neg (show ¬ (false = true) by decide)] at H; exact H
      clear H
      have H := H1
      clear H1
      replace H := Option.bind_eq_some_iff.mp H
      obtain ⟨t113, A50, H⟩ := H
      replace H : (if t113 = 11 then ((prime_Inv.f k 3 7).bind fun t114 => (if t114 = 5 then ((prime_Half.f k 4 5).bind fun t115 => (if t115 = (-1) then ((prime_Pow.f k 2 10 1000003).bind fun t116 => (some (t116 == 1024))) else (some false))) else (some false))) else (some false)) = some r := H
      have A5 := Aside0.mk A50
      clear A50
      by_cases c6 : t113 = 11
      · rw [if_pos c6] at H
        have c6b0 : (t113 == 11) = true := beq_iff_eq.mpr c6
        have c6b1 : (t113 != 11) = false := bne_eq_false_iff_eq.mpr c6
        clear c6
        replace H := Option.bind_eq_some_iff.mp H
        obtain ⟨t114, A70, H⟩ := H
        replace H : (if t114 = 5 then ((prime_Half.f k 4 5).bind fun t115 => (if t115 = (-1) then ((prime_Pow.f k 2 10 1000003).bind fun t116 => (some (t116 == 1024))) else (some false))) else (some false)) = some r := H
        have A7 := Aside0.mk A70
        clear A70
        by_cases c8 : t114 = 5
        · rw [if_pos c8] at H
          have c8b0 : (t114 == 5) = true := beq_iff_eq.mpr c8
          have c8b1 : (t114 != 5) = false := bne_eq_false_iff_eq.mpr c8
          clear c8
          replace H := Option.bind_eq_some_iff.mp H
          obtain ⟨t115, A90, H⟩ := H
          replace H : (if t115 = (-1) then ((prime_Pow.f k 2 10 1000003).bind fun t116 => (some (t116 == 1024))) else (some false)) = some r := H
          have A9 := Aside0.mk A90
          clear A90
          by_cases c10 : t115 = (-1)
          · rw [if_pos c10] at H
            have c10b0 : (t115 == (-1)) = true := beq_iff_eq.mpr c10
            have c10b1 : (t115 != (-1)) = false := bne_eq_false_iff_eq.mpr c10
            clear c10
            replace H := Option.bind_eq_some_iff.mp H
            obtain ⟨t116, A110, H⟩ := H
            replace H : (some (t116 == 1024)) = some r := H
            have A11 := Aside0.mk A110
            clear A110
            obtain rfl := Option.some.inj H
            go_enter Try.func14, Try.ntmps14
            go_wp2_with (first | ((with_reducible refine gate_callee (f := 12) rfl ?_); refine goesL_ (some 1) rfl rfl Try.func12 (by kernel_rfl) rfl #[.int .i64 7] rfl (by (try simp only [List.map_toArray, List.map_cons, List.map_nil]); rfl) ?_; (with_reducible refine (prime_Is.calls k 7 true _ A1.out).mono ?_); rintro e w' ⟨rfl, ⟨nd, rfl⟩⟩; refine ⟨_, rfl, ?_⟩) | (go_at_call 12; (with_reducible refine (prime_Is.calls k 9 false _ A3.out).mono ?_); rintro e w' ⟨rfl, ⟨nd, rfl⟩⟩) | (go_at_call 15; (with_reducible refine (prime_After.calls k 7 t113 _ A5.out).mono ?_); rintro e w12 ⟨rfl, hb⟩; replace HB := Aside0.mk (below_step (by repeat (with_reducible first | exact HB.out | apply pw_below_drewN)) hb); (try clear hb)) | (go_at_call 19; (with_reducible refine (prime_Inv.calls k 3 7 t114 _ A7.out).mono ?_); rintro e w' ⟨rfl, ⟨nd, rfl⟩⟩) | (go_at_call 25; (with_reducible refine (prime_Half.calls k 4 5 t115 _ A9.out).mono ?_); rintro e w' ⟨rfl, ⟨nd, rfl⟩⟩) | (go_at_call 17; (with_reducible refine (prime_Pow.calls k 2 10 1000003 t116 _ A11.out).mono ?_); rintro e w' ⟨rfl, ⟨nd, rfl⟩⟩))
            go_ret
            exact ⟨by (rfl), by repeat (with_reducible first | exact HB.out | apply pw_below_drewN)⟩
          · rw [if_neg c10] at H
            have c10b0 : (t115 == (-1)) = false := beq_eq_false_iff_ne.mpr c10
            have c10b1 : (t115 != (-1)) = true := bne_iff_ne.mpr c10
            obtain rfl := Option.some.inj H
            go_enter Try.func14, Try.ntmps14
            go_wp2_with (first | ((with_reducible refine gate_callee (f := 12) rfl ?_); refine goesL_ (some 1) rfl rfl Try.func12 (by kernel_rfl) rfl #[.int .i64 7] rfl (by (try simp only [List.map_toArray, List.map_cons, List.map_nil]); rfl) ?_; (with_reducible refine (prime_Is.calls k 7 true _ A1.out).mono ?_); rintro e w' ⟨rfl, ⟨nd, rfl⟩⟩; refine ⟨_, rfl, ?_⟩) | (go_at_call 12; (with_reducible refine (prime_Is.calls k 9 false _ A3.out).mono ?_); rintro e w' ⟨rfl, ⟨nd, rfl⟩⟩) | (go_at_call 15; (with_reducible refine (prime_After.calls k 7 t113 _ A5.out).mono ?_); rintro e w13 ⟨rfl, hb⟩; replace HB := Aside0.mk (below_step (by repeat (with_reducible first | exact HB.out | apply pw_below_drewN)) hb); (try clear hb)) | (go_at_call 19; (with_reducible refine (prime_Inv.calls k 3 7 t114 _ A7.out).mono ?_); rintro e w' ⟨rfl, ⟨nd, rfl⟩⟩) | (go_at_call 25; (with_reducible refine (prime_Half.calls k 4 5 t115 _ A9.out).mono ?_); rintro e w' ⟨rfl, ⟨nd, rfl⟩⟩))
            go_ret
            exact ⟨by (rfl), by repeat (with_reducible first | exact HB.out | apply pw_below_drewN)⟩
        · rw [if_neg c8] at H
          have c8b0 : (t114 == 5) = false := beq_eq_false_iff_ne.mpr c8
          have c8b1 : (t114 != 5) = true := bne_iff_ne.mpr c8
          obtain rfl := Option.some.inj H
          go_enter Try.func14, Try.ntmps14
          go_wp2_with (first | ((with_reducible refine gate_callee (f := 12) rfl ?_); refine goesL_ (some 1) rfl rfl Try.func12 (by kernel_rfl) rfl #[.int .i64 7] rfl (by (try simp only [List.map_toArray, List.map_cons, List.map_nil]); rfl) ?_; (with_reducible refine (prime_Is.calls k 7 true _ A1.out).mono ?_); rintro e w' ⟨rfl, ⟨nd, rfl⟩⟩; refine ⟨_, rfl, ?_⟩) | (go_at_call 12; (with_reducible refine (prime_Is.calls k 9 false _ A3.out).mono ?_); rintro e w' ⟨rfl, ⟨nd, rfl⟩⟩) | (go_at_call 15; (with_reducible refine (prime_After.calls k 7 t113 _ A5.out).mono ?_); rintro e w14 ⟨rfl, hb⟩; replace HB := Aside0.mk (below_step (by repeat (with_reducible first | exact HB.out | apply pw_below_drewN)) hb); (try clear hb)) | (go_at_call 19; (with_reducible refine (prime_Inv.calls k 3 7 t114 _ A7.out).mono ?_); rintro e w' ⟨rfl, ⟨nd, rfl⟩⟩))
          go_ret
          exact ⟨by (rfl), by repeat (with_reducible first | exact HB.out | apply pw_below_drewN)⟩
      · rw [if_neg c6] at H
        have c6b0 : (t113 == 11) = false := beq_eq_false_iff_ne.mpr c6
        have c6b1 : (t113 != 11) = true := bne_iff_ne.mpr c6
        obtain rfl := Option.some.inj H
        go_enter Try.func14, Try.ntmps14
        go_wp2_with (first | ((with_reducible refine gate_callee (f := 12) rfl ?_); refine goesL_ (some 1) rfl rfl Try.func12 (by kernel_rfl) rfl #[.int .i64 7] rfl (by (try simp only [List.map_toArray, List.map_cons, List.map_nil]); rfl) ?_; (with_reducible refine (prime_Is.calls k 7 true _ A1.out).mono ?_); rintro e w' ⟨rfl, ⟨nd, rfl⟩⟩; refine ⟨_, rfl, ?_⟩) | (go_at_call 12; (with_reducible refine (prime_Is.calls k 9 false _ A3.out).mono ?_); rintro e w' ⟨rfl, ⟨nd, rfl⟩⟩) | (go_at_call 15; (with_reducible refine (prime_After.calls k 7 t113 _ A5.out).mono ?_); rintro e w15 ⟨rfl, hb⟩; replace HB := Aside0.mk (below_step (by repeat (with_reducible first | exact HB.out | apply pw_below_drewN)) hb); (try clear hb)))
        go_ret
        exact ⟨by (rfl), (HB.out)⟩
  · replace c2 := Bool.eq_false_iff.mpr c2
    subst c2
    have H1 : (some false) = some r := by rw [if_neg (show ¬ (false = true) by decide)] at H; exact H
    clear H
    have H := H1
    clear H1
    obtain rfl := Option.some.inj H
    go_enter Try.func14, Try.ntmps14
    go_wp2_with ((with_reducible refine gate_callee (f := 12) rfl ?_); refine goesL_ (some 1) rfl rfl Try.func12 (by kernel_rfl) rfl #[.int .i64 7] rfl (by (try simp only [List.map_toArray, List.map_cons, List.map_nil]); rfl) ?_; (with_reducible refine (prime_Is.calls k 7 false _ A1.out).mono ?_); rintro e w' ⟨rfl, ⟨nd, rfl⟩⟩; refine ⟨_, rfl, ?_⟩)
    go_ret
    exact ⟨by (rfl), by repeat (with_reducible first | exact HB.out | apply pw_below_drewN)⟩
end Go.Proofs.Ytmgjjdodjamomaa.PB
