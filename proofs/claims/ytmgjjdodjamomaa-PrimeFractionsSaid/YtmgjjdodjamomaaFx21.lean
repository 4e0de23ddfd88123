/- Functions with the same answers as the Go code, and the proofs of that; printed by a turned copy of the print, shortened by programs (wip/tools). -/
import Derived.Test.YtmgjjdodjamomaaFW
import Derived.Test.YtmgjjdodjamomaaFx0
import Derived.Test.YtmgjjdodjamomaaFx11
import Derived.Test.YtmgjjdodjamomaaFx13
import Derived.Test.YtmgjjdodjamomaaFx19
import Derived.Test.YtmgjjdodjamomaaFx20
namespace Go.Proofs.Ytmgjjdodjamomaa.PB
open Go.RowKit Go.Proofs.YtmgjjdodjamomaaW.PrintWords Go.Proofs.YtmgjjdodjamomaaW.PrintLast Go.Proofs.YtmgjjdodjamomaaW.PrintMore
attribute [local go_sem] max2_int max_two
set_option linter.unusedVariables false
set_option linter.unusedSimpArgs false
mutual
def primroseref01_DivMod.j0 : Nat → List Int → List Int → Int → Int → Bool → Option (List Int × List Int × Bool)
  | 0, _, _, _, _, _ => none
  | k + 1, x0, x1, x7, x9, x34 => if x34 = true then (if x9 = 0 then (none) else ((primroseref01_Of.f k (wrap64 (Int.tdiv x7 x9))).bind fun t353 => ((primroseref01_Of.f k (Int.tmod x7 x9)).bind fun t356 => (some (t353, t356, true))))) else (if 0 ≤ (x0.length : Int) then (if ((x0.length : Int) : Int).toNat ≤ 70368744177664 then (if 0 ≤ (wrap64 ((x1.length : Int) + 1)) then (if (wrap64 ((x1.length : Int) + 1) : Int).toNat ≤ 70368744177664 then ((primroseref01_Bits.f k x0).bind fun t365 => (primroseref01_DivMod.l0 k x0 x1 (List.replicate ((x0.length : Int) : Int).toNat 0) (List.replicate (wrap64 ((x1.length : Int) + 1) : Int).toNat 0) (wrap64 (t365 - 1)))) else (none)) else (none)) else (none)) else (none))
def primroseref01_DivMod.l0 : Nat → List Int → List Int → List Int → List Int → Int → Option (List Int × List Int × Bool)
  | 0, _, _, _, _, _ => none
  | k + 1, x0, x1, x11, x12, x13 => if x13 ≥ 0 then ((primroseref01_bit.f x0 x13).bind fun t372 => ((primroseref01_push.f k x12 t372).bind fun t373 => ((primroseref01_Cmp.f k t373 x1).bind fun t374 => (if t374 ≥ 0 then ((primroseref01_take.f k t373 x1).bind fun t375 => (if 0 ≤ (wrap64 (Int.tdiv x13 32)) then (if (wrap64 (Int.tdiv x13 32)) < (x11.length : Int) then (if 0 ≤ (Int.tmod x13 32) then (primroseref01_DivMod.l0 k x0 x1 (x11.set ((wrap64 (Int.tdiv x13 32)) : Int).toNat (((rd x11 (wrap64 (Int.tdiv x13 32))) + (shl .u32 1 (Int.tmod x13 32))) % 4294967296)) t375 (wrap64 (x13 - 1))) else (none)) else (none)) else (none))) else (primroseref01_DivMod.l0 k x0 x1 x11 t373 (wrap64 (x13 - 1))))))) else ((primroseref01_Plain.f k x11).bind fun t366 => ((primroseref01_Plain.f k x12).bind fun t369 => (some (t366, t369, true))))
end
def primroseref01_DivMod.f (k : Nat) (l0 : List Int) (l1 : List Int) : Option (List Int × List Int × Bool) := (primroseref01_Plain.f k l0).bind fun t343 => ((primroseref01_Plain.f k l1).bind fun t346 => (if (t346.length : Int) = 0 then (some (([] : List Int), ([] : List Int), false)) else ((primroseref01_Small.f k t343).bind fun bt349 => ((primroseref01_Small.f k t346).bind fun bt351 => (if bt349.2 = true then (primroseref01_DivMod.j0 k t343 t346 bt349.1 bt351.1 bt351.2) else (primroseref01_DivMod.j0 k t343 t346 bt349.1 bt351.1 false))))))
def primroseref01_DivMod.T7 : Bool × List (List Nat × List Nat) := (true, [([], []), ([], []), ([0, 1], [0, 1]), ([2], [2]), ([], []), ([], []), ([4, 5], [4, 5]), ([6, 3], [6]), ([3, 7, 0, 1, 2, 3], [3]), ([7, 8, 0, 1, 2, 3, 4, 5, 6, 7, 8], [7]), ([9, 0, 1, 2, 3, 4, 5, 6, 7, 8, 9], [])])
def primroseref01_DivMod.B7 : List Nat := [0, 0, 3, 7, 0, 0, 48, 127, 255, 511, 1023]
theorem primroseref01_DivMod.tab7 : rtab .any (opsOf Try.f53 7) = primroseref01_DivMod.T7 := by kernel_rfl
theorem primroseref01_DivMod.bits7 : waitsOk primroseref01_DivMod.T7.2 primroseref01_DivMod.B7 = true := by kernel_rfl
def primroseref01_DivMod.T16 : Bool × List (List Nat × List Nat) := (true, [([], []), ([], []), ([1], [1]), ([], []), ([], []), ([4], [4]), ([3, 5], [3, 5]), ([6], [6]), ([], []), ([8], [8]), ([9], [9]), ([7, 10], [7, 10]), ([0, 2, 0, 1, 2, 3, 4, 5, 6, 7, 8, 9, 10, 11], [0, 2]), ([12, 11, 0, 1, 2, 3, 4, 5, 6, 7, 8, 9, 10, 11], [11, 12])])
def primroseref01_DivMod.B16 : List Nat := [0, 0, 2, 0, 0, 16, 56, 120, 0, 256, 768, 2040, 4095, 8191]
theorem primroseref01_DivMod.tab16 : rtab .any (opsOf Try.f53 16) = primroseref01_DivMod.T16 := by kernel_rfl
theorem primroseref01_DivMod.bits16 : waitsOk primroseref01_DivMod.T16.2 primroseref01_DivMod.B16 = true := by kernel_rfl
set_option maxHeartbeats 8000000 in
set_option maxRecDepth 100000 in
theorem primroseref01_DivMod.calls (k : Nat) (A0 : Option Addr) (c0 : Nat) (l0 : List Int) (A1 : Option Addr) (c1 : Nat) (l1 : List Int) (r1 : List Int) (r2 : List Int) (r3 : Bool) (w : World) (hr0 : Kd.C (Kd.int .u32) w A0 l0.length l0) (hc0 : l0.length ≤ c0) (hr1 : Kd.C (Kd.int .u32) w A1 l1.length l1) (hc1 : l1.length ≤ c1) (h : primroseref01_DivMod.f k l0 l1 = some (r1, r2, r3)) :
    Calls Try.prog 53 #[.slice A0 l0.length c0, .slice A1 l1.length c1] w fun e w' => ∃ v0_ v1_ : Value, e = .returned (.tuple #[v0_, v1_, .bool r3]) ∧ Kd.R (Kd.int .u32) 59 w' w.heap.size (fun k_ => some k_ ≠ (v1_ : Value).ownBlock) v0_ r1 ∧ Kd.R (Kd.int .u32) 59 w' w.heap.size (fun k_ => some k_ ≠ (v0_ : Value).ownBlock) v1_ r2 ∧ Below w.heap.size w w' := by
  have HR0 := Aside0.mk hr0
  have HC0 := Aside0.mk hc0
  clear hr0 hc0
  have HR1 := Aside0.mk hr1
  have HC1 := Aside0.mk hc1
  clear hr1 hc1
  have HB := Aside0.mk (Below.refl w.heap.size w)
  have H : ((primroseref01_Plain.f k l0).bind fun t343 => ((primroseref01_Plain.f k l1).bind fun t346 => (if (t346.length : Int) = 0 then (some (([] : List Int), ([] : List Int), false)) else ((primroseref01_Small.f k t343).bind fun bt349 => ((primroseref01_Small.f k t346).bind fun bt351 => (if bt349.2 = true then (primroseref01_DivMod.j0 k t343 t346 bt349.1 bt351.1 bt351.2) else (primroseref01_DivMod.j0 k t343 t346 bt349.1 bt351.1 false))))))) = some (r1, r2, r3) := h
  clear h
  replace H := Option.bind_eq_some_iff.mp H
  obtain ⟨t343, A30, H⟩ := H
  replace H : ((primroseref01_Plain.f k l1).bind fun t346 => (if (t346.length : Int) = 0 then (some (([] : List Int), ([] : List Int), false)) else ((primroseref01_Small.f k t343).bind fun bt349 => ((primroseref01_Small.f k t346).bind fun bt351 => (if bt349.2 = true then (primroseref01_DivMod.j0 k t343 t346 bt349.1 bt351.1 bt351.2) else (primroseref01_DivMod.j0 k t343 t346 bt349.1 bt351.1 false)))))) = some (r1, r2, r3) := H
  have A3 := Aside0.mk A30
  clear A30
  replace H := Option.bind_eq_some_iff.mp H
  obtain ⟨t346, A40, H⟩ := H
  replace H : (if (t346.length : Int) = 0 then (some (([] : List Int), ([] : List Int), false)) else ((primroseref01_Small.f k t343).bind fun bt349 => ((primroseref01_Small.f k t346).bind fun bt351 => (if bt349.2 = true then (primroseref01_DivMod.j0 k t343 t346 bt349.1 bt351.1 bt351.2) else (primroseref01_DivMod.j0 k t343 t346 bt349.1 bt351.1 false))))) = some (r1, r2, r3) := H
  have A4 := Aside0.mk A40
  clear A40
  by_cases c5 : (t346.length : Int) = 0
  · rw [if_pos c5] at H
    have c5b0 : ((t346.length : Int) == 0) = true := beq_iff_eq.mpr c5
    have c5b1 : ((t346.length : Int) != 0) = false := bne_eq_false_iff_eq.mpr c5
    clear c5
    simp only [Option.some.injEq, Prod.mk.injEq] at H
    obtain ⟨rfl, rfl, rfl⟩ := H
    go_enter Try.func53, Try.ntmps53
    go_wp2_with (first | ((with_reducible refine gate_callee (f := 51) rfl ?_); refine goesL_ (some 15) rfl rfl Try.func51 (by kernel_rfl) rfl #[.slice A0 l0.length c0] rfl (by (try simp only [List.map_toArray, List.map_cons, List.map_nil]); rfl) ?_; (with_reducible refine (primroseref01_Plain.calls k _ _ l0 t343 _ ?side1 ?side2 A3.out).mono ?_); (case side1 => exact HR0.out); (case side2 => exact HC0.out); rintro e w6 ⟨v344, rfl, ho0, hb⟩; refine ⟨_, rfl, ?_⟩; have HO345 := Aside0.mk (Kd.R_lower ho0 (below_size (HB.out))); replace HB := Aside0.mk (below_step (HB.out) hb); (try clear hb); (try clear ho0)) | ((with_reducible refine gate_callee (f := 51) rfl ?_); refine goesL_ (some 17) rfl rfl Try.func51 (by kernel_rfl) rfl #[.slice A1 l1.length c1] rfl (by (try simp only [List.map_toArray, List.map_cons, List.map_nil]); rfl) ?_; (with_reducible refine (primroseref01_Plain.calls k _ _ l1 t346 _ ?side1 ?side2 A4.out).mono ?_); (case side1 => exact (Kd.C_below HR1.out HB.out)); (case side2 => exact HC1.out); rintro e w7 ⟨v347, rfl, ho0, hb⟩; refine ⟨_, rfl, ?_⟩; have n0_ := Aside0.mk (Kd.R_elder' (HO345.out) (Kd.R_base ho0) hb); have n1_ := Aside0.mk (Kd.R_lower (Kd.R_new' ho0 (Kd.R_lt (HO345.out))) (below_size (HB.out))); have n2_ := Aside0.mk (below_step (HB.out) hb); clear HO345; clear HB; have HO345 := n0_; have HO348 := n1_; have HB := n2_; clear n0_ n1_ n2_; (try clear hb); (try clear ho0); obtain ⟨Ao8, co8, eo8⟩ := Kd.R_slice HO348.out; subst eo8))
    go_ret3
    exact ⟨_, _, by (rfl), (Kd.R_nil _ _ _ _ _), (Kd.R_nil _ _ _ _ _), (HB.out)⟩
  · rw [if_neg c5] at H
    have c5b0 : ((t346.length : Int) == 0) = false := beq_eq_false_iff_ne.mpr c5
    have c5b1 : ((t346.length : Int) != 0) = true := bne_iff_ne.mpr c5
    have c5b2 : ¬ (t346 = []) := fun h_ => c5 (by rw [h_]; rfl)
    replace H := Option.bind_eq_some_iff.mp H
    obtain ⟨⟨t349, t350⟩, A90, H⟩ := H
    replace H : ((primroseref01_Small.f k t346).bind fun bt351 => (if t350 = true then (primroseref01_DivMod.j0 k t343 t346 t349 bt351.1 bt351.2) else (primroseref01_DivMod.j0 k t343 t346 t349 bt351.1 false))) = some (r1, r2, r3) := H
    have A9 := Aside0.mk A90
    clear A90
    replace H := Option.bind_eq_some_iff.mp H
    obtain ⟨⟨t351, t352⟩, A100, H⟩ := H
    replace H : (if t350 = true then (primroseref01_DivMod.j0 k t343 t346 t349 t351 t352) else (primroseref01_DivMod.j0 k t343 t346 t349 t351 false)) = some (r1, r2, r3) := H
    have A10 := Aside0.mk A100
    clear A100
    have HC11 := Aside0.mk H
    clear H
    go_enter Try.func53, Try.ntmps53
    go_upto_region 6 with (first | ((with_reducible refine gate_callee (f := 51) rfl ?_); refine goesL_ (some 15) rfl rfl Try.func51 (by kernel_rfl) rfl #[.slice A0 l0.length c0] rfl (by (try simp only [List.map_toArray, List.map_cons, List.map_nil]); rfl) ?_; (with_reducible refine (primroseref01_Plain.calls k _ _ l0 t343 _ ?side1 ?side2 A3.out).mono ?_); (case side1 => exact HR0.out); (case side2 => exact HC0.out); rintro e w12 ⟨v344, rfl, ho0, hb⟩; refine ⟨_, rfl, ?_⟩; have HO345 := Aside0.mk (Kd.R_lower ho0 (below_size (HB.out))); replace HB := Aside0.mk (below_step (HB.out) hb); (try clear hb); (try clear ho0)) | ((with_reducible refine gate_callee (f := 51) rfl ?_); refine goesL_ (some 17) rfl rfl Try.func51 (by kernel_rfl) rfl #[.slice A1 l1.length c1] rfl (by (try simp only [List.map_toArray, List.map_cons, List.map_nil]); rfl) ?_; (with_reducible refine (primroseref01_Plain.calls k _ _ l1 t346 _ ?side1 ?side2 A4.out).mono ?_); (case side1 => exact (Kd.C_below HR1.out HB.out)); (case side2 => exact HC1.out); rintro e w13 ⟨v347, rfl, ho0, hb⟩; refine ⟨_, rfl, ?_⟩; have n0_ := Aside0.mk (Kd.R_elder' (HO345.out) (Kd.R_base ho0) hb); have n1_ := Aside0.mk (Kd.R_lower (Kd.R_new' ho0 (Kd.R_lt (HO345.out))) (below_size (HB.out))); have n2_ := Aside0.mk (below_step (HB.out) hb); clear HO345; clear HB; have HO345 := n0_; have HO348 := n1_; have HB := n2_; clear n0_ n1_ n2_; (try clear hb); (try clear ho0); obtain ⟨Ao14, co14, eo14⟩ := Kd.R_slice HO348.out; subst eo14; obtain ⟨Ao15, co15, eo15⟩ := Kd.R_slice HO345.out; subst eo15) | ((with_reducible refine gate_callee (f := 55) rfl ?_); refine goesL_ (some 23) rfl rfl Try.func55 (by kernel_rfl) rfl #[.slice Ao15 t343.length co15] rfl (by (try simp only [List.map_toArray, List.map_cons, List.map_nil]); rfl) ?_; (with_reducible refine (primroseref01_Small.calls k _ _ t343 t349 t350 _ ?side1 ?side2 A9.out).mono ?_); (case side1 => exact (Kd.R_reads' HO345.out).2.2); (case side2 => exact (Kd.R_reads' HO345.out).2.1); rintro e w16 ⟨rfl, hb⟩; refine ⟨_, rfl, ?_⟩; replace HO345 := Aside0.mk (Kd.R_below (HO345.out) hb); replace HO348 := Aside0.mk (Kd.R_below (HO348.out) hb); replace HB := Aside0.mk (below_step (HB.out) hb); (try clear hb)) | ((with_reducible refine gate_callee (f := 55) rfl ?_); refine goesL_ (some 28) rfl rfl Try.func55 (by kernel_rfl) rfl #[.slice Ao14 t346.length co14] rfl (by (try simp only [List.map_toArray, List.map_cons, List.map_nil]); rfl) ?_; (with_reducible refine (primroseref01_Small.calls k _ _ t346 t351 t352 _ ?side1 ?side2 A10.out).mono ?_); (case side1 => exact (Kd.R_reads' HO348.out).2.2); (case side2 => exact (Kd.R_reads' HO348.out).2.1); rintro e w17 ⟨rfl, hb⟩; refine ⟨_, rfl, ?_⟩; replace HO345 := Aside0.mk (Kd.R_below (HO345.out) hb); replace HO348 := Aside0.mk (Kd.R_below (HO348.out) hb); replace HB := Aside0.mk (below_step (HB.out) hb); (try clear hb)))
    go_cut [34] (fun v34 wc => ∃ (kq : Nat) (x34_10 : Bool), v34 = .bool x34_10 ∧ Aside0 (primroseref01_DivMod.j0 kq t343 t346 t349 t351 x34_10 = some (r1, r2, r3)) ∧ Aside0 (kq ≤ k) ∧ Aside0 (Kd.R (Kd.int .u32) 59 wc w.heap.size (fun k_ => some k_ ≠ ((.slice Ao14 t346.length co14) : Value).ownBlock) (.slice Ao15 t343.length co15) t343) ∧ Aside0 (Kd.R (Kd.int .u32) 59 wc w.heap.size (fun k_ => some k_ ≠ ((.slice Ao15 t343.length co15) : Value).ownBlock) (.slice Ao14 t346.length co14) t346) ∧ Aside0 (Below w.heap.size w wc))
    case first =>
      have H := HC11.out
      clear HC11
      by_cases c18 : t350 = true
      · subst c18
        have H1 : (primroseref01_DivMod.j0 k t343 t346 t349 t351 t352) = some (r1, r2, r3) := by rw [if_pos rfl] at H; exact H
        clear H
        have H := H1
        clear H1
        have H' := Aside0.mk H
        clear H
        go_wp2
        go_meet
        case rel => exact ⟨_, (t352), (by (rfl)), H', ⟨by (omega)⟩, ⟨by exact Kd.R_mono HO345.out (fun _ hk => hk.2)⟩, ⟨by exact Kd.R_mono HO348.out (fun _ hk => hk.2)⟩, ⟨(HB.out)⟩⟩
      · replace c18 := Bool.eq_false_iff.mpr c18
        subst c18
        have H1 : (primroseref01_DivMod.j0 k t343 t346 t349 t351 false) = some (r1, r2, r3) := by rw [if_neg (show ¬ (false = true) by decide)] at H; exact H
        clear H
        have H := H1
        clear H1
        have H' := Aside0.mk H
        clear H
        go_wp2
        go_meet
        case rel => exact ⟨_, (false), (by (rfl)), H', ⟨by (omega)⟩, ⟨by exact Kd.R_mono HO345.out (fun _ hk => hk.2)⟩, ⟨by exact Kd.R_mono HO348.out (fun _ hk => hk.2)⟩, ⟨(HB.out)⟩⟩
    case rest =>
      clear HC11
      try clear c5
      try clear c5b0
      try clear c5b1
      try clear c5b2
      obtain ⟨kq, x34_10, rfl, HA, HJ10, HO_0, HO_1, HB⟩ := hcut
      cases kq with
      | zero => exact absurd HA.out (by simp [primroseref01_DivMod.j0])
      | succ kj10 =>
        have H := HA.out
        clear HA
        simp only [primroseref01_DivMod.j0] at H
        by_cases c19 : x34_10 = true
        · subst c19
          have H1 : (if t351 = 0 then (none) else ((primroseref01_Of.f kj10 (wrap64 (Int.tdiv t349 t351))).bind fun t353 => ((primroseref01_Of.f kj10 (Int.tmod t349 t351)).bind fun t356 => (some (t353, t356, true))))) = some (r1, r2, r3) := by rw [if_pos rfl] at H; exact H
          clear H
          have H := H1
          clear H1
          by_cases c20 : t351 = 0
          · rw [if_pos c20] at H
            exact absurd H (by simp)
          · rw [if_neg c20] at H
            have c20b0 : (t351 == 0) = false := beq_eq_false_iff_ne.mpr c20
            have c20b1 : (t351 != 0) = true := bne_iff_ne.mpr c20
            replace H := Option.bind_eq_some_iff.mp H
            obtain ⟨t353, A210, H⟩ := H
            replace H : ((primroseref01_Of.f kj10 (Int.tmod t349 t351)).bind fun t356 => (some (t353, t356, true))) = some (r1, r2, r3) := H
            have A21 := Aside0.mk A210
            clear A210
            replace H := Option.bind_eq_some_iff.mp H
            obtain ⟨t356, A220, H⟩ := H
            replace H : (some (t353, t356, true)) = some (r1, r2, r3) := H
            have A22 := Aside0.mk A220
            clear A220
            simp only [Option.some.injEq, Prod.mk.injEq] at H
            obtain ⟨rfl, rfl, rfl⟩ := H
            try go_wp2
            have n0_ := Aside0.mk (Kd.R_drew HO_0.out)
            have n1_ := Aside0.mk (Kd.R_drew HO_1.out)
            have n2_ := Aside0.mk (below_drew1 HB.out)
            clear HO_0
            clear HO_1
            clear HB
            have HO_0 := n0_
            have HO_1 := n1_
            have HB := n2_
            clear n0_ n1_ n2_
            refine start_ (n := 11) (S := fun w' => True) (ds := []) #[false, false, false, false, false, false, false, false, false, false, false] (by kernel_rfl) rfl rfl trivial (fun hHeld => ?_); refine with_tabW primroseref01_DivMod.tab7 primroseref01_DivMod.bits7 (fun HT_ HW_ => ?_)
            generalize wc.drew = w23 at HO_0 HO_1 HB hHeld ⊢
            refine pure_ (i := 0) (N := some 35) (v := ?_) (a' := ?_) #[true, false, false, false, false, false, false, false, false, false, false] rfl rfl (any_of HT_.out (by kernel_rfl)) (fun _ _ _ h => h) (Or.inl ⟨by rfl, ?_⟩) ?_ ?_
            rotate_left
            · intro w'
              go_simp
              with_reducible rfl
            rotate_left
            · simp only [Act.put, List.setIfInBounds_toArray, List.set_cons_zero, List.set_cons_succ, i64_w, i32_w]
              rfl
            refine pure_ (i := 1) (N := some 36) (v := ?_) (a' := ?_) #[true, true, false, false, false, false, false, false, false, false, false] rfl rfl (any_of HT_.out (by kernel_rfl)) (fun _ _ _ h => h) (Or.inl ⟨by rfl, ?_⟩) ?_ ?_
            rotate_left
            · intro w'
              go_simp
              with_reducible rfl
            rotate_left
            · simp only [Act.put, List.setIfInBounds_toArray, List.set_cons_zero, List.set_cons_succ, i64_w, i32_w]
              rfl
            refine pure_ (i := 2) (N := some 37) (v := ?_) (a' := ?_) #[true, true, true, false, false, false, false, false, false, false, false] rfl rfl (any_of HT_.out (by kernel_rfl)) (fun _ _ _ h => h) (Or.inl ⟨by rfl, ?_⟩) ?_ ?_
            rotate_left
            · intro w'
              go_simp
              with_reducible rfl
            rotate_left
            · simp only [Act.put, List.setIfInBounds_toArray, List.set_cons_zero, List.set_cons_succ, i64_w, i32_w]
              rfl
            refine pure_ (i := 4) (N := some 39) (v := ?_) (a' := ?_) #[true, true, true, false, true, false, false, false, false, false, false] rfl rfl (any_of HT_.out (by kernel_rfl)) (fun _ _ _ h => h) (Or.inl ⟨by rfl, ?_⟩) ?_ ?_
            rotate_left
            · intro w'
              go_simp
              with_reducible rfl
            rotate_left
            · simp only [Act.put, List.setIfInBounds_toArray, List.set_cons_zero, List.set_cons_succ, i64_w, i32_w]
              rfl
            refine pure_ (i := 5) (N := some 40) (v := ?_) (a' := ?_) #[true, true, true, false, true, true, false, false, false, false, false] rfl rfl (any_of HT_.out (by kernel_rfl)) (fun _ _ _ h => h) (Or.inl ⟨by rfl, ?_⟩) ?_ ?_
            rotate_left
            · intro w'
              go_simp
              with_reducible rfl
            rotate_left
            · simp only [Act.put, List.setIfInBounds_toArray, List.set_cons_zero, List.set_cons_succ, i64_w, i32_w]
              rfl
            refine pure_ (i := 6) (N := some 41) (v := ?_) (a' := ?_) #[true, true, true, false, true, true, true, false, false, false, false] rfl rfl (any_of HT_.out (by kernel_rfl)) (fun _ _ _ h => h) (Or.inl ⟨by rfl, ?_⟩) ?_ ?_
            rotate_left
            · intro w'
              go_simp
              with_reducible rfl
            rotate_left
            · simp only [Act.put, List.setIfInBounds_toArray, List.set_cons_zero, List.set_cons_succ, i64_w, i32_w]
              rfl
            refine one_ (i := 3) (N := some 38) #[true, true, true, true, true, true, true, false, false, false, false] rfl rfl (one_of HT_.out (by kernel_rfl)) (by decide) (fun K hK => ?_)
            refine goes_ Try.func54 (by kernel_rfl) rfl #[.int .i64 (wrap64 (Int.tdiv t349 t351))] (by rfl) rfl rfl (by (try simp only [List.map_toArray, List.map_cons, List.map_nil]); rfl) ?_
            with_reducible refine (primroseref01_Of.calls kj10 (wrap64 (Int.tdiv t349 t351)) t353 _ A21.out).mono ?_
            rintro e w24 ⟨v354, rfl, ho0, hb⟩
            refine ⟨_, rfl, ?_⟩
            have n0_ := Aside0.mk (Kd.R_elder' (HO_0.out) (Kd.R_base ho0) hb)
            have n1_ := Aside0.mk (Kd.R_elder' (HO_1.out) (Kd.R_base ho0) hb)
            have n2_ := Aside0.mk (Kd.R_lower (Kd.R_new' (Kd.R_new' ho0 (Kd.R_lt (HO_0.out))) (Kd.R_lt (HO_1.out))) (below_size (HB.out)))
            have n3_ := Aside0.mk (below_step (HB.out) hb)
            clear HO_0
            clear HO_1
            clear HB
            have HO_0 := n0_
            have HO_1 := n1_
            have HO355 := n2_
            have HB := n3_
            clear n0_ n1_ n2_ n3_
            (try clear hb)
            (try clear ho0)
            refine hK.out _ _ trivial (fun hHeld => ?_)
            clear hK K
            refine norm_ (a' := ?_) ?_ ?_
            rotate_left
            · show Act.put _ (some 38) _ = _
              simp only [Act.put, List.setIfInBounds_toArray, List.set_cons_zero, List.set_cons_succ, i64_w, i32_w]
              rfl
            refine one_ (i := 7) (N := some 42) #[true, true, true, true, true, true, true, true, false, false, false] rfl rfl (one_of HT_.out (by kernel_rfl)) (by decide) (fun K hK => ?_)
            refine goes_ Try.func54 (by kernel_rfl) rfl #[.int .i64 (Int.tmod t349 t351)] (by rfl) rfl rfl (by (try simp only [List.map_toArray, List.map_cons, List.map_nil]); rfl) ?_
            with_reducible refine (primroseref01_Of.calls kj10 (Int.tmod t349 t351) t356 _ A22.out).mono ?_
            rintro e w25 ⟨v357, rfl, ho0, hb⟩
            refine ⟨_, rfl, ?_⟩
            have n0_ := Aside0.mk (Kd.R_elder' (HO_0.out) (Kd.R_base ho0) hb)
            have n1_ := Aside0.mk (Kd.R_elder' (HO_1.out) (Kd.R_base ho0) hb)
            have n2_ := Aside0.mk (Kd.R_elder' (HO355.out) (Kd.R_base ho0) hb)
            have n3_ := Aside0.mk (Kd.R_lower (Kd.R_new' (Kd.R_new' (Kd.R_new' ho0 (Kd.R_lt (HO_0.out))) (Kd.R_lt (HO_1.out))) (Kd.R_lt (HO355.out))) (below_size (HB.out)))
            have n4_ := Aside0.mk (below_step (HB.out) hb)
            clear HO_0
            clear HO_1
            clear HO355
            clear HB
            have HO_0 := n0_
            have HO_1 := n1_
            have HO355 := n2_
            have HO358 := n3_
            have HB := n4_
            clear n0_ n1_ n2_ n3_ n4_
            (try clear hb)
            (try clear ho0)
            refine hK.out _ _ trivial (fun hHeld => ?_)
            clear hK K
            refine norm_ (a' := ?_) ?_ ?_
            rotate_left
            · show Act.put _ (some 42) _ = _
              simp only [Act.put, List.setIfInBounds_toArray, List.set_cons_zero, List.set_cons_succ, i64_w, i32_w]
              rfl
            refine pure_ (i := 8) (N := some 4) (v := ?_) (a' := ?_) #[true, true, true, true, true, true, true, true, true, false, false] rfl rfl (any_of HT_.out (by kernel_rfl)) (fun _ _ _ h => h) (Or.inl ⟨by rfl, ?_⟩) ?_ ?_
            rotate_left
            · intro w'
              go_simp
              with_reducible rfl
            rotate_left
            · simp only [Act.put, List.setIfInBounds_toArray, List.set_cons_zero, List.set_cons_succ, i64_w, i32_w]
              rfl
            refine pure_ (i := 9) (N := some 5) (v := ?_) (a' := ?_) #[true, true, true, true, true, true, true, true, true, true, false] rfl rfl (any_of HT_.out (by kernel_rfl)) (fun _ _ _ h => h) (Or.inl ⟨by rfl, ?_⟩) ?_ ?_
            rotate_left
            · intro w'
              go_simp
              with_reducible rfl
            rotate_left
            · simp only [Act.put, List.setIfInBounds_toArray, List.set_cons_zero, List.set_cons_succ, i64_w, i32_w]
              rfl
            refine pure_ (i := 10) (N := some 6) (v := ?_) (a' := ?_) #[true, true, true, true, true, true, true, true, true, true, true] rfl rfl (any_of HT_.out (by kernel_rfl)) (fun _ _ _ h => h) (Or.inl ⟨by rfl, ?_⟩) ?_ ?_
            rotate_left
            · intro w'
              go_simp
              with_reducible rfl
            rotate_left
            · simp only [Act.put, List.setIfInBounds_toArray, List.set_cons_zero, List.set_cons_succ, i64_w, i32_w]
              rfl
            refine done_ (done_of HT_.out (by kernel_rfl)) ?_
            try go_wp2
            go_ret3
            exact ⟨_, _, by (rfl), by exact Kd.R_mono HO355.out (fun _ hk => hk.2), by exact Kd.R_mono HO358.out (fun _ hk => hk.2), (HB.out)⟩
        · replace c19 := Bool.eq_false_iff.mpr c19
          subst c19
          have H1 : (if 0 ≤ (t343.length : Int) then (if ((t343.length : Int) : Int).toNat ≤ 70368744177664 then (if 0 ≤ (wrap64 ((t346.length : Int) + 1)) then (if (wrap64 ((t346.length : Int) + 1) : Int).toNat ≤ 70368744177664 then ((primroseref01_Bits.f kj10 t343).bind fun t365 => (primroseref01_DivMod.l0 kj10 t343 t346 (List.replicate ((t343.length : Int) : Int).toNat 0) (List.replicate (wrap64 ((t346.length : Int) + 1) : Int).toNat 0) (wrap64 (t365 - 1)))) else (none)) else (none)) else (none)) else (none)) = some (r1, r2, r3) := by rw [if_neg (show ¬ (false = true) by decide)] at H; exact H
          clear H
          have H := H1
          clear H1
          by_cases c26 : 0 ≤ (t343.length : Int)
          · rw [if_pos c26] at H
            have c26b0 := eq_true c26
            have c26b1 : decide (0 ≤ (t343.length : Int)) = true := decide_eq_true c26
            clear c26
            by_cases c27 : ((t343.length : Int) : Int).toNat ≤ 70368744177664
            · rw [if_pos c27] at H
              have c27b0 := eq_true c27
              have c27b1 : decide (((t343.length : Int) : Int).toNat ≤ 70368744177664) = true := decide_eq_true c27
              clear c27
              obtain ⟨y359, hy359⟩ : ∃ y_ : List Int, y_ = (List.replicate ((t343.length : Int) : Int).toNat 0) := ⟨_, rfl⟩
              replace H : (if 0 ≤ (wrap64 ((t346.length : Int) + 1)) then (if (wrap64 ((t346.length : Int) + 1) : Int).toNat ≤ 70368744177664 then ((primroseref01_Bits.f kj10 t343).bind fun t365 => (primroseref01_DivMod.l0 kj10 t343 t346 y359 (List.replicate (wrap64 ((t346.length : Int) + 1) : Int).toNat 0) (wrap64 (t365 - 1)))) else (none)) else (none)) = some (r1, r2, r3) := by (rw [hy359]; with_reducible exact H)
              have Ny359 := Aside0.mk hy359
              clear hy359
              obtain ⟨ji28, hji28⟩ : ∃ j_ : Int, (wrap64 ((t346.length : Int) + 1)) = j_ := ⟨_, rfl⟩
              replace H : (if 0 ≤ (ji28) then (if (ji28 : Int).toNat ≤ 70368744177664 then ((primroseref01_Bits.f kj10 t343).bind fun t365 => (primroseref01_DivMod.l0 kj10 t343 t346 y359 (List.replicate (ji28 : Int).toNat 0) (wrap64 (t365 - 1)))) else (none)) else (none)) = some (r1, r2, r3) := by (rw [hji28] at H; exact H)
              have hji28w : (IntKind.i64.wrap ((t346.length : Int) + 1)) = ji28 := (i64_w _).trans hji28
              by_cases c29 : 0 ≤ (ji28)
              · rw [if_pos c29] at H
                have c29b0 := eq_true c29
                have c29b1 : decide (0 ≤ (ji28)) = true := decide_eq_true c29
                clear c29
                by_cases c30 : (ji28 : Int).toNat ≤ 70368744177664
                · rw [if_pos c30] at H
                  have c30b0 := eq_true c30
                  have c30b1 : decide ((ji28 : Int).toNat ≤ 70368744177664) = true := decide_eq_true c30
                  clear c30
                  obtain ⟨y362, hy362⟩ : ∃ y_ : List Int, y_ = (List.replicate (ji28 : Int).toNat 0) := ⟨_, rfl⟩
                  replace H : ((primroseref01_Bits.f kj10 t343).bind fun t365 => (primroseref01_DivMod.l0 kj10 t343 t346 y359 y362 (wrap64 (t365 - 1)))) = some (r1, r2, r3) := by (rw [hy362]; with_reducible exact H)
                  have Ny362 := Aside0.mk hy362
                  clear hy362
                  replace H := Option.bind_eq_some_iff.mp H
                  obtain ⟨t365, A310, H⟩ := H
                  replace H : (primroseref01_DivMod.l0 kj10 t343 t346 y359 y362 (wrap64 (t365 - 1))) = some (r1, r2, r3) := H
                  have A31 := Aside0.mk A310
                  clear A310
                  have H' := Aside0.mk H
                  clear H
                  go_wp2_with (first | ((with_reducible refine gate_dst (N := 45) rfl ?_); refine Kd.R_make (Kd.int .u32) _ 59 rfl (N := 45) rfl 30 _ _ rfl (t343.length : Int) rfl rfl Try.underlying30 (.int .u32 0) 4 info59 rfl (by decide) (by omega) 0 (ok := fun _ => True) (okp := fun _ => True) rfl (fun _ hk => hk) trivial (of_decide_eq_true (by (with_reducible assumption))) (Nat.le_trans (Nat.mul_le_mul_right _ (of_decide_eq_true (by (with_reducible assumption)) : (t343.length : Int).toNat ≤ 70368744177664)) (by omega)) (Below.refl _ _) (Nat.le_refl _) ?_; intro v360 w32 ho33 hb hg_ hnew_; clear hg_ hnew_; (rw [← Ny359.out] at ho33); have n0_ := Aside0.mk (Kd.R_elder' (HO_0.out) (Kd.R_base ho33) hb); have n1_ := Aside0.mk (Kd.R_elder' (HO_1.out) (Kd.R_base ho33) hb); have n2_ := Aside0.mk (Kd.R_lower (Kd.R_new' (Kd.R_new' ho33 (Kd.R_lt (HO_0.out))) (Kd.R_lt (HO_1.out))) (below_size (HB.out))); have n3_ := Aside0.mk (below_step (HB.out) hb); clear HO_0; clear HO_1; clear HB; have HO_0 := n0_; have HO_1 := n1_; have HO361 := n2_; have HB := n3_; clear n0_ n1_ n2_ n3_; clear hb ho33) | ((with_reducible refine gate_dst (N := 49) rfl ?_); refine Kd.R_make (Kd.int .u32) _ 59 rfl (N := 49) rfl 30 _ _ rfl ji28 rfl rfl Try.underlying30 (.int .u32 0) 4 info59 rfl (by decide) (by omega) 0 (ok := fun _ => True) (okp := fun _ => True) rfl (fun _ hk => hk) trivial (of_decide_eq_true (by (with_reducible assumption))) (Nat.le_trans (Nat.mul_le_mul_right _ (of_decide_eq_true (by (with_reducible assumption)) : ji28.toNat ≤ 70368744177664)) (by omega)) (Below.refl _ _) (Nat.le_refl _) ?_; intro v363 w34 ho35 hb hg_ hnew_; clear hg_ hnew_; (rw [← Ny362.out] at ho35); have n0_ := Aside0.mk (Kd.R_elder' (HO_0.out) (Kd.R_base ho35) hb); have n1_ := Aside0.mk (Kd.R_elder' (HO_1.out) (Kd.R_base ho35) hb); have n2_ := Aside0.mk (Kd.R_elder' (HO361.out) (Kd.R_base ho35) hb); have n3_ := Aside0.mk (Kd.R_lower (Kd.R_new' (Kd.R_new' (Kd.R_new' ho35 (Kd.R_lt (HO_0.out))) (Kd.R_lt (HO_1.out))) (Kd.R_lt (HO361.out))) (below_size (HB.out))); have n4_ := Aside0.mk (below_step (HB.out) hb); clear HO_0; clear HO_1; clear HO361; clear HB; have HO_0 := n0_; have HO_1 := n1_; have HO361 := n2_; have HO364 := n3_; have HB := n4_; clear n0_ n1_ n2_ n3_ n4_; clear hb ho35) | ((with_reducible refine gate_callee (f := 48) rfl ?_); refine goesL_ (some 51) rfl rfl Try.func48 (by kernel_rfl) rfl #[.slice Ao15 t343.length co15] rfl (by (try simp only [List.map_toArray, List.map_cons, List.map_nil]); rfl) ?_; (with_reducible refine (primroseref01_Bits.calls kj10 _ _ t343 t365 _ ?side1 ?side2 A31.out).mono ?_); (case side1 => exact (Kd.R_reads' HO_0.out).2.2); (case side2 => exact (Kd.R_reads' HO_0.out).2.1); rintro e w36 ⟨rfl, hb⟩; refine ⟨_, rfl, ?_⟩; replace HO_0 := Aside0.mk (Kd.R_below (HO_0.out) hb); replace HO_1 := Aside0.mk (Kd.R_below (HO_1.out) hb); replace HO361 := Aside0.mk (Kd.R_below (HO361.out) hb); replace HO364 := Aside0.mk (Kd.R_below (HO364.out) hb); replace HB := Aside0.mk (below_step (HB.out) hb); (try clear hb)))
                  go_loopg [13] kj10 (fun kq v13 w' => ∃ (x11_2 : List Int) (x12_2 : List Int) (x13_2 : Int), v13 = .int .i64 x13_2 ∧ Aside0 (primroseref01_DivMod.l0 kq t343 t346 x11_2 x12_2 x13_2 = some (r1, r2, r3)) ∧ Aside0 (kq ≤ kj10) ∧ Aside0 (Kd.R (Kd.int .u32) 59 w' w.heap.size (fun k_ => some k_ ≠ ((.slice Ao14 t346.length co14) : Value).ownBlock ∧ some k_ ≠ (v360 : Value).ownBlock ∧ some k_ ≠ (v363 : Value).ownBlock) (.slice Ao15 t343.length co15) t343) ∧ Aside0 (Kd.R (Kd.int .u32) 59 w' w.heap.size (fun k_ => some k_ ≠ ((.slice Ao15 t343.length co15) : Value).ownBlock ∧ some k_ ≠ (v360 : Value).ownBlock ∧ some k_ ≠ (v363 : Value).ownBlock) (.slice Ao14 t346.length co14) t346) ∧ Aside0 (Kd.R (Kd.int .u32) 59 w' w.heap.size (fun k_ => some k_ ≠ ((.slice Ao15 t343.length co15) : Value).ownBlock ∧ some k_ ≠ ((.slice Ao14 t346.length co14) : Value).ownBlock ∧ some k_ ≠ (v363 : Value).ownBlock) v360 x11_2) ∧ Aside0 (Kd.R (Kd.int .u32) 59 w' w.heap.size (fun k_ => some k_ ≠ ((.slice Ao15 t343.length co15) : Value).ownBlock ∧ some k_ ≠ ((.slice Ao14 t346.length co14) : Value).ownBlock ∧ some k_ ≠ (v360 : Value).ownBlock) v363 x12_2) ∧ Aside0 (Below w.heap.size w w'))
                  case atStart => exact ⟨(y359), (y362), (wrap64 (t365 - 1)), (by (rfl)), H', ⟨Nat.le_refl _⟩, ⟨by exact Kd.R_mono HO_0.out (fun _ hk => ⟨hk.1.1, ⟨hk.1.2, hk.2⟩⟩)⟩, ⟨by exact Kd.R_mono HO_1.out (fun _ hk => ⟨hk.1.1, ⟨hk.1.2, hk.2⟩⟩)⟩, ⟨by exact Kd.R_mono HO361.out (fun _ hk => ⟨hk.1.1.2, ⟨hk.1.2, hk.2⟩⟩)⟩, ⟨by exact Kd.R_mono HO364.out (fun _ hk => ⟨hk.1.1.2, ⟨hk.1.2, hk.2⟩⟩)⟩, ⟨(HB.out)⟩⟩
                  case round =>
                    clear H'
                    try clear c26b0
                    try clear c26b1
                    try clear c27b0
                    try clear c27b1
                    try clear c29b0
                    try clear c29b1
                    try clear c30b0
                    try clear c30b1
                    obtain ⟨x11_2, x12_2, x13_2, rfl, HA, HK2, HO_0, HO_1, HO_11, HO_12, HB⟩ := hrel
                    cases gk with
                    | zero => exact absurd HA.out (by simp [primroseref01_DivMod.l0])
                    | succ k2 =>
                      have H := HA.out
                      clear HA
                      simp only [primroseref01_DivMod.l0] at H
                      by_cases c37 : x13_2 ≥ 0
                      · rw [if_pos c37] at H
                        have c37b0 : decide (0 ≤ x13_2) = true := decide_eq_true c37
                        clear c37
                        replace H := Option.bind_eq_some_iff.mp H
                        obtain ⟨t372, A380, H⟩ := H
                        replace H : ((primroseref01_push.f k2 x12_2 t372).bind fun t373 => ((primroseref01_Cmp.f k2 t373 t346).bind fun t374 => (if t374 ≥ 0 then ((primroseref01_take.f k2 t373 t346).bind fun t375 => (if 0 ≤ (wrap64 (Int.tdiv x13_2 32)) then (if (wrap64 (Int.tdiv x13_2 32)) < (x11_2.length : Int) then (if 0 ≤ (Int.tmod x13_2 32) then (primroseref01_DivMod.l0 k2 t343 t346 (x11_2.set ((wrap64 (Int.tdiv x13_2 32)) : Int).toNat (((rd x11_2 (wrap64 (Int.tdiv x13_2 32))) + (shl .u32 1 (Int.tmod x13_2 32))) % 4294967296)) t375 (wrap64 (x13_2 - 1))) else (none)) else (none)) else (none))) else (primroseref01_DivMod.l0 k2 t343 t346 x11_2 t373 (wrap64 (x13_2 - 1)))))) = some (r1, r2, r3) := H
                        have A38 := Aside0.mk A380
                        clear A380
                        replace H := Option.bind_eq_some_iff.mp H
                        obtain ⟨t373, A390, H⟩ := H
                        replace H : ((primroseref01_Cmp.f k2 t373 t346).bind fun t374 => (if t374 ≥ 0 then ((primroseref01_take.f k2 t373 t346).bind fun t375 => (if 0 ≤ (wrap64 (Int.tdiv x13_2 32)) then (if (wrap64 (Int.tdiv x13_2 32)) < (x11_2.length : Int) then (if 0 ≤ (Int.tmod x13_2 32) then (primroseref01_DivMod.l0 k2 t343 t346 (x11_2.set ((wrap64 (Int.tdiv x13_2 32)) : Int).toNat (((rd x11_2 (wrap64 (Int.tdiv x13_2 32))) + (shl .u32 1 (Int.tmod x13_2 32))) % 4294967296)) t375 (wrap64 (x13_2 - 1))) else (none)) else (none)) else (none))) else (primroseref01_DivMod.l0 k2 t343 t346 x11_2 t373 (wrap64 (x13_2 - 1))))) = some (r1, r2, r3) := H
                        have A39 := Aside0.mk A390
                        clear A390
                        replace H := Option.bind_eq_some_iff.mp H
                        obtain ⟨t374, A400, H⟩ := H
                        replace H : (if t374 ≥ 0 then ((primroseref01_take.f k2 t373 t346).bind fun t375 => (if 0 ≤ (wrap64 (Int.tdiv x13_2 32)) then (if (wrap64 (Int.tdiv x13_2 32)) < (x11_2.length : Int) then (if 0 ≤ (Int.tmod x13_2 32) then (primroseref01_DivMod.l0 k2 t343 t346 (x11_2.set ((wrap64 (Int.tdiv x13_2 32)) : Int).toNat (((rd x11_2 (wrap64 (Int.tdiv x13_2 32))) + (shl .u32 1 (Int.tmod x13_2 32))) % 4294967296)) t375 (wrap64 (x13_2 - 1))) else (none)) else (none)) else (none))) else (primroseref01_DivMod.l0 k2 t343 t346 x11_2 t373 (wrap64 (x13_2 - 1)))) = some (r1, r2, r3) := H
                        have A40 := Aside0.mk A400
                        clear A400
                        by_cases c41 : t374 ≥ 0
                        · rw [if_pos c41] at H
                          have c41b0 : decide (0 ≤ t374) = true := decide_eq_true c41
                          clear c41
                          replace H := Option.bind_eq_some_iff.mp H
                          obtain ⟨t375, A420, H⟩ := H
                          replace H : (if 0 ≤ (wrap64 (Int.tdiv x13_2 32)) then (if (wrap64 (Int.tdiv x13_2 32)) < (x11_2.length : Int) then (if 0 ≤ (Int.tmod x13_2 32) then (primroseref01_DivMod.l0 k2 t343 t346 (x11_2.set ((wrap64 (Int.tdiv x13_2 32)) : Int).toNat (((rd x11_2 (wrap64 (Int.tdiv x13_2 32))) + (shl .u32 1 (Int.tmod x13_2 32))) % 4294967296)) t375 (wrap64 (x13_2 - 1))) else (none)) else (none)) else (none)) = some (r1, r2, r3) := H
                          have A42 := Aside0.mk A420
                          clear A420
                          obtain ⟨ji43, hji43⟩ : ∃ j_ : Int, (wrap64 (Int.tdiv x13_2 32)) = j_ := ⟨_, rfl⟩
                          replace H : (if 0 ≤ (ji43) then (if (ji43) < (x11_2.length : Int) then (if 0 ≤ (Int.tmod x13_2 32) then (primroseref01_DivMod.l0 k2 t343 t346 (x11_2.set ((ji43) : Int).toNat (((rd x11_2 (ji43)) + (shl .u32 1 (Int.tmod x13_2 32))) % 4294967296)) t375 (wrap64 (x13_2 - 1))) else (none)) else (none)) else (none)) = some (r1, r2, r3) := by (rw [hji43] at H; exact H)
                          have hji43w : (IntKind.i64.wrap (Int.tdiv x13_2 32)) = ji43 := (i64_w _).trans hji43
                          by_cases c44 : 0 ≤ (ji43)
                          · rw [if_pos c44] at H
                            have c44b0 : decide (0 ≤ (ji43)) = true := decide_eq_true c44
                            clear c44
                            by_cases c45 : (ji43) < (x11_2.length : Int)
                            · rw [if_pos c45] at H
                              have c45b0 : decide ((ji43) < (x11_2.length : Int)) = true := decide_eq_true c45
                              clear c45
                              obtain ⟨ji46, hji46⟩ : ∃ j_ : Int, (Int.tmod x13_2 32) = j_ := ⟨_, rfl⟩
                              replace H : (if 0 ≤ (ji46) then (primroseref01_DivMod.l0 k2 t343 t346 (x11_2.set ((ji43) : Int).toNat (((rd x11_2 (ji43)) + (shl .u32 1 (ji46))) % 4294967296)) t375 (wrap64 (x13_2 - 1))) else (none)) = some (r1, r2, r3) := by (rw [hji46] at H; exact H)
                              by_cases c47 : 0 ≤ (ji46)
                              · rw [if_pos c47] at H
                                have c47b0 := eq_true c47
                                have c47b1 : decide (0 ≤ (ji46)) = true := decide_eq_true c47
                                clear c47
                                obtain ⟨ji48, hji48⟩ : ∃ j_ : Int, (shl .u32 1 (ji46)) = j_ := ⟨_, rfl⟩
                                replace H : (primroseref01_DivMod.l0 k2 t343 t346 (x11_2.set ((ji43) : Int).toNat (((rd x11_2 (ji43)) + (ji48)) % 4294967296)) t375 (wrap64 (x13_2 - 1))) = some (r1, r2, r3) := by (rw [hji48] at H; exact H)
                                have hji48_ : (IntKind.u32.wrap (1 * 2 ^ min (ji46).toNat 32)) = ji48 := hji48
                                have hji48z : (ji46) ≤ 32 → (IntKind.u32.wrap (1 * 2 ^ (ji46).toNat)) = ji48 := shl_small hji48
                                have hji48u : (IntKind.u32.wrap (2 ^ min (ji46).toNat 32)) = ji48 := by have h_ := hji48_; rw [Int.one_mul] at h_; exact h_
                                have hji48v : (ji46) ≤ 32 → (IntKind.u32.wrap (2 ^ (ji46).toNat)) = ji48 := fun hle_ => by have h_ := hji48z hle_; rw [Int.one_mul] at h_; exact h_
                                obtain ⟨y377, hy377⟩ : ∃ y_ : List Int, y_ = (x11_2.set ((ji43) : Int).toNat (((rd x11_2 (ji43)) + (ji48)) % 4294967296)) := ⟨_, rfl⟩
                                replace H : (primroseref01_DivMod.l0 k2 t343 t346 y377 t375 (wrap64 (x13_2 - 1))) = some (r1, r2, r3) := by (rw [hy377]; with_reducible exact H)
                                have Ny377 := Aside0.mk hy377
                                clear hy377
                                have H' := Aside0.mk H
                                clear H
                                try go_wp2_with (first | ((with_reducible refine gate_callee (f := 61) rfl ?_); refine goesL_ (some 60) rfl rfl Try.func61 (by kernel_rfl) rfl #[.slice Ao15 t343.length co15, .int .i64 x13_2] rfl (by (try simp only [List.map_toArray, List.map_cons, List.map_nil]); rfl) ?_; (with_reducible refine (primroseref01_bit.calls _ _ t343 x13_2 t372 _ ?side1 ?side2 A38.out).mono ?_); (case side1 => exact (Kd.R_reads' HO_0.out).2.2); (case side2 => exact (Kd.R_reads' HO_0.out).2.1); rintro e w' ⟨rfl, ⟨nd, rfl⟩⟩; refine ⟨_, rfl, ?_⟩; (try (rw [drewN_self wr]; generalize hq_ : World.drewN wr _ = wr; have n0_ : Aside0 (Kd.R (Kd.int .u32) 59 wr w.heap.size (fun k_ => some k_ ≠ (.slice Ao14 t346.length co14 : Value).ownBlock ∧ some k_ ≠ (v360 : Value).ownBlock ∧ some k_ ≠ (v363 : Value).ownBlock) (.slice Ao15 t343.length co15) t343) := ⟨by rw [← hq_]; exact (by (with_reducible repeat (apply Kd.R_drewN)); exact HO_0.out)⟩; have n1_ : Aside0 (Kd.R (Kd.int .u32) 59 wr w.heap.size (fun k_ => some k_ ≠ (.slice Ao15 t343.length co15 : Value).ownBlock ∧ some k_ ≠ (v360 : Value).ownBlock ∧ some k_ ≠ (v363 : Value).ownBlock) (.slice Ao14 t346.length co14) t346) := ⟨by rw [← hq_]; exact (by (with_reducible repeat (apply Kd.R_drewN)); exact HO_1.out)⟩; have n2_ : Aside0 (Kd.R (Kd.int .u32) 59 wr w.heap.size (fun k_ => some k_ ≠ (.slice Ao15 t343.length co15 : Value).ownBlock ∧ some k_ ≠ (.slice Ao14 t346.length co14 : Value).ownBlock ∧ some k_ ≠ (v363 : Value).ownBlock) v360 x11_2) := ⟨by rw [← hq_]; exact (by (with_reducible repeat (apply Kd.R_drewN)); exact HO_11.out)⟩; have n3_ : Aside0 (Kd.R (Kd.int .u32) 59 wr w.heap.size (fun k_ => some k_ ≠ (.slice Ao15 t343.length co15 : Value).ownBlock ∧ some k_ ≠ (.slice Ao14 t346.length co14 : Value).ownBlock ∧ some k_ ≠ (v360 : Value).ownBlock) v363 x12_2) := ⟨by rw [← hq_]; exact (by (with_reducible repeat (apply Kd.R_drewN)); exact HO_12.out)⟩; have n4_ : Aside0 (Below w.heap.size w wr) := ⟨by rw [← hq_]; exact (by repeat (with_reducible first | exact HB.out | apply pw_below_drewN))⟩; clear HO_0 HO_1 HO_11 HO_12 HB hq_; have HO_0 := n0_; have HO_1 := n1_; have HO_11 := n2_; have HO_12 := n3_; have HB := n4_; clear n0_ n1_ n2_ n3_ n4_)); obtain ⟨Ao50, co50, eo50⟩ := Kd.R_slice HO_12.out; subst eo50) | ((with_reducible refine gate_callee (f := 60) rfl ?_); refine goesL_ (some 61) rfl rfl Try.func60 (by kernel_rfl) rfl #[.slice Ao50 x12_2.length co50, .int .u32 t372] rfl (by (try simp only [List.map_toArray, List.map_cons, List.map_nil]); rfl) ?_; (with_reducible refine (primroseref01_push.calls k2 (fun k_ => some k_ = (.slice Ao50 x12_2.length co50 : Value).ownBlock) (.slice Ao50 x12_2.length co50) x12_2 t372 t373 w _ ?side1 ?side2 A39.out).mono ?_); (case side1 => exact HB.out); (case side2 => exact Kd.R_tight rfl HO_12.out); rintro e w51 ⟨rfl, hy0, hb, hkp⟩; refine ⟨_, rfl, ?_⟩; replace HO_0 := Aside0.mk (Kd.R_mono (ok' := fun k_ => some k_ ≠ (.slice Ao14 t346.length co14 : Value).ownBlock ∧ some k_ ≠ (v360 : Value).ownBlock ∧ some k_ ≠ (.slice Ao50 x12_2.length co50 : Value).ownBlock) (Kd.R_keptB (HO_0.out) hkp (fun k_ hk_ hs_ => (hk_.2.2) hs_)) (fun k_ hk_ => ⟨hk_.1.1, hk_.1.2.1, hk_.1.2.2⟩)); replace HO_1 := Aside0.mk (Kd.R_mono (ok' := fun k_ => some k_ ≠ (.slice Ao15 t343.length co15 : Value).ownBlock ∧ some k_ ≠ (v360 : Value).ownBlock ∧ some k_ ≠ (.slice Ao50 x12_2.length co50 : Value).ownBlock) (Kd.R_keptB (HO_1.out) hkp (fun k_ hk_ hs_ => (hk_.2.2) hs_)) (fun k_ hk_ => ⟨hk_.1.1, hk_.1.2.1, hk_.1.2.2⟩)); replace HO_11 := Aside0.mk (Kd.R_mono (ok' := fun k_ => some k_ ≠ (.slice Ao15 t343.length co15 : Value).ownBlock ∧ some k_ ≠ (.slice Ao14 t346.length co14 : Value).ownBlock ∧ some k_ ≠ (.slice Ao50 x12_2.length co50 : Value).ownBlock) (Kd.R_keptB (HO_11.out) hkp (fun k_ hk_ hs_ => (hk_.2.2) hs_)) (fun k_ hk_ => ⟨hk_.1.1, hk_.1.2.1, hk_.1.2.2⟩)); replace HO_12 := Aside0.mk (Kd.R_reok rfl hy0 (fun k_ e_ => HO_12.out.1 k_ e_)); replace HB := Aside0.mk (hb); (try clear hb); (try clear hkp); (try clear hy0)) | ((with_reducible refine gate_callee (f := 52) rfl ?_); refine goesL_ (some 64) rfl rfl Try.func52 (by kernel_rfl) rfl #[.slice Ao50 t373.length co50, .slice Ao14 t346.length co14] rfl (by (try simp only [List.map_toArray, List.map_cons, List.map_nil]); (rw [show t373.length = x12_2.length from (Kd.R_reads' HO_12.out).1.symm] <;> rfl)) ?_; (with_reducible refine (primroseref01_Cmp.calls k2 _ _ t373 _ _ t346 t374 _ ?side1 ?side2 ?side3 ?side4 A40.out).mono ?_); (case side1 => exact (Kd.R_reads' HO_12.out).2.2); (case side2 => rw [show t373.length = x12_2.length from (Kd.R_reads' HO_12.out).1.symm]; exact (Kd.R_reads' HO_12.out).2.1); (case side3 => exact (Kd.R_reads' HO_1.out).2.2); (case side4 => exact (Kd.R_reads' HO_1.out).2.1); rintro e w52 ⟨rfl, hb⟩; refine ⟨_, rfl, ?_⟩; replace HO_0 := Aside0.mk (Kd.R_below (HO_0.out) hb); replace HO_1 := Aside0.mk (Kd.R_below (HO_1.out) hb); replace HO_11 := Aside0.mk (Kd.R_below (HO_11.out) hb); replace HO_12 := Aside0.mk (Kd.R_below (HO_12.out) hb); replace HB := Aside0.mk (below_step (HB.out) hb); (try clear hb)) | ((with_reducible refine gate_callee (f := 62) rfl ?_); refine goesL_ (some 68) rfl rfl Try.func62 (by kernel_rfl) rfl #[.slice Ao50 x12_2.length co50, .slice Ao14 t346.length co14] rfl (by (try simp only [List.map_toArray, List.map_cons, List.map_nil]); rfl) ?_; (with_reducible refine (primroseref01_take.calls k2 (fun k_ => some k_ = (.slice Ao50 x12_2.length co50 : Value).ownBlock) (.slice Ao50 x12_2.length co50) t373 _ _ t346 t375 w _ ?side1 ?side2 ?side3 ?side4 A42.out).mono ?_); (case side1 => exact HB.out); (case side2 => exact Kd.R_tight rfl HO_12.out); (case side3 => exact Kd.C_kept_own (HO_1.out) (fun k_ hk_ hs_ => (hk_.2.2) hs_)); (case side4 => exact (Kd.R_reads' HO_1.out).2.1); rintro e w53 ⟨rfl, hy0, hb, hkp⟩; refine ⟨_, rfl, ?_⟩; replace HO_0 := Aside0.mk (Kd.R_mono (ok' := fun k_ => some k_ ≠ (.slice Ao14 t346.length co14 : Value).ownBlock ∧ some k_ ≠ (v360 : Value).ownBlock ∧ some k_ ≠ (.slice Ao50 x12_2.length co50 : Value).ownBlock) (Kd.R_keptB (HO_0.out) hkp (fun k_ hk_ hs_ => (hk_.2.2) hs_)) (fun k_ hk_ => ⟨hk_.1.1, hk_.1.2.1, hk_.1.2.2⟩)); replace HO_1 := Aside0.mk (Kd.R_mono (ok' := fun k_ => some k_ ≠ (.slice Ao15 t343.length co15 : Value).ownBlock ∧ some k_ ≠ (v360 : Value).ownBlock ∧ some k_ ≠ (.slice Ao50 x12_2.length co50 : Value).ownBlock) (Kd.R_keptB (HO_1.out) hkp (fun k_ hk_ hs_ => (hk_.2.2) hs_)) (fun k_ hk_ => ⟨hk_.1.1, hk_.1.2.1, hk_.1.2.2⟩)); replace HO_11 := Aside0.mk (Kd.R_mono (ok' := fun k_ => some k_ ≠ (.slice Ao15 t343.length co15 : Value).ownBlock ∧ some k_ ≠ (.slice Ao14 t346.length co14 : Value).ownBlock ∧ some k_ ≠ (.slice Ao50 x12_2.length co50 : Value).ownBlock) (Kd.R_keptB (HO_11.out) hkp (fun k_ hk_ hs_ => (hk_.2.2) hs_)) (fun k_ hk_ => ⟨hk_.1.1, hk_.1.2.1, hk_.1.2.2⟩)); replace HO_12 := Aside0.mk (Kd.R_reok rfl hy0 (fun k_ e_ => HO_12.out.1 k_ e_)); replace HB := Aside0.mk (hb); (try clear hb); (try clear hkp); (try clear hy0)))
                                have n0_ := Aside0.mk (Kd.R_drew HO_0.out)
                                have n1_ := Aside0.mk (Kd.R_drew HO_1.out)
                                have n2_ := Aside0.mk (Kd.R_drew HO_11.out)
                                have n3_ := Aside0.mk (Kd.R_drew HO_12.out)
                                have n4_ := Aside0.mk (below_drew1 HB.out)
                                clear HO_0
                                clear HO_1
                                clear HO_11
                                clear HO_12
                                clear HB
                                have HO_0 := n0_
                                have HO_1 := n1_
                                have HO_11 := n2_
                                have HO_12 := n3_
                                have HB := n4_
                                clear n0_ n1_ n2_ n3_ n4_
                                obtain ⟨Ao55, co55, eo55⟩ := Kd.R_slice HO_11.out
                                (subst eo55)
                                have p376 : 0 ≤ ((ji43) : Int) := of_decide_eq_true (by (with_reducible assumption))
                                have q376 : (ji43) < (x11_2.length : Int) := of_decide_eq_true (by (with_reducible assumption))
                                obtain ⟨ad376, e376, hx376_0⟩ := Kd.at_int (Kd.R_reads' HO_11.out).2.2 (ji43) p376 q376
                                cases e376
                                replace p376 := eq_true p376
                                replace q376 := eq_true q376
                                have p49 : 0 ≤ ((ji43) : Int) := of_decide_eq_true (by (with_reducible assumption))
                                have q49 : ((ji43) : Int) < ((x11_2.length : Int) : Int) := of_decide_eq_true (by (with_reducible assumption))
                                obtain ⟨go49, co49, eo49, gb49, gl49, cl49, HG49⟩ := Kd.R_form HO_11.out (by omega)
                                (cases eo49)
                                have GB49 := Aside0.mk gb49
                                have GG49 := Aside0.mk HG49
                                clear gb49 gl49 HG49
                                (simp only [add_plain] at hx376_0)
                                obtain ⟨hx49_0, hf49_0⟩ := Kd.R_celln 0 HO_11.out ((ji43) : Int) p49 q49
                                replace p49 := eq_true p49
                                replace q49 := eq_true q49
                                have HP56 := Kd.R_putn HO_11.out ((ji43) : Int) (((rd x11_2 (ji43)) + (ji48)) % 4294967296)
                                rw [← Ny377.out] at HP56
                                have HQ56 := Aside0.mk HP56
                                clear HP56
                                refine start_ (n := 14) (S := fun w' => w'.cell? ⟨go49, (ji43).toNat, none⟩ = some (.int .u32 (rd x11_2 (ji43)))) (ds := [13]) #[false, false, false, false, false, false, false, false, false, false, false, false, false, false] (by kernel_rfl) rfl rfl (hx376_0) (fun hHeld => ?_); refine with_tabW primroseref01_DivMod.tab16 primroseref01_DivMod.bits16 (fun HT_ HW_ => ?_)
                                generalize w53.drew = w54 at HO_0 HO_1 HO_11 HO_12 HB GG49 HQ56 hf49_0 hx376_0 hx49_0 hHeld ⊢
                                refine pure_ (i := 0) (N := some 69) (v := ?_) (a' := ?_) #[true, false, false, false, false, false, false, false, false, false, false, false, false, false] rfl rfl (any_of HT_.out (by kernel_rfl)) (fun _ _ _ h => h) (Or.inl ⟨by rfl, ?_⟩) ?_ ?_
                                rotate_left
                                · intro w'
                                  go_simp
                                  with_reducible rfl
                                rotate_left
                                · simp only [Act.put, List.setIfInBounds_toArray, List.set_cons_zero, List.set_cons_succ, i64_w, i32_w]
                                  rfl
                                refine pure_ (i := 1) (N := some 70) (v := ?_) (a' := ?_) #[true, true, false, false, false, false, false, false, false, false, false, false, false, false] rfl rfl (any_of HT_.out (by kernel_rfl)) (fun _ _ _ h => h) (Or.inl ⟨by rfl, ?_⟩) ?_ ?_
                                rotate_left
                                · intro w'
                                  go_simp
                                  with_reducible rfl
                                rotate_left
                                · simp only [Act.put, List.setIfInBounds_toArray, List.set_cons_zero, List.set_cons_succ, i64_w, i32_w]
                                  rfl
                                refine pure_ (i := 2) (N := some 71) (v := ?_) (a' := ?_) #[true, true, true, false, false, false, false, false, false, false, false, false, false, false] rfl rfl (any_of HT_.out (by kernel_rfl)) (fun _ _ _ h => h) (Or.inl ⟨by rfl, ?_⟩) ?_ ?_
                                rotate_left
                                · intro w'
                                  go_simp
                                  with_reducible rfl
                                rotate_left
                                · simp only [Act.put, List.setIfInBounds_toArray, List.set_cons_zero, List.set_cons_succ, i64_w, i32_w]
                                  rfl
                                refine pure_ (i := 3) (N := some 72) (v := ?_) (a' := ?_) #[true, true, true, true, false, false, false, false, false, false, false, false, false, false] rfl rfl (any_of HT_.out (by kernel_rfl)) (fun _ _ _ h => h) (Or.inl ⟨by rfl, ?_⟩) ?_ ?_
                                rotate_left
                                · intro w'
                                  go_simp
                                  with_reducible rfl
                                rotate_left
                                · simp only [Act.put, List.setIfInBounds_toArray, List.set_cons_zero, List.set_cons_succ, i64_w, i32_w]
                                  rfl
                                refine pure_ (i := 4) (N := some 73) (v := ?_) (a' := ?_) #[true, true, true, true, true, false, false, false, false, false, false, false, false, false] rfl rfl (any_of HT_.out (by kernel_rfl)) (fun _ _ _ h => h) (Or.inl ⟨by rfl, ?_⟩) ?_ ?_
                                rotate_left
                                · intro w'
                                  go_simp
                                  with_reducible rfl
                                rotate_left
                                · simp only [Act.put, List.setIfInBounds_toArray, List.set_cons_zero, List.set_cons_succ, i64_w, i32_w]
                                  rfl
                                refine pure_ (i := 5) (N := some 74) (v := ?_) (a' := ?_) #[true, true, true, true, true, true, false, false, false, false, false, false, false, false] rfl rfl (any_of HT_.out (by kernel_rfl)) (fun _ _ _ h => h) (Or.inl ⟨by rfl, ?_⟩) ?_ ?_
                                rotate_left
                                · intro w'
                                  go_simp
                                  with_reducible rfl
                                rotate_left
                                · simp only [Act.put, List.setIfInBounds_toArray, List.set_cons_zero, List.set_cons_succ, i64_w, i32_w]
                                  rfl
                                refine pure_ (i := 6) (N := some 75) (v := ?_) (a' := ?_) #[true, true, true, true, true, true, true, false, false, false, false, false, false, false] rfl rfl (any_of HT_.out (by kernel_rfl)) (fun _ _ _ h => h) (Or.inl ⟨by rfl, ?_⟩) ?_ ?_
                                rotate_left
                                · intro w'
                                  go_simp
                                  with_reducible rfl
                                rotate_left
                                · simp only [Act.put, List.setIfInBounds_toArray, List.set_cons_zero, List.set_cons_succ, i64_w, i32_w]
                                  rfl
                                refine pure_ (i := 8) (N := some 77) (v := ?_) (a' := ?_) #[true, true, true, true, true, true, true, false, true, false, false, false, false, false] rfl rfl (any_of HT_.out (by kernel_rfl)) (fun _ _ _ h => h) (Or.inl ⟨by rfl, ?_⟩) ?_ ?_
                                rotate_left
                                · intro w'
                                  go_simp
                                  with_reducible rfl
                                rotate_left
                                · simp only [Act.put, List.setIfInBounds_toArray, List.set_cons_zero, List.set_cons_succ, i64_w, i32_w]
                                  rfl
                                refine pure_ (i := 9) (N := some 78) (v := ?_) (a' := ?_) #[true, true, true, true, true, true, true, false, true, true, false, false, false, false] rfl rfl (any_of HT_.out (by kernel_rfl)) (fun _ _ _ h => h) (Or.inl ⟨by rfl, ?_⟩) ?_ ?_
                                rotate_left
                                · intro w'
                                  go_simp
                                  with_reducible rfl
                                rotate_left
                                · simp only [Act.put, List.setIfInBounds_toArray, List.set_cons_zero, List.set_cons_succ, i64_w, i32_w]
                                  rfl
                                refine pure_ (i := 10) (N := some 79) (v := ?_) (a' := ?_) #[true, true, true, true, true, true, true, false, true, true, true, false, false, false] rfl rfl (any_of HT_.out (by kernel_rfl)) (fun _ _ _ h => h) (Or.inl ⟨by rfl, ?_⟩) ?_ ?_
                                rotate_left
                                · intro w'
                                  go_simp
                                  with_reducible rfl
                                rotate_left
                                · simp only [Act.put, List.setIfInBounds_toArray, List.set_cons_zero, List.set_cons_succ, i64_w, i32_w]
                                  rfl
                                refine take_ (i := 7) (N := some 76) (v := ?_) (a' := ?_) #[true, true, true, true, true, true, true, true, true, true, true, false, false, false] rfl rfl (take_ofW HT_.out HW_.out (by kernel_rfl)) (fun _ _ _ h => h) (Or.inl ⟨by rfl, ?_⟩) hHeld ?_ ?_
                                rotate_left
                                · intro w' s0
                                  go_simp
                                  with_reducible rfl
                                rotate_left
                                · simp only [Act.put, List.setIfInBounds_toArray, List.set_cons_zero, List.set_cons_succ, i64_w, i32_w]
                                  rfl
                                refine pure_ (i := 11) (N := some 80) (v := ?_) (a' := ?_) #[true, true, true, true, true, true, true, true, true, true, true, true, false, false] rfl rfl (any_of HT_.out (by kernel_rfl)) (fun _ _ _ h => h) (Or.inl ⟨by rfl, ?_⟩) ?_ ?_
                                rotate_left
                                · intro w'
                                  go_simp
                                  with_reducible rfl
                                rotate_left
                                · simp only [Act.put, List.setIfInBounds_toArray, List.set_cons_zero, List.set_cons_succ, i64_w, i32_w]
                                  rfl
                                refine pure_ (i := 12) (N := some 81) (v := ?_) (a' := ?_) #[true, true, true, true, true, true, true, true, true, true, true, true, true, false] rfl rfl (any_of HT_.out (by kernel_rfl)) (fun _ _ _ h => h) (Or.inl ⟨by rfl, ?_⟩) ?_ ?_
                                rotate_left
                                · intro w'
                                  go_simp
                                  with_reducible rfl
                                rotate_left
                                · simp only [Act.put, List.setIfInBounds_toArray, List.set_cons_zero, List.set_cons_succ, i64_w, i32_w]
                                  rfl
                                refine last_ (i := 13) (N := none) #[true, true, true, true, true, true, true, true, true, true, true, true, true, true] rfl rfl (one_of HT_.out (by kernel_rfl)) (by decide) (fun K hK => ?_)
                                refine skip_ (w1 := ?_) (by rfl) rfl ?_ ?_
                                rotate_left
                                · go_simp
                                  rfl
                                refine hK.out _ _ ?_
                                clear hK K
                                refine done_ (done_of HT_.out (by kernel_rfl)) ?_
                                try go_wp2
                                go_roundg k2
                                case measure => have := HJ10.out; have := HK2.out; omega
                                case rel => exact ⟨(y377), (t375), (wrap64 (x13_2 - 1)), (by (rfl)), H', ⟨by have := HJ10.out; have := HK2.out; omega⟩, ⟨by exact Kd.R_mono (Kd.R_far (p := ⟨go49, ((ji43) : Int).toNat, none⟩) (Kd.R_mono HO_0.out (fun k_ hk => (⟨hk, fun e_ => hk.2.1 (by rw [e_]; rfl)⟩ : _ ∧ k_ ≠ go49))) (fun _ hk => hk.2) (.int .u32 (((rd x11_2 (ji43)) + (ji48)) % 4294967296))) (fun _ hk => ⟨hk.1.1, ⟨hk.1.2.1, hk.1.2.2⟩⟩)⟩, ⟨by exact Kd.R_mono (Kd.R_far (p := ⟨go49, ((ji43) : Int).toNat, none⟩) (Kd.R_mono HO_1.out (fun k_ hk => (⟨hk, fun e_ => hk.2.1 (by rw [e_]; rfl)⟩ : _ ∧ k_ ≠ go49))) (fun _ hk => hk.2) (.int .u32 (((rd x11_2 (ji43)) + (ji48)) % 4294967296))) (fun _ hk => ⟨hk.1.1, ⟨hk.1.2.1, hk.1.2.2⟩⟩)⟩, ⟨by exact HQ56.out⟩, ⟨by exact Kd.R_mono (Kd.R_far (p := ⟨go49, ((ji43) : Int).toNat, none⟩) (Kd.R_mono HO_12.out (fun k_ hk => (⟨hk, fun e_ => hk.2.2 (by rw [e_]; rfl)⟩ : _ ∧ k_ ≠ go49))) (fun _ hk => hk.2) (.int .u32 (((rd x11_2 (ji43)) + (ji48)) % 4294967296))) (fun _ hk => ⟨hk.1.1, ⟨hk.1.2.1, hk.1.2.2⟩⟩)⟩, ⟨by repeat (with_reducible first | exact HB.out | refine below_set ?_ GB49.out)⟩⟩
                              · rw [if_neg c47] at H
                                exact absurd H (by simp)
                            · rw [if_neg c45] at H
                              exact absurd H (by simp)
                          · rw [if_neg c44] at H
                            exact absurd H (by simp)
                        · rw [if_neg c41] at H
                          have c41b0 : decide (0 ≤ t374) = false := decide_eq_false c41
                          clear c41
                          have H' := Aside0.mk H
                          clear H
                          go_wp2_with (first | ((with_reducible refine gate_callee (f := 61) rfl ?_); refine goesL_ (some 60) rfl rfl Try.func61 (by kernel_rfl) rfl #[.slice Ao15 t343.length co15, .int .i64 x13_2] rfl (by (try simp only [List.map_toArray, List.map_cons, List.map_nil]); rfl) ?_; (with_reducible refine (primroseref01_bit.calls _ _ t343 x13_2 t372 _ ?side1 ?side2 A38.out).mono ?_); (case side1 => exact (Kd.R_reads' HO_0.out).2.2); (case side2 => exact (Kd.R_reads' HO_0.out).2.1); rintro e w' ⟨rfl, ⟨nd, rfl⟩⟩; refine ⟨_, rfl, ?_⟩; obtain ⟨Ao57, co57, eo57⟩ := Kd.R_slice HO_12.out; subst eo57) | ((with_reducible refine gate_callee (f := 60) rfl ?_); refine goesL_ (some 61) rfl rfl Try.func60 (by kernel_rfl) rfl #[.slice Ao57 x12_2.length co57, .int .u32 t372] rfl (by (try simp only [List.map_toArray, List.map_cons, List.map_nil]); rfl) ?_; (with_reducible refine (primroseref01_push.calls k2 (fun k_ => some k_ = (.slice Ao57 x12_2.length co57 : Value).ownBlock) (.slice Ao57 x12_2.length co57) x12_2 t372 t373 w _ ?side1 ?side2 A39.out).mono ?_); (case side1 => repeat (with_reducible first | exact HB.out | apply pw_below_drewN)); (case side2 => exact Kd.R_tight rfl HO_12.out); rintro e w58 ⟨rfl, hy0, hb, hkp⟩; refine ⟨_, rfl, ?_⟩; replace HO_0 := Aside0.mk (Kd.R_mono (ok' := fun k_ => some k_ ≠ (.slice Ao14 t346.length co14 : Value).ownBlock ∧ some k_ ≠ (v360 : Value).ownBlock ∧ some k_ ≠ (.slice Ao57 x12_2.length co57 : Value).ownBlock) (Kd.R_keptB (HO_0.out) hkp (fun k_ hk_ hs_ => (hk_.2.2) hs_)) (fun k_ hk_ => ⟨hk_.1.1, hk_.1.2.1, hk_.1.2.2⟩)); replace HO_1 := Aside0.mk (Kd.R_mono (ok' := fun k_ => some k_ ≠ (.slice Ao15 t343.length co15 : Value).ownBlock ∧ some k_ ≠ (v360 : Value).ownBlock ∧ some k_ ≠ (.slice Ao57 x12_2.length co57 : Value).ownBlock) (Kd.R_keptB (HO_1.out) hkp (fun k_ hk_ hs_ => (hk_.2.2) hs_)) (fun k_ hk_ => ⟨hk_.1.1, hk_.1.2.1, hk_.1.2.2⟩)); replace HO_11 := Aside0.mk (Kd.R_mono (ok' := fun k_ => some k_ ≠ (.slice Ao15 t343.length co15 : Value).ownBlock ∧ some k_ ≠ (.slice Ao14 t346.length co14 : Value).ownBlock ∧ some k_ ≠ (.slice Ao57 x12_2.length co57 : Value).ownBlock) (Kd.R_keptB (HO_11.out) hkp (fun k_ hk_ hs_ => (hk_.2.2) hs_)) (fun k_ hk_ => ⟨hk_.1.1, hk_.1.2.1, hk_.1.2.2⟩)); replace HO_12 := Aside0.mk (Kd.R_reok rfl hy0 (fun k_ e_ => HO_12.out.1 k_ e_)); replace HB := Aside0.mk (hb); (try clear hb); (try clear hkp); (try clear hy0)) | ((with_reducible refine gate_callee (f := 52) rfl ?_); refine goesL_ (some 64) rfl rfl Try.func52 (by kernel_rfl) rfl #[.slice Ao57 t373.length co57, .slice Ao14 t346.length co14] rfl (by (try simp only [List.map_toArray, List.map_cons, List.map_nil]); (rw [show t373.length = x12_2.length from (Kd.R_reads' HO_12.out).1.symm] <;> rfl)) ?_; (with_reducible refine (primroseref01_Cmp.calls k2 _ _ t373 _ _ t346 t374 _ ?side1 ?side2 ?side3 ?side4 A40.out).mono ?_); (case side1 => exact (Kd.R_reads' HO_12.out).2.2); (case side2 => rw [show t373.length = x12_2.length from (Kd.R_reads' HO_12.out).1.symm]; exact (Kd.R_reads' HO_12.out).2.1); (case side3 => exact (Kd.R_reads' HO_1.out).2.2); (case side4 => exact (Kd.R_reads' HO_1.out).2.1); rintro e w59 ⟨rfl, hb⟩; refine ⟨_, rfl, ?_⟩; replace HO_0 := Aside0.mk (Kd.R_below (HO_0.out) hb); replace HO_1 := Aside0.mk (Kd.R_below (HO_1.out) hb); replace HO_11 := Aside0.mk (Kd.R_below (HO_11.out) hb); replace HO_12 := Aside0.mk (Kd.R_below (HO_12.out) hb); replace HB := Aside0.mk (below_step (HB.out) hb); (try clear hb)))
                          go_roundg k2
                          case measure => have := HJ10.out; have := HK2.out; omega
                          case rel => exact ⟨(x11_2), (t373), (wrap64 (x13_2 - 1)), (by (rfl)), H', ⟨by have := HJ10.out; have := HK2.out; omega⟩, ⟨by exact HO_0.out⟩, ⟨by exact HO_1.out⟩, ⟨by exact HO_11.out⟩, ⟨by exact HO_12.out⟩, ⟨(HB.out)⟩⟩
                      · rw [if_neg c37] at H
                        have c37b0 : decide (0 ≤ x13_2) = false := decide_eq_false c37
                        clear c37
                        replace H := Option.bind_eq_some_iff.mp H
                        obtain ⟨t366, A600, H⟩ := H
                        replace H : ((primroseref01_Plain.f k2 x12_2).bind fun t369 => (some (t366, t369, true))) = some (r1, r2, r3) := H
                        have A60 := Aside0.mk A600
                        clear A600
                        replace H := Option.bind_eq_some_iff.mp H
                        obtain ⟨t369, A610, H⟩ := H
                        replace H : (some (t366, t369, true)) = some (r1, r2, r3) := H
                        have A61 := Aside0.mk A610
                        clear A610
                        simp only [Option.some.injEq, Prod.mk.injEq] at H
                        obtain ⟨rfl, rfl, rfl⟩ := H
                        obtain ⟨Ao62, co62, eo62⟩ := Kd.R_slice HO_11.out
                        subst eo62
                        go_wp2_with (first | ((with_reducible refine gate_callee (f := 51) rfl ?_); refine goesL_ (some 83) rfl rfl Try.func51 (by kernel_rfl) rfl #[.slice Ao62 x11_2.length co62] rfl (by (try simp only [List.map_toArray, List.map_cons, List.map_nil]); rfl) ?_; (with_reducible refine (primroseref01_Plain.calls k2 _ _ x11_2 t366 _ ?side1 ?side2 A60.out).mono ?_); (case side1 => exact (Kd.R_reads' HO_11.out).2.2); (case side2 => exact (Kd.R_reads' HO_11.out).2.1); rintro e w63 ⟨v367, rfl, ho0, hb⟩; refine ⟨_, rfl, ?_⟩; have n0_ := Aside0.mk (Kd.R_elder' (HO_0.out) (Kd.R_base ho0) hb); have n1_ := Aside0.mk (Kd.R_elder' (HO_1.out) (Kd.R_base ho0) hb); have n2_ := Aside0.mk (Kd.R_elder' (HO_11.out) (Kd.R_base ho0) hb); have n3_ := Aside0.mk (Kd.R_elder' (HO_12.out) (Kd.R_base ho0) hb); have n4_ := Aside0.mk (Kd.R_lower (Kd.R_new' (Kd.R_new' (Kd.R_new' (Kd.R_new' ho0 (Kd.R_lt (HO_0.out))) (Kd.R_lt (HO_1.out))) (Kd.R_lt (HO_11.out))) (Kd.R_lt (HO_12.out))) (below_size (HB.out))); have n5_ := Aside0.mk (below_step (HB.out) hb); clear HO_0; clear HO_1; clear HO_11; clear HO_12; clear HB; have HO_0 := n0_; have HO_1 := n1_; have HO_11 := n2_; have HO_12 := n3_; have HO368 := n4_; have HB := n5_; clear n0_ n1_ n2_ n3_ n4_ n5_; (try clear hb); (try clear ho0); obtain ⟨Ao64, co64, eo64⟩ := Kd.R_slice HO_12.out; subst eo64) | ((with_reducible refine gate_callee (f := 51) rfl ?_); refine goesL_ (some 85) rfl rfl Try.func51 (by kernel_rfl) rfl #[.slice Ao64 x12_2.length co64] rfl (by (try simp only [List.map_toArray, List.map_cons, List.map_nil]); rfl) ?_; (with_reducible refine (primroseref01_Plain.calls k2 _ _ x12_2 t369 _ ?side1 ?side2 A61.out).mono ?_); (case side1 => exact (Kd.R_reads' HO_12.out).2.2); (case side2 => exact (Kd.R_reads' HO_12.out).2.1); rintro e w65 ⟨v370, rfl, ho0, hb⟩; refine ⟨_, rfl, ?_⟩; have n0_ := Aside0.mk (Kd.R_elder' (HO_0.out) (Kd.R_base ho0) hb); have n1_ := Aside0.mk (Kd.R_elder' (HO_1.out) (Kd.R_base ho0) hb); have n2_ := Aside0.mk (Kd.R_elder' (HO_11.out) (Kd.R_base ho0) hb); have n3_ := Aside0.mk (Kd.R_elder' (HO_12.out) (Kd.R_base ho0) hb); have n4_ := Aside0.mk (Kd.R_elder' (HO368.out) (Kd.R_base ho0) hb); have n5_ := Aside0.mk (Kd.R_lower (Kd.R_new' (Kd.R_new' (Kd.R_new' (Kd.R_new' (Kd.R_new' ho0 (Kd.R_lt (HO_0.out))) (Kd.R_lt (HO_1.out))) (Kd.R_lt (HO_11.out))) (Kd.R_lt (HO_12.out))) (Kd.R_lt (HO368.out))) (below_size (HB.out))); have n6_ := Aside0.mk (below_step (HB.out) hb); clear HO_0; clear HO_1; clear HO_11; clear HO_12; clear HO368; clear HB; have HO_0 := n0_; have HO_1 := n1_; have HO_11 := n2_; have HO_12 := n3_; have HO368 := n4_; have HO371 := n5_; have HB := n6_; clear n0_ n1_ n2_ n3_ n4_ n5_ n6_; (try clear hb); (try clear ho0)))
                        go_ret3
                        exact ⟨_, _, by (rfl), by exact Kd.R_mono HO368.out (fun _ hk => hk.2), by exact Kd.R_mono HO371.out (fun _ hk => hk.2), (HB.out)⟩
                · rw [if_neg c30] at H
                  exact absurd H (by simp)
              · rw [if_neg c29] at H
                exact absurd H (by simp)
            · rw [if_neg c27] at H
              exact absurd H (by simp)
          · rw [if_neg c26] at H
            exact absurd H (by simp)
end Go.Proofs.Ytmgjjdodjamomaa.PB
