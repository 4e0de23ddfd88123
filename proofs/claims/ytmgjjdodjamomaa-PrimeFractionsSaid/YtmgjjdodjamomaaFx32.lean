/- Functions with the same answers as the Go code, and the proofs of that; printed by a turned copy of the print, shortened by programs (wip/tools). -/
import Derived.Test.YtmgjjdodjamomaaFW
import Derived.Test.YtmgjjdodjamomaaFx0
import Derived.Test.YtmgjjdodjamomaaFx1
import Derived.Test.YtmgjjdodjamomaaFx10
import Derived.Test.YtmgjjdodjamomaaFx11
import Derived.Test.YtmgjjdodjamomaaFx19
import Derived.Test.YtmgjjdodjamomaaFx2
import Derived.Test.YtmgjjdodjamomaaFx24
import Derived.Test.YtmgjjdodjamomaaFx25
import Derived.Test.YtmgjjdodjamomaaFx26
import Derived.Test.YtmgjjdodjamomaaFx27
import Derived.Test.YtmgjjdodjamomaaFx28
import Derived.Test.YtmgjjdodjamomaaFx29
import Derived.Test.YtmgjjdodjamomaaFx3
import Derived.Test.YtmgjjdodjamomaaFx30
import Derived.Test.YtmgjjdodjamomaaFx31
import Derived.Test.YtmgjjdodjamomaaFx4
import Derived.Test.YtmgjjdodjamomaaFx7
import Derived.Test.YtmgjjdodjamomaaFx8
namespace Go.Proofs.Ytmgjjdodjamomaa.PB
open Go.RowKit Go.Proofs.YtmgjjdodjamomaaW.PrintWords Go.Proofs.YtmgjjdodjamomaaW.PrintLast Go.Proofs.YtmgjjdodjamomaaW.PrintMore
attribute [local go_sem] max2_int max_two
set_option linter.unusedVariables false
set_option linter.unusedSimpArgs false
def prime_Of.f (k : Nat) (a0_0 : Bool) (l0_1 : List Int) (l0_2 : List Int) (a1 : Int) : Option (Int × Int) := (prime_Is.f k a1).bind fun t649 => (if t649 = true then ((fraction_Plain.f k a0_0 l0_1 l0_2).bind fun bt650 => ((prime_Mod.f k bt650.1 bt650.2.1 a1).bind fun bt657 => ((prime_Mod.f k false bt650.2.2 a1).bind fun bt659 => (if bt659.1 = 0 then (some (0, 30)) else ((prime_inverse.f k bt659.1 a1).bind fun t661 => (if a1 = 0 then (none) else (some (Int.tmod (wrap64 (bt657.1 * t661)) a1, 0)))))))) else (some (0, 50)))
set_option maxHeartbeats 8000000 in
set_option maxRecDepth 100000 in
theorem prime_Of.calls (k : Nat) (a0_0 : Bool) (A0_1 : Option Addr) (c0_1 : Nat) (l0_1 : List Int) (A0_2 : Option Addr) (c0_2 : Nat) (l0_2 : List Int) (a1 : Int) (r1 : Int) (r2 : Int) (w : World) (hr0_1 : Kd.C (Kd.int .u32) w A0_1 l0_1.length l0_1) (hc0_1 : l0_1.length ≤ c0_1) (hr0_2 : Kd.C (Kd.int .u32) w A0_2 l0_2.length l0_2) (hc0_2 : l0_2.length ≤ c0_2) (h : prime_Of.f k a0_0 l0_1 l0_2 a1 = some (r1, r2)) :
    Calls Try.prog 32 #[.agg #[.bool a0_0, .slice A0_1 l0_1.length c0_1, .slice A0_2 l0_2.length c0_2], .int .i64 a1] w fun e w' => e = .returned (.tuple #[.int .i64 r1, .int .i64 r2]) ∧ Below w.heap.size w w' := by
  have hu39 := Try.underlying39
  have hu32 := Try.underlying32
  have HR0_1 := Aside0.mk hr0_1
  have HC0_1 := Aside0.mk hc0_1
  clear hr0_1 hc0_1
  have HR0_2 := Aside0.mk hr0_2
  have HC0_2 := Aside0.mk hc0_2
  clear hr0_2 hc0_2
  have HB := Aside0.mk (Below.refl w.heap.size w)
  have H : ((prime_Is.f k a1).bind fun t649 => (if t649 = true then ((fraction_Plain.f k a0_0 l0_1 l0_2).bind fun bt650 => ((prime_Mod.f k bt650.1 bt650.2.1 a1).bind fun bt657 => ((prime_Mod.f k false bt650.2.2 a1).bind fun bt659 => (if bt659.1 = 0 then (some (0, 30)) else ((prime_inverse.f k bt659.1 a1).bind fun t661 => (if a1 = 0 then (none) else (some (Int.tmod (wrap64 (bt657.1 * t661)) a1, 0)))))))) else (some (0, 50)))) = some (r1, r2) := h
  clear h
  replace H := Option.bind_eq_some_iff.mp H
  obtain ⟨t649, A30, H⟩ := H
  replace H : (if t649 = true then ((fraction_Plain.f k a0_0 l0_1 l0_2).bind fun bt650 => ((prime_Mod.f k bt650.1 bt650.2.1 a1).bind fun bt657 => ((prime_Mod.f k false bt650.2.2 a1).bind fun bt659 => (if bt659.1 = 0 then (some (0, 30)) else ((prime_inverse.f k bt659.1 a1).bind fun t661 => (if a1 = 0 then (none) else (some (Int.tmod (wrap64 (bt657.1 * t661)) a1, 0)))))))) else (some (0, 50))) = some (r1, r2) := H
  have A3 := Aside0.mk A30
  clear A30
  by_cases c4 : t649 = true
  · subst c4
    have H1 : ((fraction_Plain.f k a0_0 l0_1 l0_2).bind fun bt650 => ((prime_Mod.f k bt650.1 bt650.2.1 a1).bind fun bt657 => ((prime_Mod.f k false bt650.2.2 a1).bind fun bt659 => (if bt659.1 = 0 then (some (0, 30)) else ((prime_inverse.f k bt659.1 a1).bind fun t661 => (if a1 = 0 then (none) else (some (Int.tmod (wrap64 (bt657.1 * t661)) a1, 0)))))))) = some (r1, r2) := by rw [if_pos rfl] at H; exact H
    clear H
    have H := H1
    clear H1
    replace H := Option.bind_eq_some_iff.mp H
    obtain ⟨⟨t650, t651, t654⟩, A50, H⟩ := H
    replace H : ((prime_Mod.f k t650 t651 a1).bind fun bt657 => ((prime_Mod.f k false t654 a1).bind fun bt659 => (if bt659.1 = 0 then (some (0, 30)) else ((prime_inverse.f k bt659.1 a1).bind fun t661 => (if a1 = 0 then (none) else (some (Int.tmod (wrap64 (bt657.1 * t661)) a1, 0))))))) = some (r1, r2) := H
    have A5 := Aside0.mk A50
    clear A50
    replace H := Option.bind_eq_some_iff.mp H
    obtain ⟨⟨t657, t658⟩, A60, H⟩ := H
    replace H : ((prime_Mod.f k false t654 a1).bind fun bt659 => (if bt659.1 = 0 then (some (0, 30)) else ((prime_inverse.f k bt659.1 a1).bind fun t661 => (if a1 = 0 then (none) else (some (Int.tmod (wrap64 (t657 * t661)) a1, 0)))))) = some (r1, r2) := H
    have A6 := Aside0.mk A60
    clear A60
    replace H := Option.bind_eq_some_iff.mp H
    obtain ⟨⟨t659, t660⟩, A70, H⟩ := H
    replace H : (if t659 = 0 then (some (0, 30)) else ((prime_inverse.f k t659 a1).bind fun t661 => (if a1 = 0 then (none) else (some (Int.tmod (wrap64 (t657 * t661)) a1, 0))))) = some (r1, r2) := H
    have A7 := Aside0.mk A70
    clear A70
    by_cases c8 : t659 = 0
    · rw [if_pos c8] at H
      have c8b0 : (t659 == 0) = true := beq_iff_eq.mpr c8
      have c8b1 : (t659 != 0) = false := bne_eq_false_iff_eq.mpr c8
      clear c8
      simp only [Option.some.injEq, Prod.mk.injEq] at H
      obtain ⟨rfl, rfl⟩ := H
      go_enter Try.func32, Try.ntmps32
      go_wp2_with (first | ((with_reducible refine gate_dst (N := 2) rfl ?_); refine box_event ?hg (N := 2) ?hd (cs := #[.bool a0_0, .slice A0_1 l0_1.length c0_1, .slice A0_2 l0_2.length c0_2]) (t := 39) ?hr ?_; (case hd => rfl); (case hg => rfl); (case hr => (go_simp; done)); intro gb648 hg w9 hbox hb; have n0_ := Aside0.mk (below_step (HB.out) hb); have n1_ := Aside0.mk (hbox); have n2_ := Aside0.mk (by rw [hg]; exact (below_size (HB.out)) : w.heap.size ≤ gb648); have n3_ := Aside0.mk (by rw [hg]; exact (below_size (HB.out)) : w.heap.size ≤ gb648); clear HB; have HB := n0_; have BK648 := n1_; have GW648 := n2_; have GE648 := n3_; clear n0_ n1_ n2_ n3_; clear hb hbox hg) | ((with_reducible refine gate_callee (f := 12) rfl ?_); refine goesL_ (some 11) rfl rfl Try.func12 (by kernel_rfl) rfl #[.int .i64 a1] rfl (by (try simp only [List.map_toArray, List.map_cons, List.map_nil]); rfl) ?_; (with_reducible refine (prime_Is.calls k a1 true _ A3.out).mono ?_); rintro e w' ⟨rfl, ⟨nd, rfl⟩⟩; refine ⟨_, rfl, ?_⟩; (try (rw [drewN_self w9]; generalize hq_ : World.drewN w9 _ = w9; have n0_ : Aside0 (w9.heap[gb648]? = some (.cells #[.bool a0_0, .slice A0_1 l0_1.length c0_1, .slice A0_2 l0_2.length c0_2] 39 (0, 0))) := ⟨by rw [← hq_]; exact (by (with_reducible repeat (refine blk_drewN ?_ _)); exact BK648.out)⟩; have n1_ : Aside0 (Below w.heap.size w w9) := ⟨by rw [← hq_]; exact (by repeat (with_reducible first | exact HB.out | apply pw_below_drewN))⟩; clear BK648 HB hq_; have BK648 := n0_; have HB := n1_; clear n0_ n1_)); have hcz10_0 : w9.cell? ⟨gb648, 0, none⟩ = some (.bool a0_0) := (blk_cell BK648.out 0).trans rfl; have hcz10_1 : w9.cell? ⟨gb648, 1, none⟩ = some (.slice A0_1 l0_1.length c0_1) := (blk_cell BK648.out 1).trans rfl; have hcz10_2 : w9.cell? ⟨gb648, 2, none⟩ = some (.slice A0_2 l0_2.length c0_2) := (blk_cell BK648.out 2).trans rfl; have hfz10_0 := blk_frozen BK648.out 0; have hfz10_1 := blk_frozen BK648.out 1; have hfz10_2 := blk_frozen BK648.out 2) | ((with_reducible refine gate_callee (f := 47) rfl ?_); refine goesL_ (some 14) rfl rfl Try.func47 (by kernel_rfl) rfl #[.agg #[.bool a0_0, .slice A0_1 l0_1.length c0_1, .slice A0_2 l0_2.length c0_2]] rfl (by (try simp only [List.map_toArray, List.map_cons, List.map_nil]); rfl) ?_; (with_reducible refine (fraction_Plain.calls k a0_0 _ _ l0_1 _ _ l0_2 t650 t651 t654 _ ?side1 ?side2 ?side3 ?side4 A5.out).mono ?_); (case side1 => exact (Kd.C_below HR0_1.out HB.out)); (case side2 => exact HC0_1.out); (case side3 => exact (Kd.C_below HR0_2.out HB.out)); (case side4 => exact HC0_2.out); rintro e w11 ⟨v652, v655, rfl, ho0, ho1, hb⟩; refine ⟨_, rfl, ?_⟩; have HO653 := Aside0.mk (Kd.V_lower (Kd.V_mono (ok' := fun k_ => k_ ≠ gb648) ho0 (fun k_ hk_ => (Kd.freshB (g := gb648) (o := .cells #[.bool a0_0, .slice A0_1 l0_1.length c0_1, .slice A0_2 l0_2.length c0_2] 39 (0, 0)) (BK648.out) k_ hk_))) (below_size (HB.out))); have HO656 := Aside0.mk (Kd.V_lower (Kd.V_mono (ok' := fun k_ => k_ ≠ gb648) ho1 (fun k_ hk_ => (Kd.freshB (g := gb648) (o := .cells #[.bool a0_0, .slice A0_1 l0_1.length c0_1, .slice A0_2 l0_2.length c0_2] 39 (0, 0)) (BK648.out) k_ hk_))) (below_size (HB.out))); replace BK648 := Aside0.mk (blk_below (g := gb648) (o := .cells #[.bool a0_0, .slice A0_1 l0_1.length c0_1, .slice A0_2 l0_2.length c0_2] 39 (0, 0)) (BK648.out) hb); replace HB := Aside0.mk (below_step (HB.out) hb); (try clear hb); (try clear ho0); (try clear ho1); have hcz12_0 : w11.cell? ⟨gb648, 0, none⟩ = some (.bool a0_0) := (blk_cell BK648.out 0).trans rfl; have hcz12_1 : w11.cell? ⟨gb648, 1, none⟩ = some (.slice A0_1 l0_1.length c0_1) := (blk_cell BK648.out 1).trans rfl; have hcz12_2 : w11.cell? ⟨gb648, 2, none⟩ = some (.slice A0_2 l0_2.length c0_2) := (blk_cell BK648.out 2).trans rfl; have hfz12_0 := blk_frozen BK648.out 0; have hfz12_1 := blk_frozen BK648.out 1; have hfz12_2 := blk_frozen BK648.out 2; obtain ⟨Ao13, co13, eo13⟩ := Kd.V_slice HO653.out; subst eo13; obtain ⟨Ao14, co14, eo14⟩ := Kd.V_slice HO656.out; subst eo14) | ((with_reducible refine gate_callee (f := 28) rfl ?_); refine goesL_ (some 19) rfl rfl Try.func28 (by kernel_rfl) rfl #[.agg #[.bool t650, .slice Ao13 t651.length co13], .int .i64 a1] rfl (by (try simp only [List.map_toArray, List.map_cons, List.map_nil]); rfl) ?_; (with_reducible refine (prime_Mod.calls k t650 _ _ t651 a1 t657 t658 _ ?side1 ?side2 A6.out).mono ?_); (case side1 => refine (Kd.V_reads' (e := 59) (base := w.heap.size) (ok := fun k_ => k_ ≠ gb648) (n := t651.length) (c := co13) ?_).2.2; exact (Kd.V_mono (Kd.V_far (p := ⟨gb648, 2, none⟩) (Kd.V_far (p := ⟨gb648, 1, none⟩) (Kd.V_far (p := ⟨gb648, 0, none⟩) (Kd.V_mono HO653.out (fun k_ hk => (⟨hk, hk⟩ : _ ∧ k_ ≠ gb648))) (fun _ hk => hk.2) (.bool t650)) (fun _ hk => hk.2) (.slice Ao13 t651.length co13)) (fun _ hk => hk.2) (.slice Ao14 t654.length co14)) (fun _ h_ => h_.1))); (case side2 => exact (Kd.V_reads' HO653.out).2.1); rintro e w15 ⟨rfl, hb⟩; refine ⟨_, rfl, ?_⟩; replace HO653 := Aside0.mk (Kd.V_below (Kd.V_mono (Kd.V_far (p := ⟨gb648, 2, none⟩) (Kd.V_far (p := ⟨gb648, 1, none⟩) (Kd.V_far (p := ⟨gb648, 0, none⟩) (Kd.V_mono HO653.out (fun k_ hk => (⟨hk, hk⟩ : _ ∧ k_ ≠ gb648))) (fun _ hk => hk.2) (.bool t650)) (fun _ hk => hk.2) (.slice Ao13 t651.length co13)) (fun _ hk => hk.2) (.slice Ao14 t654.length co14)) (fun _ h_ => h_.1)) hb); replace HO656 := Aside0.mk (Kd.V_below (Kd.V_mono (Kd.V_far (p := ⟨gb648, 2, none⟩) (Kd.V_far (p := ⟨gb648, 1, none⟩) (Kd.V_far (p := ⟨gb648, 0, none⟩) (Kd.V_mono HO656.out (fun k_ hk => (⟨hk, hk⟩ : _ ∧ k_ ≠ gb648))) (fun _ hk => hk.2) (.bool t650)) (fun _ hk => hk.2) (.slice Ao13 t651.length co13)) (fun _ hk => hk.2) (.slice Ao14 t654.length co14)) (fun _ h_ => h_.1)) hb); replace BK648 := Aside0.mk (blk_below (g := gb648) (o := .cells #[.bool t650, .slice Ao13 t651.length co13, .slice Ao14 t654.length co14] 39 (0, 0)) (by refine blk_put (cs := #[.bool t650, .slice Ao13 t651.length co13, .slice A0_2 l0_2.length c0_2]) ?_ 2 _ rfl; refine blk_put (cs := #[.bool t650, .slice A0_1 l0_1.length c0_1, .slice A0_2 l0_2.length c0_2]) ?_ 1 _ rfl; refine blk_put (cs := #[.bool a0_0, .slice A0_1 l0_1.length c0_1, .slice A0_2 l0_2.length c0_2]) ?_ 0 _ rfl; exact BK648.out) hb); replace HB := Aside0.mk (below_step (by repeat (with_reducible first | exact HB.out | refine below_set ?_ GE648.out)) hb); (try clear hb); have hcz16_0 : w15.cell? ⟨gb648, 0, none⟩ = some (.bool t650) := (blk_cell BK648.out 0).trans rfl; have hcz16_1 : w15.cell? ⟨gb648, 1, none⟩ = some (.slice Ao13 t651.length co13) := (blk_cell BK648.out 1).trans rfl; have hcz16_2 : w15.cell? ⟨gb648, 2, none⟩ = some (.slice Ao14 t654.length co14) := (blk_cell BK648.out 2).trans rfl; have hfz16_0 := blk_frozen BK648.out 0; have hfz16_1 := blk_frozen BK648.out 1; have hfz16_2 := blk_frozen BK648.out 2) | ((with_reducible refine gate_callee (f := 28) rfl ?_); refine goesL_ (some 27) rfl rfl Try.func28 (by kernel_rfl) rfl #[.agg #[.bool false, .slice Ao14 t654.length co14], .int .i64 a1] rfl (by (try simp only [List.map_toArray, List.map_cons, List.map_nil]); rfl) ?_; (with_reducible refine (prime_Mod.calls k false _ _ t654 a1 t659 t660 _ ?side1 ?side2 A7.out).mono ?_); (case side1 => exact (Kd.V_reads' HO656.out).2.2); (case side2 => exact (Kd.V_reads' HO656.out).2.1); rintro e w17 ⟨rfl, hb⟩; refine ⟨_, rfl, ?_⟩; replace HO653 := Aside0.mk (Kd.V_below (HO653.out) hb); replace HO656 := Aside0.mk (Kd.V_below (HO656.out) hb); replace BK648 := Aside0.mk (blk_below (g := gb648) (o := .cells #[.bool t650, .slice Ao13 t651.length co13, .slice Ao14 t654.length co14] 39 (0, 0)) (BK648.out) hb); replace HB := Aside0.mk (below_step (HB.out) hb); (try clear hb)))
      go_ret2
      exact ⟨by (rfl), (HB.out)⟩
    · rw [if_neg c8] at H
      have c8b0 : (t659 == 0) = false := beq_eq_false_iff_ne.mpr c8
      have c8b1 : (t659 != 0) = true := bne_iff_ne.mpr c8
      replace H := Option.bind_eq_some_iff.mp H
      obtain ⟨t661, A180, H⟩ := H
      replace H : (if a1 = 0 then (none) else (some (Int.tmod (wrap64 (t657 * t661)) a1, 0))) = some (r1, r2) := H
      have A18 := Aside0.mk A180
      clear A180
      by_cases c19 : a1 = 0
      · rw [if_pos c19] at H
        exact absurd H (by simp)
      · rw [if_neg c19] at H
        have c19b0 : (a1 == 0) = false := beq_eq_false_iff_ne.mpr c19
        have c19b1 : (a1 != 0) = true := bne_iff_ne.mpr c19
        simp only [Option.some.injEq, Prod.mk.injEq] at H
        obtain ⟨rfl, rfl⟩ := H
        go_enter Try.func32, Try.ntmps32
        go_wp2_with (first | ((with_reducible refine gate_dst (N := 2) rfl ?_); refine box_event ?hg (N := 2) ?hd (cs := #[.bool a0_0, .slice A0_1 l0_1.length c0_1, .slice A0_2 l0_2.length c0_2]) (t := 39) ?hr ?_; (case hd => rfl); (case hg => rfl); (case hr => (go_simp; done)); intro gb648 hg w20 hbox hb; have n0_ := Aside0.mk (below_step (HB.out) hb); have n1_ := Aside0.mk (hbox); have n2_ := Aside0.mk (by rw [hg]; exact (below_size (HB.out)) : w.heap.size ≤ gb648); have n3_ := Aside0.mk (by rw [hg]; exact (below_size (HB.out)) : w.heap.size ≤ gb648); clear HB; have HB := n0_; have BK648 := n1_; have GW648 := n2_; have GE648 := n3_; clear n0_ n1_ n2_ n3_; clear hb hbox hg) | ((with_reducible refine gate_callee (f := 12) rfl ?_); refine goesL_ (some 11) rfl rfl Try.func12 (by kernel_rfl) rfl #[.int .i64 a1] rfl (by (try simp only [List.map_toArray, List.map_cons, List.map_nil]); rfl) ?_; (with_reducible refine (prime_Is.calls k a1 true _ A3.out).mono ?_); rintro e w' ⟨rfl, ⟨nd, rfl⟩⟩; refine ⟨_, rfl, ?_⟩; (try (rw [drewN_self w20]; generalize hq_ : World.drewN w20 _ = w20; have n0_ : Aside0 (w20.heap[gb648]? = some (.cells #[.bool a0_0, .slice A0_1 l0_1.length c0_1, .slice A0_2 l0_2.length c0_2] 39 (0, 0))) := ⟨by rw [← hq_]; exact (by (with_reducible repeat (refine blk_drewN ?_ _)); exact BK648.out)⟩; have n1_ : Aside0 (Below w.heap.size w w20) := ⟨by rw [← hq_]; exact (by repeat (with_reducible first | exact HB.out | apply pw_below_drewN))⟩; clear BK648 HB hq_; have BK648 := n0_; have HB := n1_; clear n0_ n1_)); have hcz21_0 : w20.cell? ⟨gb648, 0, none⟩ = some (.bool a0_0) := (blk_cell BK648.out 0).trans rfl; have hcz21_1 : w20.cell? ⟨gb648, 1, none⟩ = some (.slice A0_1 l0_1.length c0_1) := (blk_cell BK648.out 1).trans rfl; have hcz21_2 : w20.cell? ⟨gb648, 2, none⟩ = some (.slice A0_2 l0_2.length c0_2) := (blk_cell BK648.out 2).trans rfl; have hfz21_0 := blk_frozen BK648.out 0; have hfz21_1 := blk_frozen BK648.out 1; have hfz21_2 := blk_frozen BK648.out 2) | ((with_reducible refine gate_callee (f := 47) rfl ?_); refine goesL_ (some 14) rfl rfl Try.func47 (by kernel_rfl) rfl #[.agg #[.bool a0_0, .slice A0_1 l0_1.length c0_1, .slice A0_2 l0_2.length c0_2]] rfl (by (try simp only [List.map_toArray, List.map_cons, List.map_nil]); rfl) ?_; (with_reducible refine (fraction_Plain.calls k a0_0 _ _ l0_1 _ _ l0_2 t650 t651 t654 _ ?side1 ?side2 ?side3 ?side4 A5.out).mono ?_); (case side1 => exact (Kd.C_below HR0_1.out HB.out)); (case side2 => exact HC0_1.out); (case side3 => exact (Kd.C_below HR0_2.out HB.out)); (case side4 => exact HC0_2.out); rintro e w22 ⟨v652, v655, rfl, ho0, ho1, hb⟩; refine ⟨_, rfl, ?_⟩; have HO653 := Aside0.mk (Kd.V_lower (Kd.V_mono (ok' := fun k_ => k_ ≠ gb648) ho0 (fun k_ hk_ => (Kd.freshB (g := gb648) (o := .cells #[.bool a0_0, .slice A0_1 l0_1.length c0_1, .slice A0_2 l0_2.length c0_2] 39 (0, 0)) (BK648.out) k_ hk_))) (below_size (HB.out))); have HO656 := Aside0.mk (Kd.V_lower (Kd.V_mono (ok' := fun k_ => k_ ≠ gb648) ho1 (fun k_ hk_ => (Kd.freshB (g := gb648) (o := .cells #[.bool a0_0, .slice A0_1 l0_1.length c0_1, .slice A0_2 l0_2.length c0_2] 39 (0, 0)) (BK648.out) k_ hk_))) (below_size (HB.out))); replace BK648 := Aside0.mk (blk_below (g := gb648) (o := .cells #[.bool a0_0, .slice A0_1 l0_1.length c0_1, .slice A0_2 l0_2.length c0_2] 39 (0, 0)) (BK648.out) hb); replace HB := Aside0.mk (below_step (HB.out) hb); (try clear hb); (try clear ho0); (try clear ho1); have hcz23_0 : w22.cell? ⟨gb648, 0, none⟩ = some (.bool a0_0) := (blk_cell BK648.out 0).trans rfl; have hcz23_1 : w22.cell? ⟨gb648, 1, none⟩ = some (.slice A0_1 l0_1.length c0_1) := (blk_cell BK648.out 1).trans rfl; have hcz23_2 : w22.cell? ⟨gb648, 2, none⟩ = some (.slice A0_2 l0_2.length c0_2) := (blk_cell BK648.out 2).trans rfl; have hfz23_0 := blk_frozen BK648.out 0; have hfz23_1 := blk_frozen BK648.out 1; have hfz23_2 := blk_frozen BK648.out 2; obtain ⟨Ao24, co24, eo24⟩ := Kd.V_slice HO653.out; subst eo24; obtain ⟨Ao25, co25, eo25⟩ := Kd.V_slice HO656.out; subst eo25) | ((with_reducible refine gate_callee (f := 28) rfl ?_); refine goesL_ (some 19) rfl rfl Try.func28 (by kernel_rfl) rfl #[.agg #[.bool t650, .slice Ao24 t651.length co24], .int .i64 a1] rfl (by (try simp only [List.map_toArray, List.map_cons, List.map_nil]); rfl) ?_; (with_reducible refine (prime_Mod.calls k t650 _ _ t651 a1 t657 t658 _ ?side1 ?side2 A6.out).mono ?_); (case side1 => refine (Kd.V_reads' (e := 59) (base := w.heap.size) (ok := fun k_ => k_ ≠ gb648) (n := t651.length) (c := co24) ?_).2.2; exact (Kd.V_mono (Kd.V_far (p := ⟨gb648, 2, none⟩) (Kd.V_far (p := ⟨gb648, 1, none⟩) (Kd.V_far (p := ⟨gb648, 0, none⟩) (Kd.V_mono HO653.out (fun k_ hk => (⟨hk, hk⟩ : _ ∧ k_ ≠ gb648))) (fun _ hk => hk.2) (.bool t650)) (fun _ hk => hk.2) (.slice Ao24 t651.length co24)) (fun _ hk => hk.2) (.slice Ao25 t654.length co25)) (fun _ h_ => h_.1))); (case side2 => exact (Kd.V_reads' HO653.out).2.1); rintro e w26 ⟨rfl, hb⟩; refine ⟨_, rfl, ?_⟩; replace HO653 := Aside0.mk (Kd.V_below (Kd.V_mono (Kd.V_far (p := ⟨gb648, 2, none⟩) (Kd.V_far (p := ⟨gb648, 1, none⟩) (Kd.V_far (p := ⟨gb648, 0, none⟩) (Kd.V_mono HO653.out (fun k_ hk => (⟨hk, hk⟩ : _ ∧ k_ ≠ gb648))) (fun _ hk => hk.2) (.bool t650)) (fun _ hk => hk.2) (.slice Ao24 t651.length co24)) (fun _ hk => hk.2) (.slice Ao25 t654.length co25)) (fun _ h_ => h_.1)) hb); replace HO656 := Aside0.mk (Kd.V_below (Kd.V_mono (Kd.V_far (p := ⟨gb648, 2, none⟩) (Kd.V_far (p := ⟨gb648, 1, none⟩) (Kd.V_far (p := ⟨gb648, 0, none⟩) (Kd.V_mono HO656.out (fun k_ hk => (⟨hk, hk⟩ : _ ∧ k_ ≠ gb648))) (fun _ hk => hk.2) (.bool t650)) (fun _ hk => hk.2) (.slice Ao24 t651.length co24)) (fun _ hk => hk.2) (.slice Ao25 t654.length co25)) (fun _ h_ => h_.1)) hb); replace BK648 := Aside0.mk (blk_below (g := gb648) (o := .cells #[.bool t650, .slice Ao24 t651.length co24, .slice Ao25 t654.length co25] 39 (0, 0)) (by refine blk_put (cs := #[.bool t650, .slice Ao24 t651.length co24, .slice A0_2 l0_2.length c0_2]) ?_ 2 _ rfl; refine blk_put (cs := #[.bool t650, .slice A0_1 l0_1.length c0_1, .slice A0_2 l0_2.length c0_2]) ?_ 1 _ rfl; refine blk_put (cs := #[.bool a0_0, .slice A0_1 l0_1.length c0_1, .slice A0_2 l0_2.length c0_2]) ?_ 0 _ rfl; exact BK648.out) hb); replace HB := Aside0.mk (below_step (by repeat (with_reducible first | exact HB.out | refine below_set ?_ GE648.out)) hb); (try clear hb); have hcz27_0 : w26.cell? ⟨gb648, 0, none⟩ = some (.bool t650) := (blk_cell BK648.out 0).trans rfl; have hcz27_1 : w26.cell? ⟨gb648, 1, none⟩ = some (.slice Ao24 t651.length co24) := (blk_cell BK648.out 1).trans rfl; have hcz27_2 : w26.cell? ⟨gb648, 2, none⟩ = some (.slice Ao25 t654.length co25) := (blk_cell BK648.out 2).trans rfl; have hfz27_0 := blk_frozen BK648.out 0; have hfz27_1 := blk_frozen BK648.out 1; have hfz27_2 := blk_frozen BK648.out 2) | ((with_reducible refine gate_callee (f := 28) rfl ?_); refine goesL_ (some 27) rfl rfl Try.func28 (by kernel_rfl) rfl #[.agg #[.bool false, .slice Ao25 t654.length co25], .int .i64 a1] rfl (by (try simp only [List.map_toArray, List.map_cons, List.map_nil]); rfl) ?_; (with_reducible refine (prime_Mod.calls k false _ _ t654 a1 t659 t660 _ ?side1 ?side2 A7.out).mono ?_); (case side1 => exact (Kd.V_reads' HO656.out).2.2); (case side2 => exact (Kd.V_reads' HO656.out).2.1); rintro e w28 ⟨rfl, hb⟩; refine ⟨_, rfl, ?_⟩; replace HO653 := Aside0.mk (Kd.V_below (HO653.out) hb); replace HO656 := Aside0.mk (Kd.V_below (HO656.out) hb); replace BK648 := Aside0.mk (blk_below (g := gb648) (o := .cells #[.bool t650, .slice Ao24 t651.length co24, .slice Ao25 t654.length co25] 39 (0, 0)) (BK648.out) hb); replace HB := Aside0.mk (below_step (HB.out) hb); (try clear hb)) | ((with_reducible refine gate_callee (f := 38) rfl ?_); refine goesL_ (some 35) rfl rfl Try.func38 (by kernel_rfl) rfl #[.int .i64 t659, .int .i64 a1] rfl (by (try simp only [List.map_toArray, List.map_cons, List.map_nil]); rfl) ?_; (with_reducible refine (prime_inverse.calls k t659 a1 t661 _ A18.out).mono ?_); rintro e w' ⟨rfl, ⟨nd, rfl⟩⟩; refine ⟨_, rfl, ?_⟩))
        go_ret2
        exact ⟨by (rfl), by repeat (with_reducible first | exact HB.out | apply pw_below_drewN)⟩
  · replace c4 := Bool.eq_false_iff.mpr c4
    subst c4
    have H1 : (some (0, 50)) = some (r1, r2) := by rw [if_neg (show ¬ (false = true) by decide)] at H; exact H
    clear H
    have H := H1
    clear H1
    simp only [Option.some.injEq, Prod.mk.injEq] at H
    obtain ⟨rfl, rfl⟩ := H
    go_enter Try.func32, Try.ntmps32
    go_wp2_with (first | ((with_reducible refine gate_dst (N := 2) rfl ?_); refine box_event ?hg (N := 2) ?hd (cs := #[.bool a0_0, .slice A0_1 l0_1.length c0_1, .slice A0_2 l0_2.length c0_2]) (t := 39) ?hr ?_; (case hd => rfl); (case hg => rfl); (case hr => (go_simp; done)); intro gb648 hg w29 hbox hb; have n0_ := Aside0.mk (below_step (HB.out) hb); have n1_ := Aside0.mk (hbox); have n2_ := Aside0.mk (by rw [hg]; exact (below_size (HB.out)) : w.heap.size ≤ gb648); have n3_ := Aside0.mk (by rw [hg]; exact (below_size (HB.out)) : w.heap.size ≤ gb648); clear HB; have HB := n0_; have BK648 := n1_; have GW648 := n2_; have GE648 := n3_; clear n0_ n1_ n2_ n3_; clear hb hbox hg) | ((with_reducible refine gate_callee (f := 12) rfl ?_); refine goesL_ (some 11) rfl rfl Try.func12 (by kernel_rfl) rfl #[.int .i64 a1] rfl (by (try simp only [List.map_toArray, List.map_cons, List.map_nil]); rfl) ?_; (with_reducible refine (prime_Is.calls k a1 false _ A3.out).mono ?_); rintro e w' ⟨rfl, ⟨nd, rfl⟩⟩; refine ⟨_, rfl, ?_⟩))
    go_ret2
    exact ⟨by (rfl), by repeat (with_reducible first | exact HB.out | apply pw_below_drewN)⟩
def primroseref03_Zero.f (k : Nat)  : Option (Bool × List Int × List Int) := (primroseref01_Of.f k 1).bind fun t663 => (some (false, ([] : List Int), t663))
set_option maxHeartbeats 8000000 in
set_option maxRecDepth 100000 in
theorem primroseref03_Zero.calls (k : Nat)  (r1 : Bool) (r2 : List Int) (r3 : List Int) (w : World) (h : primroseref03_Zero.f k  = some (r1, r2, r3)) :
    Calls Try.prog 49 #[] w fun e w' => ∃ v1_ v2_ : Value, e = .returned (.agg #[.bool r1, v1_, v2_]) ∧ Kd.R (Kd.int .u32) 59 w' w.heap.size (fun k_ => some k_ ≠ (v2_ : Value).ownBlock) v1_ r2 ∧ Kd.R (Kd.int .u32) 59 w' w.heap.size (fun k_ => some k_ ≠ (v1_ : Value).ownBlock) v2_ r3 ∧ Below w.heap.size w w' := by
  have hu39 := Try.underlying39
  have HB := Aside0.mk (Below.refl w.heap.size w)
  have H : ((primroseref01_Of.f k 1).bind fun t663 => (some (false, ([] : List Int), t663))) = some (r1, r2, r3) := h
  clear h
  replace H := Option.bind_eq_some_iff.mp H
  obtain ⟨t663, A10, H⟩ := H
  replace H : (some (false, ([] : List Int), t663)) = some (r1, r2, r3) := H
  have A1 := Aside0.mk A10
  clear A10
  simp only [Option.some.injEq, Prod.mk.injEq] at H
  obtain ⟨rfl, rfl, rfl⟩ := H
  go_enter Try.func49, Try.ntmps49
  go_wp2_with (first | ((with_reducible refine gate_dst (N := 0) rfl ?_); refine box_event ?hg (N := 0) ?hd (cs := #[.bool false, .slice none 0 0, .slice none 0 0]) (t := 39) ?hr ?_; (case hd => rfl); (case hg => rfl); (case hr => (go_simp; done)); intro gb662 hg w2 hbox hb; have n0_ := Aside0.mk (below_step (HB.out) hb); have n1_ := Aside0.mk (hbox); have n2_ := Aside0.mk (by rw [hg]; exact (below_size (HB.out)) : w.heap.size ≤ gb662); have n3_ := Aside0.mk (by rw [hg]; exact (below_size (HB.out)) : w.heap.size ≤ gb662); clear HB; have HB := n0_; have BK662 := n1_; have GW662 := n2_; have GE662 := n3_; clear n0_ n1_ n2_ n3_; clear hb hbox hg) | ((with_reducible refine gate_callee (f := 54) rfl ?_); refine goesL_ (some 1) rfl rfl Try.func54 (by kernel_rfl) rfl #[.int .i64 1] rfl (by (try simp only [List.map_toArray, List.map_cons, List.map_nil]); rfl) ?_; (with_reducible refine (primroseref01_Of.calls k 1 t663 _ A1.out).mono ?_); rintro e w3 ⟨v664, rfl, ho0, hb⟩; refine ⟨_, rfl, ?_⟩; have HO665 := Aside0.mk (Kd.R_lower ho0 (below_size (HB.out))); replace BK662 := Aside0.mk (blk_below (g := gb662) (o := .cells #[.bool false, .slice none 0 0, .slice none 0 0] 39 (0, 0)) (BK662.out) hb); replace HB := Aside0.mk (below_step (HB.out) hb); (try clear hb); (try clear ho0); obtain ⟨Ao4, co4, eo4⟩ := Kd.R_slice HO665.out; subst eo4; have hcz5_0 : w3.cell? ⟨gb662, 0, none⟩ = some (.bool false) := (blk_cell BK662.out 0).trans rfl; have hcz5_1 : w3.cell? ⟨gb662, 1, none⟩ = some (.slice none 0 0) := (blk_cell BK662.out 1).trans rfl; have hcz5_2 : w3.cell? ⟨gb662, 2, none⟩ = some (.slice none 0 0) := (blk_cell BK662.out 2).trans rfl; have hfz5_0 := blk_frozen BK662.out 0; have hfz5_1 := blk_frozen BK662.out 1; have hfz5_2 := blk_frozen BK662.out 2))
  refine bodyPost_ret (results_cell_row rfl _ _ gb662 39 #[.bool false, .slice none 0 0, .slice Ao4 t663.length co4] (0, 0) _ rfl (by refine blk_put (cs := #[.bool false, .slice none 0 0, .slice none 0 0]) ?_ 2 _ rfl; refine blk_put (cs := #[.bool false, .slice none 0 0, .slice none 0 0]) ?_ 1 _ rfl; refine blk_put (cs := #[.bool false, .slice none 0 0, .slice none 0 0]) ?_ 0 _ rfl; exact BK662.out) Try.underlying39 rfl (by kernel_rfl)) rfl ?_
  exact ⟨_, _, by (rfl), (Kd.R_nil _ _ _ _ _), by exact Kd.R_mono (Kd.R_far (p := ⟨gb662, 2, none⟩) (Kd.R_far (p := ⟨gb662, 1, none⟩) (Kd.R_far (p := ⟨gb662, 0, none⟩) (Kd.R_types HO665.out BK662.out (by decide)) (fun _ hk => hk.2) (.bool false)) (fun _ hk => hk.2) (.slice none 0 0)) (fun _ hk => hk.2) (.slice Ao4 t663.length co4)) (fun _ hk => (by simp [Value.ownBlock])), by repeat (with_reducible first | exact HB.out | refine below_set ?_ GE662.out)⟩
def primroseref02_Sign.f (k : Nat) (a0_0 : Bool) (l0_1 : List Int) : Option (Int) := (primroseref01_Bits.f k l0_1).bind fun t667 => (if t667 = 0 then (some 0) else (if a0_0 = true then (some (-1)) else (some 1)))
set_option maxHeartbeats 8000000 in
set_option maxRecDepth 100000 in
theorem primroseref02_Sign.calls (k : Nat) (a0_0 : Bool) (A0_1 : Option Addr) (c0_1 : Nat) (l0_1 : List Int) (r : Int) (w : World) (hr0_1 : Kd.C (Kd.int .u32) w A0_1 l0_1.length l0_1) (hc0_1 : l0_1.length ≤ c0_1) (h : primroseref02_Sign.f k a0_0 l0_1 = some r) :
    Calls Try.prog 57 #[.agg #[.bool a0_0, .slice A0_1 l0_1.length c0_1]] w fun e w' => e = .returned (.int .i64 r) ∧ Below w.heap.size w w' := by
  have hu32 := Try.underlying32
  have HR0_1 := Aside0.mk hr0_1
  have HC0_1 := Aside0.mk hc0_1
  clear hr0_1 hc0_1
  have HB := Aside0.mk (Below.refl w.heap.size w)
  have H : ((primroseref01_Bits.f k l0_1).bind fun t667 => (if t667 = 0 then (some 0) else (if a0_0 = true then (some (-1)) else (some 1)))) = some r := h
  clear h
  replace H := Option.bind_eq_some_iff.mp H
  obtain ⟨t667, A20, H⟩ := H
  replace H : (if t667 = 0 then (some 0) else (if a0_0 = true then (some (-1)) else (some 1))) = some r := H
  have A2 := Aside0.mk A20
  clear A20
  by_cases c3 : t667 = 0
  · rw [if_pos c3] at H
    have c3b0 : (t667 == 0) = true := beq_iff_eq.mpr c3
    have c3b1 : (t667 != 0) = false := bne_eq_false_iff_eq.mpr c3
    clear c3
    obtain rfl := Option.some.inj H
    go_enter Try.func57, Try.ntmps57
    go_wp2_with (first | ((with_reducible refine gate_dst (N := 1) rfl ?_); refine box_event ?hg (N := 1) ?hd (cs := #[.bool a0_0, .slice A0_1 l0_1.length c0_1]) (t := 32) ?hr ?_; (case hd => rfl); (case hg => rfl); (case hr => (go_simp; done)); intro gb666 hg w4 hbox hb; have n0_ := Aside0.mk (below_step (HB.out) hb); have n1_ := Aside0.mk (hbox); have n2_ := Aside0.mk (by rw [hg]; exact (below_size (HB.out)) : w.heap.size ≤ gb666); have n3_ := Aside0.mk (by rw [hg]; exact (below_size (HB.out)) : w.heap.size ≤ gb666); clear HB; have HB := n0_; have BK666 := n1_; have GW666 := n2_; have GE666 := n3_; clear n0_ n1_ n2_ n3_; clear hb hbox hg; have hcz5_0 : w4.cell? ⟨gb666, 0, none⟩ = some (.bool a0_0) := (blk_cell BK666.out 0).trans rfl; have hcz5_1 : w4.cell? ⟨gb666, 1, none⟩ = some (.slice A0_1 l0_1.length c0_1) := (blk_cell BK666.out 1).trans rfl; have hfz5_0 := blk_frozen BK666.out 0; have hfz5_1 := blk_frozen BK666.out 1) | ((with_reducible refine gate_callee (f := 48) rfl ?_); refine goesL_ (some 5) rfl rfl Try.func48 (by kernel_rfl) rfl #[.slice A0_1 l0_1.length c0_1] rfl (by (try simp only [List.map_toArray, List.map_cons, List.map_nil]); rfl) ?_; (with_reducible refine (primroseref01_Bits.calls k _ _ l0_1 t667 _ ?side1 ?side2 A2.out).mono ?_); (case side1 => exact (Kd.C_below HR0_1.out HB.out)); (case side2 => exact HC0_1.out); rintro e w6 ⟨rfl, hb⟩; refine ⟨_, rfl, ?_⟩; replace BK666 := Aside0.mk (blk_below (g := gb666) (o := .cells #[.bool a0_0, .slice A0_1 l0_1.length c0_1] 32 (0, 0)) (BK666.out) hb); replace HB := Aside0.mk (below_step (HB.out) hb); (try clear hb)))
    go_ret
    exact ⟨by (rfl), (HB.out)⟩
  · rw [if_neg c3] at H
    have c3b0 : (t667 == 0) = false := beq_eq_false_iff_ne.mpr c3
    have c3b1 : (t667 != 0) = true := bne_iff_ne.mpr c3
    by_cases c7 : a0_0 = true
    · subst c7
      have H1 : (some (-1)) = some r := by rw [if_pos rfl] at H; exact H
      clear H
      have H := H1
      clear H1
      obtain rfl := Option.some.inj H
      go_enter Try.func57, Try.ntmps57
      go_wp2_with (first | ((with_reducible refine gate_dst (N := 1) rfl ?_); refine box_event ?hg (N := 1) ?hd (cs := #[.bool true, .slice A0_1 l0_1.length c0_1]) (t := 32) ?hr ?_; (case hd => rfl); (case hg => rfl); (case hr => (go_simp; done)); intro gb666 hg w8 hbox hb; have n0_ := Aside0.mk (below_step (HB.out) hb); have n1_ := Aside0.mk (hbox); have n2_ := Aside0.mk (by rw [hg]; exact (below_size (HB.out)) : w.heap.size ≤ gb666); have n3_ := Aside0.mk (by rw [hg]; exact (below_size (HB.out)) : w.heap.size ≤ gb666); clear HB; have HB := n0_; have BK666 := n1_; have GW666 := n2_; have GE666 := n3_; clear n0_ n1_ n2_ n3_; clear hb hbox hg; have hcz9_0 : w8.cell? ⟨gb666, 0, none⟩ = some (.bool true) := (blk_cell BK666.out 0).trans rfl; have hcz9_1 : w8.cell? ⟨gb666, 1, none⟩ = some (.slice A0_1 l0_1.length c0_1) := (blk_cell BK666.out 1).trans rfl; have hfz9_0 := blk_frozen BK666.out 0; have hfz9_1 := blk_frozen BK666.out 1) | ((with_reducible refine gate_callee (f := 48) rfl ?_); refine goesL_ (some 5) rfl rfl Try.func48 (by kernel_rfl) rfl #[.slice A0_1 l0_1.length c0_1] rfl (by (try simp only [List.map_toArray, List.map_cons, List.map_nil]); rfl) ?_; (with_reducible refine (primroseref01_Bits.calls k _ _ l0_1 t667 _ ?side1 ?side2 A2.out).mono ?_); (case side1 => exact (Kd.C_below HR0_1.out HB.out)); (case side2 => exact HC0_1.out); rintro e w10 ⟨rfl, hb⟩; refine ⟨_, rfl, ?_⟩; replace BK666 := Aside0.mk (blk_below (g := gb666) (o := .cells #[.bool true, .slice A0_1 l0_1.length c0_1] 32 (0, 0)) (BK666.out) hb); replace HB := Aside0.mk (below_step (HB.out) hb); (try clear hb); have hcz11_0 : w10.cell? ⟨gb666, 0, none⟩ = some (.bool true) := (blk_cell BK666.out 0).trans rfl; have hcz11_1 : w10.cell? ⟨gb666, 1, none⟩ = some (.slice A0_1 l0_1.length c0_1) := (blk_cell BK666.out 1).trans rfl; have hfz11_0 := blk_frozen BK666.out 0; have hfz11_1 := blk_frozen BK666.out 1))
      go_ret
      exact ⟨by (rfl), (HB.out)⟩
    · replace c7 := Bool.eq_false_iff.mpr c7
      subst c7
      have H1 : (some 1) = some r := by rw [if_neg (show ¬ (false = true) by decide)] at H; exact H
      clear H
      have H := H1
      clear H1
      obtain rfl := Option.some.inj H
      go_enter Try.func57, Try.ntmps57
      go_wp2_with (first | ((with_reducible refine gate_dst (N := 1) rfl ?_); refine box_event ?hg (N := 1) ?hd (cs := #[.bool false, .slice A0_1 l0_1.length c0_1]) (t := 32) ?hr ?_; (case hd => rfl); (case hg => rfl); (case hr => (go_simp; done)); intro gb666 hg w12 hbox hb; have n0_ := Aside0.mk (below_step (HB.out) hb); have n1_ := Aside0.mk (hbox); have n2_ := Aside0.mk (by rw [hg]; exact (below_size (HB.out)) : w.heap.size ≤ gb666); have n3_ := Aside0.mk (by rw [hg]; exact (below_size (HB.out)) : w.heap.size ≤ gb666); clear HB; have HB := n0_; have BK666 := n1_; have GW666 := n2_; have GE666 := n3_; clear n0_ n1_ n2_ n3_; clear hb hbox hg; have hcz13_0 : w12.cell? ⟨gb666, 0, none⟩ = some (.bool false) := (blk_cell BK666.out 0).trans rfl; have hcz13_1 : w12.cell? ⟨gb666, 1, none⟩ = some (.slice A0_1 l0_1.length c0_1) := (blk_cell BK666.out 1).trans rfl; have hfz13_0 := blk_frozen BK666.out 0; have hfz13_1 := blk_frozen BK666.out 1) | ((with_reducible refine gate_callee (f := 48) rfl ?_); refine goesL_ (some 5) rfl rfl Try.func48 (by kernel_rfl) rfl #[.slice A0_1 l0_1.length c0_1] rfl (by (try simp only [List.map_toArray, List.map_cons, List.map_nil]); rfl) ?_; (with_reducible refine (primroseref01_Bits.calls k _ _ l0_1 t667 _ ?side1 ?side2 A2.out).mono ?_); (case side1 => exact (Kd.C_below HR0_1.out HB.out)); (case side2 => exact HC0_1.out); rintro e w14 ⟨rfl, hb⟩; refine ⟨_, rfl, ?_⟩; replace BK666 := Aside0.mk (blk_below (g := gb666) (o := .cells #[.bool false, .slice A0_1 l0_1.length c0_1] 32 (0, 0)) (BK666.out) hb); replace HB := Aside0.mk (below_step (HB.out) hb); (try clear hb); have hcz15_0 : w14.cell? ⟨gb666, 0, none⟩ = some (.bool false) := (blk_cell BK666.out 0).trans rfl; have hcz15_1 : w14.cell? ⟨gb666, 1, none⟩ = some (.slice A0_1 l0_1.length c0_1) := (blk_cell BK666.out 1).trans rfl; have hfz15_0 := blk_frozen BK666.out 0; have hfz15_1 := blk_frozen BK666.out 1))
      go_ret
      exact ⟨by (rfl), (HB.out)⟩
def primroseref02_Plain.f (k : Nat) (a0_0 : Bool) (l0_1 : List Int) : Option (Bool × List Int) := (primroseref02_Make.f k a0_0 l0_1).bind fun bt670 => (some (bt670.1, bt670.2))
set_option maxHeartbeats 8000000 in
set_option maxRecDepth 100000 in
theorem primroseref02_Plain.calls (k : Nat) (a0_0 : Bool) (A0_1 : Option Addr) (c0_1 : Nat) (l0_1 : List Int) (r1 : Bool) (r2 : List Int) (w : World) (hr0_1 : Kd.C (Kd.int .u32) w A0_1 l0_1.length l0_1) (hc0_1 : l0_1.length ≤ c0_1) (h : primroseref02_Plain.f k a0_0 l0_1 = some (r1, r2)) :
    Calls Try.prog 58 #[.agg #[.bool a0_0, .slice A0_1 l0_1.length c0_1]] w fun e w' => ∃ v1_ : Value, e = .returned (.agg #[.bool r1, v1_]) ∧ Kd.R (Kd.int .u32) 59 w' w.heap.size (fun _ => True) v1_ r2 ∧ Below w.heap.size w w' := by
  have hu32 := Try.underlying32
  have HR0_1 := Aside0.mk hr0_1
  have HC0_1 := Aside0.mk hc0_1
  clear hr0_1 hc0_1
  have HB := Aside0.mk (Below.refl w.heap.size w)
  have H : ((primroseref02_Make.f k a0_0 l0_1).bind fun bt670 => (some (bt670.1, bt670.2))) = some (r1, r2) := h
  clear h
  replace H := Option.bind_eq_some_iff.mp H
  obtain ⟨⟨t670, t671⟩, A20, H⟩ := H
  replace H : (some (t670, t671)) = some (r1, r2) := H
  have A2 := Aside0.mk A20
  clear A20
  simp only [Option.some.injEq, Prod.mk.injEq] at H
  obtain ⟨rfl, rfl⟩ := H
  go_enter Try.func58, Try.ntmps58
  go_wp2_with (first | ((with_reducible refine gate_dst (N := 1) rfl ?_); refine box_event ?hg (N := 1) ?hd (cs := #[.bool a0_0, .slice A0_1 l0_1.length c0_1]) (t := 32) ?hr ?_; (case hd => rfl); (case hg => rfl); (case hr => (go_simp; done)); intro gb668 hg w3 hbox hb; have n0_ := Aside0.mk (below_step (HB.out) hb); have n1_ := Aside0.mk (hbox); have n2_ := Aside0.mk (by rw [hg]; exact (below_size (HB.out)) : w.heap.size ≤ gb668); have n3_ := Aside0.mk (by rw [hg]; exact (below_size (HB.out)) : w.heap.size ≤ gb668); clear HB; have HB := n0_; have BK668 := n1_; have GW668 := n2_; have GE668 := n3_; clear n0_ n1_ n2_ n3_; clear hb hbox hg) | ((with_reducible refine gate_dst (N := 2) rfl ?_); refine box_event ?hg (N := 2) ?hd (cs := #[.bool false, .slice none 0 0]) (t := 32) ?hr ?_; (case hd => rfl); (case hg => rfl); (case hr => (go_simp; done)); intro gb669 hg w4 hbox hb; have n0_ := Aside0.mk (blk_below (g := gb668) (o := .cells #[.bool a0_0, .slice A0_1 l0_1.length c0_1] 32 (0, 0)) (BK668.out) hb); have n1_ := Aside0.mk (below_step (HB.out) hb); have n2_ := Aside0.mk (hbox); have n3_ := Aside0.mk (by rw [hg]; exact (below_size (HB.out)) : w.heap.size ≤ gb669); have n4_ := Aside0.mk (by rw [hg]; exact (below_size (HB.out)) : w.heap.size ≤ gb669); have n5_ := Aside0.mk (by rw [hg]; exact Nat.ne_of_lt (blk_lt (g := gb668) (o := .cells #[.bool a0_0, .slice A0_1 l0_1.length c0_1] 32 (0, 0)) (BK668.out)) : gb668 ≠ gb669); have n6_ := Aside0.mk (by rw [hg]; exact Nat.ne_of_gt (blk_lt (g := gb668) (o := .cells #[.bool a0_0, .slice A0_1 l0_1.length c0_1] 32 (0, 0)) (BK668.out)) : gb669 ≠ gb668); clear BK668; clear HB; have BK668 := n0_; have HB := n1_; have BK669 := n2_; have GW669 := n3_; have GE669 := n4_; have NB668_669 := n5_; have NB669_668 := n6_; clear n0_ n1_ n2_ n3_ n4_ n5_ n6_; clear hb hbox hg; have hnb5 := NB668_669.out; have hnc5 := NB669_668.out; have hcz6_0 : w4.cell? ⟨gb668, 0, none⟩ = some (.bool a0_0) := (blk_cell BK668.out 0).trans rfl; have hcz6_1 : w4.cell? ⟨gb668, 1, none⟩ = some (.slice A0_1 l0_1.length c0_1) := (blk_cell BK668.out 1).trans rfl; have hfz6_0 := blk_frozen BK668.out 0; have hfz6_1 := blk_frozen BK668.out 1) | ((with_reducible refine gate_callee (f := 40) rfl ?_); refine goesL_ (some 7) rfl rfl Try.func40 (by kernel_rfl) rfl #[.bool a0_0, .slice A0_1 l0_1.length c0_1] rfl (by (try simp only [List.map_toArray, List.map_cons, List.map_nil]); rfl) ?_; (with_reducible refine (primroseref02_Make.calls k a0_0 _ _ l0_1 t670 t671 _ ?side1 ?side2 A2.out).mono ?_); (case side1 => exact (Kd.C_below HR0_1.out HB.out)); (case side2 => exact HC0_1.out); rintro e w7 ⟨v672, rfl, ho0, hb⟩; refine ⟨_, rfl, ?_⟩; have HO673 := Aside0.mk (Kd.R_lower ho0 (below_size (HB.out))); replace BK668 := Aside0.mk (blk_below (g := gb668) (o := .cells #[.bool a0_0, .slice A0_1 l0_1.length c0_1] 32 (0, 0)) (BK668.out) hb); replace BK669 := Aside0.mk (blk_below (g := gb669) (o := .cells #[.bool false, .slice none 0 0] 32 (0, 0)) (BK669.out) hb); replace HB := Aside0.mk (below_step (HB.out) hb); (try clear hb); (try clear ho0); have hcz8_0 : w7.cell? ⟨gb669, 0, none⟩ = some (.bool false) := (blk_cell BK669.out 0).trans rfl; have hcz8_1 : w7.cell? ⟨gb669, 1, none⟩ = some (.slice none 0 0) := (blk_cell BK669.out 1).trans rfl; have hfz8_0 := blk_frozen BK669.out 0; have hfz8_1 := blk_frozen BK669.out 1; obtain ⟨Ao9, co9, eo9⟩ := Kd.R_slice HO673.out; subst eo9))
  refine bodyPost_ret (results_cell_row rfl _ _ gb669 32 #[.bool t670, .slice Ao9 t671.length co9] (0, 0) _ rfl (by refine blk_put (cs := #[.bool t670, .slice none 0 0]) ?_ 1 _ rfl; refine blk_put (cs := #[.bool false, .slice none 0 0]) ?_ 0 _ rfl; exact BK669.out) Try.underlying32 rfl (by kernel_rfl)) rfl ?_
  exact ⟨_, by (rfl), by exact Kd.R_mono (Kd.R_far (p := ⟨gb669, 1, none⟩) (Kd.R_far (p := ⟨gb669, 0, none⟩) (Kd.R_types HO673.out BK669.out (by decide)) (fun _ hk => hk.2) (.bool t670)) (fun _ hk => hk.2) (.slice Ao9 t671.length co9)) (fun _ hk => trivial), by repeat (with_reducible first | exact HB.out | refine below_set ?_ GE669.out)⟩
end Go.Proofs.Ytmgjjdodjamomaa.PB
