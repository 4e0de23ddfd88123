/- Functions with the same answers as the Go code, and the proofs of that; printed by a turned copy of the print, shortened by programs (wip/tools). -/
import Derived.Test.YtmgjjdodjamomaaFW
import Derived.Test.YtmgjjdodjamomaaFx0
import Derived.Test.YtmgjjdodjamomaaFx1
import Derived.Test.YtmgjjdodjamomaaFx10
import Derived.Test.YtmgjjdodjamomaaFx11
import Derived.Test.YtmgjjdodjamomaaFx13
import Derived.Test.YtmgjjdodjamomaaFx16
import Derived.Test.YtmgjjdodjamomaaFx17
import Derived.Test.YtmgjjdodjamomaaFx19
import Derived.Test.YtmgjjdodjamomaaFx2
import Derived.Test.YtmgjjdodjamomaaFx20
import Derived.Test.YtmgjjdodjamomaaFx21
import Derived.Test.YtmgjjdodjamomaaFx24
import Derived.Test.YtmgjjdodjamomaaFx25
import Derived.Test.YtmgjjdodjamomaaFx26
import Derived.Test.YtmgjjdodjamomaaFx27
import Derived.Test.YtmgjjdodjamomaaFx28
import Derived.Test.YtmgjjdodjamomaaFx29
import Derived.Test.YtmgjjdodjamomaaFx3
import Derived.Test.YtmgjjdodjamomaaFx30
import Derived.Test.YtmgjjdodjamomaaFx31
import Derived.Test.YtmgjjdodjamomaaFx32
import Derived.Test.YtmgjjdodjamomaaFx33
import Derived.Test.YtmgjjdodjamomaaFx34
import Derived.Test.YtmgjjdodjamomaaFx4
import Derived.Test.YtmgjjdodjamomaaFx7
import Derived.Test.YtmgjjdodjamomaaFx8
namespace Go.Proofs.Ytmgjjdodjamomaa.PB
open Go.RowKit Go.Proofs.YtmgjjdodjamomaaW.PrintWords Go.Proofs.YtmgjjdodjamomaaW.PrintLast Go.Proofs.YtmgjjdodjamomaaW.PrintMore
attribute [local go_sem] max2_int max_two
set_option linter.unusedVariables false
set_option linter.unusedSimpArgs false
def primroseref03_Mul.f (k : Nat) (a0_0 : Bool) (l0_1 : List Int) (l0_2 : List Int) (a1_0 : Bool) (l1_1 : List Int) (l1_2 : List Int) : Option (Bool × List Int × List Int) := (primroseref03_Plain.f k a0_0 l0_1 l0_2).bind fun bt783 => ((primroseref03_Plain.f k a1_0 l1_1 l1_2).bind fun bt790 => ((primroseref02_Mul.f k bt783.1 bt783.2.1 bt790.1 bt790.2.1).bind fun bt797 => ((primroseref01_Mul.f k bt783.2.2 bt790.2.2).bind fun t801 => ((primroseref03_over.f k bt797.1 bt797.2 t801).bind fun bt804 => (some (bt804.1, bt804.2.1, bt804.2.2))))))
def primroseref03_Mul.T2 : Bool × List (List Nat × List Nat) := (true, [([], []), ([0], [0]), ([], []), ([2], [2]), ([1, 3], [1, 3]), ([], []), ([5], [5]), ([], []), ([7], [7]), ([6, 8, 4], [6, 8]), ([4, 9, 9], [4, 9]), ([10, 10, 0, 1, 2, 3, 4, 5, 6, 7, 8, 9, 10], [10])])
def primroseref03_Mul.B2 : List Nat := [0, 1, 0, 4, 15, 0, 32, 0, 128, 511, 1023, 2047]
theorem primroseref03_Mul.tab2 : rtab .any (opsOf Try.f35 2) = primroseref03_Mul.T2 := by kernel_rfl
theorem primroseref03_Mul.bits2 : waitsOk primroseref03_Mul.T2.2 primroseref03_Mul.B2 = true := by kernel_rfl
set_option maxHeartbeats 8000000 in
set_option maxRecDepth 100000 in
theorem primroseref03_Mul.calls (k : Nat) (a0_0 : Bool) (A0_1 : Option Addr) (c0_1 : Nat) (l0_1 : List Int) (A0_2 : Option Addr) (c0_2 : Nat) (l0_2 : List Int) (a1_0 : Bool) (A1_1 : Option Addr) (c1_1 : Nat) (l1_1 : List Int) (A1_2 : Option Addr) (c1_2 : Nat) (l1_2 : List Int) (r1 : Bool) (r2 : List Int) (r3 : List Int) (w : World) (hr0_1 : Kd.C (Kd.int .u32) w A0_1 l0_1.length l0_1) (hc0_1 : l0_1.length ≤ c0_1) (hr0_2 : Kd.C (Kd.int .u32) w A0_2 l0_2.length l0_2) (hc0_2 : l0_2.length ≤ c0_2) (hr1_1 : Kd.C (Kd.int .u32) w A1_1 l1_1.length l1_1) (hc1_1 : l1_1.length ≤ c1_1) (hr1_2 : Kd.C (Kd.int .u32) w A1_2 l1_2.length l1_2) (hc1_2 : l1_2.length ≤ c1_2) (h : primroseref03_Mul.f k a0_0 l0_1 l0_2 a1_0 l1_1 l1_2 = some (r1, r2, r3)) :
    Calls Try.prog 35 #[.agg #[.bool a0_0, .slice A0_1 l0_1.length c0_1, .slice A0_2 l0_2.length c0_2], .agg #[.bool a1_0, .slice A1_1 l1_1.length c1_1, .slice A1_2 l1_2.length c1_2]] w fun e w' => ∃ v1_ v2_ : Value, e = .returned (.agg #[.bool r1, v1_, v2_]) ∧ Kd.R (Kd.int .u32) 59 w' w.heap.size (fun k_ => some k_ ≠ (v2_ : Value).ownBlock) v1_ r2 ∧ Kd.R (Kd.int .u32) 59 w' w.heap.size (fun k_ => some k_ ≠ (v1_ : Value).ownBlock) v2_ r3 ∧ Below w.heap.size w w' := by
  have hu39 := Try.underlying39
  have hu32 := Try.underlying32
  have HR0_1 := Aside0.mk hr0_1
  have HC0_1 := Aside0.mk hc0_1
  clear hr0_1 hc0_1
  have HR0_2 := Aside0.mk hr0_2
  have HC0_2 := Aside0.mk hc0_2
  clear hr0_2 hc0_2
  have HR1_1 := Aside0.mk hr1_1
  have HC1_1 := Aside0.mk hc1_1
  clear hr1_1 hc1_1
  have HR1_2 := Aside0.mk hr1_2
  have HC1_2 := Aside0.mk hc1_2
  clear hr1_2 hc1_2
  have HB := Aside0.mk (Below.refl w.heap.size w)
  have H : ((primroseref03_Plain.f k a0_0 l0_1 l0_2).bind fun bt783 => ((primroseref03_Plain.f k a1_0 l1_1 l1_2).bind fun bt790 => ((primroseref02_Mul.f k bt783.1 bt783.2.1 bt790.1 bt790.2.1).bind fun bt797 => ((primroseref01_Mul.f k bt783.2.2 bt790.2.2).bind fun t801 => ((primroseref03_over.f k bt797.1 bt797.2 t801).bind fun bt804 => (some (bt804.1, bt804.2.1, bt804.2.2))))))) = some (r1, r2, r3) := h
  clear h
  replace H := Option.bind_eq_some_iff.mp H
  obtain ⟨⟨t783, t784, t787⟩, A30, H⟩ := H
  replace H : ((primroseref03_Plain.f k a1_0 l1_1 l1_2).bind fun bt790 => ((primroseref02_Mul.f k t783 t784 bt790.1 bt790.2.1).bind fun bt797 => ((primroseref01_Mul.f k t787 bt790.2.2).bind fun t801 => ((primroseref03_over.f k bt797.1 bt797.2 t801).bind fun bt804 => (some (bt804.1, bt804.2.1, bt804.2.2)))))) = some (r1, r2, r3) := H
  have A3 := Aside0.mk A30
  clear A30
  replace H := Option.bind_eq_some_iff.mp H
  obtain ⟨⟨t790, t791, t794⟩, A40, H⟩ := H
  replace H : ((primroseref02_Mul.f k t783 t784 t790 t791).bind fun bt797 => ((primroseref01_Mul.f k t787 t794).bind fun t801 => ((primroseref03_over.f k bt797.1 bt797.2 t801).bind fun bt804 => (some (bt804.1, bt804.2.1, bt804.2.2))))) = some (r1, r2, r3) := H
  have A4 := Aside0.mk A40
  clear A40
  replace H := Option.bind_eq_some_iff.mp H
  obtain ⟨⟨t797, t798⟩, A50, H⟩ := H
  replace H : ((primroseref01_Mul.f k t787 t794).bind fun t801 => ((primroseref03_over.f k t797 t798 t801).bind fun bt804 => (some (bt804.1, bt804.2.1, bt804.2.2)))) = some (r1, r2, r3) := H
  have A5 := Aside0.mk A50
  clear A50
  replace H := Option.bind_eq_some_iff.mp H
  obtain ⟨t801, A60, H⟩ := H
  replace H : ((primroseref03_over.f k t797 t798 t801).bind fun bt804 => (some (bt804.1, bt804.2.1, bt804.2.2))) = some (r1, r2, r3) := H
  have A6 := Aside0.mk A60
  clear A60
  replace H := Option.bind_eq_some_iff.mp H
  obtain ⟨⟨t804, t805, t808⟩, A70, H⟩ := H
  replace H : (some (t804, t805, t808)) = some (r1, r2, r3) := H
  have A7 := Aside0.mk A70
  clear A70
  simp only [Option.some.injEq, Prod.mk.injEq] at H
  obtain ⟨rfl, rfl, rfl⟩ := H
  go_enter Try.func35, Try.ntmps35
  try go_wp2_with (first | ((with_reducible refine gate_dst (N := 2) rfl ?_); refine box_event ?hg (N := 2) ?hd (cs := #[.bool a0_0, .slice A0_1 l0_1.length c0_1, .slice A0_2 l0_2.length c0_2]) (t := 39) ?hr ?_; (case hd => rfl); (case hg => rfl); (case hr => (go_simp; done)); intro gb780 hg w8 hbox hb; have n0_ := Aside0.mk (below_step (HB.out) hb); have n1_ := Aside0.mk (hbox); have n2_ := Aside0.mk (by rw [hg]; exact (below_size (HB.out)) : w.heap.size ≤ gb780); have n3_ := Aside0.mk (by rw [hg]; exact (below_size (HB.out)) : w.heap.size ≤ gb780); clear HB; have HB := n0_; have BK780 := n1_; have GW780 := n2_; have GE780 := n3_; clear n0_ n1_ n2_ n3_; clear hb hbox hg) | ((with_reducible refine gate_dst (N := 3) rfl ?_); refine box_event ?hg (N := 3) ?hd (cs := #[.bool a1_0, .slice A1_1 l1_1.length c1_1, .slice A1_2 l1_2.length c1_2]) (t := 39) ?hr ?_; (case hd => rfl); (case hg => rfl); (case hr => (go_simp; done)); intro gb781 hg w9 hbox hb; have n0_ := Aside0.mk (blk_below (g := gb780) (o := .cells #[.bool a0_0, .slice A0_1 l0_1.length c0_1, .slice A0_2 l0_2.length c0_2] 39 (0, 0)) (BK780.out) hb); have n1_ := Aside0.mk (below_step (HB.out) hb); have n2_ := Aside0.mk (hbox); have n3_ := Aside0.mk (by rw [hg]; exact (below_size (HB.out)) : w.heap.size ≤ gb781); have n4_ := Aside0.mk (by rw [hg]; exact (below_size (HB.out)) : w.heap.size ≤ gb781); have n5_ := Aside0.mk (by rw [hg]; exact Nat.ne_of_lt (blk_lt (g := gb780) (o := .cells #[.bool a0_0, .slice A0_1 l0_1.length c0_1, .slice A0_2 l0_2.length c0_2] 39 (0, 0)) (BK780.out)) : gb780 ≠ gb781); have n6_ := Aside0.mk (by rw [hg]; exact Nat.ne_of_gt (blk_lt (g := gb780) (o := .cells #[.bool a0_0, .slice A0_1 l0_1.length c0_1, .slice A0_2 l0_2.length c0_2] 39 (0, 0)) (BK780.out)) : gb781 ≠ gb780); clear BK780; clear HB; have BK780 := n0_; have HB := n1_; have BK781 := n2_; have GW781 := n3_; have GE781 := n4_; have NB780_781 := n5_; have NB781_780 := n6_; clear n0_ n1_ n2_ n3_ n4_ n5_ n6_; clear hb hbox hg) | ((with_reducible refine gate_dst (N := 4) rfl ?_); refine box_event ?hg (N := 4) ?hd (cs := #[.bool false, .slice none 0 0, .slice none 0 0]) (t := 39) ?hr ?_; (case hd => rfl); (case hg => rfl); (case hr => (go_simp; done)); intro gb782 hg w10 hbox hb; have n0_ := Aside0.mk (blk_below (g := gb780) (o := .cells #[.bool a0_0, .slice A0_1 l0_1.length c0_1, .slice A0_2 l0_2.length c0_2] 39 (0, 0)) (BK780.out) hb); have n1_ := Aside0.mk (blk_below (g := gb781) (o := .cells #[.bool a1_0, .slice A1_1 l1_1.length c1_1, .slice A1_2 l1_2.length c1_2] 39 (0, 0)) (BK781.out) hb); have n2_ := Aside0.mk (below_step (HB.out) hb); have n3_ := Aside0.mk (hbox); have n4_ := Aside0.mk (by rw [hg]; exact (below_size (HB.out)) : w.heap.size ≤ gb782); have n5_ := Aside0.mk (by rw [hg]; exact (below_size (HB.out)) : w.heap.size ≤ gb782); have n6_ := Aside0.mk (by rw [hg]; exact Nat.ne_of_lt (blk_lt (g := gb780) (o := .cells #[.bool a0_0, .slice A0_1 l0_1.length c0_1, .slice A0_2 l0_2.length c0_2] 39 (0, 0)) (BK780.out)) : gb780 ≠ gb782); have n7_ := Aside0.mk (by rw [hg]; exact Nat.ne_of_gt (blk_lt (g := gb780) (o := .cells #[.bool a0_0, .slice A0_1 l0_1.length c0_1, .slice A0_2 l0_2.length c0_2] 39 (0, 0)) (BK780.out)) : gb782 ≠ gb780); have n8_ := Aside0.mk (by rw [hg]; exact Nat.ne_of_lt (blk_lt (g := gb781) (o := .cells #[.bool a1_0, .slice A1_1 l1_1.length c1_1, .slice A1_2 l1_2.length c1_2] 39 (0, 0)) (BK781.out)) : gb781 ≠ gb782); have n9_ := Aside0.mk (by rw [hg]; exact Nat.ne_of_gt (blk_lt (g := gb781) (o := .cells #[.bool a1_0, .slice A1_1 l1_1.length c1_1, .slice A1_2 l1_2.length c1_2] 39 (0, 0)) (BK781.out)) : gb782 ≠ gb781); clear BK780; clear BK781; clear HB; have BK780 := n0_; have BK781 := n1_; have HB := n2_; have BK782 := n3_; have GW782 := n4_; have GE782 := n5_; have NB780_782 := n6_; have NB782_780 := n7_; have NB781_782 := n8_; have NB782_781 := n9_; clear n0_ n1_ n2_ n3_ n4_ n5_ n6_ n7_ n8_ n9_; clear hb hbox hg))
  have n0_ := Aside0.mk (blk_drew BK780.out)
  have n1_ := Aside0.mk (blk_drew BK781.out)
  have n2_ := Aside0.mk (blk_drew BK782.out)
  have n3_ := Aside0.mk (below_drew1 HB.out)
  clear BK780
  clear BK781
  clear BK782
  clear HB
  have BK780 := n0_
  have BK781 := n1_
  have BK782 := n2_
  have HB := n3_
  clear n0_ n1_ n2_ n3_
  refine start_ (n := 6) (S := fun w' => w'.cell? ⟨gb780, 0, none⟩ = some (.bool a0_0) ∧ w'.cell? ⟨gb780, 1, none⟩ = some (.slice A0_1 l0_1.length c0_1) ∧ w'.cell? ⟨gb780, 2, none⟩ = some (.slice A0_2 l0_2.length c0_2) ∧ w'.cell? ⟨gb781, 0, none⟩ = some (.bool a1_0) ∧ w'.cell? ⟨gb781, 1, none⟩ = some (.slice A1_1 l1_1.length c1_1) ∧ w'.cell? ⟨gb781, 2, none⟩ = some (.slice A1_2 l1_2.length c1_2)) (ds := [4, 5]) #[false, false, false, false, false, false] (by kernel_rfl) rfl rfl ⟨(blk_cell BK780.out 0).trans rfl, (blk_cell BK780.out 1).trans rfl, (blk_cell BK780.out 2).trans rfl, (blk_cell BK781.out 0).trans rfl, (blk_cell BK781.out 1).trans rfl, (blk_cell BK781.out 2).trans rfl⟩ (fun hHeld => ?_)
  generalize w10.drew = w11 at BK780 BK781 BK782 HB hHeld ⊢
  refine take_ (i := 0) (N := some 5) (v := ?_) (a' := ?_) #[true, false, false, false, false, false] rfl rfl (by kernel_rfl) (fun _ _ _ h => h) (Or.inl ⟨by rfl, ?_⟩) hHeld ?_ ?_
  rotate_left
  · rintro w' ⟨s0, s1, s2, s3, s4, s5⟩
    go_simp
    with_reducible rfl
  rotate_left
  · simp only [Act.put, List.setIfInBounds_toArray, List.set_cons_zero, List.set_cons_succ, i64_w, i32_w]
    rfl
  refine take_ (i := 2) (N := some 7) (v := ?_) (a' := ?_) #[true, false, true, false, false, false] rfl rfl (by kernel_rfl) (fun _ _ _ h => h) (Or.inl ⟨by rfl, ?_⟩) hHeld ?_ ?_
  rotate_left
  · rintro w' ⟨s0, s1, s2, s3, s4, s5⟩
    go_simp
    with_reducible rfl
  rotate_left
  · simp only [Act.put, List.setIfInBounds_toArray, List.set_cons_zero, List.set_cons_succ, i64_w, i32_w]
    rfl
  refine one_ (i := 1) (N := some 6) #[true, true, true, false, false, false] rfl rfl (by kernel_rfl) (by decide) (fun K hK => ?_)
  refine goes_ Try.func34 (by kernel_rfl) rfl #[.agg #[.bool a0_0, .slice A0_1 l0_1.length c0_1, .slice A0_2 l0_2.length c0_2]] (by rfl) rfl rfl (by (try simp only [List.map_toArray, List.map_cons, List.map_nil]); rfl) ?_
  with_reducible refine (primroseref03_Plain.calls k a0_0 _ _ l0_1 _ _ l0_2 t783 t784 t787 _ ?side1 ?side2 ?side3 ?side4 A3.out).mono ?_
  (case side1 => exact (Kd.C_below HR0_1.out HB.out))
  (case side2 => exact HC0_1.out)
  (case side3 => exact (Kd.C_below HR0_2.out HB.out))
  (case side4 => exact HC0_2.out)
  rintro e w12 ⟨v785, v788, rfl, ho0, ho1, hb⟩
  refine ⟨_, rfl, ?_⟩
  have n0_ := Aside0.mk (Kd.R_lower ho0 (below_size (HB.out)))
  have n1_ := Aside0.mk (Kd.R_lower ho1 (below_size (HB.out)))
  have n2_ := Aside0.mk (blk_below (g := gb780) (o := .cells #[.bool a0_0, .slice A0_1 l0_1.length c0_1, .slice A0_2 l0_2.length c0_2] 39 (0, 0)) (BK780.out) hb)
  have n3_ := Aside0.mk (blk_below (g := gb781) (o := .cells #[.bool a1_0, .slice A1_1 l1_1.length c1_1, .slice A1_2 l1_2.length c1_2] 39 (0, 0)) (BK781.out) hb)
  have n4_ := Aside0.mk (blk_below (g := gb782) (o := .cells #[.bool false, .slice none 0 0, .slice none 0 0] 39 (0, 0)) (BK782.out) hb)
  have n5_ := Aside0.mk (below_step (HB.out) hb)
  clear BK780
  clear BK781
  clear BK782
  clear HB
  have HO786 := n0_
  have HO789 := n1_
  have BK780 := n2_
  have BK781 := n3_
  have BK782 := n4_
  have HB := n5_
  clear n0_ n1_ n2_ n3_ n4_ n5_
  (try clear hb)
  (try clear ho0)
  (try clear ho1)
  refine hK.out _ _ ⟨(blk_cell BK780.out 0).trans rfl, (blk_cell BK780.out 1).trans rfl, (blk_cell BK780.out 2).trans rfl, (blk_cell BK781.out 0).trans rfl, (blk_cell BK781.out 1).trans rfl, (blk_cell BK781.out 2).trans rfl⟩ (fun hHeld => ?_)
  clear hK K
  refine norm_ (a' := ?_) ?_ ?_
  rotate_left
  · show Act.put _ (some 6) _ = _
    simp only [Act.put, List.setIfInBounds_toArray, List.set_cons_zero, List.set_cons_succ, i64_w, i32_w]
    rfl
  refine one_ (i := 3) (N := some 8) #[true, true, true, true, false, false] rfl rfl (by kernel_rfl) (by decide) (fun K hK => ?_)
  refine goes_ Try.func34 (by kernel_rfl) rfl #[.agg #[.bool a1_0, .slice A1_1 l1_1.length c1_1, .slice A1_2 l1_2.length c1_2]] (by rfl) rfl rfl (by (try simp only [List.map_toArray, List.map_cons, List.map_nil]); rfl) ?_
  with_reducible refine (primroseref03_Plain.calls k a1_0 _ _ l1_1 _ _ l1_2 t790 t791 t794 _ ?side1 ?side2 ?side3 ?side4 A4.out).mono ?_
  (case side1 => exact (Kd.C_below HR1_1.out HB.out))
  (case side2 => exact HC1_1.out)
  (case side3 => exact (Kd.C_below HR1_2.out HB.out))
  (case side4 => exact HC1_2.out)
  rintro e w13 ⟨v792, v795, rfl, ho0, ho1, hb⟩
  refine ⟨_, rfl, ?_⟩
  have n0_ := Aside0.mk (Kd.R_mono (Kd.R_told (Kd.R_told (Kd.R_old (HO786.out) hb) (Kd.R_base ho0)) (Kd.R_base ho1)) (fun _ h_ => h_.1))
  have n1_ := Aside0.mk (Kd.R_mono (Kd.R_told (Kd.R_told (Kd.R_old (HO789.out) hb) (Kd.R_base ho0)) (Kd.R_base ho1)) (fun _ h_ => h_.1))
  have n2_ := Aside0.mk (Kd.R_lower (Kd.R_new' (Kd.R_new' ho0 (Kd.R_lt (HO786.out))) (Kd.R_lt (HO789.out))) (below_size (HB.out)))
  have n3_ := Aside0.mk (Kd.R_lower (Kd.R_new' (Kd.R_new' ho1 (Kd.R_lt (HO786.out))) (Kd.R_lt (HO789.out))) (below_size (HB.out)))
  have n4_ := Aside0.mk (blk_below (g := gb780) (o := .cells #[.bool a0_0, .slice A0_1 l0_1.length c0_1, .slice A0_2 l0_2.length c0_2] 39 (0, 0)) (BK780.out) hb)
  have n5_ := Aside0.mk (blk_below (g := gb781) (o := .cells #[.bool a1_0, .slice A1_1 l1_1.length c1_1, .slice A1_2 l1_2.length c1_2] 39 (0, 0)) (BK781.out) hb)
  have n6_ := Aside0.mk (blk_below (g := gb782) (o := .cells #[.bool false, .slice none 0 0, .slice none 0 0] 39 (0, 0)) (BK782.out) hb)
  have n7_ := Aside0.mk (below_step (HB.out) hb)
  clear HO786
  clear HO789
  clear BK780
  clear BK781
  clear BK782
  clear HB
  have HO786 := n0_
  have HO789 := n1_
  have HO793 := n2_
  have HO796 := n3_
  have BK780 := n4_
  have BK781 := n5_
  have BK782 := n6_
  have HB := n7_
  clear n0_ n1_ n2_ n3_ n4_ n5_ n6_ n7_
  (try clear hb)
  (try clear ho0)
  (try clear ho1)
  obtain ⟨Ao15, co15, eo15⟩ := Kd.R_slice HO786.out
  (subst eo15)
  obtain ⟨Ao17, co17, eo17⟩ := Kd.R_slice HO789.out
  (subst eo17)
  obtain ⟨Ao20, co20, eo20⟩ := Kd.R_slice HO793.out
  (subst eo20)
  obtain ⟨Ao22, co22, eo22⟩ := Kd.R_slice HO796.out
  (subst eo22)
  refine hK.out _ _ ⟨(blk_cell BK780.out 0).trans rfl, (blk_cell BK780.out 1).trans rfl, (blk_cell BK780.out 2).trans rfl, (blk_cell BK781.out 0).trans rfl, (blk_cell BK781.out 1).trans rfl, (blk_cell BK781.out 2).trans rfl⟩ (fun hHeld => ?_)
  clear hK K
  refine norm_ (a' := ?_) ?_ ?_
  rotate_left
  · show Act.put _ (some 8) _ = _
    simp only [Act.put, List.setIfInBounds_toArray, List.set_cons_zero, List.set_cons_succ, i64_w, i32_w]
    rfl
  refine last_ (i := 4) (N := none) #[true, true, true, true, true, false] rfl rfl (by kernel_rfl) (by decide) (fun K hK => ?_)
  have hs14 : w13.cell? ⟨gb780, 0, none⟩ = some (.bool a0_0) := (blk_cell BK780.out 0).trans rfl
  have hfs14 := blk_frozen BK780.out 0
  have hns14_1 := NB781_780.out
  have hns14_2 := NB782_780.out
  have hms14_1 := NB780_781.out
  have hms14_2 := NB780_782.out
  have hs16 : w13.cell? ⟨gb780, 1, none⟩ = some (.slice A0_1 l0_1.length c0_1) := (blk_cell BK780.out 1).trans rfl
  have hfs16 := blk_frozen BK780.out 1
  have hns16_1 := NB781_780.out
  have hns16_2 := NB782_780.out
  have hms16_1 := NB780_781.out
  have hms16_2 := NB780_782.out
  have hs18 : w13.cell? ⟨gb780, 2, none⟩ = some (.slice A0_2 l0_2.length c0_2) := (blk_cell BK780.out 2).trans rfl
  have hfs18 := blk_frozen BK780.out 2
  have hns18_1 := NB781_780.out
  have hns18_2 := NB782_780.out
  have hms18_1 := NB780_781.out
  have hms18_2 := NB780_782.out
  refine skip_ (w1 := ?_) (by rfl) rfl ?_ ?_
  rotate_left
  · go_simp
    rfl
  refine hK.out _ _ ?_
  clear hK K
  refine last_ (i := 5) (N := none) #[true, true, true, true, true, true] rfl rfl (by kernel_rfl) (by decide) (fun K hK => ?_)
  have hs19 : w13.cell? ⟨gb781, 0, none⟩ = some (.bool a1_0) := (blk_cell BK781.out 0).trans rfl
  have hfs19 := blk_frozen BK781.out 0
  have hns19_0 := NB780_781.out
  have hns19_2 := NB782_781.out
  have hms19_0 := NB781_780.out
  have hms19_2 := NB781_782.out
  have hs21 : w13.cell? ⟨gb781, 1, none⟩ = some (.slice A1_1 l1_1.length c1_1) := (blk_cell BK781.out 1).trans rfl
  have hfs21 := blk_frozen BK781.out 1
  have hns21_0 := NB780_781.out
  have hns21_2 := NB782_781.out
  have hms21_0 := NB781_780.out
  have hms21_2 := NB781_782.out
  have hs23 : w13.cell? ⟨gb781, 2, none⟩ = some (.slice A1_2 l1_2.length c1_2) := (blk_cell BK781.out 2).trans rfl
  have hfs23 := blk_frozen BK781.out 2
  have hns23_0 := NB780_781.out
  have hns23_2 := NB782_781.out
  have hms23_0 := NB781_780.out
  have hms23_2 := NB781_782.out
  refine skip_ (w1 := ?_) (by rfl) rfl ?_ ?_
  rotate_left
  · go_simp
    rfl
  refine hK.out _ _ ?_
  clear hK K
  refine done_ (by kernel_rfl) ?_
  try go_wp2
  have n0_ : Aside0 (Kd.R (Kd.int .u32) 59 ((((((w13.setCell ⟨gb780, 0, none⟩ (.bool t783)).setCell ⟨gb780, 1, none⟩ (.slice Ao15 t784.length co15)).setCell ⟨gb780, 2, none⟩ (.slice Ao17 t787.length co17)).setCell ⟨gb781, 0, none⟩ (.bool t790)).setCell ⟨gb781, 1, none⟩ (.slice Ao20 t791.length co20)).setCell ⟨gb781, 2, none⟩ (.slice Ao22 t794.length co22)) w.heap.size (fun k_ => some k_ ≠ (.slice Ao17 t787.length co17 : Value).ownBlock ∧ some k_ ≠ (.slice Ao20 t791.length co20 : Value).ownBlock ∧ some k_ ≠ (.slice Ao22 t794.length co22 : Value).ownBlock) (.slice Ao15 t784.length co15) t784) := ⟨by exact Kd.R_mono (Kd.R_far (p := ⟨gb781, 2, none⟩) (Kd.R_far (p := ⟨gb781, 1, none⟩) (Kd.R_far (p := ⟨gb781, 0, none⟩) (Kd.R_far (p := ⟨gb780, 2, none⟩) (Kd.R_far (p := ⟨gb780, 1, none⟩) (Kd.R_far (p := ⟨gb780, 0, none⟩) (Kd.R_types (Kd.R_types HO786.out BK780.out (by decide)) BK781.out (by decide)) (fun _ hk => hk.1.2) (.bool t783)) (fun _ hk => hk.1.2) (.slice Ao15 t784.length co15)) (fun _ hk => hk.1.2) (.slice Ao17 t787.length co17)) (fun _ hk => hk.2) (.bool t790)) (fun _ hk => hk.2) (.slice Ao20 t791.length co20)) (fun _ hk => hk.2) (.slice Ao22 t794.length co22)) (fun _ hk => ⟨hk.1.1.1.1, ⟨hk.1.1.1.2, hk.1.1.2⟩⟩)⟩
  have n1_ : Aside0 (Kd.R (Kd.int .u32) 59 ((((((w13.setCell ⟨gb780, 0, none⟩ (.bool t783)).setCell ⟨gb780, 1, none⟩ (.slice Ao15 t784.length co15)).setCell ⟨gb780, 2, none⟩ (.slice Ao17 t787.length co17)).setCell ⟨gb781, 0, none⟩ (.bool t790)).setCell ⟨gb781, 1, none⟩ (.slice Ao20 t791.length co20)).setCell ⟨gb781, 2, none⟩ (.slice Ao22 t794.length co22)) w.heap.size (fun k_ => some k_ ≠ (.slice Ao15 t784.length co15 : Value).ownBlock ∧ some k_ ≠ (.slice Ao20 t791.length co20 : Value).ownBlock ∧ some k_ ≠ (.slice Ao22 t794.length co22 : Value).ownBlock) (.slice Ao17 t787.length co17) t787) := ⟨by exact Kd.R_mono (Kd.R_far (p := ⟨gb781, 2, none⟩) (Kd.R_far (p := ⟨gb781, 1, none⟩) (Kd.R_far (p := ⟨gb781, 0, none⟩) (Kd.R_far (p := ⟨gb780, 2, none⟩) (Kd.R_far (p := ⟨gb780, 1, none⟩) (Kd.R_far (p := ⟨gb780, 0, none⟩) (Kd.R_types (Kd.R_types HO789.out BK780.out (by decide)) BK781.out (by decide)) (fun _ hk => hk.1.2) (.bool t783)) (fun _ hk => hk.1.2) (.slice Ao15 t784.length co15)) (fun _ hk => hk.1.2) (.slice Ao17 t787.length co17)) (fun _ hk => hk.2) (.bool t790)) (fun _ hk => hk.2) (.slice Ao20 t791.length co20)) (fun _ hk => hk.2) (.slice Ao22 t794.length co22)) (fun _ hk => ⟨hk.1.1.1.1, ⟨hk.1.1.1.2, hk.1.1.2⟩⟩)⟩
  have n2_ : Aside0 (Kd.R (Kd.int .u32) 59 ((((((w13.setCell ⟨gb780, 0, none⟩ (.bool t783)).setCell ⟨gb780, 1, none⟩ (.slice Ao15 t784.length co15)).setCell ⟨gb780, 2, none⟩ (.slice Ao17 t787.length co17)).setCell ⟨gb781, 0, none⟩ (.bool t790)).setCell ⟨gb781, 1, none⟩ (.slice Ao20 t791.length co20)).setCell ⟨gb781, 2, none⟩ (.slice Ao22 t794.length co22)) w.heap.size (fun k_ => some k_ ≠ (.slice Ao15 t784.length co15 : Value).ownBlock ∧ some k_ ≠ (.slice Ao17 t787.length co17 : Value).ownBlock ∧ some k_ ≠ (.slice Ao22 t794.length co22 : Value).ownBlock) (.slice Ao20 t791.length co20) t791) := ⟨by exact Kd.R_mono (Kd.R_far (p := ⟨gb781, 2, none⟩) (Kd.R_far (p := ⟨gb781, 1, none⟩) (Kd.R_far (p := ⟨gb781, 0, none⟩) (Kd.R_far (p := ⟨gb780, 2, none⟩) (Kd.R_far (p := ⟨gb780, 1, none⟩) (Kd.R_far (p := ⟨gb780, 0, none⟩) (Kd.R_types (Kd.R_types HO793.out BK780.out (by decide)) BK781.out (by decide)) (fun _ hk => hk.1.2) (.bool t783)) (fun _ hk => hk.1.2) (.slice Ao15 t784.length co15)) (fun _ hk => hk.1.2) (.slice Ao17 t787.length co17)) (fun _ hk => hk.2) (.bool t790)) (fun _ hk => hk.2) (.slice Ao20 t791.length co20)) (fun _ hk => hk.2) (.slice Ao22 t794.length co22)) (fun _ hk => ⟨hk.1.1.1.2, ⟨hk.1.1.2, hk.1.1.1.1⟩⟩)⟩
  have n3_ : Aside0 (Kd.R (Kd.int .u32) 59 ((((((w13.setCell ⟨gb780, 0, none⟩ (.bool t783)).setCell ⟨gb780, 1, none⟩ (.slice Ao15 t784.length co15)).setCell ⟨gb780, 2, none⟩ (.slice Ao17 t787.length co17)).setCell ⟨gb781, 0, none⟩ (.bool t790)).setCell ⟨gb781, 1, none⟩ (.slice Ao20 t791.length co20)).setCell ⟨gb781, 2, none⟩ (.slice Ao22 t794.length co22)) w.heap.size (fun k_ => some k_ ≠ (.slice Ao15 t784.length co15 : Value).ownBlock ∧ some k_ ≠ (.slice Ao17 t787.length co17 : Value).ownBlock ∧ some k_ ≠ (.slice Ao20 t791.length co20 : Value).ownBlock) (.slice Ao22 t794.length co22) t794) := ⟨by exact Kd.R_mono (Kd.R_far (p := ⟨gb781, 2, none⟩) (Kd.R_far (p := ⟨gb781, 1, none⟩) (Kd.R_far (p := ⟨gb781, 0, none⟩) (Kd.R_far (p := ⟨gb780, 2, none⟩) (Kd.R_far (p := ⟨gb780, 1, none⟩) (Kd.R_far (p := ⟨gb780, 0, none⟩) (Kd.R_types (Kd.R_types HO796.out BK780.out (by decide)) BK781.out (by decide)) (fun _ hk => hk.1.2) (.bool t783)) (fun _ hk => hk.1.2) (.slice Ao15 t784.length co15)) (fun _ hk => hk.1.2) (.slice Ao17 t787.length co17)) (fun _ hk => hk.2) (.bool t790)) (fun _ hk => hk.2) (.slice Ao20 t791.length co20)) (fun _ hk => hk.2) (.slice Ao22 t794.length co22)) (fun _ hk => ⟨hk.1.1.1.2, ⟨hk.1.1.2, hk.1.1.1.1⟩⟩)⟩
  have n4_ : Aside0 (((((((w13.setCell ⟨gb780, 0, none⟩ (.bool t783)).setCell ⟨gb780, 1, none⟩ (.slice Ao15 t784.length co15)).setCell ⟨gb780, 2, none⟩ (.slice Ao17 t787.length co17)).setCell ⟨gb781, 0, none⟩ (.bool t790)).setCell ⟨gb781, 1, none⟩ (.slice Ao20 t791.length co20)).setCell ⟨gb781, 2, none⟩ (.slice Ao22 t794.length co22)).heap[gb780]? = some (.cells #[.bool t783, .slice Ao15 t784.length co15, .slice Ao17 t787.length co17] 39 (0, 0))) := ⟨by refine blk_far ?_ NB780_781.out _; refine blk_far ?_ NB780_781.out _; refine blk_far ?_ NB780_781.out _; refine blk_put (cs := #[.bool t783, .slice Ao15 t784.length co15, .slice A0_2 l0_2.length c0_2]) ?_ 2 _ rfl; refine blk_put (cs := #[.bool t783, .slice A0_1 l0_1.length c0_1, .slice A0_2 l0_2.length c0_2]) ?_ 1 _ rfl; refine blk_put (cs := #[.bool a0_0, .slice A0_1 l0_1.length c0_1, .slice A0_2 l0_2.length c0_2]) ?_ 0 _ rfl; exact BK780.out⟩
  have n5_ : Aside0 (((((((w13.setCell ⟨gb780, 0, none⟩ (.bool t783)).setCell ⟨gb780, 1, none⟩ (.slice Ao15 t784.length co15)).setCell ⟨gb780, 2, none⟩ (.slice Ao17 t787.length co17)).setCell ⟨gb781, 0, none⟩ (.bool t790)).setCell ⟨gb781, 1, none⟩ (.slice Ao20 t791.length co20)).setCell ⟨gb781, 2, none⟩ (.slice Ao22 t794.length co22)).heap[gb781]? = some (.cells #[.bool t790, .slice Ao20 t791.length co20, .slice Ao22 t794.length co22] 39 (0, 0))) := ⟨by refine blk_put (cs := #[.bool t790, .slice Ao20 t791.length co20, .slice A1_2 l1_2.length c1_2]) ?_ 2 _ rfl; refine blk_put (cs := #[.bool t790, .slice A1_1 l1_1.length c1_1, .slice A1_2 l1_2.length c1_2]) ?_ 1 _ rfl; refine blk_put (cs := #[.bool a1_0, .slice A1_1 l1_1.length c1_1, .slice A1_2 l1_2.length c1_2]) ?_ 0 _ rfl; refine blk_far ?_ NB781_780.out _; refine blk_far ?_ NB781_780.out _; refine blk_far ?_ NB781_780.out _; exact BK781.out⟩
  have n6_ : Aside0 (((((((w13.setCell ⟨gb780, 0, none⟩ (.bool t783)).setCell ⟨gb780, 1, none⟩ (.slice Ao15 t784.length co15)).setCell ⟨gb780, 2, none⟩ (.slice Ao17 t787.length co17)).setCell ⟨gb781, 0, none⟩ (.bool t790)).setCell ⟨gb781, 1, none⟩ (.slice Ao20 t791.length co20)).setCell ⟨gb781, 2, none⟩ (.slice Ao22 t794.length co22)).heap[gb782]? = some (.cells #[.bool false, .slice none 0 0, .slice none 0 0] 39 (0, 0))) := ⟨by refine blk_far ?_ NB782_781.out _; refine blk_far ?_ NB782_781.out _; refine blk_far ?_ NB782_781.out _; refine blk_far ?_ NB782_780.out _; refine blk_far ?_ NB782_780.out _; refine blk_far ?_ NB782_780.out _; exact BK782.out⟩
  have n7_ : Aside0 (Below w.heap.size w ((((((w13.setCell ⟨gb780, 0, none⟩ (.bool t783)).setCell ⟨gb780, 1, none⟩ (.slice Ao15 t784.length co15)).setCell ⟨gb780, 2, none⟩ (.slice Ao17 t787.length co17)).setCell ⟨gb781, 0, none⟩ (.bool t790)).setCell ⟨gb781, 1, none⟩ (.slice Ao20 t791.length co20)).setCell ⟨gb781, 2, none⟩ (.slice Ao22 t794.length co22))) := ⟨by repeat (with_reducible first | exact HB.out | refine below_set ?_ GE780.out | refine below_set ?_ GE781.out)⟩
  (try clear HO786)
  (try clear HO789)
  (try clear HO793)
  (try clear HO796)
  (try clear BK780)
  (try clear BK781)
  (try clear BK782)
  (try clear HB)
  generalize ((((((w13.setCell ⟨gb780, 0, none⟩ (.bool t783)).setCell ⟨gb780, 1, none⟩ (.slice Ao15 t784.length co15)).setCell ⟨gb780, 2, none⟩ (.slice Ao17 t787.length co17)).setCell ⟨gb781, 0, none⟩ (.bool t790)).setCell ⟨gb781, 1, none⟩ (.slice Ao20 t791.length co20)).setCell ⟨gb781, 2, none⟩ (.slice Ao22 t794.length co22)) = w24 at n0_ n1_ n2_ n3_ n4_ n5_ n6_ n7_ ⊢
  have HO786 := n0_
  have HO789 := n1_
  have HO793 := n2_
  have HO796 := n3_
  have BK780 := n4_
  have BK781 := n5_
  have BK782 := n6_
  have HB := n7_
  clear n0_ n1_ n2_ n3_ n4_ n5_ n6_ n7_
  have n0_ := Aside0.mk (Kd.R_drew HO786.out)
  have n1_ := Aside0.mk (Kd.R_drew HO789.out)
  have n2_ := Aside0.mk (Kd.R_drew HO793.out)
  have n3_ := Aside0.mk (Kd.R_drew HO796.out)
  have n4_ := Aside0.mk (blk_drew BK780.out)
  have n5_ := Aside0.mk (blk_drew BK781.out)
  have n6_ := Aside0.mk (blk_drew BK782.out)
  have n7_ := Aside0.mk (below_drew1 HB.out)
  clear HO786
  clear HO789
  clear HO793
  clear HO796
  clear BK780
  clear BK781
  clear BK782
  clear HB
  have HO786 := n0_
  have HO789 := n1_
  have HO793 := n2_
  have HO796 := n3_
  have BK780 := n4_
  have BK781 := n5_
  have BK782 := n6_
  have HB := n7_
  clear n0_ n1_ n2_ n3_ n4_ n5_ n6_ n7_
  refine start_ (n := 12) (S := fun w' => w'.cell? ⟨gb780, 0, none⟩ = some (.bool t783) ∧ w'.cell? ⟨gb780, 1, none⟩ = some (.slice Ao15 t784.length co15) ∧ w'.cell? ⟨gb780, 2, none⟩ = some (.slice Ao17 t787.length co17) ∧ w'.cell? ⟨gb781, 0, none⟩ = some (.bool t790) ∧ w'.cell? ⟨gb781, 1, none⟩ = some (.slice Ao20 t791.length co20) ∧ w'.cell? ⟨gb781, 2, none⟩ = some (.slice Ao22 t794.length co22)) (ds := []) #[false, false, false, false, false, false, false, false, false, false, false, false] (by kernel_rfl) rfl rfl ⟨(blk_cell BK780.out 0).trans rfl, (blk_cell BK780.out 1).trans rfl, (blk_cell BK780.out 2).trans rfl, (blk_cell BK781.out 0).trans rfl, (blk_cell BK781.out 1).trans rfl, (blk_cell BK781.out 2).trans rfl⟩ (fun hHeld => ?_); refine with_tabW primroseref03_Mul.tab2 primroseref03_Mul.bits2 (fun HT_ HW_ => ?_)
  generalize w24.drew = w25 at HO786 HO789 HO793 HO796 BK780 BK781 BK782 HB hHeld ⊢
  refine pure_ (i := 0) (N := some 9) (v := ?_) (a' := ?_) #[true, false, false, false, false, false, false, false, false, false, false, false] rfl rfl (any_of HT_.out (by kernel_rfl)) (fun _ _ _ h => h) (Or.inl ⟨by rfl, ?_⟩) ?_ ?_
  rotate_left
  · intro w'
    go_simp
    with_reducible rfl
  rotate_left
  · simp only [Act.put, List.setIfInBounds_toArray, List.set_cons_zero, List.set_cons_succ, i64_w, i32_w]
    rfl
  refine pure_ (i := 2) (N := some 11) (v := ?_) (a' := ?_) #[true, false, true, false, false, false, false, false, false, false, false, false] rfl rfl (any_of HT_.out (by kernel_rfl)) (fun _ _ _ h => h) (Or.inl ⟨by rfl, ?_⟩) ?_ ?_
  rotate_left
  · intro w'
    go_simp
    with_reducible rfl
  rotate_left
  · simp only [Act.put, List.setIfInBounds_toArray, List.set_cons_zero, List.set_cons_succ, i64_w, i32_w]
    rfl
  refine pure_ (i := 5) (N := some 14) (v := ?_) (a' := ?_) #[true, false, true, false, false, true, false, false, false, false, false, false] rfl rfl (any_of HT_.out (by kernel_rfl)) (fun _ _ _ h => h) (Or.inl ⟨by rfl, ?_⟩) ?_ ?_
  rotate_left
  · intro w'
    go_simp
    with_reducible rfl
  rotate_left
  · simp only [Act.put, List.setIfInBounds_toArray, List.set_cons_zero, List.set_cons_succ, i64_w, i32_w]
    rfl
  refine pure_ (i := 7) (N := some 16) (v := ?_) (a' := ?_) #[true, false, true, false, false, true, false, true, false, false, false, false] rfl rfl (any_of HT_.out (by kernel_rfl)) (fun _ _ _ h => h) (Or.inl ⟨by rfl, ?_⟩) ?_ ?_
  rotate_left
  · intro w'
    go_simp
    with_reducible rfl
  rotate_left
  · simp only [Act.put, List.setIfInBounds_toArray, List.set_cons_zero, List.set_cons_succ, i64_w, i32_w]
    rfl
  refine take_ (i := 1) (N := some 10) (v := ?_) (a' := ?_) #[true, true, true, false, false, true, false, true, false, false, false, false] rfl rfl (take_ofW HT_.out HW_.out (by kernel_rfl)) (fun _ _ _ h => h) (Or.inl ⟨by rfl, ?_⟩) hHeld ?_ ?_
  rotate_left
  · rintro w' ⟨s0, s1, s2, s3, s4, s5⟩
    go_simp
    with_reducible rfl
  rotate_left
  · simp only [Act.put, List.setIfInBounds_toArray, List.set_cons_zero, List.set_cons_succ, i64_w, i32_w]
    rfl
  refine take_ (i := 3) (N := some 12) (v := ?_) (a' := ?_) #[true, true, true, true, false, true, false, true, false, false, false, false] rfl rfl (take_ofW HT_.out HW_.out (by kernel_rfl)) (fun _ _ _ h => h) (Or.inl ⟨by rfl, ?_⟩) hHeld ?_ ?_
  rotate_left
  · rintro w' ⟨s0, s1, s2, s3, s4, s5⟩
    go_simp
    with_reducible rfl
  rotate_left
  · simp only [Act.put, List.setIfInBounds_toArray, List.set_cons_zero, List.set_cons_succ, i64_w, i32_w]
    rfl
  refine take_ (i := 6) (N := some 15) (v := ?_) (a' := ?_) #[true, true, true, true, false, true, true, true, false, false, false, false] rfl rfl (take_ofW HT_.out HW_.out (by kernel_rfl)) (fun _ _ _ h => h) (Or.inl ⟨by rfl, ?_⟩) hHeld ?_ ?_
  rotate_left
  · rintro w' ⟨s0, s1, s2, s3, s4, s5⟩
    go_simp
    with_reducible rfl
  rotate_left
  · simp only [Act.put, List.setIfInBounds_toArray, List.set_cons_zero, List.set_cons_succ, i64_w, i32_w]
    rfl
  refine take_ (i := 8) (N := some 17) (v := ?_) (a' := ?_) #[true, true, true, true, false, true, true, true, true, false, false, false] rfl rfl (take_ofW HT_.out HW_.out (by kernel_rfl)) (fun _ _ _ h => h) (Or.inl ⟨by rfl, ?_⟩) hHeld ?_ ?_
  rotate_left
  · rintro w' ⟨s0, s1, s2, s3, s4, s5⟩
    go_simp
    with_reducible rfl
  rotate_left
  · simp only [Act.put, List.setIfInBounds_toArray, List.set_cons_zero, List.set_cons_succ, i64_w, i32_w]
    rfl
  refine one_ (i := 4) (N := some 13) #[true, true, true, true, true, true, true, true, true, false, false, false] rfl rfl (one_of HT_.out (by kernel_rfl)) (by decide) (fun K hK => ?_)
  refine goes_ Try.func30 (by kernel_rfl) rfl #[.agg #[.bool t783, .slice Ao15 t784.length co15], .agg #[.bool t790, .slice Ao20 t791.length co20]] (by rfl) rfl rfl (by (try simp only [List.map_toArray, List.map_cons, List.map_nil]); rfl) ?_
  with_reducible refine (primroseref02_Mul.calls k t783 _ _ t784 t790 _ _ t791 t797 t798 _ ?side1 ?side2 ?side3 ?side4 A5.out).mono ?_
  (case side1 => exact (Kd.R_reads' HO786.out).2.2)
  (case side2 => exact (Kd.R_reads' HO786.out).2.1)
  (case side3 => exact (Kd.R_reads' HO793.out).2.2)
  (case side4 => exact (Kd.R_reads' HO793.out).2.1)
  rintro e w26 ⟨v799, rfl, ho0, hb⟩
  refine ⟨_, rfl, ?_⟩
  have n0_ := Aside0.mk (Kd.R_elder' (HO786.out) (Kd.R_base ho0) hb)
  have n1_ := Aside0.mk (Kd.R_elder' (HO789.out) (Kd.R_base ho0) hb)
  have n2_ := Aside0.mk (Kd.R_elder' (HO793.out) (Kd.R_base ho0) hb)
  have n3_ := Aside0.mk (Kd.R_elder' (HO796.out) (Kd.R_base ho0) hb)
  have n4_ := Aside0.mk (Kd.R_lower (Kd.R_new' (Kd.R_new' (Kd.R_new' (Kd.R_new' ho0 (Kd.R_lt (HO786.out))) (Kd.R_lt (HO789.out))) (Kd.R_lt (HO793.out))) (Kd.R_lt (HO796.out))) (below_size (HB.out)))
  have n5_ := Aside0.mk (blk_below (g := gb780) (o := .cells #[.bool t783, .slice Ao15 t784.length co15, .slice Ao17 t787.length co17] 39 (0, 0)) (BK780.out) hb)
  have n6_ := Aside0.mk (blk_below (g := gb781) (o := .cells #[.bool t790, .slice Ao20 t791.length co20, .slice Ao22 t794.length co22] 39 (0, 0)) (BK781.out) hb)
  have n7_ := Aside0.mk (blk_below (g := gb782) (o := .cells #[.bool false, .slice none 0 0, .slice none 0 0] 39 (0, 0)) (BK782.out) hb)
  have n8_ := Aside0.mk (below_step (HB.out) hb)
  clear HO786
  clear HO789
  clear HO793
  clear HO796
  clear BK780
  clear BK781
  clear BK782
  clear HB
  have HO786 := n0_
  have HO789 := n1_
  have HO793 := n2_
  have HO796 := n3_
  have HO800 := n4_
  have BK780 := n5_
  have BK781 := n6_
  have BK782 := n7_
  have HB := n8_
  clear n0_ n1_ n2_ n3_ n4_ n5_ n6_ n7_ n8_
  (try clear hb)
  (try clear ho0)
  refine hK.out _ _ ⟨(blk_cell BK780.out 0).trans rfl, (blk_cell BK780.out 1).trans rfl, (blk_cell BK780.out 2).trans rfl, (blk_cell BK781.out 0).trans rfl, (blk_cell BK781.out 1).trans rfl, (blk_cell BK781.out 2).trans rfl⟩ (fun hHeld => ?_)
  clear hK K
  refine norm_ (a' := ?_) ?_ ?_
  rotate_left
  · show Act.put _ (some 13) _ = _
    simp only [Act.put, List.setIfInBounds_toArray, List.set_cons_zero, List.set_cons_succ, i64_w, i32_w]
    rfl
  refine one_ (i := 9) (N := some 18) #[true, true, true, true, true, true, true, true, true, true, false, false] rfl rfl (one_of HT_.out (by kernel_rfl)) (by decide) (fun K hK => ?_)
  refine goes_ Try.func43 (by kernel_rfl) rfl #[.slice Ao17 t787.length co17, .slice Ao22 t794.length co22] (by rfl) rfl rfl (by (try simp only [List.map_toArray, List.map_cons, List.map_nil]); rfl) ?_
  with_reducible refine (primroseref01_Mul.calls k _ _ t787 _ _ t794 t801 _ ?side1 ?side2 ?side3 ?side4 A6.out).mono ?_
  (case side1 => exact (Kd.R_reads' HO789.out).2.2)
  (case side2 => exact (Kd.R_reads' HO789.out).2.1)
  (case side3 => exact (Kd.R_reads' HO796.out).2.2)
  (case side4 => exact (Kd.R_reads' HO796.out).2.1)
  rintro e w27 ⟨v802, rfl, ho0, hb⟩
  refine ⟨_, rfl, ?_⟩
  have n0_ := Aside0.mk (Kd.R_elder' (HO786.out) (Kd.R_base ho0) hb)
  have n1_ := Aside0.mk (Kd.R_elder' (HO789.out) (Kd.R_base ho0) hb)
  have n2_ := Aside0.mk (Kd.R_elder' (HO793.out) (Kd.R_base ho0) hb)
  have n3_ := Aside0.mk (Kd.R_elder' (HO796.out) (Kd.R_base ho0) hb)
  have n4_ := Aside0.mk (Kd.R_elder' (HO800.out) (Kd.R_base ho0) hb)
  have n5_ := Aside0.mk (Kd.R_lower (Kd.R_new' (Kd.R_new' (Kd.R_new' (Kd.R_new' (Kd.R_new' ho0 (Kd.R_lt (HO786.out))) (Kd.R_lt (HO789.out))) (Kd.R_lt (HO793.out))) (Kd.R_lt (HO796.out))) (Kd.R_lt (HO800.out))) (below_size (HB.out)))
  have n6_ := Aside0.mk (blk_below (g := gb780) (o := .cells #[.bool t783, .slice Ao15 t784.length co15, .slice Ao17 t787.length co17] 39 (0, 0)) (BK780.out) hb)
  have n7_ := Aside0.mk (blk_below (g := gb781) (o := .cells #[.bool t790, .slice Ao20 t791.length co20, .slice Ao22 t794.length co22] 39 (0, 0)) (BK781.out) hb)
  have n8_ := Aside0.mk (blk_below (g := gb782) (o := .cells #[.bool false, .slice none 0 0, .slice none 0 0] 39 (0, 0)) (BK782.out) hb)
  have n9_ := Aside0.mk (below_step (HB.out) hb)
  clear HO786
  clear HO789
  clear HO793
  clear HO796
  clear HO800
  clear BK780
  clear BK781
  clear BK782
  clear HB
  have HO786 := n0_
  have HO789 := n1_
  have HO793 := n2_
  have HO796 := n3_
  have HO800 := n4_
  have HO803 := n5_
  have BK780 := n6_
  have BK781 := n7_
  have BK782 := n8_
  have HB := n9_
  clear n0_ n1_ n2_ n3_ n4_ n5_ n6_ n7_ n8_ n9_
  (try clear hb)
  (try clear ho0)
  obtain ⟨Ao28, co28, eo28⟩ := Kd.R_slice HO800.out
  (subst eo28)
  obtain ⟨Ao29, co29, eo29⟩ := Kd.R_slice HO803.out
  (subst eo29)
  refine hK.out _ _ ⟨(blk_cell BK780.out 0).trans rfl, (blk_cell BK780.out 1).trans rfl, (blk_cell BK780.out 2).trans rfl, (blk_cell BK781.out 0).trans rfl, (blk_cell BK781.out 1).trans rfl, (blk_cell BK781.out 2).trans rfl⟩ (fun hHeld => ?_)
  clear hK K
  refine norm_ (a' := ?_) ?_ ?_
  rotate_left
  · show Act.put _ (some 18) _ = _
    simp only [Act.put, List.setIfInBounds_toArray, List.set_cons_zero, List.set_cons_succ, i64_w, i32_w]
    rfl
  refine one_ (i := 10) (N := some 19) #[true, true, true, true, true, true, true, true, true, true, true, false] rfl rfl (one_of HT_.out (by kernel_rfl)) (by decide) (fun K hK => ?_)
  refine goes_ Try.func50 (by kernel_rfl) rfl #[.agg #[.bool t797, .slice Ao28 t798.length co28], .slice Ao29 t801.length co29] (by rfl) rfl rfl (by (try simp only [List.map_toArray, List.map_cons, List.map_nil]); rfl) ?_
  with_reducible refine (primroseref03_over.calls k t797 _ _ t798 _ _ t801 t804 t805 t808 _ ?side1 ?side2 ?side3 ?side4 A7.out).mono ?_
  (case side1 => exact (Kd.R_reads' HO800.out).2.2)
  (case side2 => exact (Kd.R_reads' HO800.out).2.1)
  (case side3 => exact (Kd.R_reads' HO803.out).2.2)
  (case side4 => exact (Kd.R_reads' HO803.out).2.1)
  rintro e w30 ⟨v806, v809, rfl, ho0, ho1, hb⟩
  refine ⟨_, rfl, ?_⟩
  have n0_ := Aside0.mk (Kd.R_mono (Kd.R_told (Kd.R_told (Kd.R_old (HO786.out) hb) (Kd.R_base ho0)) (Kd.R_base ho1)) (fun _ h_ => h_.1))
  have n1_ := Aside0.mk (Kd.R_mono (Kd.R_told (Kd.R_told (Kd.R_old (HO789.out) hb) (Kd.R_base ho0)) (Kd.R_base ho1)) (fun _ h_ => h_.1))
  have n2_ := Aside0.mk (Kd.R_mono (Kd.R_told (Kd.R_told (Kd.R_old (HO793.out) hb) (Kd.R_base ho0)) (Kd.R_base ho1)) (fun _ h_ => h_.1))
  have n3_ := Aside0.mk (Kd.R_mono (Kd.R_told (Kd.R_told (Kd.R_old (HO796.out) hb) (Kd.R_base ho0)) (Kd.R_base ho1)) (fun _ h_ => h_.1))
  have n4_ := Aside0.mk (Kd.R_mono (Kd.R_told (Kd.R_told (Kd.R_old (HO800.out) hb) (Kd.R_base ho0)) (Kd.R_base ho1)) (fun _ h_ => h_.1))
  have n5_ := Aside0.mk (Kd.R_mono (Kd.R_told (Kd.R_told (Kd.R_old (HO803.out) hb) (Kd.R_base ho0)) (Kd.R_base ho1)) (fun _ h_ => h_.1))
  have n6_ := Aside0.mk (Kd.R_lower (Kd.R_new' (Kd.R_new' (Kd.R_new' (Kd.R_new' (Kd.R_new' (Kd.R_new' ho0 (Kd.R_lt (HO786.out))) (Kd.R_lt (HO789.out))) (Kd.R_lt (HO793.out))) (Kd.R_lt (HO796.out))) (Kd.R_lt (HO800.out))) (Kd.R_lt (HO803.out))) (below_size (HB.out)))
  have n7_ := Aside0.mk (Kd.R_lower (Kd.R_new' (Kd.R_new' (Kd.R_new' (Kd.R_new' (Kd.R_new' (Kd.R_new' ho1 (Kd.R_lt (HO786.out))) (Kd.R_lt (HO789.out))) (Kd.R_lt (HO793.out))) (Kd.R_lt (HO796.out))) (Kd.R_lt (HO800.out))) (Kd.R_lt (HO803.out))) (below_size (HB.out)))
  have n8_ := Aside0.mk (blk_below (g := gb780) (o := .cells #[.bool t783, .slice Ao15 t784.length co15, .slice Ao17 t787.length co17] 39 (0, 0)) (BK780.out) hb)
  have n9_ := Aside0.mk (blk_below (g := gb781) (o := .cells #[.bool t790, .slice Ao20 t791.length co20, .slice Ao22 t794.length co22] 39 (0, 0)) (BK781.out) hb)
  have n10_ := Aside0.mk (blk_below (g := gb782) (o := .cells #[.bool false, .slice none 0 0, .slice none 0 0] 39 (0, 0)) (BK782.out) hb)
  have n11_ := Aside0.mk (below_step (HB.out) hb)
  clear HO786
  clear HO789
  clear HO793
  clear HO796
  clear HO800
  clear HO803
  clear BK780
  clear BK781
  clear BK782
  clear HB
  have HO786 := n0_
  have HO789 := n1_
  have HO793 := n2_
  have HO796 := n3_
  have HO800 := n4_
  have HO803 := n5_
  have HO807 := n6_
  have HO810 := n7_
  have BK780 := n8_
  have BK781 := n9_
  have BK782 := n10_
  have HB := n11_
  clear n0_ n1_ n2_ n3_ n4_ n5_ n6_ n7_ n8_ n9_ n10_ n11_
  (try clear hb)
  (try clear ho0)
  (try clear ho1)
  obtain ⟨Ao32, co32, eo32⟩ := Kd.R_slice HO807.out
  (subst eo32)
  obtain ⟨Ao34, co34, eo34⟩ := Kd.R_slice HO810.out
  (subst eo34)
  refine hK.out _ _ ⟨(blk_cell BK780.out 0).trans rfl, (blk_cell BK780.out 1).trans rfl, (blk_cell BK780.out 2).trans rfl, (blk_cell BK781.out 0).trans rfl, (blk_cell BK781.out 1).trans rfl, (blk_cell BK781.out 2).trans rfl⟩ (fun hHeld => ?_)
  clear hK K
  refine norm_ (a' := ?_) ?_ ?_
  rotate_left
  · show Act.put _ (some 19) _ = _
    simp only [Act.put, List.setIfInBounds_toArray, List.set_cons_zero, List.set_cons_succ, i64_w, i32_w]
    rfl
  refine one_ (i := 11) (N := none) #[true, true, true, true, true, true, true, true, true, true, true, true] rfl rfl (one_of HT_.out (by kernel_rfl)) (by decide) (fun K hK => ?_)
  have hs31 : w30.cell? ⟨gb782, 0, none⟩ = some (.bool false) := (blk_cell BK782.out 0).trans rfl
  have hfs31 := blk_frozen BK782.out 0
  have hns31_0 := NB780_782.out
  have hns31_1 := NB781_782.out
  have hms31_0 := NB782_780.out
  have hms31_1 := NB782_781.out
  have hs33 : w30.cell? ⟨gb782, 1, none⟩ = some (.slice none 0 0) := (blk_cell BK782.out 1).trans rfl
  have hfs33 := blk_frozen BK782.out 1
  have hns33_0 := NB780_782.out
  have hns33_1 := NB781_782.out
  have hms33_0 := NB782_780.out
  have hms33_1 := NB782_781.out
  have hs35 : w30.cell? ⟨gb782, 2, none⟩ = some (.slice none 0 0) := (blk_cell BK782.out 2).trans rfl
  have hfs35 := blk_frozen BK782.out 2
  have hns35_0 := NB780_782.out
  have hns35_1 := NB781_782.out
  have hms35_0 := NB782_780.out
  have hms35_1 := NB782_781.out
  refine skip_ (w1 := ?_) (by rfl) rfl ?_ ?_
  rotate_left
  · go_simp
    rfl
  refine hK.out _ _ ⟨((cell_far (p := ⟨gb782, _, none⟩) NB780_782.out _).trans ((cell_far (p := ⟨gb782, _, none⟩) NB780_782.out _).trans ((cell_far (p := ⟨gb782, _, none⟩) NB780_782.out _).trans (hHeld.1)))), ((cell_far (p := ⟨gb782, _, none⟩) NB780_782.out _).trans ((cell_far (p := ⟨gb782, _, none⟩) NB780_782.out _).trans ((cell_far (p := ⟨gb782, _, none⟩) NB780_782.out _).trans (hHeld.2.1)))), ((cell_far (p := ⟨gb782, _, none⟩) NB780_782.out _).trans ((cell_far (p := ⟨gb782, _, none⟩) NB780_782.out _).trans ((cell_far (p := ⟨gb782, _, none⟩) NB780_782.out _).trans (hHeld.2.2.1)))), ((cell_far (p := ⟨gb782, _, none⟩) NB781_782.out _).trans ((cell_far (p := ⟨gb782, _, none⟩) NB781_782.out _).trans ((cell_far (p := ⟨gb782, _, none⟩) NB781_782.out _).trans (hHeld.2.2.2.1)))), ((cell_far (p := ⟨gb782, _, none⟩) NB781_782.out _).trans ((cell_far (p := ⟨gb782, _, none⟩) NB781_782.out _).trans ((cell_far (p := ⟨gb782, _, none⟩) NB781_782.out _).trans (hHeld.2.2.2.2.1)))), ((cell_far (p := ⟨gb782, _, none⟩) NB781_782.out _).trans ((cell_far (p := ⟨gb782, _, none⟩) NB781_782.out _).trans ((cell_far (p := ⟨gb782, _, none⟩) NB781_782.out _).trans (hHeld.2.2.2.2.2))))⟩ (fun hHeld => ?_)
  clear hK K
  refine done_ (done_of HT_.out (by kernel_rfl)) ?_
  try go_wp2
  refine bodyPost_ret (results_cell_row rfl _ _ gb782 39 #[.bool t804, .slice Ao32 t805.length co32, .slice Ao34 t808.length co34] (0, 0) _ rfl (by refine blk_put (cs := #[.bool t804, .slice Ao32 t805.length co32, .slice none 0 0]) ?_ 2 _ rfl; refine blk_put (cs := #[.bool t804, .slice none 0 0, .slice none 0 0]) ?_ 1 _ rfl; refine blk_put (cs := #[.bool false, .slice none 0 0, .slice none 0 0]) ?_ 0 _ rfl; exact BK782.out) Try.underlying39 rfl (by kernel_rfl)) rfl ?_
  exact ⟨_, _, by (rfl), by exact Kd.R_mono (Kd.R_far (p := ⟨gb782, 2, none⟩) (Kd.R_far (p := ⟨gb782, 1, none⟩) (Kd.R_far (p := ⟨gb782, 0, none⟩) (Kd.R_types HO807.out BK782.out (by decide)) (fun _ hk => hk.2) (.bool t804)) (fun _ hk => hk.2) (.slice Ao32 t805.length co32)) (fun _ hk => hk.2) (.slice Ao34 t808.length co34)) (fun _ hk => hk.1.1.1.1.1.1.1), by exact Kd.R_mono (Kd.R_far (p := ⟨gb782, 2, none⟩) (Kd.R_far (p := ⟨gb782, 1, none⟩) (Kd.R_far (p := ⟨gb782, 0, none⟩) (Kd.R_types HO810.out BK782.out (by decide)) (fun _ hk => hk.2) (.bool t804)) (fun _ hk => hk.2) (.slice Ao32 t805.length co32)) (fun _ hk => hk.2) (.slice Ao34 t808.length co34)) (fun _ hk => hk.1.1.1.1.1.1.1), by repeat (with_reducible first | exact HB.out | refine below_set ?_ GE782.out)⟩
end Go.Proofs.Ytmgjjdodjamomaa.PB
