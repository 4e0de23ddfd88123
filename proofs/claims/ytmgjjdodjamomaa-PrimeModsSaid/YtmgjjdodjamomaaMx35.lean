/- Functions with the same answers as the Go code, and the proofs of that; printed by a turned copy of the print, shortened by programs (wip/tools). -/
import Derived.Test.YtmgjjdodjamomaaMW
import Derived.Test.YtmgjjdodjamomaaMx0
import Derived.Test.YtmgjjdodjamomaaMx1
import Derived.Test.YtmgjjdodjamomaaMx10
import Derived.Test.YtmgjjdodjamomaaMx11
import Derived.Test.YtmgjjdodjamomaaMx12
import Derived.Test.YtmgjjdodjamomaaMx13
import Derived.Test.YtmgjjdodjamomaaMx14
import Derived.Test.YtmgjjdodjamomaaMx19
import Derived.Test.YtmgjjdodjamomaaMx2
import Derived.Test.YtmgjjdodjamomaaMx20
import Derived.Test.YtmgjjdodjamomaaMx21
import Derived.Test.YtmgjjdodjamomaaMx22
import Derived.Test.YtmgjjdodjamomaaMx23
import Derived.Test.YtmgjjdodjamomaaMx24
import Derived.Test.YtmgjjdodjamomaaMx25
import Derived.Test.YtmgjjdodjamomaaMx26
import Derived.Test.YtmgjjdodjamomaaMx27
import Derived.Test.YtmgjjdodjamomaaMx28
import Derived.Test.YtmgjjdodjamomaaMx29
import Derived.Test.YtmgjjdodjamomaaMx3
import Derived.Test.YtmgjjdodjamomaaMx30
import Derived.Test.YtmgjjdodjamomaaMx31
import Derived.Test.YtmgjjdodjamomaaMx32
import Derived.Test.YtmgjjdodjamomaaMx33
import Derived.Test.YtmgjjdodjamomaaMx34
import Derived.Test.YtmgjjdodjamomaaMx4
import Derived.Test.YtmgjjdodjamomaaMx5
import Derived.Test.YtmgjjdodjamomaaMx6
namespace Go.Proofs.Ytmgjjdodjamomaa.PB
open Go.RowKit Go.Proofs.YtmgjjdodjamomaaW.PrintWords Go.Proofs.YtmgjjdodjamomaaW.PrintLast Go.Proofs.YtmgjjdodjamomaaW.PrintMore
attribute [local go_sem] max2_int max_two
set_option linter.unusedVariables false
set_option linter.unusedSimpArgs false
def primroselaw05_PrimeMods.j0 : Nat → Int → Bool → Bool → List Int → Bool → List Int → List Int → Option (Bool)
  | 0, _, _, _, _, _, _, _ => none
  | k + 1, x2, x31, x769000, x769001, x770000, x770001, x770002 => if x31 = true then ((primroselaw05_awake.f k).bind fun t770 => (some t770)) else ((prime_Mod.f k x769000 x769001 x2).bind fun bt771 => ((primroseref05_Mod.f k x769000 x769001 x2).bind fun bt773 => ((prime_Of.f k x770000 x770001 x770002 x2).bind fun bt775 => ((primroseref05_Of.f k x770000 x770001 x770002 x2).bind fun bt777 => ((primroselaw05_awake.f k).bind fun t779 => (if t779 = true then (if bt771.1 = bt773.1 then (if bt771.2 = bt773.2 then (if bt775.1 = bt777.1 then (some (bt775.2 == bt777.2)) else (some false)) else (some false)) else (some false)) else (some false)))))))
def primroselaw05_PrimeMods.f (k : Nat) (a0_0 : Bool) (l0_1 : List Int) (a1_0 : Bool) (l1_1 : List Int) (l1_2 : List Int) (a2 : Int) : Option (Bool) := if (l0_1.length : Int) > 40 then (primroselaw05_PrimeMods.j0 k a2 true a0_0 l0_1 a1_0 l1_1 l1_2) else (if (l1_1.length : Int) > 8 then (primroselaw05_PrimeMods.j0 k a2 true a0_0 l0_1 a1_0 l1_1 l1_2) else (primroselaw05_PrimeMods.j0 k a2 (decide ((l1_2.length : Int) > 8)) a0_0 l0_1 a1_0 l1_1 l1_2))
set_option maxHeartbeats 8000000 in
set_option maxRecDepth 100000 in
theorem primroselaw05_PrimeMods.calls (k : Nat) (a0_0 : Bool) (A0_1 : Option Addr) (c0_1 : Nat) (l0_1 : List Int) (a1_0 : Bool) (A1_1 : Option Addr) (c1_1 : Nat) (l1_1 : List Int) (A1_2 : Option Addr) (c1_2 : Nat) (l1_2 : List Int) (a2 : Int) (r : Bool) (w : World) (hr0_1 : Kd.C (Kd.int .u32) w A0_1 l0_1.length l0_1) (hc0_1 : l0_1.length ≤ c0_1) (hr1_1 : Kd.C (Kd.int .u32) w A1_1 l1_1.length l1_1) (hc1_1 : l1_1.length ≤ c1_1) (hr1_2 : Kd.C (Kd.int .u32) w A1_2 l1_2.length l1_2) (hc1_2 : l1_2.length ≤ c1_2) (h : primroselaw05_PrimeMods.f k a0_0 l0_1 a1_0 l1_1 l1_2 a2 = some r) :
    Calls Try.prog 10 #[.agg #[.bool a0_0, .slice A0_1 l0_1.length c0_1], .agg #[.bool a1_0, .slice A1_1 l1_1.length c1_1, .slice A1_2 l1_2.length c1_2], .int .i64 a2] w fun e w' => e = .returned (.bool r) ∧ Below w.heap.size w w' := by
  have hu32 := Try.underlying32
  have hu39 := Try.underlying39
  have HR0_1 := Aside0.mk hr0_1
  have HC0_1 := Aside0.mk hc0_1
  clear hr0_1 hc0_1
  have HR1_1 := Aside0.mk hr1_1
  have HC1_1 := Aside0.mk hc1_1
  clear hr1_1 hc1_1
  have HR1_2 := Aside0.mk hr1_2
  have HC1_2 := Aside0.mk hc1_2
  clear hr1_2 hc1_2
  have HB := Aside0.mk (Below.refl w.heap.size w)
  have H : (if (l0_1.length : Int) > 40 then (primroselaw05_PrimeMods.j0 k a2 true a0_0 l0_1 a1_0 l1_1 l1_2) else (if (l1_1.length : Int) > 8 then (primroselaw05_PrimeMods.j0 k a2 true a0_0 l0_1 a1_0 l1_1 l1_2) else (primroselaw05_PrimeMods.j0 k a2 (decide ((l1_2.length : Int) > 8)) a0_0 l0_1 a1_0 l1_1 l1_2))) = some r := h
  clear h
  have HC4 := Aside0.mk H
  clear H
  go_enter Try.func10, Try.ntmps10
  go_upto_region 1 with (first | ((with_reducible refine gate_dst (N := 3) rfl ?_); (try (refine gate_guard (by rfl) ?_; dsimp only)); refine box_event ?hg (N := 3) ?hd (cs := #[.bool a0_0, .slice A0_1 l0_1.length c0_1]) (t := 32) ?hr ?_; (case hd => rfl); (case hg => rfl); (case hr => (go_simp; done)); intro gb768 hg w5 hbox hb; have n0_ := Aside0.mk (below_step (HB.out) hb); have n1_ := Aside0.mk (hbox); have n2_ := Aside0.mk (by rw [hg]; exact (below_size (HB.out)) : w.heap.size ≤ gb768); have n3_ := Aside0.mk (by rw [hg]; exact (below_size (HB.out)) : w.heap.size ≤ gb768); clear HB; have HB := n0_; have BK768 := n1_; have GW768 := n2_; have GE768 := n3_; clear n0_ n1_ n2_ n3_; clear hb hbox hg) | ((with_reducible refine gate_dst (N := 4) rfl ?_); (try (refine gate_guard (by rfl) ?_; dsimp only)); refine box_event ?hg (N := 4) ?hd (cs := #[.bool a1_0, .slice A1_1 l1_1.length c1_1, .slice A1_2 l1_2.length c1_2]) (t := 39) ?hr ?_; (case hd => rfl); (case hg => rfl); (case hr => (go_simp; done)); intro gb769 hg w6 hbox hb; have n0_ := Aside0.mk (blk_below (g := gb768) (o := .cells #[.bool a0_0, .slice A0_1 l0_1.length c0_1] 32 (0, 0)) (BK768.out) hb); have n1_ := Aside0.mk (below_step (HB.out) hb); have n2_ := Aside0.mk (hbox); have n3_ := Aside0.mk (by rw [hg]; exact (below_size (HB.out)) : w.heap.size ≤ gb769); have n4_ := Aside0.mk (by rw [hg]; exact (below_size (HB.out)) : w.heap.size ≤ gb769); have n5_ := Aside0.mk (by rw [hg]; exact Nat.ne_of_lt (blk_lt (g := gb768) (o := .cells #[.bool a0_0, .slice A0_1 l0_1.length c0_1] 32 (0, 0)) (BK768.out)) : gb768 ≠ gb769); have n6_ := Aside0.mk (by rw [hg]; exact Nat.ne_of_gt (blk_lt (g := gb768) (o := .cells #[.bool a0_0, .slice A0_1 l0_1.length c0_1] 32 (0, 0)) (BK768.out)) : gb769 ≠ gb768); clear BK768; clear HB; have BK768 := n0_; have HB := n1_; have BK769 := n2_; have GW769 := n3_; have GE769 := n4_; have NB768_769 := n5_; have NB769_768 := n6_; clear n0_ n1_ n2_ n3_ n4_ n5_ n6_; clear hb hbox hg))
  go_cut [31] (fun v31 wc => ∃ (kq : Nat) (x31_3 : Bool), v31 = .bool x31_3 ∧ Aside0 (primroselaw05_PrimeMods.j0 kq a2 x31_3 a0_0 l0_1 a1_0 l1_1 l1_2 = some r) ∧ Aside0 (kq ≤ k) ∧ Aside0 (wc.heap[gb768]? = some (.cells #[.bool a0_0, (.slice A0_1 l0_1.length c0_1)] 32 (0, 0))) ∧ Aside0 (wc.heap[gb769]? = some (.cells #[.bool a1_0, (.slice A1_1 l1_1.length c1_1), (.slice A1_2 l1_2.length c1_2)] 39 (0, 0))) ∧ Aside0 (Below w.heap.size w wc))
  case first =>
    have H := HC4.out
    clear HC4
    by_cases c7 : (l0_1.length : Int) > 40
    · rw [if_pos c7] at H
      have c7b0 : decide (40 < (l0_1.length : Int)) = true := decide_eq_true c7
      have c7b1 : decide (40 < l0_1.length) = true := decide_eq_true (by omega)
      clear c7
      (skip)
      have H' := Aside0.mk H
      clear H
      have hnb8 := NB768_769.out
      have hnc8 := NB769_768.out
      have hcz9_0 : w6.cell? ⟨gb768, 0, none⟩ = some (.bool a0_0) := (blk_cell BK768.out 0).trans rfl
      have hcz9_1 : w6.cell? ⟨gb768, 1, none⟩ = some (.slice A0_1 l0_1.length c0_1) := (blk_cell BK768.out 1).trans rfl
      have hfz9_0 := blk_frozen BK768.out 0
      have hfz9_1 := blk_frozen BK768.out 1
      go_wp2
      go_meet
      case rel => exact ⟨_, (true), (by (rfl)), H', ⟨by (omega)⟩, ⟨by exact BK768.out⟩, ⟨by exact BK769.out⟩, ⟨(HB.out)⟩⟩
    · rw [if_neg c7] at H
      have c7b0 : decide (40 < (l0_1.length : Int)) = false := decide_eq_false c7
      have c7b1 : decide (40 < l0_1.length) = false := decide_eq_false (by omega)
      clear c7
      (skip)
      by_cases c10 : (l1_1.length : Int) > 8
      · rw [if_pos c10] at H
        have c10b0 : decide (8 < (l1_1.length : Int)) = true := decide_eq_true c10
        have c10b1 : decide (8 < l1_1.length) = true := decide_eq_true (by omega)
        clear c10
        have H' := Aside0.mk H
        clear H
        have hnb11 := NB768_769.out
        have hnc11 := NB769_768.out
        have hcz12_0 : w6.cell? ⟨gb768, 0, none⟩ = some (.bool a0_0) := (blk_cell BK768.out 0).trans rfl
        have hcz12_1 : w6.cell? ⟨gb768, 1, none⟩ = some (.slice A0_1 l0_1.length c0_1) := (blk_cell BK768.out 1).trans rfl
        have hfz12_0 := blk_frozen BK768.out 0
        have hfz12_1 := blk_frozen BK768.out 1
        have hcz13_0 : w6.cell? ⟨gb769, 0, none⟩ = some (.bool a1_0) := (blk_cell BK769.out 0).trans rfl
        have hcz13_1 : w6.cell? ⟨gb769, 1, none⟩ = some (.slice A1_1 l1_1.length c1_1) := (blk_cell BK769.out 1).trans rfl
        have hcz13_2 : w6.cell? ⟨gb769, 2, none⟩ = some (.slice A1_2 l1_2.length c1_2) := (blk_cell BK769.out 2).trans rfl
        have hfz13_0 := blk_frozen BK769.out 0
        have hfz13_1 := blk_frozen BK769.out 1
        have hfz13_2 := blk_frozen BK769.out 2
        go_wp2
        go_meet
        case rel => exact ⟨_, (true), (by (rfl)), H', ⟨by (omega)⟩, ⟨by exact BK768.out⟩, ⟨by exact BK769.out⟩, ⟨(HB.out)⟩⟩
      · rw [if_neg c10] at H
        have c10b0 : decide (8 < (l1_1.length : Int)) = false := decide_eq_false c10
        have c10b1 : decide (8 < l1_1.length) = false := decide_eq_false (by omega)
        clear c10
        have H' := Aside0.mk H
        clear H
        have hnb14 := NB768_769.out
        have hnc14 := NB769_768.out
        have hcz15_0 : w6.cell? ⟨gb768, 0, none⟩ = some (.bool a0_0) := (blk_cell BK768.out 0).trans rfl
        have hcz15_1 : w6.cell? ⟨gb768, 1, none⟩ = some (.slice A0_1 l0_1.length c0_1) := (blk_cell BK768.out 1).trans rfl
        have hfz15_0 := blk_frozen BK768.out 0
        have hfz15_1 := blk_frozen BK768.out 1
        have hcz16_0 : w6.cell? ⟨gb769, 0, none⟩ = some (.bool a1_0) := (blk_cell BK769.out 0).trans rfl
        have hcz16_1 : w6.cell? ⟨gb769, 1, none⟩ = some (.slice A1_1 l1_1.length c1_1) := (blk_cell BK769.out 1).trans rfl
        have hcz16_2 : w6.cell? ⟨gb769, 2, none⟩ = some (.slice A1_2 l1_2.length c1_2) := (blk_cell BK769.out 2).trans rfl
        have hfz16_0 := blk_frozen BK769.out 0
        have hfz16_1 := blk_frozen BK769.out 1
        have hfz16_2 := blk_frozen BK769.out 2
        go_wp2
        go_meet
        case rel => exact ⟨_, (decide ((l1_2.length : Int) > 8)), (by (rfl)), H', ⟨by (omega)⟩, ⟨by exact BK768.out⟩, ⟨by exact BK769.out⟩, ⟨(HB.out)⟩⟩
  case rest =>
    clear HC4
    obtain ⟨kq, x31_3, rfl, HA, HJ3, BK768, BK769, HB⟩ := hcut
    cases kq with
    | zero => exact absurd HA.out (by simp [primroselaw05_PrimeMods.j0])
    | succ kj3 =>
      have H := HA.out
      clear HA
      simp only [primroselaw05_PrimeMods.j0] at H
      by_cases c17 : x31_3 = true
      · subst c17
        have H1 : ((primroselaw05_awake.f kj3).bind fun t770 => (some t770)) = some r := by rw [if_pos rfl] at H; exact H
        clear H
        have H := H1
        clear H1
        replace H := Option.bind_eq_some_iff.mp H
        obtain ⟨t770, A180, H⟩ := H
        replace H : (some t770) = some r := H
        have A18 := Aside0.mk A180
        clear A180
        obtain rfl := Option.some.inj H
        go_wp2_with ((with_reducible refine gate_callee (f := 14) rfl ?_); refine goesL_ (some 32) rfl rfl Try.func14 (by kernel_rfl) rfl #[] rfl (by (try simp only [List.map_toArray, List.map_cons, List.map_nil]); (done)) ?_; (with_reducible refine (primroselaw05_awake.calls kj3  t770 _ A18.out).mono ?_); rintro e w19 ⟨rfl, hb⟩; refine ⟨_, rfl, ?_⟩; replace BK768 := Aside0.mk (blk_below (g := gb768) (o := .cells #[.bool a0_0, .slice A0_1 l0_1.length c0_1] 32 (0, 0)) (BK768.out) hb); replace BK769 := Aside0.mk (blk_below (g := gb769) (o := .cells #[.bool a1_0, .slice A1_1 l1_1.length c1_1, .slice A1_2 l1_2.length c1_2] 39 (0, 0)) (BK769.out) hb); replace HB := Aside0.mk (below_step (HB.out) hb); (try clear hb))
        go_ret
        exact ⟨by (rfl), (HB.out)⟩
      · replace c17 := Bool.eq_false_iff.mpr c17
        subst c17
        have H1 : ((prime_Mod.f kj3 a0_0 l0_1 a2).bind fun bt771 => ((primroseref05_Mod.f kj3 a0_0 l0_1 a2).bind fun bt773 => ((prime_Of.f kj3 a1_0 l1_1 l1_2 a2).bind fun bt775 => ((primroseref05_Of.f kj3 a1_0 l1_1 l1_2 a2).bind fun bt777 => ((primroselaw05_awake.f kj3).bind fun t779 => (if t779 = true then (if bt771.1 = bt773.1 then (if bt771.2 = bt773.2 then (if bt775.1 = bt777.1 then (some (bt775.2 == bt777.2)) else (some false)) else (some false)) else (some false)) else (some false))))))) = some r := by rw [if_neg (show ¬ (false = true) by decide)] at H; exact H
        clear H
        have H := H1
        clear H1
        replace H := Option.bind_eq_some_iff.mp H
        obtain ⟨⟨t771, t772⟩, A200, H⟩ := H
        replace H : ((primroseref05_Mod.f kj3 a0_0 l0_1 a2).bind fun bt773 => ((prime_Of.f kj3 a1_0 l1_1 l1_2 a2).bind fun bt775 => ((primroseref05_Of.f kj3 a1_0 l1_1 l1_2 a2).bind fun bt777 => ((primroselaw05_awake.f kj3).bind fun t779 => (if t779 = true then (if t771 = bt773.1 then (if t772 = bt773.2 then (if bt775.1 = bt777.1 then (some (bt775.2 == bt777.2)) else (some false)) else (some false)) else (some false)) else (some false)))))) = some r := H
        have A20 := Aside0.mk A200
        clear A200
        replace H := Option.bind_eq_some_iff.mp H
        obtain ⟨⟨t773, t774⟩, A210, H⟩ := H
        replace H : ((prime_Of.f kj3 a1_0 l1_1 l1_2 a2).bind fun bt775 => ((primroseref05_Of.f kj3 a1_0 l1_1 l1_2 a2).bind fun bt777 => ((primroselaw05_awake.f kj3).bind fun t779 => (if t779 = true then (if t771 = t773 then (if t772 = t774 then (if bt775.1 = bt777.1 then (some (bt775.2 == bt777.2)) else (some false)) else (some false)) else (some false)) else (some false))))) = some r := H
        have A21 := Aside0.mk A210
        clear A210
        replace H := Option.bind_eq_some_iff.mp H
        obtain ⟨⟨t775, t776⟩, A220, H⟩ := H
        replace H : ((primroseref05_Of.f kj3 a1_0 l1_1 l1_2 a2).bind fun bt777 => ((primroselaw05_awake.f kj3).bind fun t779 => (if t779 = true then (if t771 = t773 then (if t772 = t774 then (if t775 = bt777.1 then (some (t776 == bt777.2)) else (some false)) else (some false)) else (some false)) else (some false)))) = some r := H
        have A22 := Aside0.mk A220
        clear A220
        replace H := Option.bind_eq_some_iff.mp H
        obtain ⟨⟨t777, t778⟩, A230, H⟩ := H
        replace H : ((primroselaw05_awake.f kj3).bind fun t779 => (if t779 = true then (if t771 = t773 then (if t772 = t774 then (if t775 = t777 then (some (t776 == t778)) else (some false)) else (some false)) else (some false)) else (some false))) = some r := H
        have A23 := Aside0.mk A230
        clear A230
        replace H := Option.bind_eq_some_iff.mp H
        obtain ⟨t779, A240, H⟩ := H
        replace H : (if t779 = true then (if t771 = t773 then (if t772 = t774 then (if t775 = t777 then (some (t776 == t778)) else (some false)) else (some false)) else (some false)) else (some false)) = some r := H
        have A24 := Aside0.mk A240
        clear A240
        by_cases c25 : t779 = true
        · subst c25
          have H1 : (if t771 = t773 then (if t772 = t774 then (if t775 = t777 then (some (t776 == t778)) else (some false)) else (some false)) else (some false)) = some r := by rw [if_pos rfl] at H; exact H
          clear H
          have H := H1
          clear H1
          by_cases c26 : t771 = t773
          · rw [if_pos c26] at H
            have c26b0 : (t771 == t773) = true := beq_iff_eq.mpr c26
            have c26b1 : (t771 != t773) = false := bne_eq_false_iff_eq.mpr c26
            clear c26
            by_cases c27 : t772 = t774
            · rw [if_pos c27] at H
              have c27b0 : (t772 == t774) = true := beq_iff_eq.mpr c27
              have c27b1 : (t772 != t774) = false := bne_eq_false_iff_eq.mpr c27
              clear c27
              by_cases c28 : t775 = t777
              · rw [if_pos c28] at H
                have c28b0 : (t775 == t777) = true := beq_iff_eq.mpr c28
                have c28b1 : (t775 != t777) = false := bne_eq_false_iff_eq.mpr c28
                clear c28
                obtain rfl := Option.some.inj H
                have hnb29 := NB768_769.out
                have hnc29 := NB769_768.out
                have hcz30_0 : wc.cell? ⟨gb768, 0, none⟩ = some (.bool a0_0) := (blk_cell BK768.out 0).trans rfl
                have hcz30_1 : wc.cell? ⟨gb768, 1, none⟩ = some (.slice A0_1 l0_1.length c0_1) := (blk_cell BK768.out 1).trans rfl
                have hfz30_0 := blk_frozen BK768.out 0
                have hfz30_1 := blk_frozen BK768.out 1
                go_wp2_with (first | ((with_reducible refine gate_callee (f := 28) rfl ?_); refine goesL_ (some 36) rfl rfl Try.func28 (by kernel_rfl) rfl #[.agg #[.bool a0_0, .slice A0_1 l0_1.length c0_1], .int .i64 a2] rfl (by (try simp only [List.map_toArray, List.map_cons, List.map_nil]); rfl) ?_; (with_reducible refine (prime_Mod.calls kj3 a0_0 _ _ l0_1 a2 t771 t772 _ ?side1 ?side2 A20.out).mono ?_); (case side1 => exact (Kd.C_below HR0_1.out HB.out)); (case side2 => exact HC0_1.out); rintro e w31 ⟨rfl, hb⟩; refine ⟨_, rfl, ?_⟩; replace BK768 := Aside0.mk (blk_below (g := gb768) (o := .cells #[.bool a0_0, .slice A0_1 l0_1.length c0_1] 32 (0, 0)) (BK768.out) hb); replace BK769 := Aside0.mk (blk_below (g := gb769) (o := .cells #[.bool a1_0, .slice A1_1 l1_1.length c1_1, .slice A1_2 l1_2.length c1_2] 39 (0, 0)) (BK769.out) hb); replace HB := Aside0.mk (below_step (HB.out) hb); (try clear hb); have hcz32_0 : w31.cell? ⟨gb768, 0, none⟩ = some (.bool a0_0) := (blk_cell BK768.out 0).trans rfl; have hcz32_1 : w31.cell? ⟨gb768, 1, none⟩ = some (.slice A0_1 l0_1.length c0_1) := (blk_cell BK768.out 1).trans rfl; have hfz32_0 := blk_frozen BK768.out 0; have hfz32_1 := blk_frozen BK768.out 1) | ((with_reducible refine gate_callee (f := 31) rfl ?_); refine goesL_ (some 42) rfl rfl Try.func31 (by kernel_rfl) rfl #[.agg #[.bool a0_0, .slice A0_1 l0_1.length c0_1], .int .i64 a2] rfl (by (try simp only [List.map_toArray, List.map_cons, List.map_nil]); rfl) ?_; (with_reducible refine (primroseref05_Mod.calls kj3 a0_0 _ _ l0_1 a2 t773 t774 _ ?side1 ?side2 A21.out).mono ?_); (case side1 => exact (Kd.C_below HR0_1.out HB.out)); (case side2 => exact HC0_1.out); rintro e w33 ⟨rfl, hb⟩; refine ⟨_, rfl, ?_⟩; replace BK768 := Aside0.mk (blk_below (g := gb768) (o := .cells #[.bool a0_0, .slice A0_1 l0_1.length c0_1] 32 (0, 0)) (BK768.out) hb); replace BK769 := Aside0.mk (blk_below (g := gb769) (o := .cells #[.bool a1_0, .slice A1_1 l1_1.length c1_1, .slice A1_2 l1_2.length c1_2] 39 (0, 0)) (BK769.out) hb); replace HB := Aside0.mk (below_step (HB.out) hb); (try clear hb); have hcz34_0 : w33.cell? ⟨gb769, 0, none⟩ = some (.bool a1_0) := (blk_cell BK769.out 0).trans rfl; have hcz34_1 : w33.cell? ⟨gb769, 1, none⟩ = some (.slice A1_1 l1_1.length c1_1) := (blk_cell BK769.out 1).trans rfl; have hcz34_2 : w33.cell? ⟨gb769, 2, none⟩ = some (.slice A1_2 l1_2.length c1_2) := (blk_cell BK769.out 2).trans rfl; have hfz34_0 := blk_frozen BK769.out 0; have hfz34_1 := blk_frozen BK769.out 1; have hfz34_2 := blk_frozen BK769.out 2) | ((with_reducible refine gate_callee (f := 32) rfl ?_); refine goesL_ (some 48) rfl rfl Try.func32 (by kernel_rfl) rfl #[.agg #[.bool a1_0, .slice A1_1 l1_1.length c1_1, .slice A1_2 l1_2.length c1_2], .int .i64 a2] rfl (by (try simp only [List.map_toArray, List.map_cons, List.map_nil]); rfl) ?_; (with_reducible refine (prime_Of.calls kj3 a1_0 _ _ l1_1 _ _ l1_2 a2 t775 t776 _ ?side1 ?side2 ?side3 ?side4 A22.out).mono ?_); (case side1 => exact (Kd.C_below HR1_1.out HB.out)); (case side2 => exact HC1_1.out); (case side3 => exact (Kd.C_below HR1_2.out HB.out)); (case side4 => exact HC1_2.out); rintro e w35 ⟨rfl, hb⟩; refine ⟨_, rfl, ?_⟩; replace BK768 := Aside0.mk (blk_below (g := gb768) (o := .cells #[.bool a0_0, .slice A0_1 l0_1.length c0_1] 32 (0, 0)) (BK768.out) hb); replace BK769 := Aside0.mk (blk_below (g := gb769) (o := .cells #[.bool a1_0, .slice A1_1 l1_1.length c1_1, .slice A1_2 l1_2.length c1_2] 39 (0, 0)) (BK769.out) hb); replace HB := Aside0.mk (below_step (HB.out) hb); (try clear hb); have hcz36_0 : w35.cell? ⟨gb769, 0, none⟩ = some (.bool a1_0) := (blk_cell BK769.out 0).trans rfl; have hcz36_1 : w35.cell? ⟨gb769, 1, none⟩ = some (.slice A1_1 l1_1.length c1_1) := (blk_cell BK769.out 1).trans rfl; have hcz36_2 : w35.cell? ⟨gb769, 2, none⟩ = some (.slice A1_2 l1_2.length c1_2) := (blk_cell BK769.out 2).trans rfl; have hfz36_0 := blk_frozen BK769.out 0; have hfz36_1 := blk_frozen BK769.out 1; have hfz36_2 := blk_frozen BK769.out 2) | ((with_reducible refine gate_callee (f := 33) rfl ?_); refine goesL_ (some 54) rfl rfl Try.func33 (by kernel_rfl) rfl #[.agg #[.bool a1_0, .slice A1_1 l1_1.length c1_1, .slice A1_2 l1_2.length c1_2], .int .i64 a2] rfl (by (try simp only [List.map_toArray, List.map_cons, List.map_nil]); rfl) ?_; (with_reducible refine (primroseref05_Of.calls kj3 a1_0 _ _ l1_1 _ _ l1_2 a2 t777 t778 _ ?side1 ?side2 ?side3 ?side4 A23.out).mono ?_); (case side1 => exact (Kd.C_below HR1_1.out HB.out)); (case side2 => exact HC1_1.out); (case side3 => exact (Kd.C_below HR1_2.out HB.out)); (case side4 => exact HC1_2.out); rintro e w37 ⟨rfl, hb⟩; refine ⟨_, rfl, ?_⟩; replace BK768 := Aside0.mk (blk_below (g := gb768) (o := .cells #[.bool a0_0, .slice A0_1 l0_1.length c0_1] 32 (0, 0)) (BK768.out) hb); replace BK769 := Aside0.mk (blk_below (g := gb769) (o := .cells #[.bool a1_0, .slice A1_1 l1_1.length c1_1, .slice A1_2 l1_2.length c1_2] 39 (0, 0)) (BK769.out) hb); replace HB := Aside0.mk (below_step (HB.out) hb); (try clear hb)) | ((with_reducible refine gate_callee (f := 14) rfl ?_); refine goesL_ (some 57) rfl rfl Try.func14 (by kernel_rfl) rfl #[] rfl (by (try simp only [List.map_toArray, List.map_cons, List.map_nil]); (done)) ?_; (with_reducible refine (primroselaw05_awake.calls kj3  true _ A24.out).mono ?_); rintro e w38 ⟨rfl, hb⟩; refine ⟨_, rfl, ?_⟩; replace BK768 := Aside0.mk (blk_below (g := gb768) (o := .cells #[.bool a0_0, .slice A0_1 l0_1.length c0_1] 32 (0, 0)) (BK768.out) hb); replace BK769 := Aside0.mk (blk_below (g := gb769) (o := .cells #[.bool a1_0, .slice A1_1 l1_1.length c1_1, .slice A1_2 l1_2.length c1_2] 39 (0, 0)) (BK769.out) hb); replace HB := Aside0.mk (below_step (HB.out) hb); (try clear hb)))
                go_ret
                exact ⟨by (rfl), (HB.out)⟩
              · rw [if_neg c28] at H
                have c28b0 : (t775 == t777) = false := beq_eq_false_iff_ne.mpr c28
                have c28b1 : (t775 != t777) = true := bne_iff_ne.mpr c28
                obtain rfl := Option.some.inj H
                have hnb39 := NB768_769.out
                have hnc39 := NB769_768.out
                have hcz40_0 : wc.cell? ⟨gb768, 0, none⟩ = some (.bool a0_0) := (blk_cell BK768.out 0).trans rfl
                have hcz40_1 : wc.cell? ⟨gb768, 1, none⟩ = some (.slice A0_1 l0_1.length c0_1) := (blk_cell BK768.out 1).trans rfl
                have hfz40_0 := blk_frozen BK768.out 0
                have hfz40_1 := blk_frozen BK768.out 1
                go_wp2_with (first | ((with_reducible refine gate_callee (f := 28) rfl ?_); refine goesL_ (some 36) rfl rfl Try.func28 (by kernel_rfl) rfl #[.agg #[.bool a0_0, .slice A0_1 l0_1.length c0_1], .int .i64 a2] rfl (by (try simp only [List.map_toArray, List.map_cons, List.map_nil]); rfl) ?_; (with_reducible refine (prime_Mod.calls kj3 a0_0 _ _ l0_1 a2 t771 t772 _ ?side1 ?side2 A20.out).mono ?_); (case side1 => exact (Kd.C_below HR0_1.out HB.out)); (case side2 => exact HC0_1.out); rintro e w41 ⟨rfl, hb⟩; refine ⟨_, rfl, ?_⟩; replace BK768 := Aside0.mk (blk_below (g := gb768) (o := .cells #[.bool a0_0, .slice A0_1 l0_1.length c0_1] 32 (0, 0)) (BK768.out) hb); replace BK769 := Aside0.mk (blk_below (g := gb769) (o := .cells #[.bool a1_0, .slice A1_1 l1_1.length c1_1, .slice A1_2 l1_2.length c1_2] 39 (0, 0)) (BK769.out) hb); replace HB := Aside0.mk (below_step (HB.out) hb); (try clear hb); have hcz42_0 : w41.cell? ⟨gb768, 0, none⟩ = some (.bool a0_0) := (blk_cell BK768.out 0).trans rfl; have hcz42_1 : w41.cell? ⟨gb768, 1, none⟩ = some (.slice A0_1 l0_1.length c0_1) := (blk_cell BK768.out 1).trans rfl; have hfz42_0 := blk_frozen BK768.out 0; have hfz42_1 := blk_frozen BK768.out 1) | ((with_reducible refine gate_callee (f := 31) rfl ?_); refine goesL_ (some 42) rfl rfl Try.func31 (by kernel_rfl) rfl #[.agg #[.bool a0_0, .slice A0_1 l0_1.length c0_1], .int .i64 a2] rfl (by (try simp only [List.map_toArray, List.map_cons, List.map_nil]); rfl) ?_; (with_reducible refine (primroseref05_Mod.calls kj3 a0_0 _ _ l0_1 a2 t773 t774 _ ?side1 ?side2 A21.out).mono ?_); (case side1 => exact (Kd.C_below HR0_1.out HB.out)); (case side2 => exact HC0_1.out); rintro e w43 ⟨rfl, hb⟩; refine ⟨_, rfl, ?_⟩; replace BK768 := Aside0.mk (blk_below (g := gb768) (o := .cells #[.bool a0_0, .slice A0_1 l0_1.length c0_1] 32 (0, 0)) (BK768.out) hb); replace BK769 := Aside0.mk (blk_below (g := gb769) (o := .cells #[.bool a1_0, .slice A1_1 l1_1.length c1_1, .slice A1_2 l1_2.length c1_2] 39 (0, 0)) (BK769.out) hb); replace HB := Aside0.mk (below_step (HB.out) hb); (try clear hb); have hcz44_0 : w43.cell? ⟨gb769, 0, none⟩ = some (.bool a1_0) := (blk_cell BK769.out 0).trans rfl; have hcz44_1 : w43.cell? ⟨gb769, 1, none⟩ = some (.slice A1_1 l1_1.length c1_1) := (blk_cell BK769.out 1).trans rfl; have hcz44_2 : w43.cell? ⟨gb769, 2, none⟩ = some (.slice A1_2 l1_2.length c1_2) := (blk_cell BK769.out 2).trans rfl; have hfz44_0 := blk_frozen BK769.out 0; have hfz44_1 := blk_frozen BK769.out 1; have hfz44_2 := blk_frozen BK769.out 2) | ((with_reducible refine gate_callee (f := 32) rfl ?_); refine goesL_ (some 48) rfl rfl Try.func32 (by kernel_rfl) rfl #[.agg #[.bool a1_0, .slice A1_1 l1_1.length c1_1, .slice A1_2 l1_2.length c1_2], .int .i64 a2] rfl (by (try simp only [List.map_toArray, List.map_cons, List.map_nil]); rfl) ?_; (with_reducible refine (prime_Of.calls kj3 a1_0 _ _ l1_1 _ _ l1_2 a2 t775 t776 _ ?side1 ?side2 ?side3 ?side4 A22.out).mono ?_); (case side1 => exact (Kd.C_below HR1_1.out HB.out)); (case side2 => exact HC1_1.out); (case side3 => exact (Kd.C_below HR1_2.out HB.out)); (case side4 => exact HC1_2.out); rintro e w45 ⟨rfl, hb⟩; refine ⟨_, rfl, ?_⟩; replace BK768 := Aside0.mk (blk_below (g := gb768) (o := .cells #[.bool a0_0, .slice A0_1 l0_1.length c0_1] 32 (0, 0)) (BK768.out) hb); replace BK769 := Aside0.mk (blk_below (g := gb769) (o := .cells #[.bool a1_0, .slice A1_1 l1_1.length c1_1, .slice A1_2 l1_2.length c1_2] 39 (0, 0)) (BK769.out) hb); replace HB := Aside0.mk (below_step (HB.out) hb); (try clear hb); have hcz46_0 : w45.cell? ⟨gb769, 0, none⟩ = some (.bool a1_0) := (blk_cell BK769.out 0).trans rfl; have hcz46_1 : w45.cell? ⟨gb769, 1, none⟩ = some (.slice A1_1 l1_1.length c1_1) := (blk_cell BK769.out 1).trans rfl; have hcz46_2 : w45.cell? ⟨gb769, 2, none⟩ = some (.slice A1_2 l1_2.length c1_2) := (blk_cell BK769.out 2).trans rfl; have hfz46_0 := blk_frozen BK769.out 0; have hfz46_1 := blk_frozen BK769.out 1; have hfz46_2 := blk_frozen BK769.out 2) | ((with_reducible refine gate_callee (f := 33) rfl ?_); refine goesL_ (some 54) rfl rfl Try.func33 (by kernel_rfl) rfl #[.agg #[.bool a1_0, .slice A1_1 l1_1.length c1_1, .slice A1_2 l1_2.length c1_2], .int .i64 a2] rfl (by (try simp only [List.map_toArray, List.map_cons, List.map_nil]); rfl) ?_; (with_reducible refine (primroseref05_Of.calls kj3 a1_0 _ _ l1_1 _ _ l1_2 a2 t777 t778 _ ?side1 ?side2 ?side3 ?side4 A23.out).mono ?_); (case side1 => exact (Kd.C_below HR1_1.out HB.out)); (case side2 => exact HC1_1.out); (case side3 => exact (Kd.C_below HR1_2.out HB.out)); (case side4 => exact HC1_2.out); rintro e w47 ⟨rfl, hb⟩; refine ⟨_, rfl, ?_⟩; replace BK768 := Aside0.mk (blk_below (g := gb768) (o := .cells #[.bool a0_0, .slice A0_1 l0_1.length c0_1] 32 (0, 0)) (BK768.out) hb); replace BK769 := Aside0.mk (blk_below (g := gb769) (o := .cells #[.bool a1_0, .slice A1_1 l1_1.length c1_1, .slice A1_2 l1_2.length c1_2] 39 (0, 0)) (BK769.out) hb); replace HB := Aside0.mk (below_step (HB.out) hb); (try clear hb)) | ((with_reducible refine gate_callee (f := 14) rfl ?_); refine goesL_ (some 57) rfl rfl Try.func14 (by kernel_rfl) rfl #[] rfl (by (try simp only [List.map_toArray, List.map_cons, List.map_nil]); (done)) ?_; (with_reducible refine (primroselaw05_awake.calls kj3  true _ A24.out).mono ?_); rintro e w48 ⟨rfl, hb⟩; refine ⟨_, rfl, ?_⟩; replace BK768 := Aside0.mk (blk_below (g := gb768) (o := .cells #[.bool a0_0, .slice A0_1 l0_1.length c0_1] 32 (0, 0)) (BK768.out) hb); replace BK769 := Aside0.mk (blk_below (g := gb769) (o := .cells #[.bool a1_0, .slice A1_1 l1_1.length c1_1, .slice A1_2 l1_2.length c1_2] 39 (0, 0)) (BK769.out) hb); replace HB := Aside0.mk (below_step (HB.out) hb); (try clear hb)))
                go_ret
                exact ⟨by (rfl), (HB.out)⟩
            · rw [if_neg c27] at H
              have c27b0 : (t772 == t774) = false := beq_eq_false_iff_ne.mpr c27
              have c27b1 : (t772 != t774) = true := bne_iff_ne.mpr c27
              obtain rfl := Option.some.inj H
              have hnb49 := NB768_769.out
              have hnc49 := NB769_768.out
              have hcz50_0 : wc.cell? ⟨gb768, 0, none⟩ = some (.bool a0_0) := (blk_cell BK768.out 0).trans rfl
              have hcz50_1 : wc.cell? ⟨gb768, 1, none⟩ = some (.slice A0_1 l0_1.length c0_1) := (blk_cell BK768.out 1).trans rfl
              have hfz50_0 := blk_frozen BK768.out 0
              have hfz50_1 := blk_frozen BK768.out 1
              go_wp2_with (first | ((with_reducible refine gate_callee (f := 28) rfl ?_); refine goesL_ (some 36) rfl rfl Try.func28 (by kernel_rfl) rfl #[.agg #[.bool a0_0, .slice A0_1 l0_1.length c0_1], .int .i64 a2] rfl (by (try simp only [List.map_toArray, List.map_cons, List.map_nil]); rfl) ?_; (with_reducible refine (prime_Mod.calls kj3 a0_0 _ _ l0_1 a2 t771 t772 _ ?side1 ?side2 A20.out).mono ?_); (case side1 => exact (Kd.C_below HR0_1.out HB.out)); (case side2 => exact HC0_1.out); rintro e w51 ⟨rfl, hb⟩; refine ⟨_, rfl, ?_⟩; replace BK768 := Aside0.mk (blk_below (g := gb768) (o := .cells #[.bool a0_0, .slice A0_1 l0_1.length c0_1] 32 (0, 0)) (BK768.out) hb); replace BK769 := Aside0.mk (blk_below (g := gb769) (o := .cells #[.bool a1_0, .slice A1_1 l1_1.length c1_1, .slice A1_2 l1_2.length c1_2] 39 (0, 0)) (BK769.out) hb); replace HB := Aside0.mk (below_step (HB.out) hb); (try clear hb); have hcz52_0 : w51.cell? ⟨gb768, 0, none⟩ = some (.bool a0_0) := (blk_cell BK768.out 0).trans rfl; have hcz52_1 : w51.cell? ⟨gb768, 1, none⟩ = some (.slice A0_1 l0_1.length c0_1) := (blk_cell BK768.out 1).trans rfl; have hfz52_0 := blk_frozen BK768.out 0; have hfz52_1 := blk_frozen BK768.out 1) | ((with_reducible refine gate_callee (f := 31) rfl ?_); refine goesL_ (some 42) rfl rfl Try.func31 (by kernel_rfl) rfl #[.agg #[.bool a0_0, .slice A0_1 l0_1.length c0_1], .int .i64 a2] rfl (by (try simp only [List.map_toArray, List.map_cons, List.map_nil]); rfl) ?_; (with_reducible refine (primroseref05_Mod.calls kj3 a0_0 _ _ l0_1 a2 t773 t774 _ ?side1 ?side2 A21.out).mono ?_); (case side1 => exact (Kd.C_below HR0_1.out HB.out)); (case side2 => exact HC0_1.out); rintro e w53 ⟨rfl, hb⟩; refine ⟨_, rfl, ?_⟩; replace BK768 := Aside0.mk (blk_below (g := gb768) (o := .cells #[.bool a0_0, .slice A0_1 l0_1.length c0_1] 32 (0, 0)) (BK768.out) hb); replace BK769 := Aside0.mk (blk_below (g := gb769) (o := .cells #[.bool a1_0, .slice A1_1 l1_1.length c1_1, .slice A1_2 l1_2.length c1_2] 39 (0, 0)) (BK769.out) hb); replace HB := Aside0.mk (below_step (HB.out) hb); (try clear hb); have hcz54_0 : w53.cell? ⟨gb769, 0, none⟩ = some (.bool a1_0) := (blk_cell BK769.out 0).trans rfl; have hcz54_1 : w53.cell? ⟨gb769, 1, none⟩ = some (.slice A1_1 l1_1.length c1_1) := (blk_cell BK769.out 1).trans rfl; have hcz54_2 : w53.cell? ⟨gb769, 2, none⟩ = some (.slice A1_2 l1_2.length c1_2) := (blk_cell BK769.out 2).trans rfl; have hfz54_0 := blk_frozen BK769.out 0; have hfz54_1 := blk_frozen BK769.out 1; have hfz54_2 := blk_frozen BK769.out 2) | ((with_reducible refine gate_callee (f := 32) rfl ?_); refine goesL_ (some 48) rfl rfl Try.func32 (by kernel_rfl) rfl #[.agg #[.bool a1_0, .slice A1_1 l1_1.length c1_1, .slice A1_2 l1_2.length c1_2], .int .i64 a2] rfl (by (try simp only [List.map_toArray, List.map_cons, List.map_nil]); rfl) ?_; (with_reducible refine (prime_Of.calls kj3 a1_0 _ _ l1_1 _ _ l1_2 a2 t775 t776 _ ?side1 ?side2 ?side3 ?side4 A22.out).mono ?_); (case side1 => exact (Kd.C_below HR1_1.out HB.out)); (case side2 => exact HC1_1.out); (case side3 => exact (Kd.C_below HR1_2.out HB.out)); (case side4 => exact HC1_2.out); rintro e w55 ⟨rfl, hb⟩; refine ⟨_, rfl, ?_⟩; replace BK768 := Aside0.mk (blk_below (g := gb768) (o := .cells #[.bool a0_0, .slice A0_1 l0_1.length c0_1] 32 (0, 0)) (BK768.out) hb); replace BK769 := Aside0.mk (blk_below (g := gb769) (o := .cells #[.bool a1_0, .slice A1_1 l1_1.length c1_1, .slice A1_2 l1_2.length c1_2] 39 (0, 0)) (BK769.out) hb); replace HB := Aside0.mk (below_step (HB.out) hb); (try clear hb); have hcz56_0 : w55.cell? ⟨gb769, 0, none⟩ = some (.bool a1_0) := (blk_cell BK769.out 0).trans rfl; have hcz56_1 : w55.cell? ⟨gb769, 1, none⟩ = some (.slice A1_1 l1_1.length c1_1) := (blk_cell BK769.out 1).trans rfl; have hcz56_2 : w55.cell? ⟨gb769, 2, none⟩ = some (.slice A1_2 l1_2.length c1_2) := (blk_cell BK769.out 2).trans rfl; have hfz56_0 := blk_frozen BK769.out 0; have hfz56_1 := blk_frozen BK769.out 1; have hfz56_2 := blk_frozen BK769.out 2) | ((with_reducible refine gate_callee (f := 33) rfl ?_); refine goesL_ (some 54) rfl rfl Try.func33 (by kernel_rfl) rfl #[.agg #[.bool a1_0, .slice A1_1 l1_1.length c1_1, .slice A1_2 l1_2.length c1_2], .int .i64 a2] rfl (by (try simp only [List.map_toArray, List.map_cons, List.map_nil]); rfl) ?_; (with_reducible refine (primroseref05_Of.calls kj3 a1_0 _ _ l1_1 _ _ l1_2 a2 t777 t778 _ ?side1 ?side2 ?side3 ?side4 A23.out).mono ?_); (case side1 => exact (Kd.C_below HR1_1.out HB.out)); (case side2 => exact HC1_1.out); (case side3 => exact (Kd.C_below HR1_2.out HB.out)); (case side4 => exact HC1_2.out); rintro e w57 ⟨rfl, hb⟩; refine ⟨_, rfl, ?_⟩; replace BK768 := Aside0.mk (blk_below (g := gb768) (o := .cells #[.bool a0_0, .slice A0_1 l0_1.length c0_1] 32 (0, 0)) (BK768.out) hb); replace BK769 := Aside0.mk (blk_below (g := gb769) (o := .cells #[.bool a1_0, .slice A1_1 l1_1.length c1_1, .slice A1_2 l1_2.length c1_2] 39 (0, 0)) (BK769.out) hb); replace HB := Aside0.mk (below_step (HB.out) hb); (try clear hb)) | ((with_reducible refine gate_callee (f := 14) rfl ?_); refine goesL_ (some 57) rfl rfl Try.func14 (by kernel_rfl) rfl #[] rfl (by (try simp only [List.map_toArray, List.map_cons, List.map_nil]); (done)) ?_; (with_reducible refine (primroselaw05_awake.calls kj3  true _ A24.out).mono ?_); rintro e w58 ⟨rfl, hb⟩; refine ⟨_, rfl, ?_⟩; replace BK768 := Aside0.mk (blk_below (g := gb768) (o := .cells #[.bool a0_0, .slice A0_1 l0_1.length c0_1] 32 (0, 0)) (BK768.out) hb); replace BK769 := Aside0.mk (blk_below (g := gb769) (o := .cells #[.bool a1_0, .slice A1_1 l1_1.length c1_1, .slice A1_2 l1_2.length c1_2] 39 (0, 0)) (BK769.out) hb); replace HB := Aside0.mk (below_step (HB.out) hb); (try clear hb)))
              go_ret
              exact ⟨by (rfl), (HB.out)⟩
          · rw [if_neg c26] at H
            have c26b0 : (t771 == t773) = false := beq_eq_false_iff_ne.mpr c26
            have c26b1 : (t771 != t773) = true := bne_iff_ne.mpr c26
            obtain rfl := Option.some.inj H
            have hnb59 := NB768_769.out
            have hnc59 := NB769_768.out
            have hcz60_0 : wc.cell? ⟨gb768, 0, none⟩ = some (.bool a0_0) := (blk_cell BK768.out 0).trans rfl
            have hcz60_1 : wc.cell? ⟨gb768, 1, none⟩ = some (.slice A0_1 l0_1.length c0_1) := (blk_cell BK768.out 1).trans rfl
            have hfz60_0 := blk_frozen BK768.out 0
            have hfz60_1 := blk_frozen BK768.out 1
            go_wp2_with (first | ((with_reducible refine gate_callee (f := 28) rfl ?_); refine goesL_ (some 36) rfl rfl Try.func28 (by kernel_rfl) rfl #[.agg #[.bool a0_0, .slice A0_1 l0_1.length c0_1], .int .i64 a2] rfl (by (try simp only [List.map_toArray, List.map_cons, List.map_nil]); rfl) ?_; (with_reducible refine (prime_Mod.calls kj3 a0_0 _ _ l0_1 a2 t771 t772 _ ?side1 ?side2 A20.out).mono ?_); (case side1 => exact (Kd.C_below HR0_1.out HB.out)); (case side2 => exact HC0_1.out); rintro e w61 ⟨rfl, hb⟩; refine ⟨_, rfl, ?_⟩; replace BK768 := Aside0.mk (blk_below (g := gb768) (o := .cells #[.bool a0_0, .slice A0_1 l0_1.length c0_1] 32 (0, 0)) (BK768.out) hb); replace BK769 := Aside0.mk (blk_below (g := gb769) (o := .cells #[.bool a1_0, .slice A1_1 l1_1.length c1_1, .slice A1_2 l1_2.length c1_2] 39 (0, 0)) (BK769.out) hb); replace HB := Aside0.mk (below_step (HB.out) hb); (try clear hb); have hcz62_0 : w61.cell? ⟨gb768, 0, none⟩ = some (.bool a0_0) := (blk_cell BK768.out 0).trans rfl; have hcz62_1 : w61.cell? ⟨gb768, 1, none⟩ = some (.slice A0_1 l0_1.length c0_1) := (blk_cell BK768.out 1).trans rfl; have hfz62_0 := blk_frozen BK768.out 0; have hfz62_1 := blk_frozen BK768.out 1) | ((with_reducible refine gate_callee (f := 31) rfl ?_); refine goesL_ (some 42) rfl rfl Try.func31 (by kernel_rfl) rfl #[.agg #[.bool a0_0, .slice A0_1 l0_1.length c0_1], .int .i64 a2] rfl (by (try simp only [List.map_toArray, List.map_cons, List.map_nil]); rfl) ?_; (with_reducible refine (primroseref05_Mod.calls kj3 a0_0 _ _ l0_1 a2 t773 t774 _ ?side1 ?side2 A21.out).mono ?_); (case side1 => exact (Kd.C_below HR0_1.out HB.out)); (case side2 => exact HC0_1.out); rintro e w63 ⟨rfl, hb⟩; refine ⟨_, rfl, ?_⟩; replace BK768 := Aside0.mk (blk_below (g := gb768) (o := .cells #[.bool a0_0, .slice A0_1 l0_1.length c0_1] 32 (0, 0)) (BK768.out) hb); replace BK769 := Aside0.mk (blk_below (g := gb769) (o := .cells #[.bool a1_0, .slice A1_1 l1_1.length c1_1, .slice A1_2 l1_2.length c1_2] 39 (0, 0)) (BK769.out) hb); replace HB := Aside0.mk (below_step (HB.out) hb); (try clear hb); have hcz64_0 : w63.cell? ⟨gb769, 0, none⟩ = some (.bool a1_0) := (blk_cell BK769.out 0).trans rfl; have hcz64_1 : w63.cell? ⟨gb769, 1, none⟩ = some (.slice A1_1 l1_1.length c1_1) := (blk_cell BK769.out 1).trans rfl; have hcz64_2 : w63.cell? ⟨gb769, 2, none⟩ = some (.slice A1_2 l1_2.length c1_2) := (blk_cell BK769.out 2).trans rfl; have hfz64_0 := blk_frozen BK769.out 0; have hfz64_1 := blk_frozen BK769.out 1; have hfz64_2 := blk_frozen BK769.out 2) | ((with_reducible refine gate_callee (f := 32) rfl ?_); refine goesL_ (some 48) rfl rfl Try.func32 (by kernel_rfl) rfl #[.agg #[.bool a1_0, .slice A1_1 l1_1.length c1_1, .slice A1_2 l1_2.length c1_2], .int .i64 a2] rfl (by (try simp only [List.map_toArray, List.map_cons, List.map_nil]); rfl) ?_; (with_reducible refine (prime_Of.calls kj3 a1_0 _ _ l1_1 _ _ l1_2 a2 t775 t776 _ ?side1 ?side2 ?side3 ?side4 A22.out).mono ?_); (case side1 => exact (Kd.C_below HR1_1.out HB.out)); (case side2 => exact HC1_1.out); (case side3 => exact (Kd.C_below HR1_2.out HB.out)); (case side4 => exact HC1_2.out); rintro e w65 ⟨rfl, hb⟩; refine ⟨_, rfl, ?_⟩; replace BK768 := Aside0.mk (blk_below (g := gb768) (o := .cells #[.bool a0_0, .slice A0_1 l0_1.length c0_1] 32 (0, 0)) (BK768.out) hb); replace BK769 := Aside0.mk (blk_below (g := gb769) (o := .cells #[.bool a1_0, .slice A1_1 l1_1.length c1_1, .slice A1_2 l1_2.length c1_2] 39 (0, 0)) (BK769.out) hb); replace HB := Aside0.mk (below_step (HB.out) hb); (try clear hb); have hcz66_0 : w65.cell? ⟨gb769, 0, none⟩ = some (.bool a1_0) := (blk_cell BK769.out 0).trans rfl; have hcz66_1 : w65.cell? ⟨gb769, 1, none⟩ = some (.slice A1_1 l1_1.length c1_1) := (blk_cell BK769.out 1).trans rfl; have hcz66_2 : w65.cell? ⟨gb769, 2, none⟩ = some (.slice A1_2 l1_2.length c1_2) := (blk_cell BK769.out 2).trans rfl; have hfz66_0 := blk_frozen BK769.out 0; have hfz66_1 := blk_frozen BK769.out 1; have hfz66_2 := blk_frozen BK769.out 2) | ((with_reducible refine gate_callee (f := 33) rfl ?_); refine goesL_ (some 54) rfl rfl Try.func33 (by kernel_rfl) rfl #[.agg #[.bool a1_0, .slice A1_1 l1_1.length c1_1, .slice A1_2 l1_2.length c1_2], .int .i64 a2] rfl (by (try simp only [List.map_toArray, List.map_cons, List.map_nil]); rfl) ?_; (with_reducible refine (primroseref05_Of.calls kj3 a1_0 _ _ l1_1 _ _ l1_2 a2 t777 t778 _ ?side1 ?side2 ?side3 ?side4 A23.out).mono ?_); (case side1 => exact (Kd.C_below HR1_1.out HB.out)); (case side2 => exact HC1_1.out); (case side3 => exact (Kd.C_below HR1_2.out HB.out)); (case side4 => exact HC1_2.out); rintro e w67 ⟨rfl, hb⟩; refine ⟨_, rfl, ?_⟩; replace BK768 := Aside0.mk (blk_below (g := gb768) (o := .cells #[.bool a0_0, .slice A0_1 l0_1.length c0_1] 32 (0, 0)) (BK768.out) hb); replace BK769 := Aside0.mk (blk_below (g := gb769) (o := .cells #[.bool a1_0, .slice A1_1 l1_1.length c1_1, .slice A1_2 l1_2.length c1_2] 39 (0, 0)) (BK769.out) hb); replace HB := Aside0.mk (below_step (HB.out) hb); (try clear hb)) | ((with_reducible refine gate_callee (f := 14) rfl ?_); refine goesL_ (some 57) rfl rfl Try.func14 (by kernel_rfl) rfl #[] rfl (by (try simp only [List.map_toArray, List.map_cons, List.map_nil]); (done)) ?_; (with_reducible refine (primroselaw05_awake.calls kj3  true _ A24.out).mono ?_); rintro e w68 ⟨rfl, hb⟩; refine ⟨_, rfl, ?_⟩; replace BK768 := Aside0.mk (blk_below (g := gb768) (o := .cells #[.bool a0_0, .slice A0_1 l0_1.length c0_1] 32 (0, 0)) (BK768.out) hb); replace BK769 := Aside0.mk (blk_below (g := gb769) (o := .cells #[.bool a1_0, .slice A1_1 l1_1.length c1_1, .slice A1_2 l1_2.length c1_2] 39 (0, 0)) (BK769.out) hb); replace HB := Aside0.mk (below_step (HB.out) hb); (try clear hb)))
            go_ret
            exact ⟨by (rfl), (HB.out)⟩
        · replace c25 := Bool.eq_false_iff.mpr c25
          subst c25
          have H1 : (some false) = some r := by rw [if_neg (show ¬ (false = true) by decide)] at H; exact H
          clear H
          have H := H1
          clear H1
          obtain rfl := Option.some.inj H
          have hnb69 := NB768_769.out
          have hnc69 := NB769_768.out
          have hcz70_0 : wc.cell? ⟨gb768, 0, none⟩ = some (.bool a0_0) := (blk_cell BK768.out 0).trans rfl
          have hcz70_1 : wc.cell? ⟨gb768, 1, none⟩ = some (.slice A0_1 l0_1.length c0_1) := (blk_cell BK768.out 1).trans rfl
          have hfz70_0 := blk_frozen BK768.out 0
          have hfz70_1 := blk_frozen BK768.out 1
          go_wp2_with (first | ((with_reducible refine gate_callee (f := 28) rfl ?_); refine goesL_ (some 36) rfl rfl Try.func28 (by kernel_rfl) rfl #[.agg #[.bool a0_0, .slice A0_1 l0_1.length c0_1], .int .i64 a2] rfl (by (try simp only [List.map_toArray, List.map_cons, List.map_nil]); rfl) ?_; (with_reducible refine (prime_Mod.calls kj3 a0_0 _ _ l0_1 a2 t771 t772 _ ?side1 ?side2 A20.out).mono ?_); (case side1 => exact (Kd.C_below HR0_1.out HB.out)); (case side2 => exact HC0_1.out); rintro e w71 ⟨rfl, hb⟩; refine ⟨_, rfl, ?_⟩; replace BK768 := Aside0.mk (blk_below (g := gb768) (o := .cells #[.bool a0_0, .slice A0_1 l0_1.length c0_1] 32 (0, 0)) (BK768.out) hb); replace BK769 := Aside0.mk (blk_below (g := gb769) (o := .cells #[.bool a1_0, .slice A1_1 l1_1.length c1_1, .slice A1_2 l1_2.length c1_2] 39 (0, 0)) (BK769.out) hb); replace HB := Aside0.mk (below_step (HB.out) hb); (try clear hb); have hcz72_0 : w71.cell? ⟨gb768, 0, none⟩ = some (.bool a0_0) := (blk_cell BK768.out 0).trans rfl; have hcz72_1 : w71.cell? ⟨gb768, 1, none⟩ = some (.slice A0_1 l0_1.length c0_1) := (blk_cell BK768.out 1).trans rfl; have hfz72_0 := blk_frozen BK768.out 0; have hfz72_1 := blk_frozen BK768.out 1) | ((with_reducible refine gate_callee (f := 31) rfl ?_); refine goesL_ (some 42) rfl rfl Try.func31 (by kernel_rfl) rfl #[.agg #[.bool a0_0, .slice A0_1 l0_1.length c0_1], .int .i64 a2] rfl (by (try simp only [List.map_toArray, List.map_cons, List.map_nil]); rfl) ?_; (with_reducible refine (primroseref05_Mod.calls kj3 a0_0 _ _ l0_1 a2 t773 t774 _ ?side1 ?side2 A21.out).mono ?_); (case side1 => exact (Kd.C_below HR0_1.out HB.out)); (case side2 => exact HC0_1.out); rintro e w73 ⟨rfl, hb⟩; refine ⟨_, rfl, ?_⟩; replace BK768 := Aside0.mk (blk_below (g := gb768) (o := .cells #[.bool a0_0, .slice A0_1 l0_1.length c0_1] 32 (0, 0)) (BK768.out) hb); replace BK769 := Aside0.mk (blk_below (g := gb769) (o := .cells #[.bool a1_0, .slice A1_1 l1_1.length c1_1, .slice A1_2 l1_2.length c1_2] 39 (0, 0)) (BK769.out) hb); replace HB := Aside0.mk (below_step (HB.out) hb); (try clear hb); have hcz74_0 : w73.cell? ⟨gb769, 0, none⟩ = some (.bool a1_0) := (blk_cell BK769.out 0).trans rfl; have hcz74_1 : w73.cell? ⟨gb769, 1, none⟩ = some (.slice A1_1 l1_1.length c1_1) := (blk_cell BK769.out 1).trans rfl; have hcz74_2 : w73.cell? ⟨gb769, 2, none⟩ = some (.slice A1_2 l1_2.length c1_2) := (blk_cell BK769.out 2).trans rfl; have hfz74_0 := blk_frozen BK769.out 0; have hfz74_1 := blk_frozen BK769.out 1; have hfz74_2 := blk_frozen BK769.out 2) | ((with_reducible refine gate_callee (f := 32) rfl ?_); refine goesL_ (some 48) rfl rfl Try.func32 (by kernel_rfl) rfl #[.agg #[.bool a1_0, .slice A1_1 l1_1.length c1_1, .slice A1_2 l1_2.length c1_2], .int .i64 a2] rfl (by (try simp only [List.map_toArray, List.map_cons, List.map_nil]); rfl) ?_; (with_reducible refine (prime_Of.calls kj3 a1_0 _ _ l1_1 _ _ l1_2 a2 t775 t776 _ ?side1 ?side2 ?side3 ?side4 A22.out).mono ?_); (case side1 => exact (Kd.C_below HR1_1.out HB.out)); (case side2 => exact HC1_1.out); (case side3 => exact (Kd.C_below HR1_2.out HB.out)); (case side4 => exact HC1_2.out); rintro e w75 ⟨rfl, hb⟩; refine ⟨_, rfl, ?_⟩; replace BK768 := Aside0.mk (blk_below (g := gb768) (o := .cells #[.bool a0_0, .slice A0_1 l0_1.length c0_1] 32 (0, 0)) (BK768.out) hb); replace BK769 := Aside0.mk (blk_below (g := gb769) (o := .cells #[.bool a1_0, .slice A1_1 l1_1.length c1_1, .slice A1_2 l1_2.length c1_2] 39 (0, 0)) (BK769.out) hb); replace HB := Aside0.mk (below_step (HB.out) hb); (try clear hb); have hcz76_0 : w75.cell? ⟨gb769, 0, none⟩ = some (.bool a1_0) := (blk_cell BK769.out 0).trans rfl; have hcz76_1 : w75.cell? ⟨gb769, 1, none⟩ = some (.slice A1_1 l1_1.length c1_1) := (blk_cell BK769.out 1).trans rfl; have hcz76_2 : w75.cell? ⟨gb769, 2, none⟩ = some (.slice A1_2 l1_2.length c1_2) := (blk_cell BK769.out 2).trans rfl; have hfz76_0 := blk_frozen BK769.out 0; have hfz76_1 := blk_frozen BK769.out 1; have hfz76_2 := blk_frozen BK769.out 2) | ((with_reducible refine gate_callee (f := 33) rfl ?_); refine goesL_ (some 54) rfl rfl Try.func33 (by kernel_rfl) rfl #[.agg #[.bool a1_0, .slice A1_1 l1_1.length c1_1, .slice A1_2 l1_2.length c1_2], .int .i64 a2] rfl (by (try simp only [List.map_toArray, List.map_cons, List.map_nil]); rfl) ?_; (with_reducible refine (primroseref05_Of.calls kj3 a1_0 _ _ l1_1 _ _ l1_2 a2 t777 t778 _ ?side1 ?side2 ?side3 ?side4 A23.out).mono ?_); (case side1 => exact (Kd.C_below HR1_1.out HB.out)); (case side2 => exact HC1_1.out); (case side3 => exact (Kd.C_below HR1_2.out HB.out)); (case side4 => exact HC1_2.out); rintro e w77 ⟨rfl, hb⟩; refine ⟨_, rfl, ?_⟩; replace BK768 := Aside0.mk (blk_below (g := gb768) (o := .cells #[.bool a0_0, .slice A0_1 l0_1.length c0_1] 32 (0, 0)) (BK768.out) hb); replace BK769 := Aside0.mk (blk_below (g := gb769) (o := .cells #[.bool a1_0, .slice A1_1 l1_1.length c1_1, .slice A1_2 l1_2.length c1_2] 39 (0, 0)) (BK769.out) hb); replace HB := Aside0.mk (below_step (HB.out) hb); (try clear hb)) | ((with_reducible refine gate_callee (f := 14) rfl ?_); refine goesL_ (some 57) rfl rfl Try.func14 (by kernel_rfl) rfl #[] rfl (by (try simp only [List.map_toArray, List.map_cons, List.map_nil]); (done)) ?_; (with_reducible refine (primroselaw05_awake.calls kj3  false _ A24.out).mono ?_); rintro e w78 ⟨rfl, hb⟩; refine ⟨_, rfl, ?_⟩; replace BK768 := Aside0.mk (blk_below (g := gb768) (o := .cells #[.bool a0_0, .slice A0_1 l0_1.length c0_1] 32 (0, 0)) (BK768.out) hb); replace BK769 := Aside0.mk (blk_below (g := gb769) (o := .cells #[.bool a1_0, .slice A1_1 l1_1.length c1_1, .slice A1_2 l1_2.length c1_2] 39 (0, 0)) (BK769.out) hb); replace HB := Aside0.mk (below_step (HB.out) hb); (try clear hb)))
          go_ret
          exact ⟨by (rfl), (HB.out)⟩
end Go.Proofs.Ytmgjjdodjamomaa.PB
