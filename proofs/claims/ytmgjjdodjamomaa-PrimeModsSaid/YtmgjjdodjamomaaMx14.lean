/- Functions with the same answers as the Go code, and the proofs of that; printed by a turned copy of the print, shortened by programs (wip/tools). -/
import Derived.Test.YtmgjjdodjamomaaMW
import Derived.Test.YtmgjjdodjamomaaMx0
import Derived.Test.YtmgjjdodjamomaaMx11
import Derived.Test.YtmgjjdodjamomaaMx13
namespace Go.Proofs.Ytmgjjdodjamomaa.PB
open Go.RowKit Go.Proofs.YtmgjjdodjamomaaW.PrintWords Go.Proofs.YtmgjjdodjamomaaW.PrintLast Go.Proofs.YtmgjjdodjamomaaW.PrintMore
attribute [local go_sem] max2_int max_two
set_option linter.unusedVariables false
set_option linter.unusedSimpArgs false
def primroseref01_Sub.l0 : Nat → List Int → List Int → List Int → Int → Int → Option (List Int × Bool)
  | 0, _, _, _, _, _ => none
  | k + 1, x0, x1, x6, x7, x8 => if x8 < (x0.length : Int) then (if 0 ≤ x8 then (if x8 < (x1.length : Int) then (if (wrap64 ((wrap64 ((wrap64 (rd x0 x8)) - x7)) - (wrap64 (rd x1 x8)))) < 0 then (if x6.length < 35184372088832 then (primroseref01_Sub.l0 k x0 x1 (x6 ++ [(wrap64 ((wrap64 ((wrap64 ((wrap64 (rd x0 x8)) - x7)) - (wrap64 (rd x1 x8)))) + 4294967296)) % 4294967296]) 1 (wrap64 (x8 + 1))) else (none)) else (if x6.length < 35184372088832 then (primroseref01_Sub.l0 k x0 x1 (x6 ++ [(wrap64 ((wrap64 ((wrap64 (rd x0 x8)) - x7)) - (wrap64 (rd x1 x8)))) % 4294967296]) 0 (wrap64 (x8 + 1))) else (none))) else (if (wrap64 ((wrap64 (rd x0 x8)) - x7)) < 0 then (if x6.length < 35184372088832 then (primroseref01_Sub.l0 k x0 x1 (x6 ++ [(wrap64 ((wrap64 ((wrap64 (rd x0 x8)) - x7)) + 4294967296)) % 4294967296]) 1 (wrap64 (x8 + 1))) else (none)) else (if x6.length < 35184372088832 then (primroseref01_Sub.l0 k x0 x1 (x6 ++ [(wrap64 ((wrap64 (rd x0 x8)) - x7)) % 4294967296]) 0 (wrap64 (x8 + 1))) else (none)))) else (none)) else ((primroseref01_Plain.f k x6).bind fun t235 => (some (t235, true)))
def primroseref01_Sub.f (k : Nat) (l0 : List Int) (l1 : List Int) : Option (List Int × Bool) := (primroseref01_Cmp.f k l0 l1).bind fun t234 => (if t234 < 0 then (some (([] : List Int), false)) else (primroseref01_Sub.l0 k l0 l1 ([] : List Int) 0 0))
set_option maxHeartbeats 8000000 in
set_option maxRecDepth 100000 in
theorem primroseref01_Sub.calls (k : Nat) (A0 : Option Addr) (c0 : Nat) (l0 : List Int) (A1 : Option Addr) (c1 : Nat) (l1 : List Int) (r1 : List Int) (r2 : Bool) (w : World) (hr0 : Kd.C (Kd.int .u32) w A0 l0.length l0) (hc0 : l0.length ≤ c0) (hr1 : Kd.C (Kd.int .u32) w A1 l1.length l1) (hc1 : l1.length ≤ c1) (h : primroseref01_Sub.f k l0 l1 = some (r1, r2)) :
    Calls Try.prog 42 #[.slice A0 l0.length c0, .slice A1 l1.length c1] w fun e w' => ∃ v0_ : Value, e = .returned (.tuple #[v0_, .bool r2]) ∧ Kd.R (Kd.int .u32) 59 w' w.heap.size (fun _ => True) v0_ r1 ∧ Below w.heap.size w w' := by
  have HR0 := Aside0.mk hr0
  have HC0 := Aside0.mk hc0
  clear hr0 hc0
  have HR1 := Aside0.mk hr1
  have HC1 := Aside0.mk hc1
  clear hr1 hc1
  have HB := Aside0.mk (Below.refl w.heap.size w)
  have H : ((primroseref01_Cmp.f k l0 l1).bind fun t234 => (if t234 < 0 then (some (([] : List Int), false)) else (primroseref01_Sub.l0 k l0 l1 ([] : List Int) 0 0))) = some (r1, r2) := h
  clear h
  replace H := Option.bind_eq_some_iff.mp H
  obtain ⟨t234, A30, H⟩ := H
  replace H : (if t234 < 0 then (some (([] : List Int), false)) else (primroseref01_Sub.l0 k l0 l1 ([] : List Int) 0 0)) = some (r1, r2) := H
  have A3 := Aside0.mk A30
  clear A30
  by_cases c4 : t234 < 0
  · rw [if_pos c4] at H
    have c4b0 : decide (t234 < 0) = true := decide_eq_true c4
    clear c4
    simp only [Option.some.injEq, Prod.mk.injEq] at H
    obtain ⟨rfl, rfl⟩ := H
    go_enter Try.func42, Try.ntmps42
    go_wp2_with ((with_reducible refine gate_callee (f := 52) rfl ?_); refine goesL_ (some 12) rfl rfl Try.func52 (by kernel_rfl) rfl #[.slice A0 l0.length c0, .slice A1 l1.length c1] rfl (by (try simp only [List.map_toArray, List.map_cons, List.map_nil]); rfl) ?_; (with_reducible refine (primroseref01_Cmp.calls k _ _ l0 _ _ l1 t234 _ ?side1 ?side2 ?side3 ?side4 A3.out).mono ?_); (case side1 => exact HR0.out); (case side2 => exact HC0.out); (case side3 => exact HR1.out); (case side4 => exact HC1.out); rintro e w5 ⟨rfl, hb⟩; refine ⟨_, rfl, ?_⟩; replace HB := Aside0.mk (below_step (HB.out) hb); (try clear hb))
    go_ret2
    exact ⟨_, by (rfl), (Kd.R_nil _ _ _ _ _), (HB.out)⟩
  · rw [if_neg c4] at H
    have c4b0 : decide (t234 < 0) = false := decide_eq_false c4
    clear c4
    have H' := Aside0.mk H
    clear H
    go_enter Try.func42, Try.ntmps42
    go_wp2_with ((with_reducible refine gate_callee (f := 52) rfl ?_); refine goesL_ (some 12) rfl rfl Try.func52 (by kernel_rfl) rfl #[.slice A0 l0.length c0, .slice A1 l1.length c1] rfl (by (try simp only [List.map_toArray, List.map_cons, List.map_nil]); rfl) ?_; (with_reducible refine (primroseref01_Cmp.calls k _ _ l0 _ _ l1 t234 _ ?side1 ?side2 ?side3 ?side4 A3.out).mono ?_); (case side1 => exact HR0.out); (case side2 => exact HC0.out); (case side3 => exact HR1.out); (case side4 => exact HC1.out); rintro e w6 ⟨rfl, hb⟩; refine ⟨_, rfl, ?_⟩; replace HB := Aside0.mk (below_step (HB.out) hb); (try clear hb))
    go_loopg [6, 7, 8] k (fun kq v6 v7 v8 w' => ∃ (x6_1 : List Int) (x7_1 : Int) (x8_1 : Int), v7 = .int .i64 x7_1 ∧ v8 = .int .i64 x8_1 ∧ Aside0 (primroseref01_Sub.l0 kq l0 l1 x6_1 x7_1 x8_1 = some (r1, r2)) ∧ Aside0 (kq ≤ k) ∧ Aside0 (Kd.R (Kd.int .u32) 59 w' w.heap.size (fun _ => True) v6 x6_1) ∧ Aside0 (Below w.heap.size w w'))
    case atStart => exact ⟨([] : List Int), (0), (0), (by (rfl)), (by (rfl)), H', ⟨Nat.le_refl _⟩, ⟨(Kd.R_nil _ _ _ _ _)⟩, ⟨(HB.out)⟩⟩
    case round =>
      clear H'
      try clear c4b0
      obtain ⟨x6_1, x7_1, x8_1, rfl, rfl, HA, HK1, HO_6, HB⟩ := hrel
      cases gk with
      | zero => exact absurd HA.out (by simp [primroseref01_Sub.l0])
      | succ k1 =>
        have H := HA.out
        clear HA
        simp only [primroseref01_Sub.l0] at H
        by_cases c7 : x8_1 < (l0.length : Int)
        · rw [if_pos c7] at H
          have c7b0 : decide (x8_1 < (l0.length : Int)) = true := decide_eq_true c7
          clear c7
          by_cases c8 : 0 ≤ x8_1
          · rw [if_pos c8] at H
            have c8b0 : decide (0 ≤ x8_1) = true := decide_eq_true c8
            clear c8
            by_cases c9 : x8_1 < (l1.length : Int)
            · rw [if_pos c9] at H
              have c9b0 : decide (x8_1 < (l1.length : Int)) = true := decide_eq_true c9
              clear c9
              by_cases c10 : (wrap64 ((wrap64 ((wrap64 (rd l0 x8_1)) - x7_1)) - (wrap64 (rd l1 x8_1)))) < 0
              · rw [if_pos c10] at H
                have c10b0 : decide ((wrap64 ((wrap64 ((wrap64 (rd l0 x8_1)) - x7_1)) - (wrap64 (rd l1 x8_1)))) < 0) = true := decide_eq_true c10
                clear c10
                by_cases c11 : x6_1.length < 35184372088832
                · rw [if_pos c11] at H
                  have LMc11 := Aside0.mk c11
                  clear c11
                  obtain ⟨y240, hy240⟩ : ∃ y_ : List Int, y_ = (x6_1 ++ [(wrap64 ((wrap64 ((wrap64 ((wrap64 (rd l0 x8_1)) - x7_1)) - (wrap64 (rd l1 x8_1)))) + 4294967296)) % 4294967296]) := ⟨_, rfl⟩
                  replace H : (primroseref01_Sub.l0 k1 l0 l1 y240 1 (wrap64 (x8_1 + 1))) = some (r1, r2) := by (rw [hy240]; with_reducible exact H)
                  have Ny240 := Aside0.mk hy240
                  clear hy240
                  have H' := Aside0.mk H
                  clear H
                  have p238 : 0 ≤ (x8_1 : Int) := of_decide_eq_true (by (with_reducible assumption))
                  have q238 : x8_1 < (l0.length : Int) := of_decide_eq_true (by (with_reducible assumption))
                  obtain ⟨ad238, e238, hx238_0⟩ := Kd.at_int HR0.out x8_1 p238 q238
                  cases e238
                  replace hx238_0 := (HB.out.cell (World.block_lt_of_cell? w _ hx238_0)).trans hx238_0
                  replace p238 := eq_true p238
                  replace q238 := eq_true q238
                  have p239 : 0 ≤ (x8_1 : Int) := of_decide_eq_true (by (with_reducible assumption))
                  have q239 : x8_1 < (l1.length : Int) := of_decide_eq_true (by (with_reducible assumption))
                  obtain ⟨ad239, e239, hx239_0⟩ := Kd.at_int HR1.out x8_1 p239 q239
                  cases e239
                  replace hx239_0 := (HB.out.cell (World.block_lt_of_cell? w _ hx239_0)).trans hx239_0
                  replace p239 := eq_true p239
                  replace q239 := eq_true q239
                  go_wp2_with ((with_reducible refine gate_builtin (b := .append) (xs := #[.tmp 42, .tmp 45]) rfl ?_); at_builtin; refine Kd.R_append (Kd.int .u32) (w0 := w) w.heap.size rfl (.tmp 42) (.tmp 45) 30 59 (.int .u32 0) 4 rfl Try.underlying30 info59 rfl (by decide) (by omega) u6 x6_1 ((wrap64 ((wrap64 ((wrap64 ((wrap64 (rd l0 x8_1)) - x7_1)) - (wrap64 (rd l1 x8_1)))) + 4294967296)) % 4294967296) [.int .u32 ((wrap64 ((wrap64 ((wrap64 ((wrap64 (rd l0 x8_1)) - x7_1)) - (wrap64 (rd l1 x8_1)))) + 4294967296)) % 4294967296)] (fun _ => True) (fun _ => False) rfl rfl ?aP (fun _ hk => hk.elim) ?aF ?aO ?aB ?aS ?aL ?_; (case aP => exact rfl); (case aB => exact (HB.out)); (case aF => exact (fun _ _ => trivial)); (case aO => exact (HO_6.out)); (case aS => exact (below_size (HB.out))); (case aL => have := LMc11.out; omega); intro v241 w12 ho hb hg hat; rw [← Ny240.out] at ho; replace HB := Aside0.mk (hb); have HO242 := Aside0.mk (ho); clear HO_6; clear ho hb hg hat)
                  go_roundg k1
                  case measure => have := HK1.out; omega
                  case rel => exact ⟨(y240), (1), (wrap64 (x8_1 + 1)), (by (rfl)), (by (rfl)), H', ⟨by have := HK1.out; omega⟩, ⟨by exact HO242.out⟩, ⟨(HB.out)⟩⟩
                · rw [if_neg c11] at H
                  exact absurd H (by simp)
              · rw [if_neg c10] at H
                have c10b0 : decide ((wrap64 ((wrap64 ((wrap64 (rd l0 x8_1)) - x7_1)) - (wrap64 (rd l1 x8_1)))) < 0) = false := decide_eq_false c10
                clear c10
                by_cases c13 : x6_1.length < 35184372088832
                · rw [if_pos c13] at H
                  have LMc13 := Aside0.mk c13
                  clear c13
                  obtain ⟨y243, hy243⟩ : ∃ y_ : List Int, y_ = (x6_1 ++ [(wrap64 ((wrap64 ((wrap64 (rd l0 x8_1)) - x7_1)) - (wrap64 (rd l1 x8_1)))) % 4294967296]) := ⟨_, rfl⟩
                  replace H : (primroseref01_Sub.l0 k1 l0 l1 y243 0 (wrap64 (x8_1 + 1))) = some (r1, r2) := by (rw [hy243]; with_reducible exact H)
                  have Ny243 := Aside0.mk hy243
                  clear hy243
                  have H' := Aside0.mk H
                  clear H
                  have p238 : 0 ≤ (x8_1 : Int) := of_decide_eq_true (by (with_reducible assumption))
                  have q238 : x8_1 < (l0.length : Int) := of_decide_eq_true (by (with_reducible assumption))
                  obtain ⟨ad238, e238, hx238_0⟩ := Kd.at_int HR0.out x8_1 p238 q238
                  cases e238
                  replace hx238_0 := (HB.out.cell (World.block_lt_of_cell? w _ hx238_0)).trans hx238_0
                  replace p238 := eq_true p238
                  replace q238 := eq_true q238
                  have p239 : 0 ≤ (x8_1 : Int) := of_decide_eq_true (by (with_reducible assumption))
                  have q239 : x8_1 < (l1.length : Int) := of_decide_eq_true (by (with_reducible assumption))
                  obtain ⟨ad239, e239, hx239_0⟩ := Kd.at_int HR1.out x8_1 p239 q239
                  cases e239
                  replace hx239_0 := (HB.out.cell (World.block_lt_of_cell? w _ hx239_0)).trans hx239_0
                  replace p239 := eq_true p239
                  replace q239 := eq_true q239
                  go_wp2_with ((with_reducible refine gate_builtin (b := .append) (xs := #[.tmp 42, .tmp 45]) rfl ?_); at_builtin; refine Kd.R_append (Kd.int .u32) (w0 := w) w.heap.size rfl (.tmp 42) (.tmp 45) 30 59 (.int .u32 0) 4 rfl Try.underlying30 info59 rfl (by decide) (by omega) u6 x6_1 ((wrap64 ((wrap64 ((wrap64 (rd l0 x8_1)) - x7_1)) - (wrap64 (rd l1 x8_1)))) % 4294967296) [.int .u32 ((wrap64 ((wrap64 ((wrap64 (rd l0 x8_1)) - x7_1)) - (wrap64 (rd l1 x8_1)))) % 4294967296)] (fun _ => True) (fun _ => False) rfl rfl ?aP (fun _ hk => hk.elim) ?aF ?aO ?aB ?aS ?aL ?_; (case aP => exact rfl); (case aB => exact (HB.out)); (case aF => exact (fun _ _ => trivial)); (case aO => exact (HO_6.out)); (case aS => exact (below_size (HB.out))); (case aL => have := LMc13.out; omega); intro v244 w14 ho hb hg hat; rw [← Ny243.out] at ho; replace HB := Aside0.mk (hb); have HO245 := Aside0.mk (ho); clear HO_6; clear ho hb hg hat)
                  go_roundg k1
                  case measure => have := HK1.out; omega
                  case rel => exact ⟨(y243), (0), (wrap64 (x8_1 + 1)), (by (rfl)), (by (rfl)), H', ⟨by have := HK1.out; omega⟩, ⟨by exact HO245.out⟩, ⟨(HB.out)⟩⟩
                · rw [if_neg c13] at H
                  exact absurd H (by simp)
            · rw [if_neg c9] at H
              have c9b0 : decide (x8_1 < (l1.length : Int)) = false := decide_eq_false c9
              clear c9
              by_cases c15 : (wrap64 ((wrap64 (rd l0 x8_1)) - x7_1)) < 0
              · rw [if_pos c15] at H
                have c15b0 : decide ((wrap64 ((wrap64 (rd l0 x8_1)) - x7_1)) < 0) = true := decide_eq_true c15
                clear c15
                by_cases c16 : x6_1.length < 35184372088832
                · rw [if_pos c16] at H
                  have LMc16 := Aside0.mk c16
                  clear c16
                  obtain ⟨y246, hy246⟩ : ∃ y_ : List Int, y_ = (x6_1 ++ [(wrap64 ((wrap64 ((wrap64 (rd l0 x8_1)) - x7_1)) + 4294967296)) % 4294967296]) := ⟨_, rfl⟩
                  replace H : (primroseref01_Sub.l0 k1 l0 l1 y246 1 (wrap64 (x8_1 + 1))) = some (r1, r2) := by (rw [hy246]; with_reducible exact H)
                  have Ny246 := Aside0.mk hy246
                  clear hy246
                  have H' := Aside0.mk H
                  clear H
                  have p238 : 0 ≤ (x8_1 : Int) := of_decide_eq_true (by (with_reducible assumption))
                  have q238 : x8_1 < (l0.length : Int) := of_decide_eq_true (by (with_reducible assumption))
                  obtain ⟨ad238, e238, hx238_0⟩ := Kd.at_int HR0.out x8_1 p238 q238
                  cases e238
                  replace hx238_0 := (HB.out.cell (World.block_lt_of_cell? w _ hx238_0)).trans hx238_0
                  replace p238 := eq_true p238
                  replace q238 := eq_true q238
                  go_wp2_with ((with_reducible refine gate_builtin (b := .append) (xs := #[.tmp 42, .tmp 45]) rfl ?_); at_builtin; refine Kd.R_append (Kd.int .u32) (w0 := w) w.heap.size rfl (.tmp 42) (.tmp 45) 30 59 (.int .u32 0) 4 rfl Try.underlying30 info59 rfl (by decide) (by omega) u6 x6_1 ((wrap64 ((wrap64 ((wrap64 (rd l0 x8_1)) - x7_1)) + 4294967296)) % 4294967296) [.int .u32 ((wrap64 ((wrap64 ((wrap64 (rd l0 x8_1)) - x7_1)) + 4294967296)) % 4294967296)] (fun _ => True) (fun _ => False) rfl rfl ?aP (fun _ hk => hk.elim) ?aF ?aO ?aB ?aS ?aL ?_; (case aP => exact rfl); (case aB => exact (HB.out)); (case aF => exact (fun _ _ => trivial)); (case aO => exact (HO_6.out)); (case aS => exact (below_size (HB.out))); (case aL => have := LMc16.out; omega); intro v247 w17 ho hb hg hat; rw [← Ny246.out] at ho; replace HB := Aside0.mk (hb); have HO248 := Aside0.mk (ho); clear HO_6; clear ho hb hg hat)
                  go_roundg k1
                  case measure => have := HK1.out; omega
                  case rel => exact ⟨(y246), (1), (wrap64 (x8_1 + 1)), (by (rfl)), (by (rfl)), H', ⟨by have := HK1.out; omega⟩, ⟨by exact HO248.out⟩, ⟨(HB.out)⟩⟩
                · rw [if_neg c16] at H
                  exact absurd H (by simp)
              · rw [if_neg c15] at H
                have c15b0 : decide ((wrap64 ((wrap64 (rd l0 x8_1)) - x7_1)) < 0) = false := decide_eq_false c15
                clear c15
                by_cases c18 : x6_1.length < 35184372088832
                · rw [if_pos c18] at H
                  have LMc18 := Aside0.mk c18
                  clear c18
                  obtain ⟨y249, hy249⟩ : ∃ y_ : List Int, y_ = (x6_1 ++ [(wrap64 ((wrap64 (rd l0 x8_1)) - x7_1)) % 4294967296]) := ⟨_, rfl⟩
                  replace H : (primroseref01_Sub.l0 k1 l0 l1 y249 0 (wrap64 (x8_1 + 1))) = some (r1, r2) := by (rw [hy249]; with_reducible exact H)
                  have Ny249 := Aside0.mk hy249
                  clear hy249
                  have H' := Aside0.mk H
                  clear H
                  have p238 : 0 ≤ (x8_1 : Int) := of_decide_eq_true (by (with_reducible assumption))
                  have q238 : x8_1 < (l0.length : Int) := of_decide_eq_true (by (with_reducible assumption))
                  obtain ⟨ad238, e238, hx238_0⟩ := Kd.at_int HR0.out x8_1 p238 q238
                  cases e238
                  replace hx238_0 := (HB.out.cell (World.block_lt_of_cell? w _ hx238_0)).trans hx238_0
                  replace p238 := eq_true p238
                  replace q238 := eq_true q238
                  go_wp2_with ((with_reducible refine gate_builtin (b := .append) (xs := #[.tmp 42, .tmp 45]) rfl ?_); at_builtin; refine Kd.R_append (Kd.int .u32) (w0 := w) w.heap.size rfl (.tmp 42) (.tmp 45) 30 59 (.int .u32 0) 4 rfl Try.underlying30 info59 rfl (by decide) (by omega) u6 x6_1 ((wrap64 ((wrap64 (rd l0 x8_1)) - x7_1)) % 4294967296) [.int .u32 ((wrap64 ((wrap64 (rd l0 x8_1)) - x7_1)) % 4294967296)] (fun _ => True) (fun _ => False) rfl rfl ?aP (fun _ hk => hk.elim) ?aF ?aO ?aB ?aS ?aL ?_; (case aP => exact rfl); (case aB => exact (HB.out)); (case aF => exact (fun _ _ => trivial)); (case aO => exact (HO_6.out)); (case aS => exact (below_size (HB.out))); (case aL => have := LMc18.out; omega); intro v250 w19 ho hb hg hat; rw [← Ny249.out] at ho; replace HB := Aside0.mk (hb); have HO251 := Aside0.mk (ho); clear HO_6; clear ho hb hg hat)
                  go_roundg k1
                  case measure => have := HK1.out; omega
                  case rel => exact ⟨(y249), (0), (wrap64 (x8_1 + 1)), (by (rfl)), (by (rfl)), H', ⟨by have := HK1.out; omega⟩, ⟨by exact HO251.out⟩, ⟨(HB.out)⟩⟩
                · rw [if_neg c18] at H
                  exact absurd H (by simp)
          · rw [if_neg c8] at H
            exact absurd H (by simp)
        · rw [if_neg c7] at H
          have c7b0 : decide (x8_1 < (l0.length : Int)) = false := decide_eq_false c7
          clear c7
          replace H := Option.bind_eq_some_iff.mp H
          obtain ⟨t235, A200, H⟩ := H
          replace H : (some (t235, true)) = some (r1, r2) := H
          have A20 := Aside0.mk A200
          clear A200
          simp only [Option.some.injEq, Prod.mk.injEq] at H
          obtain ⟨rfl, rfl⟩ := H
          obtain ⟨Ao21, co21, eo21⟩ := Kd.R_slice HO_6.out
          subst eo21
          go_wp2_with ((with_reducible refine gate_callee (f := 51) rfl ?_); refine goesL_ (some 48) rfl rfl Try.func51 (by kernel_rfl) rfl #[.slice Ao21 x6_1.length co21] rfl (by (try simp only [List.map_toArray, List.map_cons, List.map_nil]); rfl) ?_; (with_reducible refine (primroseref01_Plain.calls k1 _ _ x6_1 t235 _ ?side1 ?side2 A20.out).mono ?_); (case side1 => exact (Kd.R_reads' HO_6.out).2.2); (case side2 => exact (Kd.R_reads' HO_6.out).2.1); rintro e w22 ⟨v236, rfl, ho0, hb⟩; refine ⟨_, rfl, ?_⟩; have n0_ := Aside0.mk (Kd.R_elder' (HO_6.out) (Kd.R_base ho0) hb); have n1_ := Aside0.mk (Kd.R_lower (Kd.R_new' ho0 (Kd.R_lt (HO_6.out))) (below_size (HB.out))); have n2_ := Aside0.mk (below_step (HB.out) hb); clear HO_6; clear HB; have HO_6 := n0_; have HO237 := n1_; have HB := n2_; clear n0_ n1_ n2_; (try clear hb); (try clear ho0))
          go_ret2
          exact ⟨_, by (rfl), by exact Kd.R_mono HO237.out (fun _ hk => trivial), (HB.out)⟩
end Go.Proofs.Ytmgjjdodjamomaa.PB
