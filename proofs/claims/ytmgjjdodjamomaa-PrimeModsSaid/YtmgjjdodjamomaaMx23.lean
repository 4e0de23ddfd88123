/- Functions with the same answers as the Go code, and the proofs of that; printed by a turned copy of the print, shortened by programs (wip/tools). -/
import Derived.Test.YtmgjjdodjamomaaMW
import Derived.Test.YtmgjjdodjamomaaMx0
import Derived.Test.YtmgjjdodjamomaaMx1
import Derived.Test.YtmgjjdodjamomaaMx11
import Derived.Test.YtmgjjdodjamomaaMx12
import Derived.Test.YtmgjjdodjamomaaMx13
import Derived.Test.YtmgjjdodjamomaaMx14
import Derived.Test.YtmgjjdodjamomaaMx19
import Derived.Test.YtmgjjdodjamomaaMx2
import Derived.Test.YtmgjjdodjamomaaMx20
import Derived.Test.YtmgjjdodjamomaaMx21
import Derived.Test.YtmgjjdodjamomaaMx22
namespace Go.Proofs.Ytmgjjdodjamomaa.PB
open Go.RowKit Go.Proofs.YtmgjjdodjamomaaW.PrintWords Go.Proofs.YtmgjjdodjamomaaW.PrintLast Go.Proofs.YtmgjjdodjamomaaW.PrintMore
attribute [local go_sem] max2_int max_two
set_option linter.unusedVariables false
set_option linter.unusedSimpArgs false
def primroseref05_Mod.f (k : Nat) (a0_0 : Bool) (l0_1 : List Int) (a1 : Int) : Option (Int × Int) := (primroseref05_Is.f k a1).bind fun t440 => (if t440 = true then ((primroseref02_Of.f k a1).bind fun bt441 => ((primroseref02_Div.f k a0_0 l0_1 bt441.1 bt441.2).bind fun bt445 => ((primroseref02_Small.f k bt445.2.2.1 bt445.2.2.2.1).bind fun bt456 => (some (bt456.1, 0))))) else (some (0, 50)))
def primroseref05_Mod.T3 : Bool × List (List Nat × List Nat) := (true, [([], []), ([], []), ([1], [1]), ([0, 2, 2], [0, 2]), ([3], [3]), ([4], [4]), ([4], [4]), ([4], [4]), ([], []), ([], []), ([8, 5, 3, 0, 1, 2, 3, 4, 5, 8, 9], [5, 8]), ([9, 6, 10, 0, 1, 2, 3, 4, 5, 6, 8, 9, 10], [6, 9]), ([7, 11, 0, 1, 2, 3, 4, 5, 6, 7, 8, 9, 10, 11], [7])])
def primroseref05_Mod.B3 : List Nat := [0, 0, 2, 7, 15, 31, 31, 31, 0, 0, 831, 1919, 4095]
theorem primroseref05_Mod.tab3 : rtab .any (opsOf Try.f31 3) = primroseref05_Mod.T3 := by kernel_rfl
theorem primroseref05_Mod.bits3 : waitsOk primroseref05_Mod.T3.2 primroseref05_Mod.B3 = true := by kernel_rfl
set_option maxHeartbeats 8000000 in
set_option maxRecDepth 100000 in
theorem primroseref05_Mod.calls (k : Nat) (a0_0 : Bool) (A0_1 : Option Addr) (c0_1 : Nat) (l0_1 : List Int) (a1 : Int) (r1 : Int) (r2 : Int) (w : World) (hr0_1 : Kd.C (Kd.int .u32) w A0_1 l0_1.length l0_1) (hc0_1 : l0_1.length ≤ c0_1) (h : primroseref05_Mod.f k a0_0 l0_1 a1 = some (r1, r2)) :
    Calls Try.prog 31 #[.agg #[.bool a0_0, .slice A0_1 l0_1.length c0_1], .int .i64 a1] w fun e w' => e = .returned (.tuple #[.int .i64 r1, .int .i64 r2]) ∧ Below w.heap.size w w' := by
  have hu32 := Try.underlying32
  have HR0_1 := Aside0.mk hr0_1
  have HC0_1 := Aside0.mk hc0_1
  clear hr0_1 hc0_1
  have HB := Aside0.mk (Below.refl w.heap.size w)
  have H : ((primroseref05_Is.f k a1).bind fun t440 => (if t440 = true then ((primroseref02_Of.f k a1).bind fun bt441 => ((primroseref02_Div.f k a0_0 l0_1 bt441.1 bt441.2).bind fun bt445 => ((primroseref02_Small.f k bt445.2.2.1 bt445.2.2.2.1).bind fun bt456 => (some (bt456.1, 0))))) else (some (0, 50)))) = some (r1, r2) := h
  clear h
  replace H := Option.bind_eq_some_iff.mp H
  obtain ⟨t440, A30, H⟩ := H
  replace H : (if t440 = true then ((primroseref02_Of.f k a1).bind fun bt441 => ((primroseref02_Div.f k a0_0 l0_1 bt441.1 bt441.2).bind fun bt445 => ((primroseref02_Small.f k bt445.2.2.1 bt445.2.2.2.1).bind fun bt456 => (some (bt456.1, 0))))) else (some (0, 50))) = some (r1, r2) := H
  have A3 := Aside0.mk A30
  clear A30
  by_cases c4 : t440 = true
  · subst c4
    have H1 : ((primroseref02_Of.f k a1).bind fun bt441 => ((primroseref02_Div.f k a0_0 l0_1 bt441.1 bt441.2).bind fun bt445 => ((primroseref02_Small.f k bt445.2.2.1 bt445.2.2.2.1).bind fun bt456 => (some (bt456.1, 0))))) = some (r1, r2) := by rw [if_pos rfl] at H; exact H
    clear H
    have H := H1
    clear H1
    replace H := Option.bind_eq_some_iff.mp H
    obtain ⟨⟨t441, t442⟩, A50, H⟩ := H
    replace H : ((primroseref02_Div.f k a0_0 l0_1 t441 t442).bind fun bt445 => ((primroseref02_Small.f k bt445.2.2.1 bt445.2.2.2.1).bind fun bt456 => (some (bt456.1, 0)))) = some (r1, r2) := H
    have A5 := Aside0.mk A50
    clear A50
    replace H := Option.bind_eq_some_iff.mp H
    obtain ⟨⟨t445, t446, t449, t450, t453⟩, A60, H⟩ := H
    replace H : ((primroseref02_Small.f k t449 t450).bind fun bt456 => (some (bt456.1, 0))) = some (r1, r2) := H
    have A6 := Aside0.mk A60
    clear A60
    replace H := Option.bind_eq_some_iff.mp H
    obtain ⟨⟨t456, t457⟩, A70, H⟩ := H
    replace H : (some (t456, 0)) = some (r1, r2) := H
    have A7 := Aside0.mk A70
    clear A70
    simp only [Option.some.injEq, Prod.mk.injEq] at H
    obtain ⟨rfl, rfl⟩ := H
    go_enter Try.func31, Try.ntmps31
    try go_wp2_with (first | ((with_reducible refine gate_dst (N := 2) rfl ?_); refine box_event ?hg (N := 2) ?hd (cs := #[.bool a0_0, .slice A0_1 l0_1.length c0_1]) (t := 32) ?hr ?_; (case hd => rfl); (case hg => rfl); (case hr => (go_simp; done)); intro gb439 hg w8 hbox hb; have n0_ := Aside0.mk (below_step (HB.out) hb); have n1_ := Aside0.mk (hbox); have n2_ := Aside0.mk (by rw [hg]; exact (below_size (HB.out)) : w.heap.size ≤ gb439); have n3_ := Aside0.mk (by rw [hg]; exact (below_size (HB.out)) : w.heap.size ≤ gb439); clear HB; have HB := n0_; have BK439 := n1_; have GW439 := n2_; have GE439 := n3_; clear n0_ n1_ n2_ n3_; clear hb hbox hg) | ((with_reducible refine gate_callee (f := 13) rfl ?_); refine goesL_ (some 12) rfl rfl Try.func13 (by kernel_rfl) rfl #[.int .i64 a1] rfl (by (try simp only [List.map_toArray, List.map_cons, List.map_nil]); rfl) ?_; (with_reducible refine (primroseref05_Is.calls k a1 true _ A3.out).mono ?_); rintro e w' ⟨rfl, ⟨nd, rfl⟩⟩; refine ⟨_, rfl, ?_⟩; (try (rw [drewN_self w8]; generalize hq_ : World.drewN w8 _ = w8; have n0_ : Aside0 (w8.heap[gb439]? = some (.cells #[.bool a0_0, .slice A0_1 l0_1.length c0_1] 32 (0, 0))) := ⟨by rw [← hq_]; exact (by (with_reducible repeat (refine blk_drewN ?_ _)); exact BK439.out)⟩; have n1_ : Aside0 (Below w.heap.size w w8) := ⟨by rw [← hq_]; exact (by repeat (with_reducible first | exact HB.out | apply pw_below_drewN))⟩; clear BK439 HB hq_; have BK439 := n0_; have HB := n1_; clear n0_ n1_))))
    have n0_ := Aside0.mk (blk_drew BK439.out)
    have n1_ := Aside0.mk (below_drew1 HB.out)
    clear BK439
    clear HB
    have BK439 := n0_
    have HB := n1_
    clear n0_ n1_
    refine start_ (n := 13) (S := fun w' => w'.cell? ⟨gb439, 0, none⟩ = some (.bool a0_0) ∧ w'.cell? ⟨gb439, 1, none⟩ = some (.slice A0_1 l0_1.length c0_1)) (ds := []) #[false, false, false, false, false, false, false, false, false, false, false, false, false] (by kernel_rfl) rfl rfl ⟨(blk_cell BK439.out 0).trans rfl, (blk_cell BK439.out 1).trans rfl⟩ (fun hHeld => ?_); refine with_tabW primroseref05_Mod.tab3 primroseref05_Mod.bits3 (fun HT_ HW_ => ?_)
    generalize w8.drew = w9 at BK439 HB hHeld ⊢
    refine pure_ (i := 1) (N := some 16) (v := ?_) (a' := ?_) #[false, true, false, false, false, false, false, false, false, false, false, false, false] rfl rfl (any_of HT_.out (by kernel_rfl)) (fun _ _ _ h => h) (Or.inl ⟨by rfl, ?_⟩) ?_ ?_
    rotate_left
    · intro w'
      go_simp
      with_reducible rfl
    rotate_left
    · simp only [Act.put, List.setIfInBounds_toArray, List.set_cons_zero, List.set_cons_succ, i64_w, i32_w]
      rfl
    refine take_ (i := 0) (N := some 15) (v := ?_) (a' := ?_) #[true, true, false, false, false, false, false, false, false, false, false, false, false] rfl rfl (take_ofW HT_.out HW_.out (by kernel_rfl)) (fun _ _ _ h => h) (Or.inl ⟨by rfl, ?_⟩) hHeld ?_ ?_
    rotate_left
    · rintro w' ⟨s0, s1⟩
      go_simp
      with_reducible rfl
    rotate_left
    · simp only [Act.put, List.setIfInBounds_toArray, List.set_cons_zero, List.set_cons_succ, i64_w, i32_w]
      rfl
    refine join_ (σ := Value × Value × Value × Nat × Nat) 3 #[true, true, true, true, true, true, true, true, true, true, false, false, false] (fun s_ => [(17, .agg #[.bool t441, s_.1]), (18, .tuple #[.agg #[.bool t445, s_.2.1], .agg #[.bool t449, s_.2.2.1], .bool t453]), (6, .pointer (some ⟨s_.2.2.2.1, 0, none⟩)), (7, .pointer (some ⟨s_.2.2.2.2, 0, none⟩)), (14, .tuple #[.agg #[.bool t445, s_.2.1], .agg #[.bool t449, s_.2.2.1], .bool t453]), (19, .agg #[.bool t445, s_.2.1]), (20, .agg #[.bool t449, s_.2.2.1]), (21, .bool t453)]) (fun s_ w' => (w'.cell? ⟨gb439, 0, none⟩ = some (.bool a0_0) ∧ w'.cell? ⟨gb439, 1, none⟩ = some (.slice A0_1 l0_1.length c0_1)) ∧ (Kd.R (Kd.int .u32) 59 w' w.heap.size (fun k_ => some k_ ≠ (s_.2.1 : Value).ownBlock ∧ some k_ ≠ (s_.2.2.1 : Value).ownBlock) s_.1 t442) ∧ (Kd.R (Kd.int .u32) 59 w' w.heap.size (fun k_ => some k_ ≠ (s_.1 : Value).ownBlock ∧ some k_ ≠ (s_.2.2.1 : Value).ownBlock) s_.2.1 t446) ∧ (Kd.R (Kd.int .u32) 59 w' w.heap.size (fun k_ => some k_ ≠ (s_.1 : Value).ownBlock ∧ some k_ ≠ (s_.2.1 : Value).ownBlock) s_.2.2.1 t450) ∧ (w'.heap[gb439]? = some (.cells #[.bool a0_0, .slice A0_1 l0_1.length c0_1] 32 (0, 0))) ∧ (w'.heap[s_.2.2.2.1]? = some (.cells #[.bool false, .slice none 0 0] 32 (0, 0))) ∧ (w'.heap[s_.2.2.2.2]? = some (.cells #[.bool false, .slice none 0 0] 32 (0, 0))) ∧ (w.heap.size ≤ s_.2.2.2.1) ∧ (w.heap.size ≤ s_.2.2.2.1) ∧ (gb439 ≠ s_.2.2.2.1) ∧ (s_.2.2.2.1 ≠ gb439) ∧ (s_.2.2.2.2 ≠ s_.2.2.2.1) ∧ (s_.2.2.2.1 ≠ s_.2.2.2.2) ∧ (w.heap.size ≤ s_.2.2.2.2) ∧ (w.heap.size ≤ s_.2.2.2.2) ∧ (gb439 ≠ s_.2.2.2.2) ∧ (s_.2.2.2.2 ≠ gb439) ∧ (Below w.heap.size w w')) ?_ ?_
    rotate_left
    · intro hJ2_3_8_9
      refine join_ (σ := Value × Value × Value × Nat) 4 #[true, true, true, true, true, true, true, true, true, false, false, false, false] (fun s_ => [(17, .agg #[.bool t441, s_.1]), (18, .tuple #[.agg #[.bool t445, s_.2.1], .agg #[.bool t449, s_.2.2.1], .bool t453]), (6, .pointer (some ⟨s_.2.2.2, 0, none⟩)), (14, .tuple #[.agg #[.bool t445, s_.2.1], .agg #[.bool t449, s_.2.2.1], .bool t453]), (19, .agg #[.bool t445, s_.2.1]), (20, .agg #[.bool t449, s_.2.2.1]), (21, .bool t453)]) (fun s_ w' => (w'.cell? ⟨gb439, 0, none⟩ = some (.bool a0_0) ∧ w'.cell? ⟨gb439, 1, none⟩ = some (.slice A0_1 l0_1.length c0_1)) ∧ (Kd.R (Kd.int .u32) 59 w' w.heap.size (fun k_ => some k_ ≠ (s_.2.1 : Value).ownBlock ∧ some k_ ≠ (s_.2.2.1 : Value).ownBlock) s_.1 t442) ∧ (Kd.R (Kd.int .u32) 59 w' w.heap.size (fun k_ => some k_ ≠ (s_.1 : Value).ownBlock ∧ some k_ ≠ (s_.2.2.1 : Value).ownBlock) s_.2.1 t446) ∧ (Kd.R (Kd.int .u32) 59 w' w.heap.size (fun k_ => some k_ ≠ (s_.1 : Value).ownBlock ∧ some k_ ≠ (s_.2.1 : Value).ownBlock) s_.2.2.1 t450) ∧ (w'.heap[gb439]? = some (.cells #[.bool a0_0, .slice A0_1 l0_1.length c0_1] 32 (0, 0))) ∧ (w'.heap[s_.2.2.2]? = some (.cells #[.bool false, .slice none 0 0] 32 (0, 0))) ∧ (w.heap.size ≤ s_.2.2.2) ∧ (w.heap.size ≤ s_.2.2.2) ∧ (gb439 ≠ s_.2.2.2) ∧ (s_.2.2.2 ≠ gb439) ∧ (Below w.heap.size w w')) ?_ ?_
      rotate_left
      · intro hJ2_3_8
        refine join_ (σ := Value × Value × Value × Nat) 4 #[true, true, true, true, true, true, true, true, false, true, false, false, false] (fun s_ => [(17, .agg #[.bool t441, s_.1]), (18, .tuple #[.agg #[.bool t445, s_.2.1], .agg #[.bool t449, s_.2.2.1], .bool t453]), (7, .pointer (some ⟨s_.2.2.2, 0, none⟩)), (14, .tuple #[.agg #[.bool t445, s_.2.1], .agg #[.bool t449, s_.2.2.1], .bool t453]), (19, .agg #[.bool t445, s_.2.1]), (20, .agg #[.bool t449, s_.2.2.1]), (21, .bool t453)]) (fun s_ w' => (w'.cell? ⟨gb439, 0, none⟩ = some (.bool a0_0) ∧ w'.cell? ⟨gb439, 1, none⟩ = some (.slice A0_1 l0_1.length c0_1)) ∧ (Kd.R (Kd.int .u32) 59 w' w.heap.size (fun k_ => some k_ ≠ (s_.2.1 : Value).ownBlock ∧ some k_ ≠ (s_.2.2.1 : Value).ownBlock) s_.1 t442) ∧ (Kd.R (Kd.int .u32) 59 w' w.heap.size (fun k_ => some k_ ≠ (s_.1 : Value).ownBlock ∧ some k_ ≠ (s_.2.2.1 : Value).ownBlock) s_.2.1 t446) ∧ (Kd.R (Kd.int .u32) 59 w' w.heap.size (fun k_ => some k_ ≠ (s_.1 : Value).ownBlock ∧ some k_ ≠ (s_.2.1 : Value).ownBlock) s_.2.2.1 t450) ∧ (w'.heap[gb439]? = some (.cells #[.bool a0_0, .slice A0_1 l0_1.length c0_1] 32 (0, 0))) ∧ (w'.heap[s_.2.2.2]? = some (.cells #[.bool false, .slice none 0 0] 32 (0, 0))) ∧ (w.heap.size ≤ s_.2.2.2) ∧ (w.heap.size ≤ s_.2.2.2) ∧ (gb439 ≠ s_.2.2.2) ∧ (s_.2.2.2 ≠ gb439) ∧ (Below w.heap.size w w')) ?_ ?_
        rotate_left
        · intro hJ2_3_9
          refine join_ (σ := Value × Nat × Nat) 8 #[true, true, true, false, false, false, false, false, true, true, false, false, false] (fun s_ => [(17, .agg #[.bool t441, s_.1]), (6, .pointer (some ⟨s_.2.1, 0, none⟩)), (7, .pointer (some ⟨s_.2.2, 0, none⟩))]) (fun s_ w' => (w'.cell? ⟨gb439, 0, none⟩ = some (.bool a0_0) ∧ w'.cell? ⟨gb439, 1, none⟩ = some (.slice A0_1 l0_1.length c0_1)) ∧ (Kd.R (Kd.int .u32) 59 w' w.heap.size (fun _ => True) s_.1 t442) ∧ (w'.heap[gb439]? = some (.cells #[.bool a0_0, .slice A0_1 l0_1.length c0_1] 32 (0, 0))) ∧ (w'.heap[s_.2.1]? = some (.cells #[.bool false, .slice none 0 0] 32 (0, 0))) ∧ (w'.heap[s_.2.2]? = some (.cells #[.bool false, .slice none 0 0] 32 (0, 0))) ∧ (w.heap.size ≤ s_.2.1) ∧ (w.heap.size ≤ s_.2.1) ∧ (gb439 ≠ s_.2.1) ∧ (s_.2.1 ≠ gb439) ∧ (s_.2.2 ≠ s_.2.1) ∧ (s_.2.1 ≠ s_.2.2) ∧ (w.heap.size ≤ s_.2.2) ∧ (w.heap.size ≤ s_.2.2) ∧ (gb439 ≠ s_.2.2) ∧ (s_.2.2 ≠ gb439) ∧ (Below w.heap.size w w')) ?_ ?_
          rotate_left
          · intro hJ2_8_9
            refine join_ (σ := Value × Value × Value) 5 #[true, true, true, true, true, true, true, true, false, false, false, false, false] (fun s_ => [(17, .agg #[.bool t441, s_.1]), (18, .tuple #[.agg #[.bool t445, s_.2.1], .agg #[.bool t449, s_.2.2], .bool t453]), (14, .tuple #[.agg #[.bool t445, s_.2.1], .agg #[.bool t449, s_.2.2], .bool t453]), (19, .agg #[.bool t445, s_.2.1]), (20, .agg #[.bool t449, s_.2.2]), (21, .bool t453)]) (fun s_ w' => (w'.cell? ⟨gb439, 0, none⟩ = some (.bool a0_0) ∧ w'.cell? ⟨gb439, 1, none⟩ = some (.slice A0_1 l0_1.length c0_1)) ∧ (Kd.R (Kd.int .u32) 59 w' w.heap.size (fun k_ => some k_ ≠ (s_.2.1 : Value).ownBlock ∧ some k_ ≠ (s_.2.2 : Value).ownBlock) s_.1 t442) ∧ (Kd.R (Kd.int .u32) 59 w' w.heap.size (fun k_ => some k_ ≠ (s_.1 : Value).ownBlock ∧ some k_ ≠ (s_.2.2 : Value).ownBlock) s_.2.1 t446) ∧ (Kd.R (Kd.int .u32) 59 w' w.heap.size (fun k_ => some k_ ≠ (s_.1 : Value).ownBlock ∧ some k_ ≠ (s_.2.1 : Value).ownBlock) s_.2.2 t450) ∧ (w'.heap[gb439]? = some (.cells #[.bool a0_0, .slice A0_1 l0_1.length c0_1] 32 (0, 0))) ∧ (Below w.heap.size w w')) ?_ ?_
            rotate_left
            · intro hJ2_3
              refine join_ (σ := Value × Nat) 9 #[true, true, true, false, false, false, false, false, true, false, false, false, false] (fun s_ => [(17, .agg #[.bool t441, s_.1]), (6, .pointer (some ⟨s_.2, 0, none⟩))]) (fun s_ w' => (w'.cell? ⟨gb439, 0, none⟩ = some (.bool a0_0) ∧ w'.cell? ⟨gb439, 1, none⟩ = some (.slice A0_1 l0_1.length c0_1)) ∧ (Kd.R (Kd.int .u32) 59 w' w.heap.size (fun _ => True) s_.1 t442) ∧ (w'.heap[gb439]? = some (.cells #[.bool a0_0, .slice A0_1 l0_1.length c0_1] 32 (0, 0))) ∧ (w'.heap[s_.2]? = some (.cells #[.bool false, .slice none 0 0] 32 (0, 0))) ∧ (w.heap.size ≤ s_.2) ∧ (w.heap.size ≤ s_.2) ∧ (gb439 ≠ s_.2) ∧ (s_.2 ≠ gb439) ∧ (Below w.heap.size w w')) ?_ ?_
              rotate_left
              · intro hJ2_8
                refine join_ (σ := Value × Nat) 9 #[true, true, true, false, false, false, false, false, false, true, false, false, false] (fun s_ => [(17, .agg #[.bool t441, s_.1]), (7, .pointer (some ⟨s_.2, 0, none⟩))]) (fun s_ w' => (w'.cell? ⟨gb439, 0, none⟩ = some (.bool a0_0) ∧ w'.cell? ⟨gb439, 1, none⟩ = some (.slice A0_1 l0_1.length c0_1)) ∧ (Kd.R (Kd.int .u32) 59 w' w.heap.size (fun _ => True) s_.1 t442) ∧ (w'.heap[gb439]? = some (.cells #[.bool a0_0, .slice A0_1 l0_1.length c0_1] 32 (0, 0))) ∧ (w'.heap[s_.2]? = some (.cells #[.bool false, .slice none 0 0] 32 (0, 0))) ∧ (w.heap.size ≤ s_.2) ∧ (w.heap.size ≤ s_.2) ∧ (gb439 ≠ s_.2) ∧ (s_.2 ≠ gb439) ∧ (Below w.heap.size w w')) ?_ ?_
                rotate_left
                · intro hJ2_9
                  refine join_ (σ := Nat × Nat) 9 #[true, true, false, false, false, false, false, false, true, true, false, false, false] (fun s_ => [(6, .pointer (some ⟨s_.1, 0, none⟩)), (7, .pointer (some ⟨s_.2, 0, none⟩))]) (fun s_ w' => (w'.cell? ⟨gb439, 0, none⟩ = some (.bool a0_0) ∧ w'.cell? ⟨gb439, 1, none⟩ = some (.slice A0_1 l0_1.length c0_1)) ∧ (w'.heap[gb439]? = some (.cells #[.bool a0_0, .slice A0_1 l0_1.length c0_1] 32 (0, 0))) ∧ (w'.heap[s_.1]? = some (.cells #[.bool false, .slice none 0 0] 32 (0, 0))) ∧ (w'.heap[s_.2]? = some (.cells #[.bool false, .slice none 0 0] 32 (0, 0))) ∧ (w.heap.size ≤ s_.1) ∧ (w.heap.size ≤ s_.1) ∧ (gb439 ≠ s_.1) ∧ (s_.1 ≠ gb439) ∧ (s_.2 ≠ s_.1) ∧ (s_.1 ≠ s_.2) ∧ (w.heap.size ≤ s_.2) ∧ (w.heap.size ≤ s_.2) ∧ (gb439 ≠ s_.2) ∧ (s_.2 ≠ gb439) ∧ (Below w.heap.size w w')) ?_ ?_
                  rotate_left
                  · intro hJ8_9
                    refine join_ (σ := Value) 10 #[true, true, true, false, false, false, false, false, false, false, false, false, false] (fun s_ => [(17, .agg #[.bool t441, s_])]) (fun s_ w' => (w'.cell? ⟨gb439, 0, none⟩ = some (.bool a0_0) ∧ w'.cell? ⟨gb439, 1, none⟩ = some (.slice A0_1 l0_1.length c0_1)) ∧ (Kd.R (Kd.int .u32) 59 w' w.heap.size (fun _ => True) s_ t442) ∧ (w'.heap[gb439]? = some (.cells #[.bool a0_0, .slice A0_1 l0_1.length c0_1] 32 (0, 0))) ∧ (Below w.heap.size w w')) ?_ ?_
                    rotate_left
                    · intro hJ2
                      refine join_ (σ := Nat) 10 #[true, true, false, false, false, false, false, false, true, false, false, false, false] (fun s_ => [(6, .pointer (some ⟨s_, 0, none⟩))]) (fun s_ w' => (w'.cell? ⟨gb439, 0, none⟩ = some (.bool a0_0) ∧ w'.cell? ⟨gb439, 1, none⟩ = some (.slice A0_1 l0_1.length c0_1)) ∧ (w'.heap[gb439]? = some (.cells #[.bool a0_0, .slice A0_1 l0_1.length c0_1] 32 (0, 0))) ∧ (w'.heap[s_]? = some (.cells #[.bool false, .slice none 0 0] 32 (0, 0))) ∧ (w.heap.size ≤ s_) ∧ (w.heap.size ≤ s_) ∧ (gb439 ≠ s_) ∧ (s_ ≠ gb439) ∧ (Below w.heap.size w w')) ?_ ?_
                      rotate_left
                      · intro hJ8
                        refine join_ (σ := Nat) 10 #[true, true, false, false, false, false, false, false, false, true, false, false, false] (fun s_ => [(7, .pointer (some ⟨s_, 0, none⟩))]) (fun s_ w' => (w'.cell? ⟨gb439, 0, none⟩ = some (.bool a0_0) ∧ w'.cell? ⟨gb439, 1, none⟩ = some (.slice A0_1 l0_1.length c0_1)) ∧ (w'.heap[gb439]? = some (.cells #[.bool a0_0, .slice A0_1 l0_1.length c0_1] 32 (0, 0))) ∧ (w'.heap[s_]? = some (.cells #[.bool false, .slice none 0 0] 32 (0, 0))) ∧ (w.heap.size ≤ s_) ∧ (w.heap.size ≤ s_) ∧ (gb439 ≠ s_) ∧ (s_ ≠ gb439) ∧ (Below w.heap.size w w')) ?_ ?_
                        rotate_left
                        · intro hJ9
                          refine three_ (i := 2) (j := 8) (k := 9) (Ni := some 17) (Nj := some 6) (Nk := some 7) #[true, true, true, false, false, false, false, false, false, false, false, false, false] #[true, true, false, false, false, false, false, false, true, false, false, false, false] #[true, true, false, false, false, false, false, false, false, true, false, false, false] rfl rfl rfl rfl rfl rfl (three_of HT_.out (by kernel_rfl)) (by decide) (by decide) (by decide) (fun K hK => ?_) (fun K hK => ?_) (fun K hK => ?_)
                          · skip
                            refine goes_ Try.func45 (by kernel_rfl) rfl #[.int .i64 a1] (by rfl) rfl rfl (by (try simp only [List.map_toArray, List.map_cons, List.map_nil]); rfl) ?_
                            with_reducible refine (primroseref02_Of.calls k a1 t441 t442 _ A5.out).mono ?_
                            rintro e w10 ⟨v443, rfl, ho0, hb⟩
                            refine ⟨_, rfl, ?_⟩
                            have n0_ := Aside0.mk (Kd.R_lower ho0 (below_size (HB.out)))
                            have n1_ := Aside0.mk (blk_below (g := gb439) (o := .cells #[.bool a0_0, .slice A0_1 l0_1.length c0_1] 32 (0, 0)) (BK439.out) hb)
                            have n2_ := Aside0.mk (below_step (HB.out) hb)
                            clear BK439
                            clear HB
                            have HO444 := n0_
                            have BK439 := n1_
                            have HB := n2_
                            clear n0_ n1_ n2_
                            (try clear hb)
                            (try clear ho0)
                            refine hK.out _ _ ⟨(blk_cell BK439.out 0).trans rfl, (blk_cell BK439.out 1).trans rfl⟩ (fun hHeld => ?_)
                            clear hK K
                            refine norm_ (a' := ?_) ?_ ?_
                            rotate_left
                            · show Act.put _ (some 17) _ = _
                              simp only [Act.put, List.setIfInBounds_toArray, List.set_cons_zero, List.set_cons_succ, i64_w, i32_w]
                              rfl
                            exact norm_ (by (simp only [putAll, Act.put, List.setIfInBounds_toArray, List.set_cons_zero, List.set_cons_succ]; done)) (hJ2 (v443) _ ⟨hHeld, (HO444.out), (BK439.out), (HB.out)⟩)
                          · skip
                            refine box_step ?hg (N := 6) ?hd (cs := #[.bool false, .slice none 0 0]) (t := 32) ?hr ?_; (case hd => rfl); (case hg => rfl); (case hr => (go_simp; done))
                            intro gb454 hg w10 hbox hb
                            have n0_ := Aside0.mk (blk_below (g := gb439) (o := .cells #[.bool a0_0, .slice A0_1 l0_1.length c0_1] 32 (0, 0)) (BK439.out) hb)
                            have n1_ := Aside0.mk (below_step (HB.out) hb)
                            have n2_ := Aside0.mk (hbox)
                            have n3_ := Aside0.mk (by rw [hg]; exact (below_size (HB.out)) : w.heap.size ≤ gb454)
                            have n4_ := Aside0.mk (by rw [hg]; exact (below_size (HB.out)) : w.heap.size ≤ gb454)
                            have n5_ := Aside0.mk (by rw [hg]; exact Nat.ne_of_lt (blk_lt (g := gb439) (o := .cells #[.bool a0_0, .slice A0_1 l0_1.length c0_1] 32 (0, 0)) (BK439.out)) : gb439 ≠ gb454)
                            have n6_ := Aside0.mk (by rw [hg]; exact Nat.ne_of_gt (blk_lt (g := gb439) (o := .cells #[.bool a0_0, .slice A0_1 l0_1.length c0_1] 32 (0, 0)) (BK439.out)) : gb454 ≠ gb439)
                            clear BK439
                            clear HB
                            have BK439 := n0_
                            have HB := n1_
                            have BK454 := n2_
                            have GW454 := n3_
                            have GE454 := n4_
                            have NB439_454 := n5_
                            have NB454_439 := n6_
                            clear n0_ n1_ n2_ n3_ n4_ n5_ n6_
                            clear hb hbox hg
                            refine hK.out _ _ ⟨(blk_cell BK439.out 0).trans rfl, (blk_cell BK439.out 1).trans rfl⟩ (fun hHeld => ?_)
                            clear hK K
                            refine norm_ (a' := ?_) ?_ ?_
                            rotate_left
                            · show Act.put _ (some 6) _ = _
                              simp only [Act.put, List.setIfInBounds_toArray, List.set_cons_zero, List.set_cons_succ, i64_w, i32_w]
                              rfl
                            exact norm_ (by (simp only [putAll, Act.put, List.setIfInBounds_toArray, List.set_cons_zero, List.set_cons_succ]; done)) (hJ8 (gb454) _ ⟨hHeld, (BK439.out), (BK454.out), GW454.out, GE454.out, NB439_454.out, NB454_439.out, (HB.out)⟩)
                          · skip
                            refine box_step ?hg (N := 7) ?hd (cs := #[.bool false, .slice none 0 0]) (t := 32) ?hr ?_; (case hd => rfl); (case hg => rfl); (case hr => (go_simp; done))
                            intro gb455 hg w10 hbox hb
                            have n0_ := Aside0.mk (blk_below (g := gb439) (o := .cells #[.bool a0_0, .slice A0_1 l0_1.length c0_1] 32 (0, 0)) (BK439.out) hb)
                            have n1_ := Aside0.mk (below_step (HB.out) hb)
                            have n2_ := Aside0.mk (hbox)
                            have n3_ := Aside0.mk (by rw [hg]; exact (below_size (HB.out)) : w.heap.size ≤ gb455)
                            have n4_ := Aside0.mk (by rw [hg]; exact (below_size (HB.out)) : w.heap.size ≤ gb455)
                            have n5_ := Aside0.mk (by rw [hg]; exact Nat.ne_of_lt (blk_lt (g := gb439) (o := .cells #[.bool a0_0, .slice A0_1 l0_1.length c0_1] 32 (0, 0)) (BK439.out)) : gb439 ≠ gb455)
                            have n6_ := Aside0.mk (by rw [hg]; exact Nat.ne_of_gt (blk_lt (g := gb439) (o := .cells #[.bool a0_0, .slice A0_1 l0_1.length c0_1] 32 (0, 0)) (BK439.out)) : gb455 ≠ gb439)
                            clear BK439
                            clear HB
                            have BK439 := n0_
                            have HB := n1_
                            have BK455 := n2_
                            have GW455 := n3_
                            have GE455 := n4_
                            have NB439_455 := n5_
                            have NB455_439 := n6_
                            clear n0_ n1_ n2_ n3_ n4_ n5_ n6_
                            clear hb hbox hg
                            refine hK.out _ _ ⟨(blk_cell BK439.out 0).trans rfl, (blk_cell BK439.out 1).trans rfl⟩ (fun hHeld => ?_)
                            clear hK K
                            refine norm_ (a' := ?_) ?_ ?_
                            rotate_left
                            · show Act.put _ (some 7) _ = _
                              simp only [Act.put, List.setIfInBounds_toArray, List.set_cons_zero, List.set_cons_succ, i64_w, i32_w]
                              rfl
                            exact norm_ (by (simp only [putAll, Act.put, List.setIfInBounds_toArray, List.set_cons_zero, List.set_cons_succ]; done)) (hJ9 (gb455) _ ⟨hHeld, (BK439.out), (BK455.out), GW455.out, GE455.out, NB439_455.out, NB455_439.out, (HB.out)⟩)
                        · skip
                          rintro gb455 w11 ⟨hS_, h0_, h1_, h2_, h3_, h4_, h5_, h6_⟩
                          have n0_ : Aside0 (w11.heap[gb439]? = some (.cells #[.bool a0_0, .slice A0_1 l0_1.length c0_1] 32 (0, 0))) := ⟨h0_⟩
                          have n1_ : Aside0 (w11.heap[gb455]? = some (.cells #[.bool false, .slice none 0 0] 32 (0, 0))) := ⟨h1_⟩
                          have n2_ : Aside0 (w.heap.size ≤ gb455) := ⟨h2_⟩
                          have n3_ : Aside0 (w.heap.size ≤ gb455) := ⟨h3_⟩
                          have n4_ : Aside0 (gb439 ≠ gb455) := ⟨h4_⟩
                          have n5_ : Aside0 (gb455 ≠ gb439) := ⟨h5_⟩
                          have n6_ : Aside0 (Below w.heap.size w w11) := ⟨h6_⟩
                          clear BK439
                          clear HB
                          clear h0_ h1_ h2_ h3_ h4_ h5_ h6_
                          have BK439 := n0_
                          have BK455 := n1_
                          have GW455 := n2_
                          have GE455 := n3_
                          have NB439_455 := n4_
                          have NB455_439 := n5_
                          have HB := n6_
                          clear n0_ n1_ n2_ n3_ n4_ n5_ n6_
                          have hHeld : w11.cell? ⟨gb439, 0, none⟩ = some (.bool a0_0) ∧ w11.cell? ⟨gb439, 1, none⟩ = some (.slice A0_1 l0_1.length c0_1) := hS_
                          refine norm_ (a' := ?_) ?_ ?_
                          rotate_left
                          · simp only [putAll, Act.put, List.setIfInBounds_toArray, List.set_cons_zero, List.set_cons_succ]
                            rfl
                          refine two_ (i := 2) (j := 8) (Ni := some 17) (Nj := some 6) #[true, true, true, false, false, false, false, false, false, true, false, false, false] #[true, true, false, false, false, false, false, false, true, true, false, false, false] rfl rfl rfl rfl (two_of HT_.out (by kernel_rfl)) (by decide) (by decide) (fun K hK => ?_) (fun K hK => ?_)
                          · skip
                            refine goes_ Try.func45 (by kernel_rfl) rfl #[.int .i64 a1] (by rfl) rfl rfl (by (try simp only [List.map_toArray, List.map_cons, List.map_nil]); rfl) ?_
                            with_reducible refine (primroseref02_Of.calls k a1 t441 t442 _ A5.out).mono ?_
                            rintro e w12 ⟨v443, rfl, ho0, hb⟩
                            refine ⟨_, rfl, ?_⟩
                            have n0_ := Aside0.mk (Kd.R_lower ho0 (below_size (HB.out)))
                            have n1_ := Aside0.mk (blk_below (g := gb439) (o := .cells #[.bool a0_0, .slice A0_1 l0_1.length c0_1] 32 (0, 0)) (BK439.out) hb)
                            have n2_ := Aside0.mk (blk_below (g := gb455) (o := .cells #[.bool false, .slice none 0 0] 32 (0, 0)) (BK455.out) hb)
                            have n3_ := Aside0.mk (below_step (HB.out) hb)
                            clear BK439
                            clear BK455
                            clear HB
                            have HO444 := n0_
                            have BK439 := n1_
                            have BK455 := n2_
                            have HB := n3_
                            clear n0_ n1_ n2_ n3_
                            (try clear hb)
                            (try clear ho0)
                            refine hK.out _ _ ⟨(blk_cell BK439.out 0).trans rfl, (blk_cell BK439.out 1).trans rfl⟩ (fun hHeld => ?_)
                            clear hK K
                            refine norm_ (a' := ?_) ?_ ?_
                            rotate_left
                            · show Act.put _ (some 17) _ = _
                              simp only [Act.put, List.setIfInBounds_toArray, List.set_cons_zero, List.set_cons_succ, i64_w, i32_w]
                              rfl
                            exact norm_ (by simp only [putAll, Act.put, List.setIfInBounds_toArray, List.set_cons_zero, List.set_cons_succ]; try rfl) (hJ2_9 (_, gb455) _ ⟨hHeld, (HO444.out), (BK439.out), (BK455.out), GW455.out, GE455.out, NB439_455.out, NB455_439.out, (HB.out)⟩)
                          · skip
                            refine box_step ?hg (N := 6) ?hd (cs := #[.bool false, .slice none 0 0]) (t := 32) ?hr ?_; (case hd => rfl); (case hg => rfl); (case hr => (go_simp; done))
                            intro gb454 hg w12 hbox hb
                            have n0_ := Aside0.mk (blk_below (g := gb439) (o := .cells #[.bool a0_0, .slice A0_1 l0_1.length c0_1] 32 (0, 0)) (BK439.out) hb)
                            have n1_ := Aside0.mk (blk_below (g := gb455) (o := .cells #[.bool false, .slice none 0 0] 32 (0, 0)) (BK455.out) hb)
                            have n2_ := Aside0.mk (below_step (HB.out) hb)
                            have n3_ := Aside0.mk (hbox)
                            have n4_ := Aside0.mk (by rw [hg]; exact (below_size (HB.out)) : w.heap.size ≤ gb454)
                            have n5_ := Aside0.mk (by rw [hg]; exact (below_size (HB.out)) : w.heap.size ≤ gb454)
                            have n6_ := Aside0.mk (by rw [hg]; exact Nat.ne_of_lt (blk_lt (g := gb439) (o := .cells #[.bool a0_0, .slice A0_1 l0_1.length c0_1] 32 (0, 0)) (BK439.out)) : gb439 ≠ gb454)
                            have n7_ := Aside0.mk (by rw [hg]; exact Nat.ne_of_gt (blk_lt (g := gb439) (o := .cells #[.bool a0_0, .slice A0_1 l0_1.length c0_1] 32 (0, 0)) (BK439.out)) : gb454 ≠ gb439)
                            have n8_ := Aside0.mk (by rw [hg]; exact Nat.ne_of_lt (blk_lt (g := gb455) (o := .cells #[.bool false, .slice none 0 0] 32 (0, 0)) (BK455.out)) : gb455 ≠ gb454)
                            have n9_ := Aside0.mk (by rw [hg]; exact Nat.ne_of_gt (blk_lt (g := gb455) (o := .cells #[.bool false, .slice none 0 0] 32 (0, 0)) (BK455.out)) : gb454 ≠ gb455)
                            clear BK439
                            clear BK455
                            clear HB
                            have BK439 := n0_
                            have BK455 := n1_
                            have HB := n2_
                            have BK454 := n3_
                            have GW454 := n4_
                            have GE454 := n5_
                            have NB439_454 := n6_
                            have NB454_439 := n7_
                            have NB455_454 := n8_
                            have NB454_455 := n9_
                            clear n0_ n1_ n2_ n3_ n4_ n5_ n6_ n7_ n8_ n9_
                            clear hb hbox hg
                            refine hK.out _ _ ⟨(blk_cell BK439.out 0).trans rfl, (blk_cell BK439.out 1).trans rfl⟩ (fun hHeld => ?_)
                            clear hK K
                            refine norm_ (a' := ?_) ?_ ?_
                            rotate_left
                            · show Act.put _ (some 6) _ = _
                              simp only [Act.put, List.setIfInBounds_toArray, List.set_cons_zero, List.set_cons_succ, i64_w, i32_w]
                              rfl
                            exact norm_ (by (simp only [putAll, Act.put, List.setIfInBounds_toArray, List.set_cons_zero, List.set_cons_succ]; done)) (hJ8_9 (gb454, gb455) _ ⟨hHeld, (BK439.out), (BK454.out), (BK455.out), GW454.out, GE454.out, NB439_454.out, NB454_439.out, NB455_454.out, NB454_455.out, GW455.out, GE455.out, NB439_455.out, NB455_439.out, (HB.out)⟩)
                      · skip
                        rintro gb454 w11 ⟨hS_, h0_, h1_, h2_, h3_, h4_, h5_, h6_⟩
                        have n0_ : Aside0 (w11.heap[gb439]? = some (.cells #[.bool a0_0, .slice A0_1 l0_1.length c0_1] 32 (0, 0))) := ⟨h0_⟩
                        have n1_ : Aside0 (w11.heap[gb454]? = some (.cells #[.bool false, .slice none 0 0] 32 (0, 0))) := ⟨h1_⟩
                        have n2_ : Aside0 (w.heap.size ≤ gb454) := ⟨h2_⟩
                        have n3_ : Aside0 (w.heap.size ≤ gb454) := ⟨h3_⟩
                        have n4_ : Aside0 (gb439 ≠ gb454) := ⟨h4_⟩
                        have n5_ : Aside0 (gb454 ≠ gb439) := ⟨h5_⟩
                        have n6_ : Aside0 (Below w.heap.size w w11) := ⟨h6_⟩
                        clear BK439
                        clear HB
                        clear h0_ h1_ h2_ h3_ h4_ h5_ h6_
                        have BK439 := n0_
                        have BK454 := n1_
                        have GW454 := n2_
                        have GE454 := n3_
                        have NB439_454 := n4_
                        have NB454_439 := n5_
                        have HB := n6_
                        clear n0_ n1_ n2_ n3_ n4_ n5_ n6_
                        have hHeld : w11.cell? ⟨gb439, 0, none⟩ = some (.bool a0_0) ∧ w11.cell? ⟨gb439, 1, none⟩ = some (.slice A0_1 l0_1.length c0_1) := hS_
                        refine norm_ (a' := ?_) ?_ ?_
                        rotate_left
                        · simp only [putAll, Act.put, List.setIfInBounds_toArray, List.set_cons_zero, List.set_cons_succ]
                          rfl
                        refine two_ (i := 2) (j := 9) (Ni := some 17) (Nj := some 7) #[true, true, true, false, false, false, false, false, true, false, false, false, false] #[true, true, false, false, false, false, false, false, true, true, false, false, false] rfl rfl rfl rfl (two_of HT_.out (by kernel_rfl)) (by decide) (by decide) (fun K hK => ?_) (fun K hK => ?_)
                        · skip
                          refine goes_ Try.func45 (by kernel_rfl) rfl #[.int .i64 a1] (by rfl) rfl rfl (by (try simp only [List.map_toArray, List.map_cons, List.map_nil]); rfl) ?_
                          with_reducible refine (primroseref02_Of.calls k a1 t441 t442 _ A5.out).mono ?_
                          rintro e w12 ⟨v443, rfl, ho0, hb⟩
                          refine ⟨_, rfl, ?_⟩
                          have n0_ := Aside0.mk (Kd.R_lower ho0 (below_size (HB.out)))
                          have n1_ := Aside0.mk (blk_below (g := gb439) (o := .cells #[.bool a0_0, .slice A0_1 l0_1.length c0_1] 32 (0, 0)) (BK439.out) hb)
                          have n2_ := Aside0.mk (blk_below (g := gb454) (o := .cells #[.bool false, .slice none 0 0] 32 (0, 0)) (BK454.out) hb)
                          have n3_ := Aside0.mk (below_step (HB.out) hb)
                          clear BK439
                          clear BK454
                          clear HB
                          have HO444 := n0_
                          have BK439 := n1_
                          have BK454 := n2_
                          have HB := n3_
                          clear n0_ n1_ n2_ n3_
                          (try clear hb)
                          (try clear ho0)
                          refine hK.out _ _ ⟨(blk_cell BK439.out 0).trans rfl, (blk_cell BK439.out 1).trans rfl⟩ (fun hHeld => ?_)
                          clear hK K
                          refine norm_ (a' := ?_) ?_ ?_
                          rotate_left
                          · show Act.put _ (some 17) _ = _
                            simp only [Act.put, List.setIfInBounds_toArray, List.set_cons_zero, List.set_cons_succ, i64_w, i32_w]
                            rfl
                          exact norm_ (by simp only [putAll, Act.put, List.setIfInBounds_toArray, List.set_cons_zero, List.set_cons_succ]; try rfl) (hJ2_8 (_, gb454) _ ⟨hHeld, (HO444.out), (BK439.out), (BK454.out), GW454.out, GE454.out, NB439_454.out, NB454_439.out, (HB.out)⟩)
                        · skip
                          refine box_step ?hg (N := 7) ?hd (cs := #[.bool false, .slice none 0 0]) (t := 32) ?hr ?_; (case hd => rfl); (case hg => rfl); (case hr => (go_simp; done))
                          intro gb455 hg w12 hbox hb
                          have n0_ := Aside0.mk (blk_below (g := gb439) (o := .cells #[.bool a0_0, .slice A0_1 l0_1.length c0_1] 32 (0, 0)) (BK439.out) hb)
                          have n1_ := Aside0.mk (blk_below (g := gb454) (o := .cells #[.bool false, .slice none 0 0] 32 (0, 0)) (BK454.out) hb)
                          have n2_ := Aside0.mk (below_step (HB.out) hb)
                          have n3_ := Aside0.mk (hbox)
                          have n4_ := Aside0.mk (by rw [hg]; exact (below_size (HB.out)) : w.heap.size ≤ gb455)
                          have n5_ := Aside0.mk (by rw [hg]; exact (below_size (HB.out)) : w.heap.size ≤ gb455)
                          have n6_ := Aside0.mk (by rw [hg]; exact Nat.ne_of_lt (blk_lt (g := gb439) (o := .cells #[.bool a0_0, .slice A0_1 l0_1.length c0_1] 32 (0, 0)) (BK439.out)) : gb439 ≠ gb455)
                          have n7_ := Aside0.mk (by rw [hg]; exact Nat.ne_of_gt (blk_lt (g := gb439) (o := .cells #[.bool a0_0, .slice A0_1 l0_1.length c0_1] 32 (0, 0)) (BK439.out)) : gb455 ≠ gb439)
                          have n8_ := Aside0.mk (by rw [hg]; exact Nat.ne_of_lt (blk_lt (g := gb454) (o := .cells #[.bool false, .slice none 0 0] 32 (0, 0)) (BK454.out)) : gb454 ≠ gb455)
                          have n9_ := Aside0.mk (by rw [hg]; exact Nat.ne_of_gt (blk_lt (g := gb454) (o := .cells #[.bool false, .slice none 0 0] 32 (0, 0)) (BK454.out)) : gb455 ≠ gb454)
                          clear BK439
                          clear BK454
                          clear HB
                          have BK439 := n0_
                          have BK454 := n1_
                          have HB := n2_
                          have BK455 := n3_
                          have GW455 := n4_
                          have GE455 := n5_
                          have NB439_455 := n6_
                          have NB455_439 := n7_
                          have NB454_455 := n8_
                          have NB455_454 := n9_
                          clear n0_ n1_ n2_ n3_ n4_ n5_ n6_ n7_ n8_ n9_
                          clear hb hbox hg
                          refine hK.out _ _ ⟨(blk_cell BK439.out 0).trans rfl, (blk_cell BK439.out 1).trans rfl⟩ (fun hHeld => ?_)
                          clear hK K
                          refine norm_ (a' := ?_) ?_ ?_
                          rotate_left
                          · show Act.put _ (some 7) _ = _
                            simp only [Act.put, List.setIfInBounds_toArray, List.set_cons_zero, List.set_cons_succ, i64_w, i32_w]
                            rfl
                          exact norm_ (by (simp only [putAll, Act.put, List.setIfInBounds_toArray, List.set_cons_zero, List.set_cons_succ]; done)) (hJ8_9 (gb454, gb455) _ ⟨hHeld, (BK439.out), (BK454.out), (BK455.out), GW454.out, GE454.out, NB439_454.out, NB454_439.out, NB455_454.out, NB454_455.out, GW455.out, GE455.out, NB439_455.out, NB455_439.out, (HB.out)⟩)
                    · skip
                      rintro v443 w11 ⟨hS_, h0_, h1_, h2_⟩
                      have n0_ : Aside0 (Kd.R (Kd.int .u32) 59 w11 w.heap.size (fun _ => True) v443 t442) := ⟨h0_⟩
                      have n1_ : Aside0 (w11.heap[gb439]? = some (.cells #[.bool a0_0, .slice A0_1 l0_1.length c0_1] 32 (0, 0))) := ⟨h1_⟩
                      have n2_ : Aside0 (Below w.heap.size w w11) := ⟨h2_⟩
                      clear BK439
                      clear HB
                      clear h0_ h1_ h2_
                      have HO444 := n0_
                      have BK439 := n1_
                      have HB := n2_
                      clear n0_ n1_ n2_
                      have hHeld : w11.cell? ⟨gb439, 0, none⟩ = some (.bool a0_0) ∧ w11.cell? ⟨gb439, 1, none⟩ = some (.slice A0_1 l0_1.length c0_1) := hS_
                      obtain ⟨Ao12, co12, eo12⟩ := Kd.R_slice HO444.out
                      (subst eo12)
                      refine norm_ (a' := ?_) ?_ ?_
                      rotate_left
                      · simp only [putAll, Act.put, List.setIfInBounds_toArray, List.set_cons_zero, List.set_cons_succ]
                        rfl
                      refine three_ (i := 3) (j := 8) (k := 9) (Ni := some 18) (Nj := some 6) (Nk := some 7) #[true, true, true, true, false, false, false, false, false, false, false, false, false] #[true, true, true, false, false, false, false, false, true, false, false, false, false] #[true, true, true, false, false, false, false, false, false, true, false, false, false] rfl rfl rfl rfl rfl rfl (three_of HT_.out (by kernel_rfl)) (by decide) (by decide) (by decide) (fun K hK => ?_) (fun K hK => ?_) (fun K hK => ?_)
                      · skip
                        refine goes_ Try.func44 (by kernel_rfl) rfl #[.agg #[.bool a0_0, .slice A0_1 l0_1.length c0_1], .agg #[.bool t441, .slice Ao12 t442.length co12]] (by rfl) rfl rfl (by (try simp only [List.map_toArray, List.map_cons, List.map_nil]); rfl) ?_
                        with_reducible refine (primroseref02_Div.calls k a0_0 _ _ l0_1 t441 _ _ t442 t445 t446 t449 t450 t453 _ ?side1 ?side2 ?side3 ?side4 A6.out).mono ?_
                        (case side1 => exact (Kd.C_below HR0_1.out HB.out))
                        (case side2 => exact HC0_1.out)
                        (case side3 => exact (Kd.R_reads' HO444.out).2.2)
                        (case side4 => exact (Kd.R_reads' HO444.out).2.1)
                        rintro e w13 ⟨v447, v451, rfl, ho0, ho1, hb⟩
                        refine ⟨_, rfl, ?_⟩
                        have n0_ := Aside0.mk (Kd.R_mono (Kd.R_told (Kd.R_told (Kd.R_old (HO444.out) hb) (Kd.R_base ho0)) (Kd.R_base ho1)) (fun _ h_ => h_.1))
                        have n1_ := Aside0.mk (Kd.R_lower (Kd.R_new' ho0 (Kd.R_lt (HO444.out))) (below_size (HB.out)))
                        have n2_ := Aside0.mk (Kd.R_lower (Kd.R_new' ho1 (Kd.R_lt (HO444.out))) (below_size (HB.out)))
                        have n3_ := Aside0.mk (blk_below (g := gb439) (o := .cells #[.bool a0_0, .slice A0_1 l0_1.length c0_1] 32 (0, 0)) (BK439.out) hb)
                        have n4_ := Aside0.mk (below_step (HB.out) hb)
                        clear HO444
                        clear BK439
                        clear HB
                        have HO444 := n0_
                        have HO448 := n1_
                        have HO452 := n2_
                        have BK439 := n3_
                        have HB := n4_
                        clear n0_ n1_ n2_ n3_ n4_
                        (try clear hb)
                        (try clear ho0)
                        (try clear ho1)
                        refine hK.out _ _ ⟨(blk_cell BK439.out 0).trans rfl, (blk_cell BK439.out 1).trans rfl⟩ (fun hHeld => ?_)
                        clear hK K
                        refine norm_ (a' := ?_) ?_ ?_
                        rotate_left
                        · show Act.put _ (some 18) _ = _
                          simp only [Act.put, List.setIfInBounds_toArray, List.set_cons_zero, List.set_cons_succ, i64_w, i32_w]
                          rfl
                        refine pure_ (i := 4) (N := some 14) (v := ?_) (a' := ?_) #[true, true, true, true, true, false, false, false, false, false, false, false, false] rfl rfl (any_of HT_.out (by kernel_rfl)) (fun _ _ _ h => h) (Or.inl ⟨by rfl, ?_⟩) ?_ ?_
                        rotate_left
                        · intro w'
                          go_simp
                          with_reducible rfl
                        rotate_left
                        · simp only [Act.put, List.setIfInBounds_toArray, List.set_cons_zero, List.set_cons_succ, i64_w, i32_w]
                          rfl
                        refine pure_ (i := 5) (N := some 19) (v := ?_) (a' := ?_) #[true, true, true, true, true, true, false, false, false, false, false, false, false] rfl rfl (any_of HT_.out (by kernel_rfl)) (fun _ _ _ h => h) (Or.inl ⟨by rfl, ?_⟩) ?_ ?_
                        rotate_left
                        · intro w'
                          go_simp
                          with_reducible rfl
                        rotate_left
                        · simp only [Act.put, List.setIfInBounds_toArray, List.set_cons_zero, List.set_cons_succ, i64_w, i32_w]
                          rfl
                        refine pure_ (i := 6) (N := some 20) (v := ?_) (a' := ?_) #[true, true, true, true, true, true, true, false, false, false, false, false, false] rfl rfl (any_of HT_.out (by kernel_rfl)) (fun _ _ _ h => h) (Or.inl ⟨by rfl, ?_⟩) ?_ ?_
                        rotate_left
                        · intro w'
                          go_simp
                          with_reducible rfl
                        rotate_left
                        · simp only [Act.put, List.setIfInBounds_toArray, List.set_cons_zero, List.set_cons_succ, i64_w, i32_w]
                          rfl
                        refine pure_ (i := 7) (N := some 21) (v := ?_) (a' := ?_) #[true, true, true, true, true, true, true, true, false, false, false, false, false] rfl rfl (any_of HT_.out (by kernel_rfl)) (fun _ _ _ h => h) (Or.inl ⟨by rfl, ?_⟩) ?_ ?_
                        rotate_left
                        · intro w'
                          go_simp
                          with_reducible rfl
                        rotate_left
                        · simp only [Act.put, List.setIfInBounds_toArray, List.set_cons_zero, List.set_cons_succ, i64_w, i32_w]
                          rfl
                        exact norm_ (by (simp only [putAll, Act.put, List.setIfInBounds_toArray, List.set_cons_zero, List.set_cons_succ]; done)) (hJ2_3 (.slice Ao12 t442.length co12, v447, v451) _ ⟨hHeld, (Kd.R_mono HO444.out (fun _ hk => ⟨hk.1.2, hk.2⟩)), (Kd.R_mono HO448.out (fun _ hk => ⟨hk.2, hk.1⟩)), (Kd.R_mono HO452.out (fun _ hk => ⟨hk.2, hk.1⟩)), (BK439.out), (HB.out)⟩)
                      · skip
                        refine box_step ?hg (N := 6) ?hd (cs := #[.bool false, .slice none 0 0]) (t := 32) ?hr ?_; (case hd => rfl); (case hg => rfl); (case hr => (go_simp; done))
                        intro gb454 hg w12 hbox hb
                        have n0_ := Aside0.mk (Kd.R_below (HO444.out) hb)
                        have n1_ := Aside0.mk (blk_below (g := gb439) (o := .cells #[.bool a0_0, .slice A0_1 l0_1.length c0_1] 32 (0, 0)) (BK439.out) hb)
                        have n2_ := Aside0.mk (below_step (HB.out) hb)
                        have n3_ := Aside0.mk (hbox)
                        have n4_ := Aside0.mk (by rw [hg]; exact (below_size (HB.out)) : w.heap.size ≤ gb454)
                        have n5_ := Aside0.mk (by rw [hg]; exact (below_size (HB.out)) : w.heap.size ≤ gb454)
                        have n6_ := Aside0.mk (by rw [hg]; exact Nat.ne_of_lt (blk_lt (g := gb439) (o := .cells #[.bool a0_0, .slice A0_1 l0_1.length c0_1] 32 (0, 0)) (BK439.out)) : gb439 ≠ gb454)
                        have n7_ := Aside0.mk (by rw [hg]; exact Nat.ne_of_gt (blk_lt (g := gb439) (o := .cells #[.bool a0_0, .slice A0_1 l0_1.length c0_1] 32 (0, 0)) (BK439.out)) : gb454 ≠ gb439)
                        clear HO444
                        clear BK439
                        clear HB
                        have HO444 := n0_
                        have BK439 := n1_
                        have HB := n2_
                        have BK454 := n3_
                        have GW454 := n4_
                        have GE454 := n5_
                        have NB439_454 := n6_
                        have NB454_439 := n7_
                        clear n0_ n1_ n2_ n3_ n4_ n5_ n6_ n7_
                        clear hb hbox hg
                        refine hK.out _ _ ⟨(blk_cell BK439.out 0).trans rfl, (blk_cell BK439.out 1).trans rfl⟩ (fun hHeld => ?_)
                        clear hK K
                        refine norm_ (a' := ?_) ?_ ?_
                        rotate_left
                        · show Act.put _ (some 6) _ = _
                          simp only [Act.put, List.setIfInBounds_toArray, List.set_cons_zero, List.set_cons_succ, i64_w, i32_w]
                          rfl
                        exact norm_ (by simp only [putAll, Act.put, List.setIfInBounds_toArray, List.set_cons_zero, List.set_cons_succ]; try rfl) (hJ2_8 (_, gb454) _ ⟨hHeld, (HO444.out), (BK439.out), (BK454.out), GW454.out, GE454.out, NB439_454.out, NB454_439.out, (HB.out)⟩)
                      · skip
                        refine box_step ?hg (N := 7) ?hd (cs := #[.bool false, .slice none 0 0]) (t := 32) ?hr ?_; (case hd => rfl); (case hg => rfl); (case hr => (go_simp; done))
                        intro gb455 hg w12 hbox hb
                        have n0_ := Aside0.mk (Kd.R_below (HO444.out) hb)
                        have n1_ := Aside0.mk (blk_below (g := gb439) (o := .cells #[.bool a0_0, .slice A0_1 l0_1.length c0_1] 32 (0, 0)) (BK439.out) hb)
                        have n2_ := Aside0.mk (below_step (HB.out) hb)
                        have n3_ := Aside0.mk (hbox)
                        have n4_ := Aside0.mk (by rw [hg]; exact (below_size (HB.out)) : w.heap.size ≤ gb455)
                        have n5_ := Aside0.mk (by rw [hg]; exact (below_size (HB.out)) : w.heap.size ≤ gb455)
                        have n6_ := Aside0.mk (by rw [hg]; exact Nat.ne_of_lt (blk_lt (g := gb439) (o := .cells #[.bool a0_0, .slice A0_1 l0_1.length c0_1] 32 (0, 0)) (BK439.out)) : gb439 ≠ gb455)
                        have n7_ := Aside0.mk (by rw [hg]; exact Nat.ne_of_gt (blk_lt (g := gb439) (o := .cells #[.bool a0_0, .slice A0_1 l0_1.length c0_1] 32 (0, 0)) (BK439.out)) : gb455 ≠ gb439)
                        clear HO444
                        clear BK439
                        clear HB
                        have HO444 := n0_
                        have BK439 := n1_
                        have HB := n2_
                        have BK455 := n3_
                        have GW455 := n4_
                        have GE455 := n5_
                        have NB439_455 := n6_
                        have NB455_439 := n7_
                        clear n0_ n1_ n2_ n3_ n4_ n5_ n6_ n7_
                        clear hb hbox hg
                        refine hK.out _ _ ⟨(blk_cell BK439.out 0).trans rfl, (blk_cell BK439.out 1).trans rfl⟩ (fun hHeld => ?_)
                        clear hK K
                        refine norm_ (a' := ?_) ?_ ?_
                        rotate_left
                        · show Act.put _ (some 7) _ = _
                          simp only [Act.put, List.setIfInBounds_toArray, List.set_cons_zero, List.set_cons_succ, i64_w, i32_w]
                          rfl
                        exact norm_ (by simp only [putAll, Act.put, List.setIfInBounds_toArray, List.set_cons_zero, List.set_cons_succ]; try rfl) (hJ2_9 (_, gb455) _ ⟨hHeld, (HO444.out), (BK439.out), (BK455.out), GW455.out, GE455.out, NB439_455.out, NB455_439.out, (HB.out)⟩)
                  · skip
                    rintro ⟨gb454, gb455⟩ w12 ⟨hS_, h0_, h1_, h2_, h3_, h4_, h5_, h6_, h7_, h8_, h9_, h10_, h11_, h12_, h13_⟩
                    have n0_ : Aside0 (w12.heap[gb439]? = some (.cells #[.bool a0_0, .slice A0_1 l0_1.length c0_1] 32 (0, 0))) := ⟨h0_⟩
                    have n1_ : Aside0 (w12.heap[gb454]? = some (.cells #[.bool false, .slice none 0 0] 32 (0, 0))) := ⟨h1_⟩
                    have n2_ : Aside0 (w12.heap[gb455]? = some (.cells #[.bool false, .slice none 0 0] 32 (0, 0))) := ⟨h2_⟩
                    have n3_ : Aside0 (w.heap.size ≤ gb454) := ⟨h3_⟩
                    have n4_ : Aside0 (w.heap.size ≤ gb454) := ⟨h4_⟩
                    have n5_ : Aside0 (gb439 ≠ gb454) := ⟨h5_⟩
                    have n6_ : Aside0 (gb454 ≠ gb439) := ⟨h6_⟩
                    have n7_ : Aside0 (gb455 ≠ gb454) := ⟨h7_⟩
                    have n8_ : Aside0 (gb454 ≠ gb455) := ⟨h8_⟩
                    have n9_ : Aside0 (w.heap.size ≤ gb455) := ⟨h9_⟩
                    have n10_ : Aside0 (w.heap.size ≤ gb455) := ⟨h10_⟩
                    have n11_ : Aside0 (gb439 ≠ gb455) := ⟨h11_⟩
                    have n12_ : Aside0 (gb455 ≠ gb439) := ⟨h12_⟩
                    have n13_ : Aside0 (Below w.heap.size w w12) := ⟨h13_⟩
                    clear BK439
                    clear HB
                    clear h0_ h1_ h2_ h3_ h4_ h5_ h6_ h7_ h8_ h9_ h10_ h11_ h12_ h13_
                    have BK439 := n0_
                    have BK454 := n1_
                    have BK455 := n2_
                    have GW454 := n3_
                    have GE454 := n4_
                    have NB439_454 := n5_
                    have NB454_439 := n6_
                    have NB455_454 := n7_
                    have NB454_455 := n8_
                    have GW455 := n9_
                    have GE455 := n10_
                    have NB439_455 := n11_
                    have NB455_439 := n12_
                    have HB := n13_
                    clear n0_ n1_ n2_ n3_ n4_ n5_ n6_ n7_ n8_ n9_ n10_ n11_ n12_ n13_
                    have hHeld : w12.cell? ⟨gb439, 0, none⟩ = some (.bool a0_0) ∧ w12.cell? ⟨gb439, 1, none⟩ = some (.slice A0_1 l0_1.length c0_1) := hS_
                    refine norm_ (a' := ?_) ?_ ?_
                    rotate_left
                    · simp only [putAll, Act.put, List.setIfInBounds_toArray, List.set_cons_zero, List.set_cons_succ]
                      rfl
                    refine one_ (i := 2) (N := some 17) #[true, true, true, false, false, false, false, false, true, true, false, false, false] rfl rfl (one_of HT_.out (by kernel_rfl)) (by decide) (fun K hK => ?_)
                    refine goes_ Try.func45 (by kernel_rfl) rfl #[.int .i64 a1] (by rfl) rfl rfl (by (try simp only [List.map_toArray, List.map_cons, List.map_nil]); rfl) ?_
                    with_reducible refine (primroseref02_Of.calls k a1 t441 t442 _ A5.out).mono ?_
                    rintro e w13 ⟨v443, rfl, ho0, hb⟩
                    refine ⟨_, rfl, ?_⟩
                    have n0_ := Aside0.mk (Kd.R_lower ho0 (below_size (HB.out)))
                    have n1_ := Aside0.mk (blk_below (g := gb439) (o := .cells #[.bool a0_0, .slice A0_1 l0_1.length c0_1] 32 (0, 0)) (BK439.out) hb)
                    have n2_ := Aside0.mk (blk_below (g := gb454) (o := .cells #[.bool false, .slice none 0 0] 32 (0, 0)) (BK454.out) hb)
                    have n3_ := Aside0.mk (blk_below (g := gb455) (o := .cells #[.bool false, .slice none 0 0] 32 (0, 0)) (BK455.out) hb)
                    have n4_ := Aside0.mk (below_step (HB.out) hb)
                    clear BK439
                    clear BK454
                    clear BK455
                    clear HB
                    have HO444 := n0_
                    have BK439 := n1_
                    have BK454 := n2_
                    have BK455 := n3_
                    have HB := n4_
                    clear n0_ n1_ n2_ n3_ n4_
                    (try clear hb)
                    (try clear ho0)
                    refine hK.out _ _ ⟨(blk_cell BK439.out 0).trans rfl, (blk_cell BK439.out 1).trans rfl⟩ (fun hHeld => ?_)
                    clear hK K
                    refine norm_ (a' := ?_) ?_ ?_
                    rotate_left
                    · show Act.put _ (some 17) _ = _
                      simp only [Act.put, List.setIfInBounds_toArray, List.set_cons_zero, List.set_cons_succ, i64_w, i32_w]
                      rfl
                    exact norm_ (by simp only [putAll, Act.put, List.setIfInBounds_toArray, List.set_cons_zero, List.set_cons_succ]; try rfl) (hJ2_8_9 (_, gb454, gb455) _ ⟨hHeld, (HO444.out), (BK439.out), (BK454.out), (BK455.out), GW454.out, GE454.out, NB439_454.out, NB454_439.out, NB455_454.out, NB454_455.out, GW455.out, GE455.out, NB439_455.out, NB455_439.out, (HB.out)⟩)
                · skip
                  rintro ⟨v443, gb455⟩ w12 ⟨hS_, h0_, h1_, h2_, h3_, h4_, h5_, h6_, h7_⟩
                  have n0_ : Aside0 (Kd.R (Kd.int .u32) 59 w12 w.heap.size (fun _ => True) v443 t442) := ⟨h0_⟩
                  have n1_ : Aside0 (w12.heap[gb439]? = some (.cells #[.bool a0_0, .slice A0_1 l0_1.length c0_1] 32 (0, 0))) := ⟨h1_⟩
                  have n2_ : Aside0 (w12.heap[gb455]? = some (.cells #[.bool false, .slice none 0 0] 32 (0, 0))) := ⟨h2_⟩
                  have n3_ : Aside0 (w.heap.size ≤ gb455) := ⟨h3_⟩
                  have n4_ : Aside0 (w.heap.size ≤ gb455) := ⟨h4_⟩
                  have n5_ : Aside0 (gb439 ≠ gb455) := ⟨h5_⟩
                  have n6_ : Aside0 (gb455 ≠ gb439) := ⟨h6_⟩
                  have n7_ : Aside0 (Below w.heap.size w w12) := ⟨h7_⟩
                  clear BK439
                  clear HB
                  clear h0_ h1_ h2_ h3_ h4_ h5_ h6_ h7_
                  have HO444 := n0_
                  have BK439 := n1_
                  have BK455 := n2_
                  have GW455 := n3_
                  have GE455 := n4_
                  have NB439_455 := n5_
                  have NB455_439 := n6_
                  have HB := n7_
                  clear n0_ n1_ n2_ n3_ n4_ n5_ n6_ n7_
                  have hHeld : w12.cell? ⟨gb439, 0, none⟩ = some (.bool a0_0) ∧ w12.cell? ⟨gb439, 1, none⟩ = some (.slice A0_1 l0_1.length c0_1) := hS_
                  obtain ⟨Ao13, co13, eo13⟩ := Kd.R_slice HO444.out
                  (subst eo13)
                  refine norm_ (a' := ?_) ?_ ?_
                  rotate_left
                  · simp only [putAll, Act.put, List.setIfInBounds_toArray, List.set_cons_zero, List.set_cons_succ]
                    rfl
                  refine two_ (i := 3) (j := 8) (Ni := some 18) (Nj := some 6) #[true, true, true, true, false, false, false, false, false, true, false, false, false] #[true, true, true, false, false, false, false, false, true, true, false, false, false] rfl rfl rfl rfl (two_of HT_.out (by kernel_rfl)) (by decide) (by decide) (fun K hK => ?_) (fun K hK => ?_)
                  · skip
                    refine goes_ Try.func44 (by kernel_rfl) rfl #[.agg #[.bool a0_0, .slice A0_1 l0_1.length c0_1], .agg #[.bool t441, .slice Ao13 t442.length co13]] (by rfl) rfl rfl (by (try simp only [List.map_toArray, List.map_cons, List.map_nil]); rfl) ?_
                    with_reducible refine (primroseref02_Div.calls k a0_0 _ _ l0_1 t441 _ _ t442 t445 t446 t449 t450 t453 _ ?side1 ?side2 ?side3 ?side4 A6.out).mono ?_
                    (case side1 => exact (Kd.C_below HR0_1.out HB.out))
                    (case side2 => exact HC0_1.out)
                    (case side3 => exact (Kd.R_reads' HO444.out).2.2)
                    (case side4 => exact (Kd.R_reads' HO444.out).2.1)
                    rintro e w14 ⟨v447, v451, rfl, ho0, ho1, hb⟩
                    refine ⟨_, rfl, ?_⟩
                    have n0_ := Aside0.mk (Kd.R_mono (Kd.R_told (Kd.R_told (Kd.R_old (HO444.out) hb) (Kd.R_base ho0)) (Kd.R_base ho1)) (fun _ h_ => h_.1))
                    have n1_ := Aside0.mk (Kd.R_lower (Kd.R_new' ho0 (Kd.R_lt (HO444.out))) (below_size (HB.out)))
                    have n2_ := Aside0.mk (Kd.R_lower (Kd.R_new' ho1 (Kd.R_lt (HO444.out))) (below_size (HB.out)))
                    have n3_ := Aside0.mk (blk_below (g := gb439) (o := .cells #[.bool a0_0, .slice A0_1 l0_1.length c0_1] 32 (0, 0)) (BK439.out) hb)
                    have n4_ := Aside0.mk (blk_below (g := gb455) (o := .cells #[.bool false, .slice none 0 0] 32 (0, 0)) (BK455.out) hb)
                    have n5_ := Aside0.mk (below_step (HB.out) hb)
                    clear HO444
                    clear BK439
                    clear BK455
                    clear HB
                    have HO444 := n0_
                    have HO448 := n1_
                    have HO452 := n2_
                    have BK439 := n3_
                    have BK455 := n4_
                    have HB := n5_
                    clear n0_ n1_ n2_ n3_ n4_ n5_
                    (try clear hb)
                    (try clear ho0)
                    (try clear ho1)
                    refine hK.out _ _ ⟨(blk_cell BK439.out 0).trans rfl, (blk_cell BK439.out 1).trans rfl⟩ (fun hHeld => ?_)
                    clear hK K
                    refine norm_ (a' := ?_) ?_ ?_
                    rotate_left
                    · show Act.put _ (some 18) _ = _
                      simp only [Act.put, List.setIfInBounds_toArray, List.set_cons_zero, List.set_cons_succ, i64_w, i32_w]
                      rfl
                    refine pure_ (i := 4) (N := some 14) (v := ?_) (a' := ?_) #[true, true, true, true, true, false, false, false, false, true, false, false, false] rfl rfl (any_of HT_.out (by kernel_rfl)) (fun _ _ _ h => h) (Or.inl ⟨by rfl, ?_⟩) ?_ ?_
                    rotate_left
                    · intro w'
                      go_simp
                      with_reducible rfl
                    rotate_left
                    · simp only [Act.put, List.setIfInBounds_toArray, List.set_cons_zero, List.set_cons_succ, i64_w, i32_w]
                      rfl
                    refine pure_ (i := 5) (N := some 19) (v := ?_) (a' := ?_) #[true, true, true, true, true, true, false, false, false, true, false, false, false] rfl rfl (any_of HT_.out (by kernel_rfl)) (fun _ _ _ h => h) (Or.inl ⟨by rfl, ?_⟩) ?_ ?_
                    rotate_left
                    · intro w'
                      go_simp
                      with_reducible rfl
                    rotate_left
                    · simp only [Act.put, List.setIfInBounds_toArray, List.set_cons_zero, List.set_cons_succ, i64_w, i32_w]
                      rfl
                    refine pure_ (i := 6) (N := some 20) (v := ?_) (a' := ?_) #[true, true, true, true, true, true, true, false, false, true, false, false, false] rfl rfl (any_of HT_.out (by kernel_rfl)) (fun _ _ _ h => h) (Or.inl ⟨by rfl, ?_⟩) ?_ ?_
                    rotate_left
                    · intro w'
                      go_simp
                      with_reducible rfl
                    rotate_left
                    · simp only [Act.put, List.setIfInBounds_toArray, List.set_cons_zero, List.set_cons_succ, i64_w, i32_w]
                      rfl
                    refine pure_ (i := 7) (N := some 21) (v := ?_) (a' := ?_) #[true, true, true, true, true, true, true, true, false, true, false, false, false] rfl rfl (any_of HT_.out (by kernel_rfl)) (fun _ _ _ h => h) (Or.inl ⟨by rfl, ?_⟩) ?_ ?_
                    rotate_left
                    · intro w'
                      go_simp
                      with_reducible rfl
                    rotate_left
                    · simp only [Act.put, List.setIfInBounds_toArray, List.set_cons_zero, List.set_cons_succ, i64_w, i32_w]
                      rfl
                    exact norm_ (by (simp only [putAll, Act.put, List.setIfInBounds_toArray, List.set_cons_zero, List.set_cons_succ]; done)) (hJ2_3_9 (.slice Ao13 t442.length co13, v447, v451, gb455) _ ⟨hHeld, (Kd.R_mono HO444.out (fun _ hk => ⟨hk.1.2, hk.2⟩)), (Kd.R_mono HO448.out (fun _ hk => ⟨hk.2, hk.1⟩)), (Kd.R_mono HO452.out (fun _ hk => ⟨hk.2, hk.1⟩)), (BK439.out), (BK455.out), GW455.out, GE455.out, NB439_455.out, NB455_439.out, (HB.out)⟩)
                  · skip
                    refine box_step ?hg (N := 6) ?hd (cs := #[.bool false, .slice none 0 0]) (t := 32) ?hr ?_; (case hd => rfl); (case hg => rfl); (case hr => (go_simp; done))
                    intro gb454 hg w13 hbox hb
                    have n0_ := Aside0.mk (Kd.R_below (HO444.out) hb)
                    have n1_ := Aside0.mk (blk_below (g := gb439) (o := .cells #[.bool a0_0, .slice A0_1 l0_1.length c0_1] 32 (0, 0)) (BK439.out) hb)
                    have n2_ := Aside0.mk (blk_below (g := gb455) (o := .cells #[.bool false, .slice none 0 0] 32 (0, 0)) (BK455.out) hb)
                    have n3_ := Aside0.mk (below_step (HB.out) hb)
                    have n4_ := Aside0.mk (hbox)
                    have n5_ := Aside0.mk (by rw [hg]; exact (below_size (HB.out)) : w.heap.size ≤ gb454)
                    have n6_ := Aside0.mk (by rw [hg]; exact (below_size (HB.out)) : w.heap.size ≤ gb454)
                    have n7_ := Aside0.mk (by rw [hg]; exact Nat.ne_of_lt (blk_lt (g := gb439) (o := .cells #[.bool a0_0, .slice A0_1 l0_1.length c0_1] 32 (0, 0)) (BK439.out)) : gb439 ≠ gb454)
                    have n8_ := Aside0.mk (by rw [hg]; exact Nat.ne_of_gt (blk_lt (g := gb439) (o := .cells #[.bool a0_0, .slice A0_1 l0_1.length c0_1] 32 (0, 0)) (BK439.out)) : gb454 ≠ gb439)
                    have n9_ := Aside0.mk (by rw [hg]; exact Nat.ne_of_lt (blk_lt (g := gb455) (o := .cells #[.bool false, .slice none 0 0] 32 (0, 0)) (BK455.out)) : gb455 ≠ gb454)
                    have n10_ := Aside0.mk (by rw [hg]; exact Nat.ne_of_gt (blk_lt (g := gb455) (o := .cells #[.bool false, .slice none 0 0] 32 (0, 0)) (BK455.out)) : gb454 ≠ gb455)
                    clear HO444
                    clear BK439
                    clear BK455
                    clear HB
                    have HO444 := n0_
                    have BK439 := n1_
                    have BK455 := n2_
                    have HB := n3_
                    have BK454 := n4_
                    have GW454 := n5_
                    have GE454 := n6_
                    have NB439_454 := n7_
                    have NB454_439 := n8_
                    have NB455_454 := n9_
                    have NB454_455 := n10_
                    clear n0_ n1_ n2_ n3_ n4_ n5_ n6_ n7_ n8_ n9_ n10_
                    clear hb hbox hg
                    refine hK.out _ _ ⟨(blk_cell BK439.out 0).trans rfl, (blk_cell BK439.out 1).trans rfl⟩ (fun hHeld => ?_)
                    clear hK K
                    refine norm_ (a' := ?_) ?_ ?_
                    rotate_left
                    · show Act.put _ (some 6) _ = _
                      simp only [Act.put, List.setIfInBounds_toArray, List.set_cons_zero, List.set_cons_succ, i64_w, i32_w]
                      rfl
                    exact norm_ (by simp only [putAll, Act.put, List.setIfInBounds_toArray, List.set_cons_zero, List.set_cons_succ]; try rfl) (hJ2_8_9 (_, gb454, gb455) _ ⟨hHeld, (HO444.out), (BK439.out), (BK454.out), (BK455.out), GW454.out, GE454.out, NB439_454.out, NB454_439.out, NB455_454.out, NB454_455.out, GW455.out, GE455.out, NB439_455.out, NB455_439.out, (HB.out)⟩)
              · skip
                rintro ⟨v443, gb454⟩ w12 ⟨hS_, h0_, h1_, h2_, h3_, h4_, h5_, h6_, h7_⟩
                have n0_ : Aside0 (Kd.R (Kd.int .u32) 59 w12 w.heap.size (fun _ => True) v443 t442) := ⟨h0_⟩
                have n1_ : Aside0 (w12.heap[gb439]? = some (.cells #[.bool a0_0, .slice A0_1 l0_1.length c0_1] 32 (0, 0))) := ⟨h1_⟩
                have n2_ : Aside0 (w12.heap[gb454]? = some (.cells #[.bool false, .slice none 0 0] 32 (0, 0))) := ⟨h2_⟩
                have n3_ : Aside0 (w.heap.size ≤ gb454) := ⟨h3_⟩
                have n4_ : Aside0 (w.heap.size ≤ gb454) := ⟨h4_⟩
                have n5_ : Aside0 (gb439 ≠ gb454) := ⟨h5_⟩
                have n6_ : Aside0 (gb454 ≠ gb439) := ⟨h6_⟩
                have n7_ : Aside0 (Below w.heap.size w w12) := ⟨h7_⟩
                clear BK439
                clear HB
                clear h0_ h1_ h2_ h3_ h4_ h5_ h6_ h7_
                have HO444 := n0_
                have BK439 := n1_
                have BK454 := n2_
                have GW454 := n3_
                have GE454 := n4_
                have NB439_454 := n5_
                have NB454_439 := n6_
                have HB := n7_
                clear n0_ n1_ n2_ n3_ n4_ n5_ n6_ n7_
                have hHeld : w12.cell? ⟨gb439, 0, none⟩ = some (.bool a0_0) ∧ w12.cell? ⟨gb439, 1, none⟩ = some (.slice A0_1 l0_1.length c0_1) := hS_
                obtain ⟨Ao13, co13, eo13⟩ := Kd.R_slice HO444.out
                (subst eo13)
                refine norm_ (a' := ?_) ?_ ?_
                rotate_left
                · simp only [putAll, Act.put, List.setIfInBounds_toArray, List.set_cons_zero, List.set_cons_succ]
                  rfl
                refine two_ (i := 3) (j := 9) (Ni := some 18) (Nj := some 7) #[true, true, true, true, false, false, false, false, true, false, false, false, false] #[true, true, true, false, false, false, false, false, true, true, false, false, false] rfl rfl rfl rfl (two_of HT_.out (by kernel_rfl)) (by decide) (by decide) (fun K hK => ?_) (fun K hK => ?_)
                · skip
                  refine goes_ Try.func44 (by kernel_rfl) rfl #[.agg #[.bool a0_0, .slice A0_1 l0_1.length c0_1], .agg #[.bool t441, .slice Ao13 t442.length co13]] (by rfl) rfl rfl (by (try simp only [List.map_toArray, List.map_cons, List.map_nil]); rfl) ?_
                  with_reducible refine (primroseref02_Div.calls k a0_0 _ _ l0_1 t441 _ _ t442 t445 t446 t449 t450 t453 _ ?side1 ?side2 ?side3 ?side4 A6.out).mono ?_
                  (case side1 => exact (Kd.C_below HR0_1.out HB.out))
                  (case side2 => exact HC0_1.out)
                  (case side3 => exact (Kd.R_reads' HO444.out).2.2)
                  (case side4 => exact (Kd.R_reads' HO444.out).2.1)
                  rintro e w14 ⟨v447, v451, rfl, ho0, ho1, hb⟩
                  refine ⟨_, rfl, ?_⟩
                  have n0_ := Aside0.mk (Kd.R_mono (Kd.R_told (Kd.R_told (Kd.R_old (HO444.out) hb) (Kd.R_base ho0)) (Kd.R_base ho1)) (fun _ h_ => h_.1))
                  have n1_ := Aside0.mk (Kd.R_lower (Kd.R_new' ho0 (Kd.R_lt (HO444.out))) (below_size (HB.out)))
                  have n2_ := Aside0.mk (Kd.R_lower (Kd.R_new' ho1 (Kd.R_lt (HO444.out))) (below_size (HB.out)))
                  have n3_ := Aside0.mk (blk_below (g := gb439) (o := .cells #[.bool a0_0, .slice A0_1 l0_1.length c0_1] 32 (0, 0)) (BK439.out) hb)
                  have n4_ := Aside0.mk (blk_below (g := gb454) (o := .cells #[.bool false, .slice none 0 0] 32 (0, 0)) (BK454.out) hb)
                  have n5_ := Aside0.mk (below_step (HB.out) hb)
                  clear HO444
                  clear BK439
                  clear BK454
                  clear HB
                  have HO444 := n0_
                  have HO448 := n1_
                  have HO452 := n2_
                  have BK439 := n3_
                  have BK454 := n4_
                  have HB := n5_
                  clear n0_ n1_ n2_ n3_ n4_ n5_
                  (try clear hb)
                  (try clear ho0)
                  (try clear ho1)
                  refine hK.out _ _ ⟨(blk_cell BK439.out 0).trans rfl, (blk_cell BK439.out 1).trans rfl⟩ (fun hHeld => ?_)
                  clear hK K
                  refine norm_ (a' := ?_) ?_ ?_
                  rotate_left
                  · show Act.put _ (some 18) _ = _
                    simp only [Act.put, List.setIfInBounds_toArray, List.set_cons_zero, List.set_cons_succ, i64_w, i32_w]
                    rfl
                  refine pure_ (i := 4) (N := some 14) (v := ?_) (a' := ?_) #[true, true, true, true, true, false, false, false, true, false, false, false, false] rfl rfl (any_of HT_.out (by kernel_rfl)) (fun _ _ _ h => h) (Or.inl ⟨by rfl, ?_⟩) ?_ ?_
                  rotate_left
                  · intro w'
                    go_simp
                    with_reducible rfl
                  rotate_left
                  · simp only [Act.put, List.setIfInBounds_toArray, List.set_cons_zero, List.set_cons_succ, i64_w, i32_w]
                    rfl
                  refine pure_ (i := 5) (N := some 19) (v := ?_) (a' := ?_) #[true, true, true, true, true, true, false, false, true, false, false, false, false] rfl rfl (any_of HT_.out (by kernel_rfl)) (fun _ _ _ h => h) (Or.inl ⟨by rfl, ?_⟩) ?_ ?_
                  rotate_left
                  · intro w'
                    go_simp
                    with_reducible rfl
                  rotate_left
                  · simp only [Act.put, List.setIfInBounds_toArray, List.set_cons_zero, List.set_cons_succ, i64_w, i32_w]
                    rfl
                  refine pure_ (i := 6) (N := some 20) (v := ?_) (a' := ?_) #[true, true, true, true, true, true, true, false, true, false, false, false, false] rfl rfl (any_of HT_.out (by kernel_rfl)) (fun _ _ _ h => h) (Or.inl ⟨by rfl, ?_⟩) ?_ ?_
                  rotate_left
                  · intro w'
                    go_simp
                    with_reducible rfl
                  rotate_left
                  · simp only [Act.put, List.setIfInBounds_toArray, List.set_cons_zero, List.set_cons_succ, i64_w, i32_w]
                    rfl
                  refine pure_ (i := 7) (N := some 21) (v := ?_) (a' := ?_) #[true, true, true, true, true, true, true, true, true, false, false, false, false] rfl rfl (any_of HT_.out (by kernel_rfl)) (fun _ _ _ h => h) (Or.inl ⟨by rfl, ?_⟩) ?_ ?_
                  rotate_left
                  · intro w'
                    go_simp
                    with_reducible rfl
                  rotate_left
                  · simp only [Act.put, List.setIfInBounds_toArray, List.set_cons_zero, List.set_cons_succ, i64_w, i32_w]
                    rfl
                  exact norm_ (by (simp only [putAll, Act.put, List.setIfInBounds_toArray, List.set_cons_zero, List.set_cons_succ]; done)) (hJ2_3_8 (.slice Ao13 t442.length co13, v447, v451, gb454) _ ⟨hHeld, (Kd.R_mono HO444.out (fun _ hk => ⟨hk.1.2, hk.2⟩)), (Kd.R_mono HO448.out (fun _ hk => ⟨hk.2, hk.1⟩)), (Kd.R_mono HO452.out (fun _ hk => ⟨hk.2, hk.1⟩)), (BK439.out), (BK454.out), GW454.out, GE454.out, NB439_454.out, NB454_439.out, (HB.out)⟩)
                · skip
                  refine box_step ?hg (N := 7) ?hd (cs := #[.bool false, .slice none 0 0]) (t := 32) ?hr ?_; (case hd => rfl); (case hg => rfl); (case hr => (go_simp; done))
                  intro gb455 hg w13 hbox hb
                  have n0_ := Aside0.mk (Kd.R_below (HO444.out) hb)
                  have n1_ := Aside0.mk (blk_below (g := gb439) (o := .cells #[.bool a0_0, .slice A0_1 l0_1.length c0_1] 32 (0, 0)) (BK439.out) hb)
                  have n2_ := Aside0.mk (blk_below (g := gb454) (o := .cells #[.bool false, .slice none 0 0] 32 (0, 0)) (BK454.out) hb)
                  have n3_ := Aside0.mk (below_step (HB.out) hb)
                  have n4_ := Aside0.mk (hbox)
                  have n5_ := Aside0.mk (by rw [hg]; exact (below_size (HB.out)) : w.heap.size ≤ gb455)
                  have n6_ := Aside0.mk (by rw [hg]; exact (below_size (HB.out)) : w.heap.size ≤ gb455)
                  have n7_ := Aside0.mk (by rw [hg]; exact Nat.ne_of_lt (blk_lt (g := gb439) (o := .cells #[.bool a0_0, .slice A0_1 l0_1.length c0_1] 32 (0, 0)) (BK439.out)) : gb439 ≠ gb455)
                  have n8_ := Aside0.mk (by rw [hg]; exact Nat.ne_of_gt (blk_lt (g := gb439) (o := .cells #[.bool a0_0, .slice A0_1 l0_1.length c0_1] 32 (0, 0)) (BK439.out)) : gb455 ≠ gb439)
                  have n9_ := Aside0.mk (by rw [hg]; exact Nat.ne_of_lt (blk_lt (g := gb454) (o := .cells #[.bool false, .slice none 0 0] 32 (0, 0)) (BK454.out)) : gb454 ≠ gb455)
                  have n10_ := Aside0.mk (by rw [hg]; exact Nat.ne_of_gt (blk_lt (g := gb454) (o := .cells #[.bool false, .slice none 0 0] 32 (0, 0)) (BK454.out)) : gb455 ≠ gb454)
                  clear HO444
                  clear BK439
                  clear BK454
                  clear HB
                  have HO444 := n0_
                  have BK439 := n1_
                  have BK454 := n2_
                  have HB := n3_
                  have BK455 := n4_
                  have GW455 := n5_
                  have GE455 := n6_
                  have NB439_455 := n7_
                  have NB455_439 := n8_
                  have NB454_455 := n9_
                  have NB455_454 := n10_
                  clear n0_ n1_ n2_ n3_ n4_ n5_ n6_ n7_ n8_ n9_ n10_
                  clear hb hbox hg
                  refine hK.out _ _ ⟨(blk_cell BK439.out 0).trans rfl, (blk_cell BK439.out 1).trans rfl⟩ (fun hHeld => ?_)
                  clear hK K
                  refine norm_ (a' := ?_) ?_ ?_
                  rotate_left
                  · show Act.put _ (some 7) _ = _
                    simp only [Act.put, List.setIfInBounds_toArray, List.set_cons_zero, List.set_cons_succ, i64_w, i32_w]
                    rfl
                  exact norm_ (by simp only [putAll, Act.put, List.setIfInBounds_toArray, List.set_cons_zero, List.set_cons_succ]; try rfl) (hJ2_8_9 (_, gb454, gb455) _ ⟨hHeld, (HO444.out), (BK439.out), (BK454.out), (BK455.out), GW454.out, GE454.out, NB439_454.out, NB454_439.out, NB455_454.out, NB454_455.out, GW455.out, GE455.out, NB439_455.out, NB455_439.out, (HB.out)⟩)
            · skip
              rintro ⟨v443, v447, v451⟩ w13 ⟨hS_, h0_, h1_, h2_, h3_, h4_⟩
              have n0_ : Aside0 (Kd.R (Kd.int .u32) 59 w13 w.heap.size (fun k_ => some k_ ≠ (v447 : Value).ownBlock ∧ some k_ ≠ (v451 : Value).ownBlock) v443 t442) := ⟨h0_⟩
              have n1_ : Aside0 (Kd.R (Kd.int .u32) 59 w13 w.heap.size (fun k_ => some k_ ≠ (v443 : Value).ownBlock ∧ some k_ ≠ (v451 : Value).ownBlock) v447 t446) := ⟨h1_⟩
              have n2_ : Aside0 (Kd.R (Kd.int .u32) 59 w13 w.heap.size (fun k_ => some k_ ≠ (v443 : Value).ownBlock ∧ some k_ ≠ (v447 : Value).ownBlock) v451 t450) := ⟨h2_⟩
              have n3_ : Aside0 (w13.heap[gb439]? = some (.cells #[.bool a0_0, .slice A0_1 l0_1.length c0_1] 32 (0, 0))) := ⟨h3_⟩
              have n4_ : Aside0 (Below w.heap.size w w13) := ⟨h4_⟩
              clear BK439
              clear HB
              clear h0_ h1_ h2_ h3_ h4_
              have HO444 := n0_
              have HO448 := n1_
              have HO452 := n2_
              have BK439 := n3_
              have HB := n4_
              clear n0_ n1_ n2_ n3_ n4_
              have hHeld : w13.cell? ⟨gb439, 0, none⟩ = some (.bool a0_0) ∧ w13.cell? ⟨gb439, 1, none⟩ = some (.slice A0_1 l0_1.length c0_1) := hS_
              refine norm_ (a' := ?_) ?_ ?_
              rotate_left
              · simp only [putAll, Act.put, List.setIfInBounds_toArray, List.set_cons_zero, List.set_cons_succ]
                rfl
              refine two_ (i := 8) (j := 9) (Ni := some 6) (Nj := some 7) #[true, true, true, true, true, true, true, true, true, false, false, false, false] #[true, true, true, true, true, true, true, true, false, true, false, false, false] rfl rfl rfl rfl (two_of HT_.out (by kernel_rfl)) (by decide) (by decide) (fun K hK => ?_) (fun K hK => ?_)
              · skip
                refine box_step ?hg (N := 6) ?hd (cs := #[.bool false, .slice none 0 0]) (t := 32) ?hr ?_; (case hd => rfl); (case hg => rfl); (case hr => (go_simp; done))
                intro gb454 hg w14 hbox hb
                have n0_ := Aside0.mk (Kd.R_below (HO444.out) hb)
                have n1_ := Aside0.mk (Kd.R_below (HO448.out) hb)
                have n2_ := Aside0.mk (Kd.R_below (HO452.out) hb)
                have n3_ := Aside0.mk (blk_below (g := gb439) (o := .cells #[.bool a0_0, .slice A0_1 l0_1.length c0_1] 32 (0, 0)) (BK439.out) hb)
                have n4_ := Aside0.mk (below_step (HB.out) hb)
                have n5_ := Aside0.mk (hbox)
                have n6_ := Aside0.mk (by rw [hg]; exact (below_size (HB.out)) : w.heap.size ≤ gb454)
                have n7_ := Aside0.mk (by rw [hg]; exact (below_size (HB.out)) : w.heap.size ≤ gb454)
                have n8_ := Aside0.mk (by rw [hg]; exact Nat.ne_of_lt (blk_lt (g := gb439) (o := .cells #[.bool a0_0, .slice A0_1 l0_1.length c0_1] 32 (0, 0)) (BK439.out)) : gb439 ≠ gb454)
                have n9_ := Aside0.mk (by rw [hg]; exact Nat.ne_of_gt (blk_lt (g := gb439) (o := .cells #[.bool a0_0, .slice A0_1 l0_1.length c0_1] 32 (0, 0)) (BK439.out)) : gb454 ≠ gb439)
                clear HO444
                clear HO448
                clear HO452
                clear BK439
                clear HB
                have HO444 := n0_
                have HO448 := n1_
                have HO452 := n2_
                have BK439 := n3_
                have HB := n4_
                have BK454 := n5_
                have GW454 := n6_
                have GE454 := n7_
                have NB439_454 := n8_
                have NB454_439 := n9_
                clear n0_ n1_ n2_ n3_ n4_ n5_ n6_ n7_ n8_ n9_
                clear hb hbox hg
                refine hK.out _ _ ⟨(blk_cell BK439.out 0).trans rfl, (blk_cell BK439.out 1).trans rfl⟩ (fun hHeld => ?_)
                clear hK K
                refine norm_ (a' := ?_) ?_ ?_
                rotate_left
                · show Act.put _ (some 6) _ = _
                  simp only [Act.put, List.setIfInBounds_toArray, List.set_cons_zero, List.set_cons_succ, i64_w, i32_w]
                  rfl
                exact norm_ (by simp only [putAll, Act.put, List.setIfInBounds_toArray, List.set_cons_zero, List.set_cons_succ]; try rfl) (hJ2_3_8 (_, v447, v451, gb454) _ ⟨hHeld, (HO444.out), (HO448.out), (HO452.out), (BK439.out), (BK454.out), GW454.out, GE454.out, NB439_454.out, NB454_439.out, (HB.out)⟩)
              · skip
                refine box_step ?hg (N := 7) ?hd (cs := #[.bool false, .slice none 0 0]) (t := 32) ?hr ?_; (case hd => rfl); (case hg => rfl); (case hr => (go_simp; done))
                intro gb455 hg w14 hbox hb
                have n0_ := Aside0.mk (Kd.R_below (HO444.out) hb)
                have n1_ := Aside0.mk (Kd.R_below (HO448.out) hb)
                have n2_ := Aside0.mk (Kd.R_below (HO452.out) hb)
                have n3_ := Aside0.mk (blk_below (g := gb439) (o := .cells #[.bool a0_0, .slice A0_1 l0_1.length c0_1] 32 (0, 0)) (BK439.out) hb)
                have n4_ := Aside0.mk (below_step (HB.out) hb)
                have n5_ := Aside0.mk (hbox)
                have n6_ := Aside0.mk (by rw [hg]; exact (below_size (HB.out)) : w.heap.size ≤ gb455)
                have n7_ := Aside0.mk (by rw [hg]; exact (below_size (HB.out)) : w.heap.size ≤ gb455)
                have n8_ := Aside0.mk (by rw [hg]; exact Nat.ne_of_lt (blk_lt (g := gb439) (o := .cells #[.bool a0_0, .slice A0_1 l0_1.length c0_1] 32 (0, 0)) (BK439.out)) : gb439 ≠ gb455)
                have n9_ := Aside0.mk (by rw [hg]; exact Nat.ne_of_gt (blk_lt (g := gb439) (o := .cells #[.bool a0_0, .slice A0_1 l0_1.length c0_1] 32 (0, 0)) (BK439.out)) : gb455 ≠ gb439)
                clear HO444
                clear HO448
                clear HO452
                clear BK439
                clear HB
                have HO444 := n0_
                have HO448 := n1_
                have HO452 := n2_
                have BK439 := n3_
                have HB := n4_
                have BK455 := n5_
                have GW455 := n6_
                have GE455 := n7_
                have NB439_455 := n8_
                have NB455_439 := n9_
                clear n0_ n1_ n2_ n3_ n4_ n5_ n6_ n7_ n8_ n9_
                clear hb hbox hg
                refine hK.out _ _ ⟨(blk_cell BK439.out 0).trans rfl, (blk_cell BK439.out 1).trans rfl⟩ (fun hHeld => ?_)
                clear hK K
                refine norm_ (a' := ?_) ?_ ?_
                rotate_left
                · show Act.put _ (some 7) _ = _
                  simp only [Act.put, List.setIfInBounds_toArray, List.set_cons_zero, List.set_cons_succ, i64_w, i32_w]
                  rfl
                exact norm_ (by simp only [putAll, Act.put, List.setIfInBounds_toArray, List.set_cons_zero, List.set_cons_succ]; try rfl) (hJ2_3_9 (_, v447, v451, gb455) _ ⟨hHeld, (HO444.out), (HO448.out), (HO452.out), (BK439.out), (BK455.out), GW455.out, GE455.out, NB439_455.out, NB455_439.out, (HB.out)⟩)
          · skip
            rintro ⟨v443, gb454, gb455⟩ w13 ⟨hS_, h0_, h1_, h2_, h3_, h4_, h5_, h6_, h7_, h8_, h9_, h10_, h11_, h12_, h13_, h14_⟩
            have n0_ : Aside0 (Kd.R (Kd.int .u32) 59 w13 w.heap.size (fun _ => True) v443 t442) := ⟨h0_⟩
            have n1_ : Aside0 (w13.heap[gb439]? = some (.cells #[.bool a0_0, .slice A0_1 l0_1.length c0_1] 32 (0, 0))) := ⟨h1_⟩
            have n2_ : Aside0 (w13.heap[gb454]? = some (.cells #[.bool false, .slice none 0 0] 32 (0, 0))) := ⟨h2_⟩
            have n3_ : Aside0 (w13.heap[gb455]? = some (.cells #[.bool false, .slice none 0 0] 32 (0, 0))) := ⟨h3_⟩
            have n4_ : Aside0 (w.heap.size ≤ gb454) := ⟨h4_⟩
            have n5_ : Aside0 (w.heap.size ≤ gb454) := ⟨h5_⟩
            have n6_ : Aside0 (gb439 ≠ gb454) := ⟨h6_⟩
            have n7_ : Aside0 (gb454 ≠ gb439) := ⟨h7_⟩
            have n8_ : Aside0 (gb455 ≠ gb454) := ⟨h8_⟩
            have n9_ : Aside0 (gb454 ≠ gb455) := ⟨h9_⟩
            have n10_ : Aside0 (w.heap.size ≤ gb455) := ⟨h10_⟩
            have n11_ : Aside0 (w.heap.size ≤ gb455) := ⟨h11_⟩
            have n12_ : Aside0 (gb439 ≠ gb455) := ⟨h12_⟩
            have n13_ : Aside0 (gb455 ≠ gb439) := ⟨h13_⟩
            have n14_ : Aside0 (Below w.heap.size w w13) := ⟨h14_⟩
            clear BK439
            clear HB
            clear h0_ h1_ h2_ h3_ h4_ h5_ h6_ h7_ h8_ h9_ h10_ h11_ h12_ h13_ h14_
            have HO444 := n0_
            have BK439 := n1_
            have BK454 := n2_
            have BK455 := n3_
            have GW454 := n4_
            have GE454 := n5_
            have NB439_454 := n6_
            have NB454_439 := n7_
            have NB455_454 := n8_
            have NB454_455 := n9_
            have GW455 := n10_
            have GE455 := n11_
            have NB439_455 := n12_
            have NB455_439 := n13_
            have HB := n14_
            clear n0_ n1_ n2_ n3_ n4_ n5_ n6_ n7_ n8_ n9_ n10_ n11_ n12_ n13_ n14_
            have hHeld : w13.cell? ⟨gb439, 0, none⟩ = some (.bool a0_0) ∧ w13.cell? ⟨gb439, 1, none⟩ = some (.slice A0_1 l0_1.length c0_1) := hS_
            obtain ⟨Ao14, co14, eo14⟩ := Kd.R_slice HO444.out
            (subst eo14)
            refine norm_ (a' := ?_) ?_ ?_
            rotate_left
            · simp only [putAll, Act.put, List.setIfInBounds_toArray, List.set_cons_zero, List.set_cons_succ]
              rfl
            refine one_ (i := 3) (N := some 18) #[true, true, true, true, false, false, false, false, true, true, false, false, false] rfl rfl (one_of HT_.out (by kernel_rfl)) (by decide) (fun K hK => ?_)
            refine goes_ Try.func44 (by kernel_rfl) rfl #[.agg #[.bool a0_0, .slice A0_1 l0_1.length c0_1], .agg #[.bool t441, .slice Ao14 t442.length co14]] (by rfl) rfl rfl (by (try simp only [List.map_toArray, List.map_cons, List.map_nil]); rfl) ?_
            with_reducible refine (primroseref02_Div.calls k a0_0 _ _ l0_1 t441 _ _ t442 t445 t446 t449 t450 t453 _ ?side1 ?side2 ?side3 ?side4 A6.out).mono ?_
            (case side1 => exact (Kd.C_below HR0_1.out HB.out))
            (case side2 => exact HC0_1.out)
            (case side3 => exact (Kd.R_reads' HO444.out).2.2)
            (case side4 => exact (Kd.R_reads' HO444.out).2.1)
            rintro e w15 ⟨v447, v451, rfl, ho0, ho1, hb⟩
            refine ⟨_, rfl, ?_⟩
            have n0_ := Aside0.mk (Kd.R_mono (Kd.R_told (Kd.R_told (Kd.R_old (HO444.out) hb) (Kd.R_base ho0)) (Kd.R_base ho1)) (fun _ h_ => h_.1))
            have n1_ := Aside0.mk (Kd.R_lower (Kd.R_new' ho0 (Kd.R_lt (HO444.out))) (below_size (HB.out)))
            have n2_ := Aside0.mk (Kd.R_lower (Kd.R_new' ho1 (Kd.R_lt (HO444.out))) (below_size (HB.out)))
            have n3_ := Aside0.mk (blk_below (g := gb439) (o := .cells #[.bool a0_0, .slice A0_1 l0_1.length c0_1] 32 (0, 0)) (BK439.out) hb)
            have n4_ := Aside0.mk (blk_below (g := gb454) (o := .cells #[.bool false, .slice none 0 0] 32 (0, 0)) (BK454.out) hb)
            have n5_ := Aside0.mk (blk_below (g := gb455) (o := .cells #[.bool false, .slice none 0 0] 32 (0, 0)) (BK455.out) hb)
            have n6_ := Aside0.mk (below_step (HB.out) hb)
            clear HO444
            clear BK439
            clear BK454
            clear BK455
            clear HB
            have HO444 := n0_
            have HO448 := n1_
            have HO452 := n2_
            have BK439 := n3_
            have BK454 := n4_
            have BK455 := n5_
            have HB := n6_
            clear n0_ n1_ n2_ n3_ n4_ n5_ n6_
            (try clear hb)
            (try clear ho0)
            (try clear ho1)
            refine hK.out _ _ ⟨(blk_cell BK439.out 0).trans rfl, (blk_cell BK439.out 1).trans rfl⟩ (fun hHeld => ?_)
            clear hK K
            refine norm_ (a' := ?_) ?_ ?_
            rotate_left
            · show Act.put _ (some 18) _ = _
              simp only [Act.put, List.setIfInBounds_toArray, List.set_cons_zero, List.set_cons_succ, i64_w, i32_w]
              rfl
            refine pure_ (i := 4) (N := some 14) (v := ?_) (a' := ?_) #[true, true, true, true, true, false, false, false, true, true, false, false, false] rfl rfl (any_of HT_.out (by kernel_rfl)) (fun _ _ _ h => h) (Or.inl ⟨by rfl, ?_⟩) ?_ ?_
            rotate_left
            · intro w'
              go_simp
              with_reducible rfl
            rotate_left
            · simp only [Act.put, List.setIfInBounds_toArray, List.set_cons_zero, List.set_cons_succ, i64_w, i32_w]
              rfl
            refine pure_ (i := 5) (N := some 19) (v := ?_) (a' := ?_) #[true, true, true, true, true, true, false, false, true, true, false, false, false] rfl rfl (any_of HT_.out (by kernel_rfl)) (fun _ _ _ h => h) (Or.inl ⟨by rfl, ?_⟩) ?_ ?_
            rotate_left
            · intro w'
              go_simp
              with_reducible rfl
            rotate_left
            · simp only [Act.put, List.setIfInBounds_toArray, List.set_cons_zero, List.set_cons_succ, i64_w, i32_w]
              rfl
            refine pure_ (i := 6) (N := some 20) (v := ?_) (a' := ?_) #[true, true, true, true, true, true, true, false, true, true, false, false, false] rfl rfl (any_of HT_.out (by kernel_rfl)) (fun _ _ _ h => h) (Or.inl ⟨by rfl, ?_⟩) ?_ ?_
            rotate_left
            · intro w'
              go_simp
              with_reducible rfl
            rotate_left
            · simp only [Act.put, List.setIfInBounds_toArray, List.set_cons_zero, List.set_cons_succ, i64_w, i32_w]
              rfl
            refine pure_ (i := 7) (N := some 21) (v := ?_) (a' := ?_) #[true, true, true, true, true, true, true, true, true, true, false, false, false] rfl rfl (any_of HT_.out (by kernel_rfl)) (fun _ _ _ h => h) (Or.inl ⟨by rfl, ?_⟩) ?_ ?_
            rotate_left
            · intro w'
              go_simp
              with_reducible rfl
            rotate_left
            · simp only [Act.put, List.setIfInBounds_toArray, List.set_cons_zero, List.set_cons_succ, i64_w, i32_w]
              rfl
            exact norm_ (by (simp only [putAll, Act.put, List.setIfInBounds_toArray, List.set_cons_zero, List.set_cons_succ]; done)) (hJ2_3_8_9 (.slice Ao14 t442.length co14, v447, v451, gb454, gb455) _ ⟨hHeld, (Kd.R_mono HO444.out (fun _ hk => ⟨hk.1.2, hk.2⟩)), (Kd.R_mono HO448.out (fun _ hk => ⟨hk.2, hk.1⟩)), (Kd.R_mono HO452.out (fun _ hk => ⟨hk.2, hk.1⟩)), (BK439.out), (BK454.out), (BK455.out), GW454.out, GE454.out, NB439_454.out, NB454_439.out, NB455_454.out, NB454_455.out, GW455.out, GE455.out, NB439_455.out, NB455_439.out, (HB.out)⟩)
        · skip
          rintro ⟨v443, v447, v451, gb455⟩ w14 ⟨hS_, h0_, h1_, h2_, h3_, h4_, h5_, h6_, h7_, h8_, h9_⟩
          have n0_ : Aside0 (Kd.R (Kd.int .u32) 59 w14 w.heap.size (fun k_ => some k_ ≠ (v447 : Value).ownBlock ∧ some k_ ≠ (v451 : Value).ownBlock) v443 t442) := ⟨h0_⟩
          have n1_ : Aside0 (Kd.R (Kd.int .u32) 59 w14 w.heap.size (fun k_ => some k_ ≠ (v443 : Value).ownBlock ∧ some k_ ≠ (v451 : Value).ownBlock) v447 t446) := ⟨h1_⟩
          have n2_ : Aside0 (Kd.R (Kd.int .u32) 59 w14 w.heap.size (fun k_ => some k_ ≠ (v443 : Value).ownBlock ∧ some k_ ≠ (v447 : Value).ownBlock) v451 t450) := ⟨h2_⟩
          have n3_ : Aside0 (w14.heap[gb439]? = some (.cells #[.bool a0_0, .slice A0_1 l0_1.length c0_1] 32 (0, 0))) := ⟨h3_⟩
          have n4_ : Aside0 (w14.heap[gb455]? = some (.cells #[.bool false, .slice none 0 0] 32 (0, 0))) := ⟨h4_⟩
          have n5_ : Aside0 (w.heap.size ≤ gb455) := ⟨h5_⟩
          have n6_ : Aside0 (w.heap.size ≤ gb455) := ⟨h6_⟩
          have n7_ : Aside0 (gb439 ≠ gb455) := ⟨h7_⟩
          have n8_ : Aside0 (gb455 ≠ gb439) := ⟨h8_⟩
          have n9_ : Aside0 (Below w.heap.size w w14) := ⟨h9_⟩
          clear BK439
          clear HB
          clear h0_ h1_ h2_ h3_ h4_ h5_ h6_ h7_ h8_ h9_
          have HO444 := n0_
          have HO448 := n1_
          have HO452 := n2_
          have BK439 := n3_
          have BK455 := n4_
          have GW455 := n5_
          have GE455 := n6_
          have NB439_455 := n7_
          have NB455_439 := n8_
          have HB := n9_
          clear n0_ n1_ n2_ n3_ n4_ n5_ n6_ n7_ n8_ n9_
          have hHeld : w14.cell? ⟨gb439, 0, none⟩ = some (.bool a0_0) ∧ w14.cell? ⟨gb439, 1, none⟩ = some (.slice A0_1 l0_1.length c0_1) := hS_
          refine norm_ (a' := ?_) ?_ ?_
          rotate_left
          · simp only [putAll, Act.put, List.setIfInBounds_toArray, List.set_cons_zero, List.set_cons_succ]
            rfl
          refine one_ (i := 8) (N := some 6) #[true, true, true, true, true, true, true, true, true, true, false, false, false] rfl rfl (one_of HT_.out (by kernel_rfl)) (by decide) (fun K hK => ?_)
          refine box_step ?hg (N := 6) ?hd (cs := #[.bool false, .slice none 0 0]) (t := 32) ?hr ?_; (case hd => rfl); (case hg => rfl); (case hr => (go_simp; done))
          intro gb454 hg w15 hbox hb
          have n0_ := Aside0.mk (Kd.R_below (HO444.out) hb)
          have n1_ := Aside0.mk (Kd.R_below (HO448.out) hb)
          have n2_ := Aside0.mk (Kd.R_below (HO452.out) hb)
          have n3_ := Aside0.mk (blk_below (g := gb439) (o := .cells #[.bool a0_0, .slice A0_1 l0_1.length c0_1] 32 (0, 0)) (BK439.out) hb)
          have n4_ := Aside0.mk (blk_below (g := gb455) (o := .cells #[.bool false, .slice none 0 0] 32 (0, 0)) (BK455.out) hb)
          have n5_ := Aside0.mk (below_step (HB.out) hb)
          have n6_ := Aside0.mk (hbox)
          have n7_ := Aside0.mk (by rw [hg]; exact (below_size (HB.out)) : w.heap.size ≤ gb454)
          have n8_ := Aside0.mk (by rw [hg]; exact (below_size (HB.out)) : w.heap.size ≤ gb454)
          have n9_ := Aside0.mk (by rw [hg]; exact Nat.ne_of_lt (blk_lt (g := gb439) (o := .cells #[.bool a0_0, .slice A0_1 l0_1.length c0_1] 32 (0, 0)) (BK439.out)) : gb439 ≠ gb454)
          have n10_ := Aside0.mk (by rw [hg]; exact Nat.ne_of_gt (blk_lt (g := gb439) (o := .cells #[.bool a0_0, .slice A0_1 l0_1.length c0_1] 32 (0, 0)) (BK439.out)) : gb454 ≠ gb439)
          have n11_ := Aside0.mk (by rw [hg]; exact Nat.ne_of_lt (blk_lt (g := gb455) (o := .cells #[.bool false, .slice none 0 0] 32 (0, 0)) (BK455.out)) : gb455 ≠ gb454)
          have n12_ := Aside0.mk (by rw [hg]; exact Nat.ne_of_gt (blk_lt (g := gb455) (o := .cells #[.bool false, .slice none 0 0] 32 (0, 0)) (BK455.out)) : gb454 ≠ gb455)
          clear HO444
          clear HO448
          clear HO452
          clear BK439
          clear BK455
          clear HB
          have HO444 := n0_
          have HO448 := n1_
          have HO452 := n2_
          have BK439 := n3_
          have BK455 := n4_
          have HB := n5_
          have BK454 := n6_
          have GW454 := n7_
          have GE454 := n8_
          have NB439_454 := n9_
          have NB454_439 := n10_
          have NB455_454 := n11_
          have NB454_455 := n12_
          clear n0_ n1_ n2_ n3_ n4_ n5_ n6_ n7_ n8_ n9_ n10_ n11_ n12_
          clear hb hbox hg
          refine hK.out _ _ ⟨(blk_cell BK439.out 0).trans rfl, (blk_cell BK439.out 1).trans rfl⟩ (fun hHeld => ?_)
          clear hK K
          refine norm_ (a' := ?_) ?_ ?_
          rotate_left
          · show Act.put _ (some 6) _ = _
            simp only [Act.put, List.setIfInBounds_toArray, List.set_cons_zero, List.set_cons_succ, i64_w, i32_w]
            rfl
          exact norm_ (by simp only [putAll, Act.put, List.setIfInBounds_toArray, List.set_cons_zero, List.set_cons_succ]; try rfl) (hJ2_3_8_9 (_, v447, v451, gb454, gb455) _ ⟨hHeld, (HO444.out), (HO448.out), (HO452.out), (BK439.out), (BK454.out), (BK455.out), GW454.out, GE454.out, NB439_454.out, NB454_439.out, NB455_454.out, NB454_455.out, GW455.out, GE455.out, NB439_455.out, NB455_439.out, (HB.out)⟩)
      · skip
        rintro ⟨v443, v447, v451, gb454⟩ w14 ⟨hS_, h0_, h1_, h2_, h3_, h4_, h5_, h6_, h7_, h8_, h9_⟩
        have n0_ : Aside0 (Kd.R (Kd.int .u32) 59 w14 w.heap.size (fun k_ => some k_ ≠ (v447 : Value).ownBlock ∧ some k_ ≠ (v451 : Value).ownBlock) v443 t442) := ⟨h0_⟩
        have n1_ : Aside0 (Kd.R (Kd.int .u32) 59 w14 w.heap.size (fun k_ => some k_ ≠ (v443 : Value).ownBlock ∧ some k_ ≠ (v451 : Value).ownBlock) v447 t446) := ⟨h1_⟩
        have n2_ : Aside0 (Kd.R (Kd.int .u32) 59 w14 w.heap.size (fun k_ => some k_ ≠ (v443 : Value).ownBlock ∧ some k_ ≠ (v447 : Value).ownBlock) v451 t450) := ⟨h2_⟩
        have n3_ : Aside0 (w14.heap[gb439]? = some (.cells #[.bool a0_0, .slice A0_1 l0_1.length c0_1] 32 (0, 0))) := ⟨h3_⟩
        have n4_ : Aside0 (w14.heap[gb454]? = some (.cells #[.bool false, .slice none 0 0] 32 (0, 0))) := ⟨h4_⟩
        have n5_ : Aside0 (w.heap.size ≤ gb454) := ⟨h5_⟩
        have n6_ : Aside0 (w.heap.size ≤ gb454) := ⟨h6_⟩
        have n7_ : Aside0 (gb439 ≠ gb454) := ⟨h7_⟩
        have n8_ : Aside0 (gb454 ≠ gb439) := ⟨h8_⟩
        have n9_ : Aside0 (Below w.heap.size w w14) := ⟨h9_⟩
        clear BK439
        clear HB
        clear h0_ h1_ h2_ h3_ h4_ h5_ h6_ h7_ h8_ h9_
        have HO444 := n0_
        have HO448 := n1_
        have HO452 := n2_
        have BK439 := n3_
        have BK454 := n4_
        have GW454 := n5_
        have GE454 := n6_
        have NB439_454 := n7_
        have NB454_439 := n8_
        have HB := n9_
        clear n0_ n1_ n2_ n3_ n4_ n5_ n6_ n7_ n8_ n9_
        have hHeld : w14.cell? ⟨gb439, 0, none⟩ = some (.bool a0_0) ∧ w14.cell? ⟨gb439, 1, none⟩ = some (.slice A0_1 l0_1.length c0_1) := hS_
        refine norm_ (a' := ?_) ?_ ?_
        rotate_left
        · simp only [putAll, Act.put, List.setIfInBounds_toArray, List.set_cons_zero, List.set_cons_succ]
          rfl
        refine one_ (i := 9) (N := some 7) #[true, true, true, true, true, true, true, true, true, true, false, false, false] rfl rfl (one_of HT_.out (by kernel_rfl)) (by decide) (fun K hK => ?_)
        refine box_step ?hg (N := 7) ?hd (cs := #[.bool false, .slice none 0 0]) (t := 32) ?hr ?_; (case hd => rfl); (case hg => rfl); (case hr => (go_simp; done))
        intro gb455 hg w15 hbox hb
        have n0_ := Aside0.mk (Kd.R_below (HO444.out) hb)
        have n1_ := Aside0.mk (Kd.R_below (HO448.out) hb)
        have n2_ := Aside0.mk (Kd.R_below (HO452.out) hb)
        have n3_ := Aside0.mk (blk_below (g := gb439) (o := .cells #[.bool a0_0, .slice A0_1 l0_1.length c0_1] 32 (0, 0)) (BK439.out) hb)
        have n4_ := Aside0.mk (blk_below (g := gb454) (o := .cells #[.bool false, .slice none 0 0] 32 (0, 0)) (BK454.out) hb)
        have n5_ := Aside0.mk (below_step (HB.out) hb)
        have n6_ := Aside0.mk (hbox)
        have n7_ := Aside0.mk (by rw [hg]; exact (below_size (HB.out)) : w.heap.size ≤ gb455)
        have n8_ := Aside0.mk (by rw [hg]; exact (below_size (HB.out)) : w.heap.size ≤ gb455)
        have n9_ := Aside0.mk (by rw [hg]; exact Nat.ne_of_lt (blk_lt (g := gb439) (o := .cells #[.bool a0_0, .slice A0_1 l0_1.length c0_1] 32 (0, 0)) (BK439.out)) : gb439 ≠ gb455)
        have n10_ := Aside0.mk (by rw [hg]; exact Nat.ne_of_gt (blk_lt (g := gb439) (o := .cells #[.bool a0_0, .slice A0_1 l0_1.length c0_1] 32 (0, 0)) (BK439.out)) : gb455 ≠ gb439)
        have n11_ := Aside0.mk (by rw [hg]; exact Nat.ne_of_lt (blk_lt (g := gb454) (o := .cells #[.bool false, .slice none 0 0] 32 (0, 0)) (BK454.out)) : gb454 ≠ gb455)
        have n12_ := Aside0.mk (by rw [hg]; exact Nat.ne_of_gt (blk_lt (g := gb454) (o := .cells #[.bool false, .slice none 0 0] 32 (0, 0)) (BK454.out)) : gb455 ≠ gb454)
        clear HO444
        clear HO448
        clear HO452
        clear BK439
        clear BK454
        clear HB
        have HO444 := n0_
        have HO448 := n1_
        have HO452 := n2_
        have BK439 := n3_
        have BK454 := n4_
        have HB := n5_
        have BK455 := n6_
        have GW455 := n7_
        have GE455 := n8_
        have NB439_455 := n9_
        have NB455_439 := n10_
        have NB454_455 := n11_
        have NB455_454 := n12_
        clear n0_ n1_ n2_ n3_ n4_ n5_ n6_ n7_ n8_ n9_ n10_ n11_ n12_
        clear hb hbox hg
        refine hK.out _ _ ⟨(blk_cell BK439.out 0).trans rfl, (blk_cell BK439.out 1).trans rfl⟩ (fun hHeld => ?_)
        clear hK K
        refine norm_ (a' := ?_) ?_ ?_
        rotate_left
        · show Act.put _ (some 7) _ = _
          simp only [Act.put, List.setIfInBounds_toArray, List.set_cons_zero, List.set_cons_succ, i64_w, i32_w]
          rfl
        exact norm_ (by simp only [putAll, Act.put, List.setIfInBounds_toArray, List.set_cons_zero, List.set_cons_succ]; try rfl) (hJ2_3_8_9 (_, v447, v451, gb454, gb455) _ ⟨hHeld, (HO444.out), (HO448.out), (HO452.out), (BK439.out), (BK454.out), (BK455.out), GW454.out, GE454.out, NB439_454.out, NB454_439.out, NB455_454.out, NB454_455.out, GW455.out, GE455.out, NB439_455.out, NB455_439.out, (HB.out)⟩)
    rintro ⟨v443, v447, v451, gb454, gb455⟩ w15 ⟨hS_, h0_, h1_, h2_, h3_, h4_, h5_, h6_, h7_, h8_, h9_, h10_, h11_, h12_, h13_, h14_, h15_, h16_⟩
    have n0_ : Aside0 (Kd.R (Kd.int .u32) 59 w15 w.heap.size (fun k_ => some k_ ≠ (v447 : Value).ownBlock ∧ some k_ ≠ (v451 : Value).ownBlock) v443 t442) := ⟨h0_⟩
    have n1_ : Aside0 (Kd.R (Kd.int .u32) 59 w15 w.heap.size (fun k_ => some k_ ≠ (v443 : Value).ownBlock ∧ some k_ ≠ (v451 : Value).ownBlock) v447 t446) := ⟨h1_⟩
    have n2_ : Aside0 (Kd.R (Kd.int .u32) 59 w15 w.heap.size (fun k_ => some k_ ≠ (v443 : Value).ownBlock ∧ some k_ ≠ (v447 : Value).ownBlock) v451 t450) := ⟨h2_⟩
    have n3_ : Aside0 (w15.heap[gb439]? = some (.cells #[.bool a0_0, .slice A0_1 l0_1.length c0_1] 32 (0, 0))) := ⟨h3_⟩
    have n4_ : Aside0 (w15.heap[gb454]? = some (.cells #[.bool false, .slice none 0 0] 32 (0, 0))) := ⟨h4_⟩
    have n5_ : Aside0 (w15.heap[gb455]? = some (.cells #[.bool false, .slice none 0 0] 32 (0, 0))) := ⟨h5_⟩
    have n6_ : Aside0 (w.heap.size ≤ gb454) := ⟨h6_⟩
    have n7_ : Aside0 (w.heap.size ≤ gb454) := ⟨h7_⟩
    have n8_ : Aside0 (gb439 ≠ gb454) := ⟨h8_⟩
    have n9_ : Aside0 (gb454 ≠ gb439) := ⟨h9_⟩
    have n10_ : Aside0 (gb455 ≠ gb454) := ⟨h10_⟩
    have n11_ : Aside0 (gb454 ≠ gb455) := ⟨h11_⟩
    have n12_ : Aside0 (w.heap.size ≤ gb455) := ⟨h12_⟩
    have n13_ : Aside0 (w.heap.size ≤ gb455) := ⟨h13_⟩
    have n14_ : Aside0 (gb439 ≠ gb455) := ⟨h14_⟩
    have n15_ : Aside0 (gb455 ≠ gb439) := ⟨h15_⟩
    have n16_ : Aside0 (Below w.heap.size w w15) := ⟨h16_⟩
    clear BK439
    clear HB
    clear h0_ h1_ h2_ h3_ h4_ h5_ h6_ h7_ h8_ h9_ h10_ h11_ h12_ h13_ h14_ h15_ h16_
    have HO444 := n0_
    have HO448 := n1_
    have HO452 := n2_
    have BK439 := n3_
    have BK454 := n4_
    have BK455 := n5_
    have GW454 := n6_
    have GE454 := n7_
    have NB439_454 := n8_
    have NB454_439 := n9_
    have NB455_454 := n10_
    have NB454_455 := n11_
    have GW455 := n12_
    have GE455 := n13_
    have NB439_455 := n14_
    have NB455_439 := n15_
    have HB := n16_
    clear n0_ n1_ n2_ n3_ n4_ n5_ n6_ n7_ n8_ n9_ n10_ n11_ n12_ n13_ n14_ n15_ n16_
    have hHeld : w15.cell? ⟨gb439, 0, none⟩ = some (.bool a0_0) ∧ w15.cell? ⟨gb439, 1, none⟩ = some (.slice A0_1 l0_1.length c0_1) := hS_
    obtain ⟨Ao17, co17, eo17⟩ := Kd.R_slice HO448.out
    (subst eo17)
    obtain ⟨Ao20, co20, eo20⟩ := Kd.R_slice HO452.out
    (subst eo20)
    refine norm_ (a' := ?_) ?_ ?_
    rotate_left
    · simp only [putAll, Act.put, List.setIfInBounds_toArray, List.set_cons_zero, List.set_cons_succ]
      rfl
    refine one_ (i := 10) (N := none) #[true, true, true, true, true, true, true, true, true, true, true, false, false] rfl rfl (one_of HT_.out (by kernel_rfl)) (by decide) (fun K hK => ?_)
    have hs16 : w15.cell? ⟨gb454, 0, none⟩ = some (.bool false) := (blk_cell BK454.out 0).trans rfl
    have hfs16 := blk_frozen BK454.out 0
    have hns16_0 := NB439_454.out
    have hns16_2 := NB455_454.out
    have hms16_0 := NB454_439.out
    have hms16_2 := NB454_455.out
    have hs18 : w15.cell? ⟨gb454, 1, none⟩ = some (.slice none 0 0) := (blk_cell BK454.out 1).trans rfl
    have hfs18 := blk_frozen BK454.out 1
    have hns18_0 := NB439_454.out
    have hns18_2 := NB455_454.out
    have hms18_0 := NB454_439.out
    have hms18_2 := NB454_455.out
    refine skip_ (w1 := ?_) (by rfl) rfl ?_ ?_
    rotate_left
    · go_simp
      rfl
    refine hK.out _ _ ⟨((cell_far (p := ⟨gb454, _, none⟩) NB439_454.out _).trans ((cell_far (p := ⟨gb454, _, none⟩) NB439_454.out _).trans (hHeld.1))), ((cell_far (p := ⟨gb454, _, none⟩) NB439_454.out _).trans ((cell_far (p := ⟨gb454, _, none⟩) NB439_454.out _).trans (hHeld.2)))⟩ (fun hHeld => ?_)
    clear hK K
    refine one_ (i := 11) (N := none) #[true, true, true, true, true, true, true, true, true, true, true, true, false] rfl rfl (one_of HT_.out (by kernel_rfl)) (by decide) (fun K hK => ?_)
    have hs19 : w15.cell? ⟨gb455, 0, none⟩ = some (.bool false) := (blk_cell BK455.out 0).trans rfl
    have hfs19 := blk_frozen BK455.out 0
    have hns19_0 := NB439_455.out
    have hns19_1 := NB454_455.out
    have hms19_0 := NB455_439.out
    have hms19_1 := NB455_454.out
    have hs21 : w15.cell? ⟨gb455, 1, none⟩ = some (.slice none 0 0) := (blk_cell BK455.out 1).trans rfl
    have hfs21 := blk_frozen BK455.out 1
    have hns21_0 := NB439_455.out
    have hns21_1 := NB454_455.out
    have hms21_0 := NB455_439.out
    have hms21_1 := NB455_454.out
    refine skip_ (w1 := ?_) (by rfl) rfl ?_ ?_
    rotate_left
    · go_simp
      rfl
    refine hK.out _ _ ⟨((cell_far (p := ⟨gb455, _, none⟩) NB439_455.out _).trans ((cell_far (p := ⟨gb455, _, none⟩) NB439_455.out _).trans (hHeld.1))), ((cell_far (p := ⟨gb455, _, none⟩) NB439_455.out _).trans ((cell_far (p := ⟨gb455, _, none⟩) NB439_455.out _).trans (hHeld.2)))⟩ (fun hHeld => ?_)
    clear hK K
    refine pure_ (i := 12) (N := some 8) (v := ?_) (a' := ?_) #[true, true, true, true, true, true, true, true, true, true, true, true, true] rfl rfl (any_of HT_.out (by kernel_rfl)) (fun _ _ _ h => h) (Or.inl ⟨by rfl, ?_⟩) ?_ ?_
    rotate_left
    · intro w'
      go_simp
      with_reducible rfl
    rotate_left
    · simp only [Act.put, List.setIfInBounds_toArray, List.set_cons_zero, List.set_cons_succ, i64_w, i32_w]
      rfl
    refine done_ (done_of HT_.out (by kernel_rfl)) ?_
    have hnb22 := NB455_439.out
    have hnc22 := NB439_455.out
    have hnb23 := NB455_454.out
    have hnc23 := NB454_455.out
    have hcz24_0 : w15.cell? ⟨gb455, 0, none⟩ = some (.bool false) := (blk_cell BK455.out 0).trans rfl
    have hcz24_1 : w15.cell? ⟨gb455, 1, none⟩ = some (.slice none 0 0) := (blk_cell BK455.out 1).trans rfl
    have hfz24_0 := blk_frozen BK455.out 0
    have hfz24_1 := blk_frozen BK455.out 1
    try go_wp2_with ((with_reducible refine gate_callee (f := 46) rfl ?_); refine goesL_ (some 24) rfl rfl Try.func46 (by kernel_rfl) rfl #[.agg #[.bool t449, .slice Ao20 t450.length co20]] rfl (by (try simp only [List.map_toArray, List.map_cons, List.map_nil]); rfl) ?_; (with_reducible refine (primroseref02_Small.calls k t449 _ _ t450 t456 t457 _ ?side1 ?side2 A7.out).mono ?_); (case side1 => refine (Kd.R_reads' (e := 59) (base := w.heap.size) (ok := fun k_ => (some k_ ≠ (v443 : Value).ownBlock ∧ some k_ ≠ (.slice Ao17 t446.length co17 : Value).ownBlock)) (n := t450.length) (c := co20) ?_).2.2; exact (Kd.R_mono (Kd.R_mono (Kd.R_far (p := ⟨gb455, 1, none⟩) (Kd.R_far (p := ⟨gb455, 0, none⟩) (Kd.R_far (p := ⟨gb454, 1, none⟩) (Kd.R_far (p := ⟨gb454, 0, none⟩) (Kd.R_types (Kd.R_types HO452.out BK454.out (by decide)) BK455.out (by decide)) (fun _ hk => hk.1.2) (.bool t445)) (fun _ hk => hk.1.2) (.slice Ao17 t446.length co17)) (fun _ hk => hk.2) (.bool t449)) (fun _ hk => hk.2) (.slice Ao20 t450.length co20)) (fun _ h_ => h_.1)) (fun _ h_ => h_.1))); (case side2 => exact (Kd.R_reads' HO452.out).2.1); rintro e w25 ⟨rfl, hb⟩; refine ⟨_, rfl, ?_⟩; replace HO444 := Aside0.mk (Kd.R_below (Kd.R_mono (Kd.R_mono (Kd.R_far (p := ⟨gb455, 1, none⟩) (Kd.R_far (p := ⟨gb455, 0, none⟩) (Kd.R_far (p := ⟨gb454, 1, none⟩) (Kd.R_far (p := ⟨gb454, 0, none⟩) (Kd.R_types (Kd.R_types HO444.out BK454.out (by decide)) BK455.out (by decide)) (fun _ hk => hk.1.2) (.bool t445)) (fun _ hk => hk.1.2) (.slice Ao17 t446.length co17)) (fun _ hk => hk.2) (.bool t449)) (fun _ hk => hk.2) (.slice Ao20 t450.length co20)) (fun _ h_ => h_.1)) (fun _ h_ => h_.1)) hb); replace HO448 := Aside0.mk (Kd.R_below (Kd.R_mono (Kd.R_mono (Kd.R_far (p := ⟨gb455, 1, none⟩) (Kd.R_far (p := ⟨gb455, 0, none⟩) (Kd.R_far (p := ⟨gb454, 1, none⟩) (Kd.R_far (p := ⟨gb454, 0, none⟩) (Kd.R_types (Kd.R_types HO448.out BK454.out (by decide)) BK455.out (by decide)) (fun _ hk => hk.1.2) (.bool t445)) (fun _ hk => hk.1.2) (.slice Ao17 t446.length co17)) (fun _ hk => hk.2) (.bool t449)) (fun _ hk => hk.2) (.slice Ao20 t450.length co20)) (fun _ h_ => h_.1)) (fun _ h_ => h_.1)) hb); replace HO452 := Aside0.mk (Kd.R_below (Kd.R_mono (Kd.R_mono (Kd.R_far (p := ⟨gb455, 1, none⟩) (Kd.R_far (p := ⟨gb455, 0, none⟩) (Kd.R_far (p := ⟨gb454, 1, none⟩) (Kd.R_far (p := ⟨gb454, 0, none⟩) (Kd.R_types (Kd.R_types HO452.out BK454.out (by decide)) BK455.out (by decide)) (fun _ hk => hk.1.2) (.bool t445)) (fun _ hk => hk.1.2) (.slice Ao17 t446.length co17)) (fun _ hk => hk.2) (.bool t449)) (fun _ hk => hk.2) (.slice Ao20 t450.length co20)) (fun _ h_ => h_.1)) (fun _ h_ => h_.1)) hb); replace BK439 := Aside0.mk (blk_below (g := gb439) (o := .cells #[.bool a0_0, .slice A0_1 l0_1.length c0_1] 32 (0, 0)) (by refine blk_far ?_ NB439_455.out _; refine blk_far ?_ NB439_455.out _; refine blk_far ?_ NB439_454.out _; refine blk_far ?_ NB439_454.out _; exact BK439.out) hb); replace BK454 := Aside0.mk (blk_below (g := gb454) (o := .cells #[.bool t445, .slice Ao17 t446.length co17] 32 (0, 0)) (by refine blk_far ?_ NB454_455.out _; refine blk_far ?_ NB454_455.out _; refine blk_put (cs := #[.bool t445, .slice none 0 0]) ?_ 1 _ rfl; refine blk_put (cs := #[.bool false, .slice none 0 0]) ?_ 0 _ rfl; exact BK454.out) hb); replace BK455 := Aside0.mk (blk_below (g := gb455) (o := .cells #[.bool t449, .slice Ao20 t450.length co20] 32 (0, 0)) (by refine blk_put (cs := #[.bool t449, .slice none 0 0]) ?_ 1 _ rfl; refine blk_put (cs := #[.bool false, .slice none 0 0]) ?_ 0 _ rfl; refine blk_far ?_ NB455_454.out _; refine blk_far ?_ NB455_454.out _; exact BK455.out) hb); replace HB := Aside0.mk (below_step (by repeat (with_reducible first | exact HB.out | refine below_set ?_ GE454.out | refine below_set ?_ GE455.out)) hb); (try clear hb))
    go_ret2
    exact ⟨by (rfl), (HB.out)⟩
  · replace c4 := Bool.eq_false_iff.mpr c4
    subst c4
    have H1 : (some (0, 50)) = some (r1, r2) := by rw [if_neg (show ¬ (false = true) by decide)] at H; exact H
    clear H
    have H := H1
    clear H1
    simp only [Option.some.injEq, Prod.mk.injEq] at H
    obtain ⟨rfl, rfl⟩ := H
    go_enter Try.func31, Try.ntmps31
    go_wp2_with (first | ((with_reducible refine gate_dst (N := 2) rfl ?_); refine box_event ?hg (N := 2) ?hd (cs := #[.bool a0_0, .slice A0_1 l0_1.length c0_1]) (t := 32) ?hr ?_; (case hd => rfl); (case hg => rfl); (case hr => (go_simp; done)); intro gb439 hg w26 hbox hb; have n0_ := Aside0.mk (below_step (HB.out) hb); have n1_ := Aside0.mk (hbox); have n2_ := Aside0.mk (by rw [hg]; exact (below_size (HB.out)) : w.heap.size ≤ gb439); have n3_ := Aside0.mk (by rw [hg]; exact (below_size (HB.out)) : w.heap.size ≤ gb439); clear HB; have HB := n0_; have BK439 := n1_; have GW439 := n2_; have GE439 := n3_; clear n0_ n1_ n2_ n3_; clear hb hbox hg) | ((with_reducible refine gate_callee (f := 13) rfl ?_); refine goesL_ (some 12) rfl rfl Try.func13 (by kernel_rfl) rfl #[.int .i64 a1] rfl (by (try simp only [List.map_toArray, List.map_cons, List.map_nil]); rfl) ?_; (with_reducible refine (primroseref05_Is.calls k a1 false _ A3.out).mono ?_); rintro e w' ⟨rfl, ⟨nd, rfl⟩⟩; refine ⟨_, rfl, ?_⟩))
    go_ret2
    exact ⟨by (rfl), by repeat (with_reducible first | exact HB.out | apply pw_below_drewN)⟩
end Go.Proofs.Ytmgjjdodjamomaa.PB
