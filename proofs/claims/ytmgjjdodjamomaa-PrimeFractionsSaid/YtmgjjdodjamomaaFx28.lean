/- Functions with the same answers as the Go code, and the proofs of that; printed by a turned copy of the print, shortened by programs (wip/tools). -/
import Derived.Test.YtmgjjdodjamomaaFW
import Derived.Test.YtmgjjdodjamomaaFx0
import Derived.Test.YtmgjjdodjamomaaFx27
namespace Go.Proofs.Ytmgjjdodjamomaa.PB
open Go.RowKit Go.Proofs.YtmgjjdodjamomaaW.PrintWords Go.Proofs.YtmgjjdodjamomaaW.PrintLast Go.Proofs.YtmgjjdodjamomaaW.PrintMore
attribute [local go_sem] max2_int max_two
set_option linter.unusedVariables false
set_option linter.unusedSimpArgs false
def nat_less.l0 : Nat → List Int → List Int → Int → Int → Int → List Int → Int → Int → Option (Bool × List Int)
  | 0, _, _, _, _, _, _, _, _ => none
  | k + 1, x0, x1, x2, x7, x8, x12, x13, x14 => if x14 < x13 then (if 0 ≤ x14 then (if x14 < (x12.length : Int) then (if x14 < (x0.length : Int) then ((bits_Sub32.f (rd x0 x14) ((IntKind.u64.wrap (x7 + (IntKind.u64.wrap ((IntKind.u64.wrap (rd x12 x14)) * x2)))) % 4294967296) x8).bind fun bt518 => (nat_less.l0 k (x0.set (x14 : Int).toNat bt518.1) x1 x2 ((IntKind.u64.wrap (x7 + (IntKind.u64.wrap ((IntKind.u64.wrap (rd x12 x14)) * x2)))) / 4294967296) bt518.2 x12 x13 (wrap64 (x14 + 1)))) else (none)) else (none)) else (none)) else (if 0 ≤ (x1.length : Int) then (if (x1.length : Int) < (x0.length : Int) then ((bits_Sub32.f (rd x0 (x1.length : Int)) ((x7) % 4294967296) x8).bind fun bt522 => (some (decide (bt522.2 > 0), (x0.set ((x1.length : Int) : Int).toNat bt522.1)))) else (none)) else (none))
def nat_less.f (k : Nat) (l0 : List Int) (l1 : List Int) (a2 : Int) : Option (Bool × List Int) := nat_less.l0 k l0 l1 a2 0 0 l1 (l1.length : Int) 0
theorem rd_mid {pre x post : List Int} {i : Int} (h0 : 0 ≤ i) (h1 : i < (x.length : Int)) : rd (pre ++ x ++ post) ((pre.length : Int) + i) = rd x i := by
  unfold rd
  have e : ((pre.length : Int) + i).toNat = pre.length + i.toNat := by omega
  rw [e, List.getD_eq_getElem?_getD, List.getD_eq_getElem?_getD, List.append_assoc, List.getElem?_append_right (by omega), List.getElem?_append_left (by omega)]
  congr 2; omega
theorem set_mid {pre x post : List Int} {i : Nat} (h1 : i < x.length) (v : Int) : (pre ++ x ++ post).set (pre.length + i) v = pre ++ x.set i v ++ post := by
  rw [List.append_assoc, List.set_append_right _ _ (by omega), List.append_assoc]
  congr 1
  rw [Nat.add_sub_cancel_left, List.set_append_left _ _ h1]
/-- A cell of a cut of an own row. -/
theorem cut_cell {w : World} {base : Nat} {ok : Nat → Prop} {g N C : Nat} {pre x post : List Int} (h : Kd.R (Kd.int .u32) 59 w base ok (.slice (some ⟨g, 0, none⟩) N C) (pre ++ x ++ post)) {i : Int} (h0 : 0 ≤ i) (h1 : i < (x.length : Int)) :
    w.cell? ⟨g, pre.length + i.toNat, none⟩ = some (.int .u32 (rd x i)) ∧ w.frozen? ⟨g, pre.length + i.toNat, none⟩ = false := by
  have hN := (Kd.R_reads' h).1
  simp only [List.length_append] at hN
  have := Kd.R_celln 0 h ((pre.length : Int) + i) (by omega) (by omega)
  have e : ((pre.length : Int) + i).toNat = pre.length + i.toNat := by omega
  rw [e] at this
  rw [← rd_mid (pre := pre) (post := post) h0 h1]
  exact this
/-- A store into a cut of an own row. -/
theorem cut_put {w : World} {base : Nat} {ok : Nat → Prop} {g N C : Nat} {pre x post : List Int} (h : Kd.R (Kd.int .u32) 59 w base ok (.slice (some ⟨g, 0, none⟩) N C) (pre ++ x ++ post)) {i : Int} (h0 : 0 ≤ i) (h1 : i < (x.length : Int)) (v : Int) :
    Kd.R (Kd.int .u32) 59 (w.setCell ⟨g, pre.length + i.toNat, none⟩ (.int .u32 v)) base ok (.slice (some ⟨g, 0, none⟩) N C) (pre ++ x.set i.toNat v ++ post) ∧ w.grownBy (w.setCell ⟨g, pre.length + i.toNat, none⟩ (.int .u32 v)) (some g) := by
  have := Kd.R_putg h ((pre.length : Int) + i) v
  have e : ((pre.length : Int) + i).toNat = pre.length + i.toNat := by omega
  rw [e, set_mid (by omega)] at this
  exact this
/-- The same at an index of natural numbers. -/
theorem cut_cellN {w : World} {base : Nat} {ok : Nat → Prop} {g N C : Nat} {pre x post : List Int} (h : Kd.R (Kd.int .u32) 59 w base ok (.slice (some ⟨g, 0, none⟩) N C) (pre ++ x ++ post)) {i : Nat} (h1 : i < x.length) :
    w.cell? ⟨g, pre.length + i, none⟩ = some (.int .u32 (rd x (i : Int))) ∧ w.frozen? ⟨g, pre.length + i, none⟩ = false := by
  have := cut_cell h (i := (i : Int)) (by omega) (by omega)
  rwa [Int.toNat_natCast] at this
theorem cut_putN {w : World} {base : Nat} {ok : Nat → Prop} {g N C : Nat} {pre x post : List Int} (h : Kd.R (Kd.int .u32) 59 w base ok (.slice (some ⟨g, 0, none⟩) N C) (pre ++ x ++ post)) {i : Nat} (h1 : i < x.length) (v : Int) :
    Kd.R (Kd.int .u32) 59 (w.setCell ⟨g, pre.length + i, none⟩ (.int .u32 v)) base ok (.slice (some ⟨g, 0, none⟩) N C) (pre ++ x.set i v ++ post) ∧ w.grownBy (w.setCell ⟨g, pre.length + i, none⟩ (.int .u32 v)) (some g) := by
  have := cut_put h (i := (i : Int)) (by omega) (by omega) v
  rwa [Int.toNat_natCast] at this
set_option maxHeartbeats 8000000 in
set_option maxRecDepth 100000 in
theorem nat_less.cut (k : Nat) (P0_ : Nat → Prop) (g N C c : Nat) (pre l0 post : List Int) (A1 : Option Addr) (c1 : Nat) (l1 : List Int) (a2 : Int) (r1 : Bool) (r2 : List Int) (w0 w : World) (hB : Below w0.heap.size w0 w) (ho0 : Kd.R (Kd.int .u32) 59 w w0.heap.size P0_ (.slice (some ⟨g, 0, none⟩) N C) (pre ++ l0 ++ post)) (hgb : w0.heap.size ≤ g) (hr1 : ∀ W_, Kept w W_ (fun k_ => P0_ k_) → Kd.C (Kd.int .u32) W_ A1 l1.length l1) (hc1 : l1.length ≤ c1) (h : nat_less.f k l0 l1 a2 = some (r1, r2)) :
    Calls Try.prog 79 #[.slice (some ⟨g, pre.length, none⟩) l0.length c, .slice A1 l1.length c1, .int .u64 a2] w fun e w' => e = .returned (.bool r1) ∧ Kd.R (Kd.int .u32) 59 w' w0.heap.size (fun k_ => (P0_ k_ ∨ w.heap.size ≤ k_)) (.slice (some ⟨g, 0, none⟩) N C) (pre ++ r2 ++ post) ∧ r2.length = l0.length ∧ Below w0.heap.size w0 w' ∧ Kept w w' (fun k_ => P0_ k_) := by
  have HO0 := Aside0.mk (show Kd.R (Kd.int .u32) 59 w w0.heap.size (fun k_ => (P0_ k_ ∨ w.heap.size ≤ k_)) (.slice (some ⟨g, 0, none⟩) N C) (pre ++ l0 ++ post) from Kd.R_mono ho0 (fun k_ hk => (.inl hk)))
  clear ho0
  have HR1 := Aside0.mk hr1
  have HC1 := Aside0.mk hc1
  have GB := Aside0.mk hgb
  clear hr1 hc1 hgb
  have HK := Aside0.mk (Kept.refl w (fun k_ => P0_ k_))
  have HB := Aside0.mk hB
  clear hB
  have H : (nat_less.l0 k l0 l1 a2 0 0 l1 (l1.length : Int) 0) = some (r1, r2) := h
  clear h
  have H' := Aside0.mk H
  clear H
  go_enter Try.func79, Try.ntmps79
  go_wp2
  go_loopg [7, 8, 14] k (fun kq v7 v8 v14 w' => ∃ (x0_1 : List Int) (x7_1 : Int) (x8_1 : Int) (x14_1 : Int), v7 = .int .u64 x7_1 ∧ v8 = .int .u32 x8_1 ∧ v14 = .int .i64 x14_1 ∧ Aside0 (nat_less.l0 kq x0_1 l1 a2 x7_1 x8_1 l1 (l1.length : Int) x14_1 = some (r1, r2)) ∧ Aside0 (kq ≤ k) ∧ Aside0 (x0_1.length = l0.length) ∧ Aside0 (Kd.R (Kd.int .u32) 59 w' w0.heap.size (fun k_ => (P0_ k_ ∨ w.heap.size ≤ k_)) (.slice (some ⟨g, 0, none⟩) N C) (pre ++ x0_1 ++ post)) ∧ Aside0 (Kept w w' (fun k_ => P0_ k_)) ∧ Aside0 (Below w0.heap.size w0 w'))
  case atStart => exact ⟨(l0), (0), (0), (0), (by (rfl)), (by (rfl)), (by (rfl)), H', ⟨Nat.le_refl _⟩, ⟨rfl⟩, ⟨by exact HO0.out⟩, ⟨(HK.out)⟩, ⟨(HB.out)⟩⟩
  case round =>
    clear H'
    clear HK HB
    obtain ⟨x0_1, x7_1, x8_1, x14_1, rfl, rfl, rfl, HA, HK1, HL, HO_0, HK, HB⟩ := hrel
    cases gk with
    | zero => exact absurd HA.out (by simp [nat_less.l0])
    | succ k1 =>
      have H := HA.out
      clear HA
      simp only [nat_less.l0] at H
      by_cases c4 : x14_1 < (l1.length : Int)
      · rw [if_pos c4] at H
        have c4b0 : decide (x14_1 < (l1.length : Int)) = true := decide_eq_true c4
        by_cases c5 : 0 ≤ x14_1
        · rw [if_pos c5, if_pos c4] at H
          have c5b0 : decide (0 ≤ x14_1) = true := decide_eq_true c5
          by_cases c7 : x14_1 < (x0_1.length : Int)
          · rw [if_pos c7] at H
            have HI := Aside0.mk (And.intro c5 c7)
            rw [HL.out] at c7
            have c7b0 : decide (x14_1 < (l0.length : Int)) = true := decide_eq_true c7
            replace H := Option.bind_eq_some_iff.mp H
            obtain ⟨⟨t518, t519⟩, A80, H⟩ := H
            have A8 := Aside0.mk A80
            clear A80
            obtain ⟨y520, hy520⟩ : ∃ y_ : List Int, y_ = (x0_1.set (x14_1 : Int).toNat t518) := ⟨_, rfl⟩
            replace H : (nat_less.l0 k1 y520 l1 a2 ((IntKind.u64.wrap (x7_1 + (IntKind.u64.wrap ((IntKind.u64.wrap (rd l1 x14_1)) * a2)))) / 4294967296) t519 l1 (l1.length : Int) (wrap64 (x14_1 + 1))) = some (r1, r2) := by rw [hy520]; exact H
            have Ny520 := Aside0.mk hy520
            clear hy520
            have H' := Aside0.mk H
            clear H
            obtain ⟨ad516, e516, hx516_0⟩ := Kd.at_int (Kd.C_kept_now HR1.out HK.out) x14_1 c5 c4
            cases e516
            have p516 := eq_true c5
            have q516 := eq_true c4
            have q517 := eq_true c7
            clear c4 c5 c7
            obtain ⟨hx517_0, hf517_0⟩ := cut_cell HO_0.out HI.out.1 HI.out.2
            go_wp2_with (first | ((with_reducible refine gate_callee (f := 82) rfl ?_); refine goesL_ (some 35) rfl rfl Try.func82 (by kernel_rfl) rfl #[.int .u32 (rd x0_1 x14_1), .int .u32 ((IntKind.u64.wrap (x7_1 + (IntKind.u64.wrap ((IntKind.u64.wrap (rd l1 x14_1)) * a2)))) % 4294967296), .int .u32 x8_1] rfl (by (try simp only [List.map_toArray, List.map_cons, List.map_nil]); rfl) ?_; (with_reducible refine (bits_Sub32.calls (rd x0_1 x14_1) ((IntKind.u64.wrap (x7_1 + (IntKind.u64.wrap ((IntKind.u64.wrap (rd l1 x14_1)) * a2)))) % 4294967296) x8_1 t518 t519 _ A8.out).mono ?_); rintro e w' ⟨rfl, ⟨nd, rfl⟩⟩; refine ⟨_, rfl, ?_⟩; (try (rw [drewN_self wr]; generalize hq_ : World.drewN wr _ = wr; have n0_ : Aside0 (Kd.R (Kd.int .u32) 59 wr w0.heap.size (fun k_ => (P0_ k_ ∨ w.heap.size ≤ k_)) (.slice (some ⟨g, 0, none⟩) N C) (pre ++ x0_1 ++ post)) := ⟨by rw [← hq_]; exact (by (with_reducible repeat (apply Kd.R_drewN)); exact HO_0.out)⟩; have n1_ : Aside0 (Kept w wr (fun k_ => P0_ k_)) := ⟨by rw [← hq_]; exact (by repeat (with_reducible first | exact HK.out | apply Kept.drewN))⟩; have n2_ : Aside0 (Below w0.heap.size w0 wr) := ⟨by rw [← hq_]; exact (by repeat (with_reducible first | exact HB.out | apply pw_below_drewN))⟩; clear HO_0 HK HB hq_; have HO_0 := n0_; have HK := n1_; have HB := n2_; clear n0_ n1_ n2_))) | ((with_reducible refine gate_store (t := 59) (p := 38) rfl ?_); refine store_event (t := 59) (p := 38) (v := ?vo_38) (w1 := (wr.setCell ⟨g, pre.length + (x14_1).toNat, none⟩ (.int .u32 (t518)))) ?hg ?ho ?hn ?hr ?_; (case ho => rfl); (case hg => rfl); (case hn => rfl); (case hr => obtain ⟨hy_, hz_⟩ := cut_cell HO_0.out (i := x14_1) HI.out.1 HI.out.2; (go_simp; done)); intro w12 hw; have HP11 := cut_put HO_0.out HI.out.1 HI.out.2 (t518); have hg : wr.grownBy w12 (some g) := (by rw [hw]; exact HP11.2); have hp_ := HP11.1; rw [← hw, ← Ny520.out] at hp_; clear HP11; have n0_ := Aside0.mk hp_; have n1_ := Aside0.mk (by rw [hw]; exact below_set (HB.out) GB.out : Below w0.heap.size w0 w12); have n2_ := Aside0.mk (Kept.of_grown (S := (fun k_ => P0_ k_)) hg HK.out (fun k_ e_ => (HO_0.out.1 k_ e_))); clear HO_0 HB HK; have HO_0 := n0_; have HB := n1_; have HK := n2_; clear n0_ n1_ n2_ hg hw hp_))
            go_roundg k1
            case measure => have := HK1.out; omega
            case rel => exact ⟨(y520), ((IntKind.u64.wrap (x7_1 + (IntKind.u64.wrap ((IntKind.u64.wrap (rd l1 x14_1)) * a2)))) / 4294967296), (t519), (wrap64 (x14_1 + 1)), (by (rfl)), (by (rfl)), (by (rfl)), H', ⟨by have := HK1.out; omega⟩, ⟨by rw [Ny520.out, List.length_set]; exact HL.out⟩, HO_0, HK, HB⟩
          · rw [if_neg c7] at H
            exact absurd H (by simp)
        · rw [if_neg c5] at H
          exact absurd H (by simp)
      · rw [if_neg c4] at H
        have c4b0 : decide (x14_1 < (l1.length : Int)) = false := decide_eq_false c4
        clear c4
        rw [if_pos (Int.natCast_nonneg _)] at H
        by_cases c14 : (l1.length : Int) < (x0_1.length : Int)
        · rw [if_pos c14] at H
          have HN := Aside0.mk (Int.ofNat_lt.mp c14)
          rw [HL.out] at c14
          have c14b0 : decide ((l1.length : Int) < (l0.length : Int)) = true := decide_eq_true c14
          have c14b1 : decide (l1.length < l0.length) = true := decide_eq_true (Int.ofNat_lt.mp c14)
          have c14b2 := eq_true c14
          have c14b3 := eq_true (Int.ofNat_lt.mp c14)
          clear c14
          replace H := Option.bind_eq_some_iff.mp H
          obtain ⟨⟨t522, t523⟩, A150, H⟩ := H
          have A15 := Aside0.mk A150
          clear A150
          rw [Int.toNat_natCast] at H
          obtain ⟨y524, hy524⟩ : ∃ y_ : List Int, y_ = (x0_1.set l1.length t522) := ⟨_, rfl⟩
          replace H : (some (decide (t523 > 0), y524)) = some (r1, r2) := by rw [hy524]; exact H
          have Ny524 := Aside0.mk hy524
          clear hy524
          simp only [Option.some.injEq, Prod.mk.injEq] at H
          obtain ⟨rfl, rfl⟩ := H
          obtain ⟨hx521_0, hf521_0⟩ := cut_cellN HO_0.out HN.out
          go_wp2_with (first | ((with_reducible refine gate_callee (f := 82) rfl ?_); refine goesL_ (some 54) rfl rfl Try.func82 (by kernel_rfl) rfl #[.int .u32 (rd x0_1 (l1.length : Int)), .int .u32 ((x7_1) % 4294967296), .int .u32 x8_1] rfl (by (try simp only [List.map_toArray, List.map_cons, List.map_nil]); rfl) ?_; (with_reducible refine (bits_Sub32.calls (rd x0_1 (l1.length : Int)) ((x7_1) % 4294967296) x8_1 t522 t523 _ A15.out).mono ?_); rintro e w' ⟨rfl, ⟨nd, rfl⟩⟩; refine ⟨_, rfl, ?_⟩; (try (rw [drewN_self wr]; generalize hq_ : World.drewN wr _ = wr; have n0_ : Aside0 (Kd.R (Kd.int .u32) 59 wr w0.heap.size (fun k_ => (P0_ k_ ∨ w.heap.size ≤ k_)) (.slice (some ⟨g, 0, none⟩) N C) (pre ++ x0_1 ++ post)) := ⟨by rw [← hq_]; exact (by (with_reducible repeat (apply Kd.R_drewN)); exact HO_0.out)⟩; have n1_ : Aside0 (Kept w wr (fun k_ => P0_ k_)) := ⟨by rw [← hq_]; exact (by repeat (with_reducible first | exact HK.out | apply Kept.drewN))⟩; have n2_ : Aside0 (Below w0.heap.size w0 wr) := ⟨by rw [← hq_]; exact (by repeat (with_reducible first | exact HB.out | apply pw_below_drewN))⟩; clear HO_0 HK HB hq_; have HO_0 := n0_; have HK := n1_; have HB := n2_; clear n0_ n1_ n2_))) | ((with_reducible refine gate_store (t := 59) (p := 57) rfl ?_); refine store_event (t := 59) (p := 57) (v := ?vo_57) (w1 := (wr.setCell ⟨g, pre.length + l1.length, none⟩ (.int .u32 (t522)))) ?hg ?ho ?hn ?hr ?_; (case ho => rfl); (case hg => rfl); (case hn => rfl); (case hr => obtain ⟨hy_, hz_⟩ := cut_cellN HO_0.out HN.out; (go_simp; done)); intro w12 hw; have HP11 := cut_putN HO_0.out HN.out (t522); have hg : wr.grownBy w12 (some g) := (by rw [hw]; exact HP11.2); have hp_ := HP11.1; rw [← hw, ← Ny524.out] at hp_; clear HP11; have n0_ := Aside0.mk hp_; have n1_ := Aside0.mk (by rw [hw]; exact below_set (HB.out) GB.out : Below w0.heap.size w0 w12); have n2_ := Aside0.mk (Kept.of_grown (S := (fun k_ => P0_ k_)) hg HK.out (fun k_ e_ => (HO_0.out.1 k_ e_))); clear HO_0 HB HK; have HO_0 := n0_; have HB := n1_; have HK := n2_; clear n0_ n1_ n2_ hg hw hp_))
          go_ret
          exact ⟨by (rfl), HO_0.out, by rw [Ny524.out, List.length_set]; exact HL.out, HB.out, HK.out⟩
        · rw [if_neg c14] at H
          exact absurd H (by simp)
/-- The same of a cut of an own row, told of the whole row. -/
def nat_less.whole.f (k : Nat) (l0 : List Int) (a1 : Int) (a2 : Int) (l3 : List Int) (a4 : Int) : Option (Bool × List Int) := if 0 ≤ a1 ∧ a1 < a2 ∧ a2 ≤ (l0.length : Int) then (nat_less.f k ((l0.take a2.toNat).drop a1.toNat) l3 a4).bind fun b => some (b.1, l0.take a1.toNat ++ b.2 ++ l0.drop a2.toNat) else none
theorem nat_less.whole.calls (k : Nat) (P0_ : Nat → Prop) (u9000_ : Value) (l0 : List Int) (a1 : Int) (a2 : Int) (A3 : Option Addr) (c3 : Nat) (l3 : List Int) (a4 : Int) (r1 : Bool) (r2 : List Int) (w0 w : World) (hB : Below w0.heap.size w0 w) (ho0 : Kd.R (Kd.int .u32) 59 w w0.heap.size P0_ u9000_ l0) (hr3 : ∀ W_, Kept w W_ (fun k_ => P0_ k_) → Kd.C (Kd.int .u32) W_ A3 l3.length l3) (hc3 : l3.length ≤ c3) (h : nat_less.whole.f k l0 a1 a2 l3 a4 = some (r1, r2))
    (A0 : Option Addr) (N C : Nat) (hu : u9000_ = .slice A0 N C) (A : Option Addr) (n c : Nat) (hA : A = (if C = a1.toNat then A0 else A0.map (·.add (a1.toNat * 1)))) (hn : n = a2.toNat - a1.toNat) :
    Calls Try.prog 79 #[.slice A n c, .slice A3 l3.length c3, .int .u64 a4] w fun e w' => e = .returned (.bool r1) ∧ Kd.R (Kd.int .u32) 59 w' w0.heap.size (fun k_ => (P0_ k_ ∨ w.heap.size ≤ k_)) u9000_ r2 ∧ Below w0.heap.size w0 w' ∧ Kept w w' (fun k_ => P0_ k_) := by
  subst hu
  unfold nat_less.whole.f at h
  by_cases hg : 0 ≤ a1 ∧ a1 < a2 ∧ a2 ≤ (l0.length : Int)
  · rw [if_pos hg] at h
    obtain ⟨g1, g2, g3⟩ := hg
    obtain ⟨b, hb, he⟩ := Option.bind_eq_some_iff.mp h
    clear h
    obtain ⟨g, cap, ev, hgb, _⟩ := Kd.R_form ho0 (by omega)
    injection ev with e1 e2 e3
    subst e1 e2 e3
    have hcap := (Kd.R_reads' ho0).2.1
    have hl1 : (l0.take a1.toNat).length = a1.toNat := by rw [List.length_take]; omega
    have hl2 : ((l0.take a2.toNat).drop a1.toNat).length = a2.toNat - a1.toNat := by rw [List.length_drop, List.length_take]; omega
    have hsplit : l0.take a1.toNat ++ (l0.take a2.toNat).drop a1.toNat ++ l0.drop a2.toNat = l0 := by
      have e1 : l0.take a1.toNat = (l0.take a2.toNat).take a1.toNat := by rw [List.take_take, Nat.min_eq_left (by omega)]
      rw [e1, List.take_append_drop, List.take_append_drop]
    have hAe : A = some ⟨g, (l0.take a1.toNat).length, none⟩ := by
      rw [hA, if_neg (by omega), hl1]
      simp [Addr.add]
      omega
    have hne : n = ((l0.take a2.toNat).drop a1.toNat).length := by rw [hl2]; exact hn
    subst hAe hne
    obtain ⟨b1, b2⟩ := b
    simp only [Option.some.injEq, Prod.mk.injEq] at he
    obtain ⟨rfl, rfl⟩ := he
    refine (nat_less.cut k P0_ g _ _ c (l0.take a1.toNat) _ (l0.drop a2.toNat) A3 c3 l3 a4 b1 b2 w0 w hB (by rw [hsplit]; exact ho0) hgb hr3 hc3 hb).mono ?_
    rintro e w' ⟨he, h1, _, h2, h3⟩
    exact ⟨he, h1, h2, h3⟩
  · rw [if_neg hg] at h
    exact absurd h (by simp)
def bits_Add32.f (a0 : Int) (a1 : Int) (a2 : Int) : Option (Int × Int) := some ((IntKind.u64.wrap ((IntKind.u64.wrap ((IntKind.u64.wrap (a0)) + (IntKind.u64.wrap (a1)))) + (IntKind.u64.wrap (a2)))) % 4294967296, ((IntKind.u64.wrap ((IntKind.u64.wrap ((IntKind.u64.wrap (a0)) + (IntKind.u64.wrap (a1)))) + (IntKind.u64.wrap (a2)))) / 4294967296) % 4294967296)
set_option maxHeartbeats 8000000 in
set_option maxRecDepth 100000 in
theorem bits_Add32.calls (a0 : Int) (a1 : Int) (a2 : Int) (r1 : Int) (r2 : Int) (w : World) (h : bits_Add32.f a0 a1 a2 = some (r1, r2)) :
    Calls Try.prog 83 #[.int .u32 a0, .int .u32 a1, .int .u32 a2] w fun e w' => e = .returned (.tuple #[.int .u32 r1, .int .u32 r2]) ∧ Drawn0 w w' := by
  have H : (some ((IntKind.u64.wrap ((IntKind.u64.wrap ((IntKind.u64.wrap (a0)) + (IntKind.u64.wrap (a1)))) + (IntKind.u64.wrap (a2)))) % 4294967296, ((IntKind.u64.wrap ((IntKind.u64.wrap ((IntKind.u64.wrap (a0)) + (IntKind.u64.wrap (a1)))) + (IntKind.u64.wrap (a2)))) / 4294967296) % 4294967296)) = some (r1, r2) := h
  clear h
  simp only [Option.some.injEq, Prod.mk.injEq] at H
  obtain ⟨rfl, rfl⟩ := H
  go_enter Try.func83, Try.ntmps83
  go_wp2
  go_ret2
  exact ⟨by (rfl), (Drawn0.refl _)⟩
def nat_back.l0 : Nat → List Int → List Int → Int → List Int → Int → Int → Option (List Int)
  | 0, _, _, _, _, _, _ => none
  | k + 1, x0, x1, x4, x7, x8, x9 => if x9 < x8 then (if 0 ≤ x9 then (if x9 < (x7.length : Int) then (if x9 < (x0.length : Int) then ((bits_Add32.f (rd x0 x9) (rd x7 x9) x4).bind fun bt527 => (nat_back.l0 k (x0.set (x9 : Int).toNat bt527.1) x1 bt527.2 x7 x8 (wrap64 (x9 + 1)))) else (none)) else (none)) else (none)) else (if 0 ≤ (x1.length : Int) then (if (x1.length : Int) < (x0.length : Int) then (some (x0.set ((x1.length : Int) : Int).toNat (((rd x0 (x1.length : Int)) + x4) % 4294967296))) else (none)) else (none))
def nat_back.f (k : Nat) (l0 : List Int) (l1 : List Int) : Option (List Int) := nat_back.l0 k l0 l1 0 l1 (l1.length : Int) 0
set_option maxHeartbeats 8000000 in
set_option maxRecDepth 100000 in
theorem nat_back.cut (k : Nat) (P0_ : Nat → Prop) (g N C c : Nat) (pre l0 post : List Int) (A1 : Option Addr) (c1 : Nat) (l1 : List Int) (r : List Int) (w0 w : World) (hB : Below w0.heap.size w0 w) (ho0 : Kd.R (Kd.int .u32) 59 w w0.heap.size P0_ (.slice (some ⟨g, 0, none⟩) N C) (pre ++ l0 ++ post)) (hgb : w0.heap.size ≤ g) (hr1 : ∀ W_, Kept w W_ (fun k_ => P0_ k_) → Kd.C (Kd.int .u32) W_ A1 l1.length l1) (hc1 : l1.length ≤ c1) (h : nat_back.f k l0 l1 = some r) :
    Calls Try.prog 80 #[.slice (some ⟨g, pre.length, none⟩) l0.length c, .slice A1 l1.length c1] w fun e w' => e = .returned (.tuple #[]) ∧ Kd.R (Kd.int .u32) 59 w' w0.heap.size (fun k_ => (P0_ k_ ∨ w.heap.size ≤ k_)) (.slice (some ⟨g, 0, none⟩) N C) (pre ++ r ++ post) ∧ r.length = l0.length ∧ Below w0.heap.size w0 w' ∧ Kept w w' (fun k_ => P0_ k_) := by
  have HO0 := Aside0.mk (show Kd.R (Kd.int .u32) 59 w w0.heap.size (fun k_ => (P0_ k_ ∨ w.heap.size ≤ k_)) (.slice (some ⟨g, 0, none⟩) N C) (pre ++ l0 ++ post) from Kd.R_mono ho0 (fun k_ hk => (.inl hk)))
  clear ho0
  have HR1 := Aside0.mk hr1
  have HC1 := Aside0.mk hc1
  have GB := Aside0.mk hgb
  clear hr1 hc1 hgb
  have HK := Aside0.mk (Kept.refl w (fun k_ => P0_ k_))
  have HB := Aside0.mk hB
  clear hB
  have H : (nat_back.l0 k l0 l1 0 l1 (l1.length : Int) 0) = some r := h
  clear h
  have H' := Aside0.mk H
  clear H
  go_enter Try.func80, Try.ntmps80
  go_wp2
  go_loopg [4, 9] k (fun kq v4 v9 w' => ∃ (x0_1 : List Int) (x4_1 : Int) (x9_1 : Int), v4 = .int .u32 x4_1 ∧ v9 = .int .i64 x9_1 ∧ Aside0 (nat_back.l0 kq x0_1 l1 x4_1 l1 (l1.length : Int) x9_1 = some r) ∧ Aside0 (kq ≤ k) ∧ Aside0 (x0_1.length = l0.length) ∧ Aside0 (Kd.R (Kd.int .u32) 59 w' w0.heap.size (fun k_ => (P0_ k_ ∨ w.heap.size ≤ k_)) (.slice (some ⟨g, 0, none⟩) N C) (pre ++ x0_1 ++ post)) ∧ Aside0 (Kept w w' (fun k_ => P0_ k_)) ∧ Aside0 (Below w0.heap.size w0 w'))
  case atStart => exact ⟨(l0), (0), (0), (by (rfl)), (by (rfl)), H', ⟨Nat.le_refl _⟩, ⟨rfl⟩, ⟨by exact HO0.out⟩, ⟨(HK.out)⟩, ⟨(HB.out)⟩⟩
  case round =>
    clear H'
    clear HK HB
    obtain ⟨x0_1, x4_1, x9_1, rfl, rfl, HA, HK1, HL, HO_0, HK, HB⟩ := hrel
    cases gk with
    | zero => exact absurd HA.out (by simp [nat_back.l0])
    | succ k1 =>
      have H := HA.out
      clear HA
      simp only [nat_back.l0] at H
      by_cases c4 : x9_1 < (l1.length : Int)
      · rw [if_pos c4] at H
        have c4b0 : decide (x9_1 < (l1.length : Int)) = true := decide_eq_true c4
        by_cases c5 : 0 ≤ x9_1
        · rw [if_pos c5, if_pos c4] at H
          have c5b0 : decide (0 ≤ x9_1) = true := decide_eq_true c5
          by_cases c7 : x9_1 < (x0_1.length : Int)
          · rw [if_pos c7] at H
            have HI := Aside0.mk (And.intro c5 c7)
            rw [HL.out] at c7
            have c7b0 : decide (x9_1 < (l0.length : Int)) = true := decide_eq_true c7
            replace H := Option.bind_eq_some_iff.mp H
            obtain ⟨⟨t518, t519⟩, A80, H⟩ := H
            have A8 := Aside0.mk A80
            clear A80
            obtain ⟨y520, hy520⟩ : ∃ y_ : List Int, y_ = (x0_1.set (x9_1 : Int).toNat t518) := ⟨_, rfl⟩
            replace H : (nat_back.l0 k1 y520 l1 t519 l1 (l1.length : Int) (wrap64 (x9_1 + 1))) = some r := by rw [hy520]; exact H
            have Ny520 := Aside0.mk hy520
            clear hy520
            have H' := Aside0.mk H
            clear H
            obtain ⟨ad516, e516, hx516_0⟩ := Kd.at_int (Kd.C_kept_now HR1.out HK.out) x9_1 c5 c4
            cases e516
            have p516 := eq_true c5
            have q516 := eq_true c4
            have q517 := eq_true c7
            clear c4 c5 c7
            obtain ⟨hx517_0, hf517_0⟩ := cut_cell HO_0.out HI.out.1 HI.out.2
            go_wp2_with (first | ((with_reducible refine gate_callee (f := 83) rfl ?_); refine goesL_ (some 23) rfl rfl Try.func83 (by kernel_rfl) rfl #[.int .u32 (rd x0_1 x9_1), .int .u32 (rd l1 x9_1), .int .u32 x4_1] rfl (by (try simp only [List.map_toArray, List.map_cons, List.map_nil]); rfl) ?_; (with_reducible refine (bits_Add32.calls (rd x0_1 x9_1) (rd l1 x9_1) x4_1 t518 t519 _ A8.out).mono ?_); rintro e w' ⟨rfl, ⟨nd, rfl⟩⟩; refine ⟨_, rfl, ?_⟩; (try (rw [drewN_self wr]; generalize hq_ : World.drewN wr _ = wr; have n0_ : Aside0 (Kd.R (Kd.int .u32) 59 wr w0.heap.size (fun k_ => (P0_ k_ ∨ w.heap.size ≤ k_)) (.slice (some ⟨g, 0, none⟩) N C) (pre ++ x0_1 ++ post)) := ⟨by rw [← hq_]; exact (by (with_reducible repeat (apply Kd.R_drewN)); exact HO_0.out)⟩; have n1_ : Aside0 (Kept w wr (fun k_ => P0_ k_)) := ⟨by rw [← hq_]; exact (by repeat (with_reducible first | exact HK.out | apply Kept.drewN))⟩; have n2_ : Aside0 (Below w0.heap.size w0 wr) := ⟨by rw [← hq_]; exact (by repeat (with_reducible first | exact HB.out | apply pw_below_drewN))⟩; clear HO_0 HK HB hq_; have HO_0 := n0_; have HK := n1_; have HB := n2_; clear n0_ n1_ n2_))) | ((with_reducible refine gate_store (t := 59) (p := 26) rfl ?_); refine store_event (t := 59) (p := 26) (v := ?vo_26) (w1 := (wr.setCell ⟨g, pre.length + (x9_1).toNat, none⟩ (.int .u32 (t518)))) ?hg ?ho ?hn ?hr ?_; (case ho => rfl); (case hg => rfl); (case hn => rfl); (case hr => obtain ⟨hy_, hz_⟩ := cut_cell HO_0.out (i := x9_1) HI.out.1 HI.out.2; (go_simp; done)); intro w12 hw; have HP11 := cut_put HO_0.out HI.out.1 HI.out.2 (t518); have hg : wr.grownBy w12 (some g) := (by rw [hw]; exact HP11.2); have hp_ := HP11.1; rw [← hw, ← Ny520.out] at hp_; clear HP11; have n0_ := Aside0.mk hp_; have n1_ := Aside0.mk (by rw [hw]; exact below_set (HB.out) GB.out : Below w0.heap.size w0 w12); have n2_ := Aside0.mk (Kept.of_grown (S := (fun k_ => P0_ k_)) hg HK.out (fun k_ e_ => (HO_0.out.1 k_ e_))); clear HO_0 HB HK; have HO_0 := n0_; have HB := n1_; have HK := n2_; clear n0_ n1_ n2_ hg hw hp_))
            go_roundg k1
            case measure => have := HK1.out; omega
            case rel => exact ⟨(y520), (t519), (wrap64 (x9_1 + 1)), (by (rfl)), (by (rfl)), H', ⟨by have := HK1.out; omega⟩, ⟨by rw [Ny520.out, List.length_set]; exact HL.out⟩, HO_0, HK, HB⟩
          · rw [if_neg c7] at H
            exact absurd H (by simp)
        · rw [if_neg c5] at H
          exact absurd H (by simp)
      · rw [if_neg c4] at H
        have c4b0 : decide (x9_1 < (l1.length : Int)) = false := decide_eq_false c4
        clear c4
        rw [if_pos (Int.natCast_nonneg _)] at H
        by_cases c14 : (l1.length : Int) < (x0_1.length : Int)
        · rw [if_pos c14] at H
          have HN := Aside0.mk (Int.ofNat_lt.mp c14)
          rw [HL.out] at c14
          have c14b0 : decide ((l1.length : Int) < (l0.length : Int)) = true := decide_eq_true c14
          have c14b1 : decide (l1.length < l0.length) = true := decide_eq_true (Int.ofNat_lt.mp c14)
          have c14b2 := eq_true c14
          have c14b3 := eq_true (Int.ofNat_lt.mp c14)
          clear c14
          rw [Int.toNat_natCast] at H
          obtain ⟨y524, hy524⟩ : ∃ y_ : List Int, y_ = (x0_1.set l1.length (((rd x0_1 (l1.length : Int)) + x4_1) % 4294967296)) := ⟨_, rfl⟩
          replace H : (some y524) = some r := by rw [hy524]; exact H
          have Ny524 := Aside0.mk hy524
          clear hy524
          obtain rfl := Option.some.inj H
          clear H
          obtain ⟨hx521_0, hf521_0⟩ := cut_cellN HO_0.out HN.out
          go_wp2_with ((with_reducible refine gate_store (t := 59) (p := 35) rfl ?_); refine store_event (t := 59) (p := 35) (v := ?vo_35) (w1 := (wr.setCell ⟨g, pre.length + l1.length, none⟩ (.int .u32 (((rd x0_1 (l1.length : Int)) + x4_1) % 4294967296)))) ?hg ?ho ?hn ?hr ?_; (case ho => rfl); (case hg => rfl); (case hn => rfl); (case hr => obtain ⟨hy_, hz_⟩ := cut_cellN HO_0.out HN.out; (go_simp; done)); intro w12 hw; have HP11 := cut_putN HO_0.out HN.out (((rd x0_1 (l1.length : Int)) + x4_1) % 4294967296); have hg : wr.grownBy w12 (some g) := (by rw [hw]; exact HP11.2); have hp_ := HP11.1; rw [← hw, ← Ny524.out] at hp_; clear HP11; have n0_ := Aside0.mk hp_; have n1_ := Aside0.mk (by rw [hw]; exact below_set (HB.out) GB.out : Below w0.heap.size w0 w12); have n2_ := Aside0.mk (Kept.of_grown (S := (fun k_ => P0_ k_)) hg HK.out (fun k_ e_ => (HO_0.out.1 k_ e_))); clear HO_0 HB HK; have HO_0 := n0_; have HB := n1_; have HK := n2_; clear n0_ n1_ n2_ hg hw hp_)
          (go_end0)
          exact ⟨by (rfl), HO_0.out, by rw [Ny524.out, List.length_set]; exact HL.out, HB.out, HK.out⟩
        · rw [if_neg c14] at H
          exact absurd H (by simp)
/-- The same of a cut of an own row, told of the whole row. -/
def nat_back.whole.f (k : Nat) (l0 : List Int) (a1 : Int) (a2 : Int) (l3 : List Int)  : Option (List Int) := if 0 ≤ a1 ∧ a1 < a2 ∧ a2 ≤ (l0.length : Int) then (nat_back.f k ((l0.take a2.toNat).drop a1.toNat) l3).bind fun b => some (l0.take a1.toNat ++ b ++ l0.drop a2.toNat) else none
theorem nat_back.whole.calls (k : Nat) (P0_ : Nat → Prop) (u9000_ : Value) (l0 : List Int) (a1 : Int) (a2 : Int) (A3 : Option Addr) (c3 : Nat) (l3 : List Int)  (r2 : List Int) (w0 w : World) (hB : Below w0.heap.size w0 w) (ho0 : Kd.R (Kd.int .u32) 59 w w0.heap.size P0_ u9000_ l0) (hr3 : ∀ W_, Kept w W_ (fun k_ => P0_ k_) → Kd.C (Kd.int .u32) W_ A3 l3.length l3) (hc3 : l3.length ≤ c3) (h : nat_back.whole.f k l0 a1 a2 l3 = some r2)
    (A0 : Option Addr) (N C : Nat) (hu : u9000_ = .slice A0 N C) (A : Option Addr) (n c : Nat) (hA : A = (if C = a1.toNat then A0 else A0.map (·.add (a1.toNat * 1)))) (hn : n = a2.toNat - a1.toNat) :
    Calls Try.prog 80 #[.slice A n c, .slice A3 l3.length c3] w fun e w' => e = .returned (.tuple #[]) ∧ Kd.R (Kd.int .u32) 59 w' w0.heap.size (fun k_ => (P0_ k_ ∨ w.heap.size ≤ k_)) u9000_ r2 ∧ Below w0.heap.size w0 w' ∧ Kept w w' (fun k_ => P0_ k_) := by
  subst hu
  unfold nat_back.whole.f at h
  by_cases hg : 0 ≤ a1 ∧ a1 < a2 ∧ a2 ≤ (l0.length : Int)
  · rw [if_pos hg] at h
    obtain ⟨g1, g2, g3⟩ := hg
    obtain ⟨b, hb, he⟩ := Option.bind_eq_some_iff.mp h
    clear h
    obtain ⟨g, cap, ev, hgb, _⟩ := Kd.R_form ho0 (by omega)
    injection ev with e1 e2 e3
    subst e1 e2 e3
    have hcap := (Kd.R_reads' ho0).2.1
    have hl1 : (l0.take a1.toNat).length = a1.toNat := by rw [List.length_take]; omega
    have hl2 : ((l0.take a2.toNat).drop a1.toNat).length = a2.toNat - a1.toNat := by rw [List.length_drop, List.length_take]; omega
    have hsplit : l0.take a1.toNat ++ (l0.take a2.toNat).drop a1.toNat ++ l0.drop a2.toNat = l0 := by
      have e1 : l0.take a1.toNat = (l0.take a2.toNat).take a1.toNat := by rw [List.take_take, Nat.min_eq_left (by omega)]
      rw [e1, List.take_append_drop, List.take_append_drop]
    have hAe : A = some ⟨g, (l0.take a1.toNat).length, none⟩ := by
      rw [hA, if_neg (by omega), hl1]
      simp [Addr.add]
      omega
    have hne : n = ((l0.take a2.toNat).drop a1.toNat).length := by rw [hl2]; exact hn
    subst hAe hne
    obtain rfl := Option.some.inj he
    refine (nat_back.cut k P0_ g _ _ c (l0.take a1.toNat) _ (l0.drop a2.toNat) A3 c3 l3 b w0 w hB (by rw [hsplit]; exact ho0) hgb hr3 hc3 hb).mono ?_
    rintro e w' ⟨he, h1, _, h2, h3⟩
    exact ⟨he, h1, h2, h3⟩
  · rw [if_neg hg] at h
    exact absurd h (by simp)
end Go.Proofs.Ytmgjjdodjamomaa.PB
