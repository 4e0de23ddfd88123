/- The statement PrimeFractions: whatever the input, the law returns true and the arguments read as they did; no conditions. -/
import Derived.Test.YtmgjjdodjamomaaRows
import Derived.Test.YtmgjjdodjamomaaFW
import Derived.Test.YtmgjjdodjamomaaFx0
import Derived.Test.YtmgjjdodjamomaaFx1
import Derived.Test.YtmgjjdodjamomaaFx10
import Derived.Test.YtmgjjdodjamomaaFx11
import Derived.Test.YtmgjjdodjamomaaFx13
import Derived.Test.YtmgjjdodjamomaaFx16
import Derived.Test.YtmgjjdodjamomaaFx17
import Derived.Test.YtmgjjdodjamomaaFx19
import Derived.Test.YtmgjjdodjamomaaFx2
import Derived.Test.YtmgjjdodjamomaaFx20
import Derived.Test.YtmgjjdodjamomaaFx21
import Derived.Test.YtmgjjdodjamomaaFx24
import Derived.Test.YtmgjjdodjamomaaFx25
import Derived.Test.YtmgjjdodjamomaaFx26
import Derived.Test.YtmgjjdodjamomaaFx27
import Derived.Test.YtmgjjdodjamomaaFx28
import Derived.Test.YtmgjjdodjamomaaFx29
import Derived.Test.YtmgjjdodjamomaaFx3
import Derived.Test.YtmgjjdodjamomaaFx30
import Derived.Test.YtmgjjdodjamomaaFx31
import Derived.Test.YtmgjjdodjamomaaFx32
import Derived.Test.YtmgjjdodjamomaaFx33
import Derived.Test.YtmgjjdodjamomaaFx34
import Derived.Test.YtmgjjdodjamomaaFx36
import Derived.Test.YtmgjjdodjamomaaFx37
import Derived.Test.YtmgjjdodjamomaaFx4
import Derived.Test.YtmgjjdodjamomaaFx7
import Derived.Test.YtmgjjdodjamomaaFx8
import Derived.Test.YtmgjjdodjamomaaFP0
import Derived.Below
import Derived.Carry
import Derived.ChangeOld
import Derived.ChangeSlices
import Derived.Lib.SmallJoins
import Derived.OpenShut
import Derived.ProofKit
import Derived.ShutString
import Derived.SizedLaws
import Derived.WalkKit
section
namespace Go.Proofs.Ytmgjjdodjamomaa.Opn
open Go.ChangeShapes Go.WideShapes Go.ChangeAt Go.RowKit Go.Joins
open Go.Proofs.YtmgjjdodjamomaaW.PrintWords
theorem laidOut : laidOutB Try.prog = true := by kernel_rfl
theorem cells32 : Try.prog.cellsOf 32 = 2 := by kernel_rfl
theorem cells59 : Try.prog.cellsOf 59 = 1 := by kernel_rfl
/-- a slice of whole numbers that came in, told by its cells -/
def IsRow (k : IntKind) (w : World) (a : Option Addr) (len cap : Nat) (zs : List Int) : Prop :=
  (a = none ∧ len = 0 ∧ cap = 0 ∧ zs = []) ∨
  ∃ x, a = some x ∧ len ≤ cap ∧ cap ≤ maxLen ∧ zs.length = cap ∧ (∀ i, i < zs.length → w.cell? (x.add i) = some (.int k (zs.getD i 0))) ∧ ∀ n ∈ zs, (Lit.int k n).wf = true
theorem row_of {H : Type} {enc : TypeId × Value → H} {W : World} {fuel : Nat} {cs : List Value} {y : DataW H × List MemPlace}
    (h : DataW.trod enc Try.prog W 0 (fun _ => true) true fuel 30 cs = some y) :
    ∃ (a : Option Addr) (len cap : Nat) (zs : List Int), cs = [.slice a len cap] ∧ IsRow .u32 W a len cap zs := by
  rcases open_ints Try.underlying30 Try.underlying59 cells59 h with ⟨hcs, _⟩ | ⟨x, l, c, zs, hcs, _, hl, hm, hz, _, hcell, hwz⟩
  · exact ⟨none, 0, 0, [], hcs, .inl ⟨rfl, rfl, rfl, rfl⟩⟩
  · exact ⟨some x, l, c, zs, hcs, .inr ⟨x, rfl, hl, hm, by simpa using hz, hcell, hwz⟩⟩
theorem u32_of {l : List Int} (h : ∀ x ∈ l, (Lit.int .u32 x).wf = true) : Limb.Ok l := by
  intro x hx
  have h0 := h x hx
  have h1 : IntKind.u32.min = 0 := rfl
  have h2 : IntKind.u32.max = 4294967295 := rfl
  simp only [Lit.wf, h1, h2, Bool.and_eq_true, decide_eq_true_eq] at h0
  omega
/-- the limbs that a call is handed -/
theorem list_of {w : World} {a : Option Addr} {len cap : Nat} {zs : List Int} (h : IsRow .u32 w a len cap zs) :
    ∃ l : List Int, len = l.length ∧ ReadsInt w .u32 a l.length l ∧ Limb.Ok l ∧ l.length ≤ cap := by
  obtain ⟨l, e, hr, _, hw, hc⟩ := ReadsInt.ofRowC h
  exact ⟨l, e, hr, u32_of hw, hc⟩
end Go.Proofs.Ytmgjjdodjamomaa.Opn
end
section
namespace Go.Proofs.Ytmgjjdodjamomaa.Opn
open Go.ChangeShapes Go.WideShapes Go.ChangeAt Go.RowKit Go.Joins
open Go.Proofs.YtmgjjdodjamomaaW.PrintWords
theorem cells39 : Try.prog.cellsOf 39 = 3 := by kernel_rfl
theorem cells30 : Try.prog.cellsOf 30 = 1 := by kernel_rfl
theorem cells4 : Try.prog.cellsOf 4 = 1 := by kernel_rfl
theorem open_rat {H : Type} {enc : TypeId × Value → H} {W : World} {r : Reach} {b0 : Nat} {v : Value} {d : DataW H} {p : List MemPlace}
    (hv : Value.okWide Try.prog W r b0 39 v) (h : DataW.Trod enc Try.prog W 0 (fun _ => true) true 39 v d p) :
    ∃ (b : Bool) (a : Option Addr) (len cap : Nat) (zs : List Int) (a2 : Option Addr) (len2 cap2 : Nat) (zs2 : List Int),
      v = .agg #[.bool b, .slice a len cap, .slice a2 len2 cap2] ∧ IsRow .u32 W a len cap zs ∧ IsRow .u32 W a2 len2 cap2 zs2 := by
  obtain ⟨cs, rfl, hsz⟩ := okWide_struct Try.underlying39 hv
  obtain ⟨c0, c1, c2, rfl⟩ := array3 (hsz.trans cells39)
  obtain ⟨fuel, hf⟩ := h
  obtain ⟨y0, y1, n, _, _, h0, h1⟩ := trod_struct2 Try.underlying39 hf
  rw [cells32] at h0
  rw [cells30] at h1
  simp only [Value.cells] at h0 h1
  obtain ⟨z0, z1, m, _, _, g0, g1⟩ := trod_struct2 Try.underlying32 h0
  rw [cells4] at g0
  rw [cells30] at g1
  obtain ⟨b, e0, _⟩ := DataW.trod_bool Try.underlying4 g0
  obtain ⟨a, len, cap, zs, e1, hr⟩ := row_of g1
  obtain ⟨a2, len2, cap2, zs2, e2, hr2⟩ := row_of h1
  simp at e0 e1 e2
  subst e0 e1 e2
  exact ⟨b, a, len, cap, zs, a2, len2, cap2, zs2, rfl, hr, hr2⟩
end Go.Proofs.Ytmgjjdodjamomaa.Opn
end
section
namespace Go.Proofs.Ytmgjjdodjamomaa.primeFractions
open Go.ChangeShapes Go.WideShapes Go.ChangeAt Go.RowKit
open Go.ChangeMaps (open_string shut_string)
open Go.Proofs.YtmgjjdodjamomaaW.PrintWords
theorem own : ownKnob Try.prog.godebug = none := by kernel_rfl
theorem walk (b0 : Bool) (a0 : Option Addr) (len0 cap0 : Nat) (z0 : List Int) (a3 : Option Addr) (len3 cap3 : Nat) (z3 : List Int) (b1 : Bool) (a1 : Option Addr) (len1 cap1 : Nat) (z1 : List Int) (a2 : Option Addr) (len2 cap2 : Nat) (z2 : List Int) (n : Int) (w : World)
    (w0 : Opn.IsRow .u32 w a0 len0 cap0 z0) (w3 : Opn.IsRow .u32 w a3 len3 cap3 z3) (w1 : Opn.IsRow .u32 w a1 len1 cap1 z1) (w2 : Opn.IsRow .u32 w a2 len2 cap2 z2) :
    Calls Try.prog 11 #[.agg #[.bool b0, .slice a0 len0 cap0, .slice a3 len3 cap3], .agg #[.bool b1, .slice a1 len1 cap1, .slice a2 len2 cap2], .int .i64 n] w fun e w' => e = .returned (.bool true) ∧ Below w.heap.size w w' := by
  obtain ⟨l0, rfl, hr0, ho0, hc0⟩ := Opn.list_of w0
  obtain ⟨l3, rfl, hr3, ho3, hc3⟩ := Opn.list_of w3
  obtain ⟨l1, rfl, hr1, ho1, hc1⟩ := Opn.list_of w1
  obtain ⟨l2, rfl, hr2, ho2, hc2⟩ := Opn.list_of w2
  obtain ⟨k, h⟩ := PureB.PrimeFractions b0 l0 l3 b1 l1 l2 n ho0 ho3 ho1 ho2
  refine (PB.primroselaw05_PrimeFractions.calls k b0 _ _ l0 _ _ l3 b1 _ _ l1 _ _ l2 n true w (Kd.C_of_reads (d := (0 : Int)) (h1 := fun _ => rfl) hr0) hc0 (Kd.C_of_reads (d := (0 : Int)) (h1 := fun _ => rfl) hr3) hc3 (Kd.C_of_reads (d := (0 : Int)) (h1 := fun _ => rfl) hr1) hc1 (Kd.C_of_reads (d := (0 : Int)) (h1 := fun _ => rfl) hr2) hc2 h).mono ?_
  rintro e w' ⟨rfl, hd⟩
  exact ⟨rfl, hd⟩
set_option maxRecDepth 100000 in
theorem lifted (os : Os) (started : os.Started) (H : Type) (enc : TypeId × Value → H) :
    ReturnsInHanded {} Try.checked os 11 .any (Rows.primeFractionsSpec.pre6 enc Try.prog Try.f11 Rows.primeFractionsRow.domain false) (Rows.primeFractionsSpec.post enc Try.prog Try.f11 false true false false) := by
  refine returnsInHanded_of_change_sized (C := Try.checked) own started (by kernel_rfl) Try.func11
    (ChangeSpec.witness6 (enc := enc) (C := Try.checked) false ⟨#[], #[.agg #[.bool false, .slice none 0 0, .slice none 0 0], .agg #[.bool false, .slice none 0 0, .slice none 0 0], .int .i64 0], []⟩ 8 (by kernel_rfl) (by kernel_rfl) (by kernel_rfl) (by kernel_rfl)) ?_
  intro W base args ds gs before hval0 hW hcnd hsz0 _
  have hval : ∀ (j : Nat) t v, Try.f11.params[j]? = some t → args[j]? = some v → Value.okWide Try.prog W .any base t v := hval0
  have hW' := hW
  obtain ⟨p, q, hA0, hV, rfl, hfz, hnd⟩ := hW
  have hA : DataW.TrodAll enc Try.prog W 0 (fun _ => true) true Try.f11.params.toList args.toList ds p := hA0
  rw [Try.params11] at hA hval
  obtain ⟨v0, vs0, d0, ds0, p0, q0, hargs, rfl, rfl, h0, r0⟩ := trodAll_cons hA
  obtain ⟨v1, vs1, d1, ds1, p1, q1, rfl, rfl, rfl, h1, r1⟩ := trodAll_cons r0
  obtain ⟨v2, vs2, d2, ds2, p2, q2, rfl, rfl, rfl, h2, r2⟩ := trodAll_cons r1
  obtain ⟨rfl, rfl, rfl⟩ := trodAll_nil r2
  obtain rfl : args = #[v0, v1, v2] := by cases args; simp_all
  obtain ⟨rfl, rfl⟩ := trodVars_none hV
  have lt0 : ∀ x ∈ p0, x.block < W.heap.size := by obtain ⟨m, hm⟩ := h0; exact DataW.trod_lt m _ _ _ hm
  have lt1 : ∀ x ∈ p1, x.block < W.heap.size := by obtain ⟨m, hm⟩ := h1; exact DataW.trod_lt m _ _ _ hm
  obtain ⟨b0, a0, len0, cap0, z0, a3, len3, cap3, z3, rfl, w0, w3⟩ := Opn.open_rat (hval 0 39 v0 rfl rfl) h0
  obtain ⟨b1, a1, len1, cap1, z1, a2, len2, cap2, z2, rfl, w1, w2⟩ := Opn.open_rat (hval 1 39 v1 rfl rfl) h1
  obtain ⟨n, rfl, rfl, rfl, w9⟩ := open_int Try.underlying3 (hval 2 3 v2 rfl rfl) h2
  clear hA0 hval0 hsz0
  refine (walk b0 a0 len0 cap0 z0 a3 len3 cap3 z3 b1 a1 len1 cap1 z1 a2 len2 cap2 z2 n W w0 w3 w1 w2).mono fun e W' ⟨he, bel⟩ => ?_
  subst he
  exact ⟨_, rfl, _, _, _, [], _, [], hW', trodAll_mk1 (shut_bool Try.underlying4 _), (trodAll_cons_mk (Below.trod Opn.laidOut (by kernel_rfl) (of_decide_eq_true (by kernel_rfl)) h0 bel lt0) (trodAll_cons_mk (Below.trod Opn.laidOut (by kernel_rfl) (of_decide_eq_true (by kernel_rfl)) h1 bel lt1) (trodAll_cons_mk (shut_int Try.underlying3 w9) trodAll_mk0))), rfl, bel.frame _, fun h => by cases h⟩
theorem over : Rows.primeFractionsRow.holds Try.pinned (OpenSpec.ofChange Rows.primeFractionsSpec) :=
  OpenClaim.holds_of_wide 11 Try.f11 rfl rfl rfl rfl rfl rfl rfl ⟨rfl, rfl, rfl, rfl, rfl⟩ rfl rfl rfl rfl rfl (by kernel_rfl) Try.func11 (by kernel_rfl)
    (of_decide_eq_true (by kernel_rfl)) (by unfold Func.isWrapper; first | (rw [if_pos (by decide +kernel)]; kernel_rfl) | (rw [if_neg (by decide +kernel)]; exact ⟨rfl, rfl⟩))
    (fun os started H enc _ => lifted os started H enc)
theorem proved : Rows.PrimeFractionsSaid := over
#print axioms proved
end Go.Proofs.Ytmgjjdodjamomaa.primeFractions
namespace Go.Proofs.Ytmgjjdodjamomaa
/-- The row, under a short name, for the claim. -/
theorem primeFractions_holds : Rows.PrimeFractionsSaid := primeFractions.proved
end Go.Proofs.Ytmgjjdodjamomaa
end
