/- How a whole number that came in reads: a sign and limbs below 2^32; conditions: its value fits its type and can be read. -/
import Derived.Test.YtmgjjdodjamomaaRows
import Derived.WalkKit
import Derived.ProofKit
import Derived.OpenShut
import Derived.ShutString
import Derived.ChangeOld
import Derived.Below
import Derived.SizedLaws
import Derived.ChangeSlices
import Derived.Lib.SmallJoins
import Derived.Test.YtmgjjdodjamomaaLimb
import Derived.Test.YtmgjjdodjamomaaWWords
namespace Go.Proofs.Ytmgjjdodjamomaa.Opn
open Go.ChangeShapes Go.WideShapes Go.ChangeAt Go.RowKit Go.Joins
open Go.Proofs.YtmgjjdodjamomaaW.PrintWords

theorem laidOut : laidOutB Try.prog = true := by kernel_rfl
theorem cells32 : Try.prog.cellsOf 32 = 2 := by kernel_rfl
theorem cells59 : Try.prog.cellsOf 59 = 1 := by kernel_rfl

/-- a slice of whole numbers that came in, told by its cells -/
def IsRow (k : IntKind) (w : World) (a : Option Addr) (len cap : Nat) (zs : List Int) : Prop :=
  (a = none ∧ len = 0 ∧ cap = 0 ∧ zs = []) ∨
  ∃ x, a = some x ∧ len ≤ cap ∧ cap ≤ maxLen ∧ zs.length = cap ∧ (∀ i, i < zs.length → w.cell? (x.add i) = some (.int k (zs.getD i 0))) ∧ ∀ n ∈ zs, (Lit.int k n).wf = true

theorem row_of {H : Type} {enc : TypeId × Value → H} {W : World} {fuel : Nat} {cs : List Value} {y : DataW H × List MemPlace}
    (h : DataW.trod enc Try.prog W 0 (fun _ => true) true fuel 30 cs = some y) :
    ∃ (a : Option Addr) (len cap : Nat) (zs : List Int), cs = [.slice a len cap] ∧ IsRow .u32 W a len cap zs := by
  rcases open_ints Try.underlying30 Try.underlying59 cells59 h with ⟨hcs, _⟩ | ⟨x, l, c, zs, hcs, _, hl, hm, hz, _, hcell, hwz⟩
  · exact ⟨none, 0, 0, [], hcs, .inl ⟨rfl, rfl, rfl, rfl⟩⟩
  · exact ⟨some x, l, c, zs, hcs, .inr ⟨x, rfl, hl, hm, by simpa using hz, hcell, hwz⟩⟩

theorem open_whole {H : Type} {enc : TypeId × Value → H} {W : World} {r : Reach} {b0 : Nat} {v : Value} {d : DataW H} {p : List MemPlace}
    (hv : Value.okWide Try.prog W r b0 32 v) (h : DataW.Trod enc Try.prog W 0 (fun _ => true) true 32 v d p) :
    ∃ (b : Bool) (a : Option Addr) (len cap : Nat) (zs : List Int), v = .agg #[.bool b, .slice a len cap] ∧ IsRow .u32 W a len cap zs := by
  obtain ⟨c0, c1, y0, y1, m, rfl, rfl, rfl, hy0, hy1⟩ := open_agg2 Try.underlying32 (by kernel_rfl) cells32 hv h
  obtain ⟨b, e0, _⟩ := DataW.trod_bool Try.underlying4 hy0
  obtain ⟨a, len, cap, zs, e1, hr⟩ := row_of hy1
  simp at e0 e1
  subst e0 e1
  exact ⟨b, a, len, cap, zs, rfl, hr⟩

theorem u32_of {l : List Int} (h : ∀ x ∈ l, (Lit.int .u32 x).wf = true) : Limb.Ok l := by
  intro x hx
  have h0 := h x hx
  have h1 : IntKind.u32.min = 0 := rfl
  have h2 : IntKind.u32.max = 4294967295 := rfl
  simp only [Lit.wf, h1, h2, Bool.and_eq_true, decide_eq_true_eq] at h0
  omega

/-- the limbs that a call is handed -/
theorem list_of {w : World} {a : Option Addr} {len cap : Nat} {zs : List Int} (h : IsRow .u32 w a len cap zs) :
    ∃ l : List Int, len = l.length ∧ ReadsInt w .u32 a l.length l ∧ Limb.Ok l ∧ l.length ≤ cap := by
  obtain ⟨l, e, hr, _, hw, hc⟩ := ReadsInt.ofRowC h
  exact ⟨l, e, hr, u32_of hw, hc⟩

end Go.Proofs.Ytmgjjdodjamomaa.Opn
