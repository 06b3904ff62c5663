/- IsComplex in the form that the printed law takes. -/
import Derived.Test.YtoeapnempdgagaaIsC
namespace Go.Proofs.Ytoeapnempdgagaa.X
open Go.RowKit Go.Shelf Go.Proofs.Ytoeapnempdgagaa.K Go.Proofs.YtoeapnempdgagaaW.PrintWords Go.Proofs.YtoeapnempdgagaaW.PrintLast Go.Proofs.YtoeapnempdgagaaW.PrintMore
set_option linter.unusedVariables false
set_option linter.unusedSimpArgs false

def impl_IsComplex.f (a0_0 : Int) (l0_1 : List Int) : Option Bool := if l0_1.length ≤ 2097152 then some (isC a0_0 l0_1) else none
theorem impl_IsComplex.calls (a0_0 : Int) (A0_1 : Option Addr) (c0_1 : Nat) (l0_1 : List Int) (r : Bool) (w : World) (hr0_1 : Kd.C (Kd.int .i64) w A0_1 l0_1.length l0_1) (hc0_1 : l0_1.length ≤ c0_1) (h : impl_IsComplex.f a0_0 l0_1 = some r) :
    Calls Try.prog 26 #[.agg #[.int .i64 a0_0, .slice A0_1 l0_1.length c0_1]] w fun e w' => e = .returned (.bool r) ∧ Below w.heap.size w w' := by
  unfold impl_IsComplex.f at h
  by_cases hl : l0_1.length ≤ 2097152
  · rw [if_pos hl] at h
    injection h with h
    subst h
    exact IsComplex_calls a0_0 A0_1 c0_1 l0_1 w hr0_1 hc0_1 (by omega)
  · rw [if_neg hl] at h
    cases h

end Go.Proofs.Ytoeapnempdgagaa.X
