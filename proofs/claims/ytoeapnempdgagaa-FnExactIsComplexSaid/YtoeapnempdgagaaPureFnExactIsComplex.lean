/- The law FnExactIsComplex answers true for every complex: the program's IsComplex and the reference's come to the same. No conditions. -/
import Derived.Test.YtoeapnempdgagaaPIsC
import Derived.Test.YtoeapnempdgagaaExtA
import Derived.Test.YtoeapnempdgagaaRAx2
namespace Go.Proofs.Ytoeapnempdgagaa.Pure
open Go.RowKit Go.Proofs.Ytoeapnempdgagaa.Q Go.Proofs.Ytoeapnempdgagaa.X Go.Proofs.Ytoeapnempdgagaa.K Go.Proofs.Ytoeapnempdgagaa.RA Go.Proofs.YtoeapnempdgagaaW.PrintWords
theorem FnExactIsComplex : ∀ (n0 : Int) (l0 : List Int), (Lit.int .i64 n0).wf = true → l0.length ≤ 9223372036854775807 → ∃ k : Nat, laws_FnExactIsComplex.f k n0 l0 = some true := by
  intro n l _ hl
  refine ⟨isK l + l.length + 1, ?_⟩
  unfold laws_FnExactIsComplex.f
  rw [szComplex_is n l 1048576 (by omega) hl]
  simp only [Option.bind_some]
  by_cases h : (1048576 : Int) < l.length
  · rw [if_pos h, if_pos (by omega)]
  · have hb : l.length ≤ 2097152 := by omega
    have e1 : spec_IsComplex.f (isK l + l.length + 1) n l = some (isC n l) := by
      unfold spec_IsComplex.f
      rw [specIs_is n l hb _ (by omega)]
      rfl
    have e2 : impl_IsComplex.f n l = some (isC n l) := by
      unfold impl_IsComplex.f
      rw [if_pos hb]
    rw [if_neg h, if_neg (by omega), toComplex_is n l hb _ (by omega)]
    simp only [Option.bind_some]
    rw [e1, e2]
    simp only [Option.bind_some]
    rw [if_neg (by simp), eqComplex_is n l n l hl _ (by omega)]
    simp

end Go.Proofs.Ytoeapnempdgagaa.Pure
