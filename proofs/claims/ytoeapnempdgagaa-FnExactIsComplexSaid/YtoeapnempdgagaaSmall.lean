/- Contracts of small functions of numbers, out of the printed ones. -/
import Derived.Test.YtoeapnempdgagaaKit
import Derived.Test.YtoeapnempdgagaaQx19
namespace Go.Proofs.Ytoeapnempdgagaa.K
open Go.RowKit Go.Shelf Go.Proofs.Ytoeapnempdgagaa.Q Go.Proofs.YtoeapnempdgagaaW.PrintWords Go.Proofs.YtoeapnempdgagaaW.PrintLast Go.Proofs.YtoeapnempdgagaaW.PrintMore
set_option linter.unusedVariables false
set_option linter.unusedSimpArgs false

theorem within_is (a b c : Int) : impl_within.f a b c = some (decide (b ≤ a ∧ a ≤ c)) := by
  unfold impl_within.f
  by_cases h : b ≤ a <;> simp [h]
theorem within_calls (a b c : Int) (r : Bool) (h : decide (b ≤ a ∧ a ≤ c) = r) (w : World) :
    Calls Try.prog 52 #[I a, I b, I c] w fun e w' => e = .returned (.bool r) ∧ Grew w w' :=
  (impl_within.calls a b c r w (by rw [within_is, h])).mono fun e w' ⟨he, hd⟩ => ⟨he, hd.below⟩
theorem isSize_calls (n : Int) (r : Bool) (h : decide (1 ≤ n ∧ n ≤ 6) = r) (w : World) :
    Calls Try.prog 49 #[I n] w fun e w' => e = .returned (.bool r) ∧ Grew w w' :=
  (impl_isSize.calls n r w (by unfold impl_isSize.f; rw [within_is, h]; rfl)).mono fun e w' ⟨he, hd⟩ => ⟨he, hd.below⟩

/-- The set of all vertices. -/
def fullOf (n : Int) : Int := 2 ^ n.toNat - 1
theorem two_pow (m k : Nat) (h : m ≤ k) : (1 : Int) ≤ 2 ^ m ∧ (2 : Int) ^ m ≤ 2 ^ k := by
  have h1 : (2 : Nat) ^ m ≤ 2 ^ k := Nat.pow_le_pow_right (by omega) h
  have h2 : (1 : Nat) ≤ 2 ^ m := Nat.one_le_two_pow
  have e1 : (2 : Int) ^ m = ((2 ^ m : Nat) : Int) := by simp
  have e2 : (2 : Int) ^ k = ((2 ^ k : Nat) : Int) := by simp
  rw [e1, e2]
  omega
theorem shl_one (n : Int) (h0 : 0 ≤ n) (h6 : n ≤ 62) : shl .i64 1 n = 2 ^ n.toNat := by
  have h := two_pow n.toNat 62 (by omega)
  unfold shl
  rw [Nat.min_eq_left (by show n.toNat ≤ 64; omega), Int.one_mul]
  show IntKind.wrap .i64 _ = _
  rw [IntKind.wrap_i64]
  omega
theorem full_is (n : Int) (l : List Int) (h0 : 0 ≤ n) (h6 : n ≤ 62) : impl_Complex_full.f n l = some (fullOf n) := by
  unfold impl_Complex_full.f fullOf
  rw [if_pos h0, shl_one n h0 h6]
  congr 1
  have h := two_pow n.toNat 62 (by omega)
  unfold wrap64
  omega
theorem full_calls (n : Int) (A : Option Addr) (c : Nat) (l : List Int) (w : World) (h0 : 0 ≤ n) (h6 : n ≤ 62) (hr : Ki.C w A l.length l) (hc : l.length ≤ c) :
    Calls Try.prog 56 #[.agg #[I n, .slice A l.length c]] w fun e w' => e = .returned (I (fullOf n)) ∧ Grew w w' :=
  impl_Complex_full.calls n A c l (fullOf n) w hr hc (full_is n l h0 h6)

end Go.Proofs.Ytoeapnempdgagaa.K
