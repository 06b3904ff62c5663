/- slices.BinarySearch over numbers, and has: on a strictly ascending list it tells membership. -/
import Derived.Test.YtoeapnempdgagaaKit
import Derived.Test.YtoeapnempdgagaaQx21
namespace Go.Proofs.Ytoeapnempdgagaa.K
open Go.RowKit Go.Shelf Go.Proofs.Ytoeapnempdgagaa.Q Go.Proofs.YtoeapnempdgagaaW.PrintWords Go.Proofs.YtoeapnempdgagaaW.PrintLast Go.Proofs.YtoeapnempdgagaaW.PrintMore
set_option linter.unusedVariables false
set_option linter.unusedSimpArgs false

/-- Strictly ascending. -/
abbrev Asc (l : List Int) : Prop := l.Pairwise (· < ·)
/-- How many are less than t. -/
def below (l : List Int) (t : Int) : Nat := l.countP (· < t)

theorem mid_eq (i j : Nat) (h : j ≤ 2305843009213693952) (hij : i ≤ j) : wrap64 ((IntKind.u64.wrap (wrap64 ((i : Int) + (j : Int)))) / 2) = (((i + j) / 2 : Nat) : Int) := by
  have h1 : wrap64 ((i : Int) + (j : Int)) = (i : Int) + j := by unfold wrap64; omega
  have h2 : IntKind.u64.wrap ((i : Int) + (j : Int)) = (i : Int) + j := by
    simp [IntKind.wrap, IntKind.signed, IntKind.bits]; omega
  rw [h1, h2]
  unfold wrap64
  omega

theorem rd_get (l : List Int) (i : Nat) (h : i < l.length) : rd l (i : Int) = l[i] := by simp [rd, h]

theorem less_is (a b : Int) : cmp_Less_int64.f a b = some (decide (a < b)) := by
  simp [cmp_Less_int64.f, cmp_isNaN_int64.f]

theorem bs_loop (l : List Int) (t : Int) (hl : l.length ≤ 2305843009213693952) : ∀ (d k i j : Nat), j - i ≤ d → d < k → i ≤ j → j ≤ l.length →
    ∃ (m : Nat) (ok : Bool), slices_BinarySearch_int64_int64.l0 k l t (l.length : Int) (i : Int) (j : Int) = some ((m : Int), ok) ∧ i ≤ m ∧ m ≤ j ∧
      (Asc l → (∀ q (h : q < l.length), q < i → l[q] < t) → (∀ q (h : q < l.length), j ≤ q → t ≤ l[q]) →
        ((∀ q (h : q < l.length), q < m → l[q] < t) ∧ (∀ q (h : q < l.length), m ≤ q → t ≤ l[q]) ∧ ok = decide (t ∈ l))) := by
  intro d
  induction d with
  | zero =>
    intro k i j hd hk hij hj
    obtain ⟨k, rfl⟩ : ∃ m, k = m + 1 := ⟨k - 1, by omega⟩
    obtain rfl : i = j := by omega
    simp only [slices_BinarySearch_int64_int64.l0]
    rw [if_neg (by omega)]
    by_cases hi : i < l.length
    · rw [if_pos (by omega), if_pos (by omega), if_pos (by omega), rd_get l i hi]
      by_cases he : l[i] = t
      · rw [if_pos he]
        refine ⟨i, true, rfl, Nat.le_refl _, Nat.le_refl _, fun hs h1 h2 => ⟨h1, h2, ?_⟩⟩
        have : t ∈ l := he ▸ List.getElem_mem hi
        simp [this]
      · rw [if_neg he]
        refine ⟨i, false, by simp [slices_isNaN_int64.f], Nat.le_refl _, Nat.le_refl _, fun hs h1 h2 => ⟨h1, h2, ?_⟩⟩
        have : t ∉ l := by
          intro hm
          obtain ⟨q, hq, rfl⟩ := List.mem_iff_getElem.1 hm
          rcases Nat.lt_trichotomy q i with h | h | h
          · have := h1 q hq h; omega
          · subst h; exact he rfl
          · have := h2 i hi (Nat.le_refl _)
            have := List.pairwise_iff_getElem.1 hs i q hi hq h
            omega
        simp [this]
    · rw [if_neg (by omega)]
      refine ⟨i, false, rfl, Nat.le_refl _, Nat.le_refl _, fun hs h1 h2 => ⟨h1, h2, ?_⟩⟩
      have : t ∉ l := by
        intro hm
        obtain ⟨q, hq, rfl⟩ := List.mem_iff_getElem.1 hm
        have := h1 q hq (by omega); omega
      simp [this]
  | succ d ih =>
    intro k i j hd hk hij hj
    by_cases hlt : i < j
    · obtain ⟨k, rfl⟩ : ∃ m, k = m + 1 := ⟨k - 1, by omega⟩
      have hm1 : (i + j) / 2 < l.length := by omega
      simp only [slices_BinarySearch_int64_int64.l0]
      rw [if_pos (by omega), mid_eq i j (by omega) hij, if_pos (by omega), if_pos (by omega), rd_get l _ hm1, less_is]
      simp only [Option.bind_some]
      by_cases hc : l[(i + j) / 2] < t
      · have hw : wrap64 ((((i + j) / 2 : Nat) : Int) + 1) = (((i + j) / 2 + 1 : Nat) : Int) := by unfold wrap64; omega
        simp only [hc, decide_true, if_true, hw]
        obtain ⟨m, ok, h1, h2, h3, h4⟩ := ih k ((i + j) / 2 + 1) j (by omega) (by omega) (by omega) hj
        refine ⟨m, ok, h1, by omega, h3, fun hs g1 g2 => h4 hs (fun q hq hqi => ?_) g2⟩
        rcases Nat.lt_or_ge q ((i + j) / 2) with h | h
        · have := List.pairwise_iff_getElem.1 hs q _ hq hm1 h; omega
        · obtain rfl : q = (i + j) / 2 := by omega
          exact hc
      · simp only [hc, decide_false, Bool.false_eq_true, if_false]
        obtain ⟨m, ok, h1, h2, h3, h4⟩ := ih k i ((i + j) / 2) (by omega) (by omega) (by omega) (by omega)
        refine ⟨m, ok, h1, h2, by omega, fun hs g1 g2 => h4 hs g1 (fun q hq hqi => ?_)⟩
        rcases Nat.lt_or_ge ((i + j) / 2) q with h | h
        · have := List.pairwise_iff_getElem.1 hs _ q hm1 hq h; omega
        · obtain rfl : q = (i + j) / 2 := by omega
          omega
    · obtain ⟨m, ok, h1, h2⟩ := ih k i j (by omega) (by omega) hij hj
      exact ⟨m, ok, h1, h2⟩

/-- What the search comes to. -/
def bsOf (l : List Int) (t : Int) : Int × Bool := (slices_BinarySearch_int64_int64.f (l.length + 1) l t).getD (0, false)
theorem bs_is (l : List Int) (t : Int) (hl : l.length ≤ 2305843009213693952) : slices_BinarySearch_int64_int64.f (l.length + 1) l t = some (bsOf l t) := by
  obtain ⟨m, ok, h, _⟩ := bs_loop l t hl l.length (l.length + 1) 0 l.length (by omega) (by omega) (by omega) (Nat.le_refl _)
  unfold bsOf slices_BinarySearch_int64_int64.f
  rw [show ((0 : Nat) : Int) = 0 from rfl] at h
  rw [h]; rfl
theorem bs_range (l : List Int) (t : Int) (hl : l.length ≤ 2305843009213693952) : 0 ≤ (bsOf l t).1 ∧ (bsOf l t).1 ≤ l.length := by
  obtain ⟨m, ok, h, _, h3, _⟩ := bs_loop l t hl l.length (l.length + 1) 0 l.length (by omega) (by omega) (by omega) (Nat.le_refl _)
  have := bs_is l t hl
  unfold slices_BinarySearch_int64_int64.f at this
  rw [show ((0 : Nat) : Int) = 0 from rfl] at h
  rw [h] at this
  injection this with this
  rw [← this]
  simp; omega
theorem bs_asc (l : List Int) (t : Int) (hl : l.length ≤ 2305843009213693952) (hs : Asc l) : ∃ m : Nat, (bsOf l t).1 = m ∧ m ≤ l.length ∧ (∀ q (h : q < l.length), q < m → l[q] < t) ∧ (∀ q (h : q < l.length), m ≤ q → t ≤ l[q]) ∧ (bsOf l t).2 = decide (t ∈ l) := by
  obtain ⟨m, ok, h, _, h3, h4⟩ := bs_loop l t hl l.length (l.length + 1) 0 l.length (by omega) (by omega) (by omega) (Nat.le_refl _)
  have := bs_is l t hl
  unfold slices_BinarySearch_int64_int64.f at this
  rw [show ((0 : Nat) : Int) = 0 from rfl] at h
  rw [h] at this
  injection this with this
  obtain ⟨g1, g2, g3⟩ := h4 hs (fun q _ h => by omega) (fun q hq h => by omega)
  rw [← this]
  exact ⟨m, rfl, h3, g1, g2, g3⟩

/-- What has answers. -/
def hasB (l : List Int) (f : Int) : Bool := (bsOf l f).2
theorem has_asc (l : List Int) (f : Int) (hl : l.length ≤ 2305843009213693952) (hs : Asc l) : hasB l f = decide (f ∈ l) := by
  obtain ⟨_, _, _, _, _, h⟩ := bs_asc l f hl hs
  exact h
theorem has_calls (n : Int) (A : Option Addr) (c : Nat) (l : List Int) (f : Int) (w : World) (hr : Ki.C w A l.length l) (hc : l.length ≤ c) (hl : l.length ≤ 2305843009213693952) :
    Calls Try.prog 59 #[.agg #[I n, .slice A l.length c], I f] w fun e w' => e = .returned (.bool (hasB l f)) ∧ Grew w w' :=
  impl_Complex_has.calls (l.length + 1) n A c l f (hasB l f) w hr hc (by unfold impl_Complex_has.f; rw [bs_is l f hl]; rfl)

end Go.Proofs.Ytoeapnempdgagaa.K
