/- The reference's IsComplex comes to what the program's comes to. -/
import Derived.Test.YtoeapnempdgagaaIsC
import Derived.Test.YtoeapnempdgagaaPLaws
import Derived.Test.YtoeapnempdgagaaQx1
import Derived.Test.YtoeapnempdgagaaQx3
import Derived.Test.YtoeapnempdgagaaQx4
import Derived.Test.YtoeapnempdgagaaQx5
namespace Go.Proofs.Ytoeapnempdgagaa.K
open Go.RowKit Go.Shelf Go.Proofs.Ytoeapnempdgagaa.Q Go.Proofs.YtoeapnempdgagaaW.PrintWords Go.Proofs.YtoeapnempdgagaaW.PrintLast Go.Proofs.YtoeapnempdgagaaW.PrintMore
set_option linter.unusedVariables false
set_option linter.unusedSimpArgs false

theorem specIn_is (a b c : Int) : spec_l01In.f a b c = some (decide (b ≤ a ∧ a ≤ c)) := by
  unfold spec_l01In.f
  by_cases h : b ≤ a
  · rw [if_pos (by omega)]; simp [h]
  · rw [if_neg (by omega)]; simp [h]
theorem u64_id (n : Int) (h0 : 0 ≤ n) (h1 : n ≤ 9223372036854775807) : IntKind.u64.wrap n = n := by
  simp [IntKind.wrap, IntKind.signed, IntKind.bits]; omega
theorem specAll_is (n : Int) (h0 : 0 ≤ n) (h6 : n ≤ 62) : spec_l01All.f n = some (fullOf n) := by
  unfold spec_l01All.f fullOf
  have h := two_pow n.toNat 62 (by omega)
  rw [u64_id n h0 (by omega), if_pos h0, shl_one n h0 h6, w64 _ (by omega) (by omega)]

theorem specHas_loop (n x : Int) (l : List Int) (hl : l.length ≤ 9223372036854775806) : ∀ (d i k : Nat), l.length - i = d → i ≤ l.length → d < k →
    spec_l01Has.l0 k x (i : Int) n l = some (decide (x ∈ l.drop i)) := by
  intro d
  induction d with
  | zero =>
    intro i k hd hi hk
    obtain ⟨k, rfl⟩ : ∃ m, k = m + 1 := ⟨k - 1, by omega⟩
    obtain rfl : i = l.length := by omega
    simp only [spec_l01Has.l0]
    rw [if_neg (by omega)]
    simp
  | succ d ih =>
    intro i k hd hi hk
    obtain ⟨k, rfl⟩ : ∃ m, k = m + 1 := ⟨k - 1, by omega⟩
    simp only [spec_l01Has.l0]
    have hil : i < l.length := by omega
    rw [if_pos (by omega), if_pos (by omega), rd_nat l i hil, w64 _ (by omega) (by omega), nat_succ, List.drop_eq_getElem_cons hil]
    by_cases h : l[i] = x
    · rw [if_pos h]
      exact congrArg some (decide_eq_true (by rw [h]; exact List.mem_cons_self)).symm
    · rw [if_neg h, ih (i + 1) k (by omega) (by omega) (by omega)]
      exact congrArg some (decide_eq_decide.2 (by rw [List.mem_cons]; constructor <;> intro h2; exact .inr h2; exact h2.resolve_left (fun e => h e.symm)))
theorem specHas_is (n x : Int) (l : List Int) (hl : l.length ≤ 9223372036854775806) (k : Nat) (hk : l.length < k) : spec_l01Has.f k n l x = some (decide (x ∈ l)) := by
  unfold spec_l01Has.f
  have := specHas_loop n x l hl l.length 0 k (by omega) (by omega) hk
  simpa using this

theorem specBelow_64 : ∀ m : Fin 64, m.val ≠ 0 → spec_l01Below.f 64 (m.val : Int) = some (bords (m.val : Int)) := by decide +kernel
theorem specBelow_is (f : Int) (h1 : 1 ≤ f) (h2 : f ≤ 63) (k : Nat) (hk : 64 ≤ k) : spec_l01Below.f k f = some (bords f) := by
  obtain ⟨m, rfl⟩ := Int.eq_ofNat_of_zero_le (show 0 ≤ f by omega)
  exact at_rounds (fun k => spec_l01Below.mono _ k) hk (specBelow_64 ⟨m, by omega⟩ (by show m ≠ 0; omega))

/-- A list that is in range and ascending is ascending. -/
theorem asc_of_good (n : Int) (l : List Int) (h : ∀ j, j < l.length → goodAt n l j) : Asc l := by
  rw [Asc, List.pairwise_iff_getElem]
  intro i j hi hj hij
  induction j with
  | zero => omega
  | succ j ih =>
    have h1 := (h (j + 1) hj hj).2.2 (by omega)
    simp only [Nat.add_sub_cancel] at h1
    rcases Nat.lt_or_ge i j with h2 | h2
    · have := ih (by omega) h2
      omega
    · obtain rfl : i = j := by omega
      exact h1
theorem good_iff (n : Int) (l : List Int) : rangeAsc n l = true ↔ ∀ j, j < l.length → goodAt n l j := by simp [rangeAsc]
theorem isC_iff (n : Int) (l : List Int) : isC n l = true ↔ (1 ≤ n ∧ n ≤ 6) ∧ (∀ j, j < l.length → goodAt n l j) ∧ ∀ f ∈ l, closedAt l f = true := by
  simp [isC, good_iff, and_assoc]

theorem specIs_l2 (n : Int) (l : List Int) (hl : l.length ≤ 2097152) (hs : Asc l) (x4 : Int) (bs : List Int) (hb : bs.length ≤ 6) (R : Nat) (r : Bool)
    (hnext : ∀ k, R ≤ k → spec_l01Is.l1 k (wrap64 (x4 + 1)) n l = some r) : ∀ (d i k : Nat), bs.length - i = d → i ≤ bs.length → R + l.length + 1 + d < k →
    spec_l01Is.l2 k x4 bs (i : Int) n l = some ((bs.drop i).all (hasB l) && r) := by
  intro d
  induction d with
  | zero =>
    intro i k hd hi hk
    obtain ⟨k, rfl⟩ : ∃ m, k = m + 1 := ⟨k - 1, by omega⟩
    obtain rfl : i = bs.length := by omega
    simp only [spec_l01Is.l2]
    rw [if_neg (by omega), hnext k (by omega)]
    simp
  | succ d ih =>
    intro i k hd hi hk
    obtain ⟨k, rfl⟩ : ∃ m, k = m + 1 := ⟨k - 1, by omega⟩
    simp only [spec_l01Is.l2]
    have hil : i < bs.length := by omega
    rw [if_pos (by omega), if_pos (by omega), rd_nat bs i hil, specHas_is n _ l (by omega) k (by omega)]
    simp only [Option.bind_some]
    rw [w64 ((i : Int) + 1) (by omega) (by omega), nat_succ, List.drop_eq_getElem_cons hil, List.all_cons, has_asc l _ (by omega) hs]
    by_cases h : bs[i] ∈ l
    · simp only [h, decide_true, if_true, Bool.true_and]
      exact ih (i + 1) k (by omega) (by omega) (by omega)
    · simp only [h, decide_false, Bool.false_and, Bool.false_eq_true, if_false]

theorem specIs_l1 (n : Int) (l : List Int) (hl : l.length ≤ 2097152) (hn : 1 ≤ n ∧ n ≤ 6) (hg : ∀ j, j < l.length → goodAt n l j) : ∀ (d i k : Nat), l.length - i = d → i ≤ l.length → 9 * d + (d + 1) * (l.length + 2) + 70 < k →
    spec_l01Is.l1 k (i : Int) n l = some ((l.drop i).all (closedAt l)) := by
  have hs := asc_of_good n l hg
  have hF := full_range n hn
  intro d
  induction d with
  | zero =>
    intro i k hd hi hk
    obtain ⟨k, rfl⟩ : ∃ m, k = m + 1 := ⟨k - 1, by omega⟩
    obtain rfl : i = l.length := by omega
    simp only [spec_l01Is.l1]
    rw [if_neg (by omega)]
    simp
  | succ d ih =>
    intro i k hd hi hk
    obtain ⟨k, rfl⟩ : ∃ m, k = m + 1 := ⟨k - 1, by omega⟩
    simp only [spec_l01Is.l1]
    have hil : i < l.length := by omega
    have hgi := hg i hil hil
    have hmul : (d + 1 + 1) * (l.length + 2) = (d + 1) * (l.length + 2) + (l.length + 2) := by rw [Nat.add_mul]; omega
    rw [if_pos (by omega), if_pos (by omega), rd_nat l i hil, specBelow_is l[i] (by omega) (by omega) k (by omega)]
    simp only [Option.bind_some]
    have := specIs_l2 n l hl hs (i : Int) (bords l[i]) (bords_length _) (9 * d + (d + 1) * (l.length + 2) + 71) ((l.drop (i + 1)).all (closedAt l))
      (fun k hk => by rw [w64 _ (by omega) (by omega), nat_succ]; exact ih (i + 1) k (by omega) (by omega) (by omega)) (bords l[i]).length 0 k (by omega) (by omega) (by have := bords_length l[i]; omega)
    rw [show ((0 : Nat) : Int) = 0 from rfl] at this
    rw [this, List.drop_eq_getElem_cons hil, List.all_cons, List.drop_zero]
    rfl

theorem specIs_l0 (n : Int) (l : List Int) (hl : l.length ≤ 2097152) (hn : 1 ≤ n ∧ n ≤ 6) : ∀ (d i k : Nat), l.length - i = d → i ≤ l.length → (∀ j, j < i → goodAt n l j) →
    d + 9 * l.length + (l.length + 1) * (l.length + 2) + 72 < k → spec_l01Is.l0 k (i : Int) n l = some (isC n l) := by
  have hF := full_range n hn
  intro d
  induction d with
  | zero =>
    intro i k hd hi hg hk
    obtain ⟨k, rfl⟩ : ∃ m, k = m + 1 := ⟨k - 1, by omega⟩
    obtain rfl : i = l.length := by omega
    simp only [spec_l01Is.l0]
    rw [if_neg (by omega)]
    have := specIs_l1 n l hl hn hg l.length 0 k (by omega) (by omega) (by omega)
    rw [show ((0 : Nat) : Int) = 0 from rfl] at this
    rw [this, List.drop_zero]
    have h2 := (good_iff n l).2 hg
    simp [isC, hn, h2]
  | succ d ih =>
    intro i k hd hi hg hk
    obtain ⟨k, rfl⟩ : ∃ m, k = m + 1 := ⟨k - 1, by omega⟩
    simp only [spec_l01Is.l0]
    have hil : i < l.length := by omega
    have hbad : ¬ goodAt n l i → isC n l = false := fun hb => by
      unfold isC
      rw [rangeAsc_false n l i hil hb]
      simp
    rw [if_pos (by omega), if_pos (by omega), specAll_is n (by omega) (by omega)]
    simp only [Option.bind_some]
    rw [rd_nat l i hil, specIn_is, w64 ((i : Int) + 1) (by omega) (by omega), nat_succ]
    simp only [Option.bind_some]
    by_cases hin : 1 ≤ l[i] ∧ l[i] ≤ fullOf n
    · simp only [hin, and_self, decide_true, if_true]
      by_cases hi0 : i = 0
      · subst hi0
        rw [if_neg (by omega)]
        exact ih 1 k (by omega) (by omega) (fun j hj => (show j = 0 by omega) ▸ (fun h => ⟨hin.1, hin.2, fun h0 => absurd h0 (Nat.lt_irrefl 0)⟩)) (by omega)
      · have e1 : ((i : Int) - 1) = ((i - 1 : Nat) : Int) := by omega
        rw [if_pos (by omega), w64 _ (by omega) (by omega), e1, if_pos (by omega), if_pos (by omega), rd_nat l (i - 1) (by omega)]
        by_cases hle : l[i] ≤ l[i - 1]
        · rw [if_pos hle, hbad (fun h => by have := (h hil).2.2 (by omega); omega)]
        · rw [if_neg hle]
          exact ih (i + 1) k (by omega) (by omega) (fun j hj => by
            rcases Nat.lt_or_ge j i with h | h
            · exact hg j h
            · obtain rfl : j = i := by omega
              exact fun _ => ⟨hin.1, hin.2, fun _ => by omega⟩) (by omega)
    · simp only [hin, decide_false, Bool.false_eq_true, if_false]
      rw [hbad (fun h => hin ⟨(h hil).1, (h hil).2.1⟩)]

/-- How many rounds the reference's IsComplex takes at most. -/
def isK (l : List Int) : Nat := 10 * l.length + (l.length + 1) * (l.length + 2) + 73
theorem specIs_is (n : Int) (l : List Int) (hl : l.length ≤ 2097152) (k : Nat) (hk : isK l ≤ k) : spec_l01Is.f k n l = some (isC n l) := by
  unfold isK at hk
  unfold spec_l01Is.f
  rw [specIn_is]
  simp only [Option.bind_some]
  by_cases hn : 1 ≤ n ∧ n ≤ 6
  · simp only [hn, and_self, decide_true, if_true]
    have := specIs_l0 n l hl hn l.length 0 k (by omega) (by omega) (fun j hj => absurd hj (Nat.not_lt_zero _)) (by omega)
    simpa using this
  · simp only [hn, decide_false, Bool.false_eq_true, if_false]
    simp [isC, hn]

end Go.Proofs.Ytoeapnempdgagaa.K
