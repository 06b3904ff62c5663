/- Texts of this work, put together by its pack.py. No conditions. -/
import Derived.Test.YtoeapnempdgagaaZB2
import Derived.Below
import Derived.Deep.Draws
import Derived.Deep.AppendLies
import Derived.Maps.AppendAt
import Derived.OwnWalk
import Derived.Laws.BytesArg
import Derived.Laws.MakeOwn
import Derived.Laws.OwnMore
import Derived.Deep.OwnRows
import Derived.Tactics
import Derived.Lib.ConvBytes
import Derived.Laws.Slices
import Derived.WalkKit
import Derived.KernelRfl
import Derived.RowKit3
import Derived.Deep.LoopGhost
import Derived.Deep.QuietTactic
import Derived.BigQuiet
import Derived.WideLaws
import Derived.Deep.DeepCutAuto
import Derived.Deep.CutBlock
import Derived.Deep.RegionHeld3
import Derived.Laws.Rows
import Derived.Lib.AppendStr
import Derived.ArgAppend
import Derived.Laws.IdiomCopy
import Derived.RowKit
import Derived.OrdersHeld
import Derived.Laws.BitsLemmas
import Derived.Test.YtoeapnempdgagaaProg
import Derived.Shelf.Abstract
import Derived.Laws.StructEq
import Derived.RangeFuncBox
import Derived.RangeFuncLeaves
import Derived.OwnWalkIn
import Derived.TacticsInMore
import Derived.LoopNIn
import Derived.LoopIn
import Derived.Lib.SliceRun
section
/- Plain laws of the laws' own helpers: copies, comparisons, marks. -/
namespace Go.Proofs.Ytoeapnempdgagaa.K
open Go.RowKit Go.Shelf Go.Proofs.Ytoeapnempdgagaa.Q Go.Proofs.YtoeapnempdgagaaW.PrintWords Go.Proofs.YtoeapnempdgagaaW.PrintLast Go.Proofs.YtoeapnempdgagaaW.PrintMore
set_option linter.unusedVariables false
set_option linter.unusedSimpArgs false

theorem w64 (x : Int) (h0 : -9223372036854775808 ≤ x) (h1 : x ≤ 9223372036854775807) : wrap64 x = x := by unfold wrap64; omega
theorem rd_nat (l : List Int) (i : Nat) (h : i < l.length) : rd l (i : Int) = l[i] := by simp [rd, h]
theorem nat_succ (i : Nat) : (i : Int) + 1 = ((i + 1 : Nat) : Int) := by omega

theorem szInt64S_is (l : List Int) (a : Int) (ha : 0 ≤ a ∧ a ≤ 1048576) (hl : l.length ≤ 9223372036854775807) : laws_szInt64S.f l a = some (if a < l.length then -1 else a - l.length) := by
  unfold laws_szInt64S.f
  rw [w64 _ (by omega) (by omega)]
  by_cases h : a < l.length
  · rw [if_pos (by omega), if_pos h]
  · rw [if_neg (by omega), if_neg h]
theorem szComplex_is (n : Int) (l : List Int) (a : Int) (ha : 0 ≤ a ∧ a ≤ 1048576) (hl : l.length ≤ 9223372036854775807) : laws_szComplex.f n l a = some (if a < l.length then -1 else a - l.length) := by
  unfold laws_szComplex.f
  rw [szInt64S_is l a ha hl]
  simp only [Option.bind_some]
  by_cases h : a < l.length
  · rw [if_pos h, if_pos (by omega)]
  · rw [if_neg h, if_neg (by omega)]

theorem set_take (l : List Int) (i : Nat) (h : i < l.length) : (l.take i ++ List.replicate (l.length - i) 0).set i l[i] = l.take (i + 1) ++ List.replicate (l.length - (i + 1)) 0 := by
  rw [List.set_append_right _ _ (by simp; omega)]
  rw [List.take_succ_eq_append_getElem h, List.append_assoc]
  congr 1
  obtain ⟨m, hm⟩ : ∃ m, l.length - i = m + 1 := ⟨l.length - i - 1, by omega⟩
  rw [hm, List.replicate_succ]
  simp
  have e1 : i - min i l.length = 0 := by omega
  rw [e1]
  simp
  omega

theorem toInt64S_loop (l : List Int) (hl : l.length ≤ 2097152) : ∀ (d i k : Nat), l.length - i = d → i ≤ l.length → d < k → laws_toInt64S.l0 k l (l.take i ++ List.replicate (l.length - i) 0) (i : Int) = some l := by
  intro d
  induction d with
  | zero =>
    intro i k hd hi hk
    obtain ⟨k, rfl⟩ : ∃ m, k = m + 1 := ⟨k - 1, by omega⟩
    obtain rfl : i = l.length := by omega
    simp only [laws_toInt64S.l0]
    rw [if_neg (by omega)]
    simp
  | succ d ih =>
    intro i k hd hi hk
    obtain ⟨k, rfl⟩ : ∃ m, k = m + 1 := ⟨k - 1, by omega⟩
    simp only [laws_toInt64S.l0]
    have hil : i < l.length := by omega
    rw [if_pos (by omega), if_pos (by omega), if_pos (by simp; omega), rd_nat l i hil, w64 _ (by omega) (by omega), nat_succ, Int.toNat_natCast, set_take l i hil]
    exact ih (i + 1) k (by omega) (by omega) (by omega)
theorem toInt64S_is (l : List Int) (hl : l.length ≤ 2097152) (k : Nat) (hk : l.length < k) : laws_toInt64S.f k l = some l := by
  unfold laws_toInt64S.f
  rw [if_pos (by omega), if_pos (by simp; omega)]
  have := toInt64S_loop l hl l.length 0 k (by omega) (by omega) hk
  simpa using this
theorem toComplex_is (n : Int) (l : List Int) (hl : l.length ≤ 2097152) (k : Nat) (hk : l.length < k) : laws_toComplex.f k n l = some (n, l) := by
  unfold laws_toComplex.f
  rw [toInt64S_is l hl k hk]
  rfl

theorem eqInt64S_loop (a b : List Int) (hab : a.length = b.length) (hl : a.length ≤ 9223372036854775807) : ∀ (d i k : Nat), a.length - i = d → i ≤ a.length → d < k →
    laws_eqInt64S.l0 k a b (i : Int) = some (decide (a.drop i = b.drop i)) := by
  intro d
  induction d with
  | zero =>
    intro i k hd hi hk
    obtain ⟨k, rfl⟩ : ∃ m, k = m + 1 := ⟨k - 1, by omega⟩
    obtain rfl : i = a.length := by omega
    simp only [laws_eqInt64S.l0]
    rw [if_neg (by omega)]
    have : b.drop a.length = [] := by rw [hab]; simp
    simp [this]
  | succ d ih =>
    intro i k hd hi hk
    obtain ⟨k, rfl⟩ : ∃ m, k = m + 1 := ⟨k - 1, by omega⟩
    simp only [laws_eqInt64S.l0]
    have hia : i < a.length := by omega
    have hib : i < b.length := by omega
    rw [if_pos (by omega), if_pos (by omega), if_pos (by omega), rd_nat a i hia, rd_nat b i hib, w64 _ (by omega) (by omega), nat_succ]
    rw [List.drop_eq_getElem_cons hia, List.drop_eq_getElem_cons hib]
    by_cases h : a[i] = b[i]
    · rw [if_pos h, ih (i + 1) k (by omega) (by omega) (by omega)]
      exact congrArg some (decide_eq_decide.2 (by rw [List.cons.injEq]; simp only [h, true_and]))
    · rw [if_neg h]
      exact congrArg some (decide_eq_false (by rw [List.cons.injEq]; exact fun e => h e.1)).symm
theorem eqInt64S_is (a b : List Int) (hl : a.length ≤ 9223372036854775807) (k : Nat) (hk : a.length < k) : laws_eqInt64S.f k a b = some (decide (a = b)) := by
  unfold laws_eqInt64S.f
  by_cases h : a.length = b.length
  · rw [if_pos (by omega)]
    have := eqInt64S_loop a b h hl a.length 0 k (by omega) (by omega) hk
    simpa using this
  · rw [if_neg (by omega)]
    have : a ≠ b := fun e => h (by rw [e])
    simp [this]
theorem eqComplex_is (n : Int) (a : List Int) (m : Int) (b : List Int) (hl : a.length ≤ 9223372036854775807) (k : Nat) (hk : a.length < k) : laws_eqComplex.f k n a m b = some (decide (n = m ∧ a = b)) := by
  unfold laws_eqComplex.f
  by_cases h : n = m
  · rw [if_pos h, eqInt64S_is a b hl k hk]
    by_cases h2 : a = b <;> simp [h, h2]
  · rw [if_neg h]
    simp [h]

/-- The marks from a on. -/
def marks (a : Int) (m : Nat) : List Int := (List.range m).map fun (i : Nat) => a + (i : Int)
theorem marks_length (a : Int) (m : Nat) : (marks a m).length = m := by simp [marks]
theorem marks_get (a : Int) (m i : Nat) (h : i < m) : (marks a m)[i]'(by rw [marks_length]; exact h) = a + i := by simp [marks]

theorem mark_loop (l : List Int) (a : Int) (ha : 0 ≤ a ∧ a ≤ 1000000000) (hl : l.length ≤ 100000000) : ∀ (d i k : Nat), l.length - i = d → i ≤ l.length → d < k →
    laws_markInt64S.l0 k (marks a i ++ l.drop i) (a + i) (i : Int) = some (a + l.length, marks a l.length) := by
  intro d
  induction d with
  | zero =>
    intro i k hd hi hk
    obtain ⟨k, rfl⟩ : ∃ m, k = m + 1 := ⟨k - 1, by omega⟩
    obtain rfl : i = l.length := by omega
    simp only [laws_markInt64S.l0]
    rw [if_neg (by simp [marks_length])]
    simp
  | succ d ih =>
    intro i k hd hi hk
    obtain ⟨k, rfl⟩ : ∃ m, k = m + 1 := ⟨k - 1, by omega⟩
    simp only [laws_markInt64S.l0]
    have hil : i < l.length := by omega
    rw [if_pos (by simp [marks_length]; omega), if_pos (by omega), w64 _ (by omega) (by omega), w64 _ (by omega) (by omega), nat_succ, Int.toNat_natCast]
    have e : (marks a i ++ l.drop i).set i (a + i) = marks a (i + 1) ++ l.drop (i + 1) := by
      rw [List.set_append_right _ _ (by simp [marks_length]), marks_length, Nat.sub_self, List.drop_eq_getElem_cons hil, List.set_cons_zero, show marks a (i + 1) = marks a i ++ [a + (i : Int)] by simp [marks, List.range_succ], List.append_assoc]
      rfl
    rw [e, show a + (i : Int) + 1 = a + ((i + 1 : Nat) : Int) by omega]
    exact ih (i + 1) k (by omega) (by omega) (by omega)
theorem markInt64S_is (l : List Int) (a : Int) (ha : 0 ≤ a ∧ a ≤ 1000000000) (hl : l.length ≤ 100000000) (k : Nat) (hk : l.length < k) : laws_markInt64S.f k l a = some (a + l.length, marks a l.length) := by
  unfold laws_markInt64S.f
  have := mark_loop l a ha hl l.length 0 k (by omega) (by omega) hk
  simpa [marks] using this
theorem markComplex_is (n : Int) (l : List Int) (a : Int) (ha : 0 ≤ a ∧ a ≤ 1000000000) (hl : l.length ≤ 100000000) (k : Nat) (hk : l.length < k) : laws_markComplex.f k n l a = some (a + l.length, marks a l.length) := by
  unfold laws_markComplex.f
  rw [markInt64S_is l a ha hl k hk]
  rfl

theorem held_loop (m : Nat) (a : Int) (ha : 0 ≤ a ∧ a ≤ 1000000000) (hl : m ≤ 100000000) : ∀ (d i k : Nat), m - i = d → i ≤ m → d < k →
    laws_heldInt64S.l0 k (marks a m) (a + i) (i : Int) = some (a + m) := by
  intro d
  induction d with
  | zero =>
    intro i k hd hi hk
    obtain ⟨k, rfl⟩ : ∃ m, k = m + 1 := ⟨k - 1, by omega⟩
    obtain rfl : i = m := by omega
    simp only [laws_heldInt64S.l0]
    rw [if_neg (by simp [marks_length])]
  | succ d ih =>
    intro i k hd hi hk
    obtain ⟨k, rfl⟩ : ∃ m, k = m + 1 := ⟨k - 1, by omega⟩
    simp only [laws_heldInt64S.l0]
    have him : i < m := by omega
    rw [if_pos (by simp [marks_length]; omega), if_pos (by omega), rd_nat _ i (by rw [marks_length]; exact him), marks_get a m i him, if_pos rfl, w64 _ (by omega) (by omega), w64 _ (by omega) (by omega), nat_succ,
      show a + (i : Int) + 1 = a + ((i + 1 : Nat) : Int) by omega]
    exact ih (i + 1) k (by omega) (by omega) (by omega)
theorem heldInt64S_is (m : Nat) (a : Int) (ha : 0 ≤ a ∧ a ≤ 1000000000) (hl : m ≤ 100000000) (k : Nat) (hk : m < k) : laws_heldInt64S.f k (marks a m) a = some (a + m) := by
  unfold laws_heldInt64S.f
  have := held_loop m a ha hl m 0 k (by omega) (by omega) hk
  simpa using this
theorem heldComplex_is (n : Int) (m : Nat) (a : Int) (ha : 0 ≤ a ∧ a ≤ 1000000000) (hl : m ≤ 100000000) (k : Nat) (hk : m < k) : laws_heldComplex.f k n (marks a m) a = some (a + m) := by
  unfold laws_heldComplex.f
  rw [heldInt64S_is m a ha hl k hk]
  simp only [Option.bind_some]
  rw [if_neg (by omega)]

end Go.Proofs.Ytoeapnempdgagaa.K
end

section
/- The reference's small functions: ranges, all vertices, numbers of vertices. -/
namespace Go.Proofs.Ytoeapnempdgagaa.K
open Go.RowKit Go.Shelf Go.Proofs.Ytoeapnempdgagaa.Q Go.Proofs.YtoeapnempdgagaaW.PrintWords Go.Proofs.YtoeapnempdgagaaW.PrintLast Go.Proofs.YtoeapnempdgagaaW.PrintMore
set_option linter.unusedVariables false
set_option linter.unusedSimpArgs false

theorem specIn_is (a b c : Int) : spec_l01In.f a b c = some (decide (b ≤ a ∧ a ≤ c)) := by
  unfold spec_l01In.f
  by_cases h : b ≤ a
  · rw [if_pos (by omega)]; simp [h]
  · rw [if_neg (by omega)]; simp [h]
theorem u64_id (n : Int) (h0 : 0 ≤ n) (h1 : n ≤ 9223372036854775807) : IntKind.u64.wrap n = n := by
  simp [IntKind.wrap, IntKind.signed, IntKind.bits]; omega
theorem specAll_is (n : Int) (h0 : 0 ≤ n) (h6 : n ≤ 62) : spec_l01All.f n = some (fullOf n) := by
  unfold spec_l01All.f fullOf
  have h := two_pow n.toNat 62 (by omega)
  rw [u64_id n h0 (by omega), if_pos h0, shl_one n h0 h6, w64 _ (by omega) (by omega)]

end Go.Proofs.Ytoeapnempdgagaa.K
end

section
/- The reference's IsComplex comes to what the program's comes to. -/
namespace Go.Proofs.Ytoeapnempdgagaa.K
open Go.RowKit Go.Shelf Go.Proofs.Ytoeapnempdgagaa.Q Go.Proofs.YtoeapnempdgagaaW.PrintWords Go.Proofs.YtoeapnempdgagaaW.PrintLast Go.Proofs.YtoeapnempdgagaaW.PrintMore
set_option linter.unusedVariables false
set_option linter.unusedSimpArgs false

theorem specHas_loop (n x : Int) (l : List Int) (hl : l.length ≤ 9223372036854775806) : ∀ (d i k : Nat), l.length - i = d → i ≤ l.length → d < k →
    spec_l01Has.l0 k x (i : Int) n l = some (decide (x ∈ l.drop i)) := by
  intro d
  induction d with
  | zero =>
    intro i k hd hi hk
    obtain ⟨k, rfl⟩ : ∃ m, k = m + 1 := ⟨k - 1, by omega⟩
    obtain rfl : i = l.length := by omega
    simp only [spec_l01Has.l0]
    rw [if_neg (by omega)]
    simp
  | succ d ih =>
    intro i k hd hi hk
    obtain ⟨k, rfl⟩ : ∃ m, k = m + 1 := ⟨k - 1, by omega⟩
    simp only [spec_l01Has.l0]
    have hil : i < l.length := by omega
    rw [if_pos (by omega), if_pos (by omega), rd_nat l i hil, w64 _ (by omega) (by omega), nat_succ, List.drop_eq_getElem_cons hil]
    by_cases h : l[i] = x
    · rw [if_pos h]
      exact congrArg some (decide_eq_true (by rw [h]; exact List.mem_cons_self)).symm
    · rw [if_neg h, ih (i + 1) k (by omega) (by omega) (by omega)]
      exact congrArg some (decide_eq_decide.2 (by rw [List.mem_cons]; constructor <;> intro h2; exact .inr h2; exact h2.resolve_left (fun e => h e.symm)))
theorem specHas_is (n x : Int) (l : List Int) (hl : l.length ≤ 9223372036854775806) (k : Nat) (hk : l.length < k) : spec_l01Has.f k n l x = some (decide (x ∈ l)) := by
  unfold spec_l01Has.f
  have := specHas_loop n x l hl l.length 0 k (by omega) (by omega) hk
  simpa using this

theorem specBelow_64 : ∀ m : Fin 64, m.val ≠ 0 → spec_l01Below.f 64 (m.val : Int) = some (bords (m.val : Int)) := by decide +kernel
theorem specBelow_is (f : Int) (h1 : 1 ≤ f) (h2 : f ≤ 63) (k : Nat) (hk : 64 ≤ k) : spec_l01Below.f k f = some (bords f) := by
  obtain ⟨m, rfl⟩ := Int.eq_ofNat_of_zero_le (show 0 ≤ f by omega)
  exact at_rounds (fun k => spec_l01Below.mono _ k) hk (specBelow_64 ⟨m, by omega⟩ (by show m ≠ 0; omega))

/-- A list that is in range and ascending is ascending. -/
theorem asc_of_good (n : Int) (l : List Int) (h : ∀ j, j < l.length → goodAt n l j) : Asc l := by
  rw [Asc, List.pairwise_iff_getElem]
  intro i j hi hj hij
  induction j with
  | zero => omega
  | succ j ih =>
    have h1 := (h (j + 1) hj hj).2.2 (by omega)
    simp only [Nat.add_sub_cancel] at h1
    rcases Nat.lt_or_ge i j with h2 | h2
    · have := ih (by omega) h2
      omega
    · obtain rfl : i = j := by omega
      exact h1
theorem good_iff (n : Int) (l : List Int) : rangeAsc n l = true ↔ ∀ j, j < l.length → goodAt n l j := by simp [rangeAsc]
theorem specIs_l2 (n : Int) (l : List Int) (hl : l.length ≤ 2097152) (hs : Asc l) (x4 : Int) (bs : List Int) (hb : bs.length ≤ 6) (R : Nat) (r : Bool)
    (hnext : ∀ k, R ≤ k → spec_l01Is.l1 k (wrap64 (x4 + 1)) n l = some r) : ∀ (d i k : Nat), bs.length - i = d → i ≤ bs.length → R + l.length + 1 + d < k →
    spec_l01Is.l2 k x4 bs (i : Int) n l = some ((bs.drop i).all (hasB l) && r) := by
  intro d
  induction d with
  | zero =>
    intro i k hd hi hk
    obtain ⟨k, rfl⟩ : ∃ m, k = m + 1 := ⟨k - 1, by omega⟩
    obtain rfl : i = bs.length := by omega
    simp only [spec_l01Is.l2]
    rw [if_neg (by omega), hnext k (by omega)]
    simp
  | succ d ih =>
    intro i k hd hi hk
    obtain ⟨k, rfl⟩ : ∃ m, k = m + 1 := ⟨k - 1, by omega⟩
    simp only [spec_l01Is.l2]
    have hil : i < bs.length := by omega
    rw [if_pos (by omega), if_pos (by omega), rd_nat bs i hil, specHas_is n _ l (by omega) k (by omega)]
    simp only [Option.bind_some]
    rw [w64 ((i : Int) + 1) (by omega) (by omega), nat_succ, List.drop_eq_getElem_cons hil, List.all_cons, has_asc l _ (by omega) hs]
    by_cases h : bs[i] ∈ l
    · simp only [h, decide_true, if_true, Bool.true_and]
      exact ih (i + 1) k (by omega) (by omega) (by omega)
    · simp only [h, decide_false, Bool.false_and, Bool.false_eq_true, if_false]

theorem specIs_l1 (n : Int) (l : List Int) (hl : l.length ≤ 2097152) (hn : 1 ≤ n ∧ n ≤ 6) (hg : ∀ j, j < l.length → goodAt n l j) : ∀ (d i k : Nat), l.length - i = d → i ≤ l.length → 9 * d + (d + 1) * (l.length + 2) + 70 < k →
    spec_l01Is.l1 k (i : Int) n l = some ((l.drop i).all (closedAt l)) := by
  have hs := asc_of_good n l hg
  have hF := full_range n hn
  intro d
  induction d with
  | zero =>
    intro i k hd hi hk
    obtain ⟨k, rfl⟩ : ∃ m, k = m + 1 := ⟨k - 1, by omega⟩
    obtain rfl : i = l.length := by omega
    simp only [spec_l01Is.l1]
    rw [if_neg (by omega)]
    simp
  | succ d ih =>
    intro i k hd hi hk
    obtain ⟨k, rfl⟩ : ∃ m, k = m + 1 := ⟨k - 1, by omega⟩
    simp only [spec_l01Is.l1]
    have hil : i < l.length := by omega
    have hgi := hg i hil hil
    have hmul : (d + 1 + 1) * (l.length + 2) = (d + 1) * (l.length + 2) + (l.length + 2) := by rw [Nat.add_mul]; omega
    rw [if_pos (by omega), if_pos (by omega), rd_nat l i hil, specBelow_is l[i] (by omega) (by omega) k (by omega)]
    simp only [Option.bind_some]
    have := specIs_l2 n l hl hs (i : Int) (bords l[i]) (bords_length _) (9 * d + (d + 1) * (l.length + 2) + 71) ((l.drop (i + 1)).all (closedAt l))
      (fun k hk => by rw [w64 _ (by omega) (by omega), nat_succ]; exact ih (i + 1) k (by omega) (by omega) (by omega)) (bords l[i]).length 0 k (by omega) (by omega) (by have := bords_length l[i]; omega)
    rw [show ((0 : Nat) : Int) = 0 from rfl] at this
    rw [this, List.drop_eq_getElem_cons hil, List.all_cons, List.drop_zero]
    rfl

theorem specIs_l0 (n : Int) (l : List Int) (hl : l.length ≤ 2097152) (hn : 1 ≤ n ∧ n ≤ 6) : ∀ (d i k : Nat), l.length - i = d → i ≤ l.length → (∀ j, j < i → goodAt n l j) →
    d + 9 * l.length + (l.length + 1) * (l.length + 2) + 72 < k → spec_l01Is.l0 k (i : Int) n l = some (isC n l) := by
  have hF := full_range n hn
  intro d
  induction d with
  | zero =>
    intro i k hd hi hg hk
    obtain ⟨k, rfl⟩ : ∃ m, k = m + 1 := ⟨k - 1, by omega⟩
    obtain rfl : i = l.length := by omega
    simp only [spec_l01Is.l0]
    rw [if_neg (by omega)]
    have := specIs_l1 n l hl hn hg l.length 0 k (by omega) (by omega) (by omega)
    rw [show ((0 : Nat) : Int) = 0 from rfl] at this
    rw [this, List.drop_zero]
    have h2 := (good_iff n l).2 hg
    simp [isC, hn, h2]
  | succ d ih =>
    intro i k hd hi hg hk
    obtain ⟨k, rfl⟩ : ∃ m, k = m + 1 := ⟨k - 1, by omega⟩
    simp only [spec_l01Is.l0]
    have hil : i < l.length := by omega
    have hbad : ¬ goodAt n l i → isC n l = false := fun hb => by
      unfold isC
      rw [rangeAsc_false n l i hil hb]
      simp
    rw [if_pos (by omega), if_pos (by omega), specAll_is n (by omega) (by omega)]
    simp only [Option.bind_some]
    rw [rd_nat l i hil, specIn_is, w64 ((i : Int) + 1) (by omega) (by omega), nat_succ]
    simp only [Option.bind_some]
    by_cases hin : 1 ≤ l[i] ∧ l[i] ≤ fullOf n
    · simp only [hin, and_self, decide_true, if_true]
      by_cases hi0 : i = 0
      · subst hi0
        rw [if_neg (by omega)]
        exact ih 1 k (by omega) (by omega) (fun j hj => (show j = 0 by omega) ▸ (fun h => ⟨hin.1, hin.2, fun h0 => absurd h0 (Nat.lt_irrefl 0)⟩)) (by omega)
      · have e1 : ((i : Int) - 1) = ((i - 1 : Nat) : Int) := by omega
        rw [if_pos (by omega), w64 _ (by omega) (by omega), e1, if_pos (by omega), if_pos (by omega), rd_nat l (i - 1) (by omega)]
        by_cases hle : l[i] ≤ l[i - 1]
        · rw [if_pos hle, hbad (fun h => by have := (h hil).2.2 (by omega); omega)]
        · rw [if_neg hle]
          exact ih (i + 1) k (by omega) (by omega) (fun j hj => by
            rcases Nat.lt_or_ge j i with h | h
            · exact hg j h
            · obtain rfl : j = i := by omega
              exact fun _ => ⟨hin.1, hin.2, fun _ => by omega⟩) (by omega)
    · simp only [hin, decide_false, Bool.false_eq_true, if_false]
      rw [hbad (fun h => hin ⟨(h hil).1, (h hil).2.1⟩)]

/-- How many rounds the reference's IsComplex takes at most. -/
def isK (l : List Int) : Nat := 10 * l.length + (l.length + 1) * (l.length + 2) + 73
theorem specIs_is (n : Int) (l : List Int) (hl : l.length ≤ 2097152) (k : Nat) (hk : isK l ≤ k) : spec_l01Is.f k n l = some (isC n l) := by
  unfold isK at hk
  unfold spec_l01Is.f
  rw [specIn_is]
  simp only [Option.bind_some]
  by_cases hn : 1 ≤ n ∧ n ≤ 6
  · simp only [hn, and_self, decide_true, if_true]
    have := specIs_l0 n l hl hn l.length 0 k (by omega) (by omega) (fun j hj => absurd hj (Nat.not_lt_zero _)) (by omega)
    simpa using this
  · simp only [hn, decide_false, Bool.false_eq_true, if_false]
    simp [isC, hn]

end Go.Proofs.Ytoeapnempdgagaa.K
end

section
/- Written by a program of this session (myprint.py over the kit's print). -/
namespace Go.Proofs.Ytoeapnempdgagaa.Q
open Go.RowKit Go.Proofs.YtoeapnempdgagaaW.PrintWords Go.Proofs.YtoeapnempdgagaaW.PrintLast Go.Proofs.YtoeapnempdgagaaW.PrintMore
attribute [local go_sem] max2_int min2_int max_two min_two max_three min_three max_four min_four   -- for this text's walks alone
set_option linter.unusedVariables false
set_option linter.unusedSimpArgs false

/-! ### spec_l01On: function 63 -/
def spec_l01On.l0 : Nat → Int → Int → Int → List Int → Int → List Int → Option (Int × List Int)
  | 0, _, _, _, _, _, _ => none
  | k + 1, x1, x6, x184000, x184001, x189000, x189001 => if x6 < (x184001.length : Int) then (if 0 ≤ x6 then (if (Go.bits .and .i64 (rd x184001 x6) x1) = (rd x184001 x6) then (if x189001.length < 17592186044416 then (spec_l01On.l0 k x1 (wrap64 (x6 + 1)) x184000 x184001 x189000 (x189001 ++ [rd x184001 x6])) else (none)) else (spec_l01On.l0 k x1 (wrap64 (x6 + 1)) x184000 x184001 x189000 x189001)) else (none)) else (some (x189000, x189001))
def spec_l01On.f (k : Nat) (a0_0 : Int) (l0_1 : List Int) (a1 : Int) : Option (Int × List Int) := spec_l01On.l0 k a1 0 a0_0 l0_1 a0_0 (([] : List Int))
theorem spec_l01On.mono_l : ∀ k, (∀ y0 y1 y2 y3 y4 y5, LeO (spec_l01On.l0 k y0 y1 y2 y3 y4 y5) (spec_l01On.l0 (k + 1) y0 y1 y2 y3 y4 y5))
  | 0 => fun _ _ _ _ _ _ r h => by simp [spec_l01On.l0] at h
  | k + 1 => by
    have ih0 := spec_l01On.mono_l k
    · intro y0 y1 y2 y3 y4 y5
      unfold spec_l01On.l0
      repeat' first
      | (with_reducible exact ih0 _ _ _ _ _ _)
      | (with_reducible exact LeO.refl _)
      | (with_reducible exact LeO.none _)
      | (with_reducible refine LeO.ite ?_ ?_)
      | (with_reducible refine LeO.bind ?_ (fun _ => ?_))
      | exact ih0 _ _ _ _ _ _
      | exact LeO.none _
      | refine LeO.ite ?_ ?_
      | refine LeO.bind ?_ (fun _ => ?_)
theorem spec_l01On.mono : ∀ a0 a1 a2 k, LeO (spec_l01On.f k a0 a1 a2) (spec_l01On.f (k + 1) a0 a1 a2) := by
  intro a0 a1 a2 k
  have ih0 := spec_l01On.mono_l k
  unfold spec_l01On.f
  repeat' first
      | (with_reducible exact ih0 _ _ _ _ _ _)
      | (with_reducible exact LeO.refl _)
      | (with_reducible exact LeO.none _)
      | (with_reducible refine LeO.ite ?_ ?_)
      | (with_reducible refine LeO.bind ?_ (fun _ => ?_))
      | exact ih0 _ _ _ _ _ _
      | exact LeO.none _
      | refine LeO.ite ?_ ?_
      | refine LeO.bind ?_ (fun _ => ?_)
def spec_l01On.T5 : Bool × List (List Nat × List Nat) := (true, [([], []), ([0], [0]), ([], []), ([1, 2], [1, 2]), ([3], [3]), ([], []), ([4, 5], [4, 5]), ([], []), ([7], [7]), ([], []), ([8, 9], [8, 9]), ([10], [10]), ([6, 11], [6, 11])])
def spec_l01On.B5 : List Nat := [0, 1, 0, 7, 15, 0, 63, 0, 128, 0, 896, 1920, 4095]
theorem spec_l01On.tab5 : rtab .any (opsOf Try.f63 5) = spec_l01On.T5 := by kernel_rfl
theorem spec_l01On.bits5 : waitsOk spec_l01On.T5.2 spec_l01On.B5 = true := by kernel_rfl
def spec_l01On.T6 : Bool × List (List Nat × List Nat) := (true, [([], []), ([0], [0]), ([], []), ([2], [2]), ([], []), ([3, 4], [3, 4]), ([5], [5]), ([6], [6]), ([1, 7], [1, 7]), ([0, 1, 2, 3, 4, 5, 6, 7, 8], []), ([9, 8, 8, 0, 1, 2, 3, 4, 5, 6, 7, 8], [8, 9])])
def spec_l01On.B6 : List Nat := [0, 1, 0, 4, 0, 28, 60, 124, 255, 511, 1023]
theorem spec_l01On.tab6 : rtab .any (opsOf Try.f63 6) = spec_l01On.T6 := by kernel_rfl
theorem spec_l01On.bits6 : waitsOk spec_l01On.T6.2 spec_l01On.B6 = true := by kernel_rfl
set_option maxHeartbeats 8000000 in
set_option maxRecDepth 100000 in
theorem spec_l01On.calls (k : Nat) (a0_0 : Int) (A0_1 : Option Addr) (c0_1 : Nat) (l0_1 : List Int) (a1 : Int) (r1 : Int) (r2 : List Int) (w : World) (hr0_1 : Kd.C (Kd.int .i64) w A0_1 l0_1.length l0_1) (hc0_1 : l0_1.length ≤ c0_1) (h : spec_l01On.f k a0_0 l0_1 a1 = some (r1, r2)) :
    Calls Try.prog 63 #[.agg #[.int .i64 a0_0, .slice A0_1 l0_1.length c0_1], .int .i64 a1] w fun e w' => ∃ v1_ : Value, e = .returned (.agg #[.int .i64 r1, v1_]) ∧ Kd.R (Kd.int .i64) 2 w' w.heap.size (fun _ => True) v1_ r2 ∧ Below w.heap.size w w' := by
  have hu25 := Try.underlying25
  have HR0_1 := Aside0.mk hr0_1
  have HC0_1 := Aside0.mk hc0_1
  clear hr0_1 hc0_1
  have HB := Aside0.mk (Below.refl w.heap.size w)
  have H : (spec_l01On.l0 k a1 0 a0_0 l0_1 a0_0 (([] : List Int))) = some (r1, r2) := h
  clear h
  obtain ⟨y185, hy185⟩ : ∃ y_ : List Int, y_ = (([] : List Int)) := ⟨_, rfl⟩
  replace H : (spec_l01On.l0 k a1 0 a0_0 l0_1 a0_0 y185) = some (r1, r2) := by first | (rw [hy185]; with_reducible exact H) | (have H2_ := (Option.bind_some _ _).symm.trans H; rw [hy185]; with_reducible exact H2_) | (have H2_ := (Option.bind_some _ _).symm.trans H; with_reducible exact H2_) | with_reducible exact H | (rw [hy185]; exact H) | exact H
  have Ny185 := Aside0.mk hy185
  clear hy185
  have H' := Aside0.mk H
  clear H
  go_enter Try.func63, Try.ntmps63
  go_wp2_with (first | ((with_reducible refine gate_dst (N := 2) rfl ?_); refine box_event ?hg (N := 2) ?hd (cs := #[.int .i64 a0_0, .slice A0_1 l0_1.length c0_1]) (t := 25) ?hr ?_; (case hd => rfl); (case hg => rfl); (case hr => first | (go_simp; done) | (go_simp; rfl)); intro gb183 hg w3 hbox hb; have n0_ := Aside0.mk (below_step (by repeat (first | (with_reducible first | exact HB.out | apply below_alloc | apply pw_below_drewN | apply below_drew1) | exact HB.out)) hb); have n1_ := Aside0.mk (hbox); have n2_ := Aside0.mk ((by rw [hg]; exact (below_size (by repeat (first | (with_reducible first | exact HB.out | apply below_alloc | apply pw_below_drewN | apply below_drew1) | exact HB.out))) : w.heap.size ≤ gb183)); have n3_ := Aside0.mk ((by rw [hg]; exact (below_size (by repeat (first | (with_reducible first | exact HB.out | apply below_alloc | apply pw_below_drewN | apply below_drew1) | exact HB.out))) : w.heap.size ≤ gb183)); clear HB; have HB := n0_; have BK183 := n1_; have GW183 := n2_; have GE183 := n3_; clear n0_ n1_ n2_ n3_; clear hb hbox hg) | ((with_reducible refine gate_dst (N := 4) rfl ?_); refine box_event ?hg (N := 4) ?hd (cs := #[.int .i64 0, .slice none 0 0]) (t := 25) ?hr ?_; (case hd => rfl); (case hg => rfl); (case hr => first | (go_simp; done) | (go_simp; rfl)); intro gb184 hg w4 hbox hb; have n0_ := Aside0.mk (blk_below (g := gb183) (o := .cells #[.int .i64 a0_0, .slice A0_1 l0_1.length c0_1] 25 (0, 0)) (by (with_reducible repeat (first | refine blk_drewN ?_ _ | refine blk_drew ?_ | refine blk_alloc ?_ _)); exact BK183.out) hb); have n1_ := Aside0.mk (below_step (by repeat (first | (with_reducible first | exact HB.out | apply below_alloc | apply pw_below_drewN | apply below_drew1 | refine below_set ?_ GE183.out) | exact HB.out)) hb); have n2_ := Aside0.mk (hbox); have n3_ := Aside0.mk ((by rw [hg]; exact (below_size (by repeat (first | (with_reducible first | exact HB.out | apply below_alloc | apply pw_below_drewN | apply below_drew1 | refine below_set ?_ GE183.out) | exact HB.out))) : w.heap.size ≤ gb184)); have n4_ := Aside0.mk ((by rw [hg]; exact (below_size (by repeat (first | (with_reducible first | exact HB.out | apply below_alloc | apply pw_below_drewN | apply below_drew1 | refine below_set ?_ GE183.out) | exact HB.out))) : w.heap.size ≤ gb184)); have n5_ := Aside0.mk ((by rw [hg]; exact Nat.ne_of_lt (blk_lt (g := gb183) (o := .cells #[.int .i64 a0_0, .slice A0_1 l0_1.length c0_1] 25 (0, 0)) (by (with_reducible repeat (first | refine blk_drewN ?_ _ | refine blk_drew ?_ | refine blk_alloc ?_ _)); exact BK183.out)) : gb183 ≠ gb184)); have n6_ := Aside0.mk ((by rw [hg]; exact Nat.ne_of_gt (blk_lt (g := gb183) (o := .cells #[.int .i64 a0_0, .slice A0_1 l0_1.length c0_1] 25 (0, 0)) (by (with_reducible repeat (first | refine blk_drewN ?_ _ | refine blk_drew ?_ | refine blk_alloc ?_ _)); exact BK183.out)) : gb184 ≠ gb183)); clear BK183; clear HB; have BK183 := n0_; have HB := n1_; have BK184 := n2_; have GW184 := n3_; have GE184 := n4_; have NB183_184 := n5_; have NB184_183 := n6_; clear n0_ n1_ n2_ n3_ n4_ n5_ n6_; clear hb hbox hg; have hnb5 := NB183_184.out; have hnc5 := NB184_183.out; have hcz6_0 : w4.cell? ⟨gb183, 0, none⟩ = some (.int .i64 a0_0) := (blk_cell BK183.out 0).trans rfl; have hcz6_1 : w4.cell? ⟨gb183, 1, none⟩ = some (.slice A0_1 l0_1.length c0_1) := (blk_cell BK183.out 1).trans rfl; have hfz6_0 := blk_frozen BK183.out 0; have hfz6_1 := blk_frozen BK183.out 1) | ((with_reducible refine gate_dst (N := 9) rfl ?_); refine Kd.R_lit (Kd.int .i64) _ 2 ?hg (N := 9) ?hd (xs := ([] : List Int)) (inner := []) (ok := fun _ => True) (okp := fun _ => True) ?hr ?hp (fun _ hk => hk) trivial (Below.refl _ _) (Nat.le_refl _) (by simp) ?_; (case hd => rfl); (case hg => rfl); (case hr => first | (go_simp; done) | (go_simp; rfl)); (case hp => exact (Reps.none _ _)); intro v186 w7 ho8 hb hg_ hnew_; clear hg_ hnew_; (first | rw [← Ny185.out] at ho8 | (simp only [Int.reduceToNat] at ho8; rw [← Ny185.out] at ho8)); have n0_ := Aside0.mk (Kd.R_lower ho8 (below_size (by repeat (first | (with_reducible first | exact HB.out | apply below_alloc | apply pw_below_drewN | apply below_drew1 | refine below_set ?_ GE183.out | refine below_set ?_ GE184.out) | exact HB.out)))); have n1_ := Aside0.mk (blk_below (g := gb183) (o := .cells #[.int .i64 a0_0, .slice A0_1 l0_1.length c0_1] 25 (0, 0)) (by (with_reducible repeat (first | refine blk_drewN ?_ _ | refine blk_drew ?_ | refine blk_alloc ?_ _)); exact BK183.out) hb); have n2_ := Aside0.mk (blk_below (g := gb184) (o := .cells #[.int .i64 0, .slice none 0 0] 25 (0, 0)) (by (with_reducible repeat (first | refine blk_drewN ?_ _ | refine blk_drew ?_ | refine blk_alloc ?_ _)); exact BK184.out) hb); have n3_ := Aside0.mk (below_step (by repeat (first | (with_reducible first | exact HB.out | apply below_alloc | apply pw_below_drewN | apply below_drew1 | refine below_set ?_ GE183.out | refine below_set ?_ GE184.out) | exact HB.out)) hb); clear BK183; clear BK184; clear HB; have HO187 := n0_; have BK183 := n1_; have BK184 := n2_; have HB := n3_; clear n0_ n1_ n2_ n3_; clear hb ho8; obtain ⟨Ao9, co9, eo9⟩ := Kd.R_slice HO187.out; subst eo9) | ((with_reducible refine gate_dst (N := 5) rfl ?_); refine box_event ?hg (N := 5) ?hd (cs := #[.int .i64 0, .slice none 0 0]) (t := 25) ?hr ?_; (case hd => rfl); (case hg => rfl); (case hr => first | (go_simp; done) | (go_simp; rfl)); intro gb188 hg w10 hbox hb; have n0_ := Aside0.mk (Kd.R_below (by (with_reducible repeat (first | apply Kd.R_alloc | apply Kd.R_drewN | apply Kd.R_drew)); exact HO187.out) hb); have n1_ := Aside0.mk (blk_below (g := gb183) (o := .cells #[.int .i64 a0_0, .slice A0_1 l0_1.length c0_1] 25 (0, 0)) (by (with_reducible repeat (first | refine blk_drewN ?_ _ | refine blk_drew ?_ | refine blk_alloc ?_ _)); exact BK183.out) hb); have n2_ := Aside0.mk (blk_below (g := gb184) (o := .cells #[.int .i64 0, .slice none 0 0] 25 (0, 0)) (by (with_reducible repeat (first | refine blk_drewN ?_ _ | refine blk_drew ?_ | refine blk_alloc ?_ _)); exact BK184.out) hb); have n3_ := Aside0.mk (below_step (by repeat (first | (with_reducible first | exact HB.out | apply below_alloc | apply pw_below_drewN | apply below_drew1 | refine below_set ?_ GE183.out | refine below_set ?_ GE184.out) | exact HB.out)) hb); have n4_ := Aside0.mk (hbox); have n5_ := Aside0.mk ((by rw [hg]; exact (below_size (by repeat (first | (with_reducible first | exact HB.out | apply below_alloc | apply pw_below_drewN | apply below_drew1 | refine below_set ?_ GE183.out | refine below_set ?_ GE184.out) | exact HB.out))) : w.heap.size ≤ gb188)); have n6_ := Aside0.mk ((by rw [hg]; exact (below_size (by repeat (first | (with_reducible first | exact HB.out | apply below_alloc | apply pw_below_drewN | apply below_drew1 | refine below_set ?_ GE183.out | refine below_set ?_ GE184.out) | exact HB.out))) : w.heap.size ≤ gb188)); have n7_ := Aside0.mk ((by rw [hg]; exact Nat.ne_of_lt (blk_lt (g := gb183) (o := .cells #[.int .i64 a0_0, .slice A0_1 l0_1.length c0_1] 25 (0, 0)) (by (with_reducible repeat (first | refine blk_drewN ?_ _ | refine blk_drew ?_ | refine blk_alloc ?_ _)); exact BK183.out)) : gb183 ≠ gb188)); have n8_ := Aside0.mk ((by rw [hg]; exact Nat.ne_of_gt (blk_lt (g := gb183) (o := .cells #[.int .i64 a0_0, .slice A0_1 l0_1.length c0_1] 25 (0, 0)) (by (with_reducible repeat (first | refine blk_drewN ?_ _ | refine blk_drew ?_ | refine blk_alloc ?_ _)); exact BK183.out)) : gb188 ≠ gb183)); have n9_ := Aside0.mk ((by rw [hg]; exact Nat.ne_of_lt (blk_lt (g := gb184) (o := .cells #[.int .i64 0, .slice none 0 0] 25 (0, 0)) (by (with_reducible repeat (first | refine blk_drewN ?_ _ | refine blk_drew ?_ | refine blk_alloc ?_ _)); exact BK184.out)) : gb184 ≠ gb188)); have n10_ := Aside0.mk ((by rw [hg]; exact Nat.ne_of_gt (blk_lt (g := gb184) (o := .cells #[.int .i64 0, .slice none 0 0] 25 (0, 0)) (by (with_reducible repeat (first | refine blk_drewN ?_ _ | refine blk_drew ?_ | refine blk_alloc ?_ _)); exact BK184.out)) : gb188 ≠ gb184)); clear HO187; clear BK183; clear BK184; clear HB; have HO187 := n0_; have BK183 := n1_; have BK184 := n2_; have HB := n3_; have BK188 := n4_; have GW188 := n5_; have GE188 := n6_; have NB183_188 := n7_; have NB188_183 := n8_; have NB184_188 := n9_; have NB188_184 := n10_; clear n0_ n1_ n2_ n3_ n4_ n5_ n6_ n7_ n8_ n9_ n10_; clear hb hbox hg; have hnb11 := NB188_183.out; have hnc11 := NB183_188.out; have hnb12 := NB188_184.out; have hnc12 := NB184_188.out; have hcz13_0 : w10.cell? ⟨gb188, 0, none⟩ = some (.int .i64 0) := (blk_cell BK188.out 0).trans rfl; have hcz13_1 : w10.cell? ⟨gb188, 1, none⟩ = some (.slice none 0 0) := (blk_cell BK188.out 1).trans rfl; have hfz13_0 := blk_frozen BK188.out 0; have hfz13_1 := blk_frozen BK188.out 1))
  go_loopg [6] k (fun kq v6 w' => ∃ (x6_1 : Int) (x189001_1 : List Int) (u189001 : Value), v6 = .int .i64 x6_1 ∧ Aside0 (spec_l01On.l0 kq a1 x6_1 a0_0 l0_1 a0_0 x189001_1 = some (r1, r2)) ∧ Aside0 (kq ≤ k) ∧ Aside0 (Kd.R (Kd.int .i64) 2 w' w.heap.size (fun _ => True) u189001 x189001_1) ∧ Aside0 (w'.heap[gb183]? = some (.cells #[.int .i64 a0_0, (.slice A0_1 l0_1.length c0_1)] 25 (0, 0))) ∧ Aside0 (w'.heap[gb184]? = some (.cells #[.int .i64 0, (.slice none 0 0)] 25 (0, 0))) ∧ Aside0 (w'.heap[gb188]? = some (.cells #[.int .i64 a0_0, u189001] 25 (0, 0))) ∧ Aside0 (Below w.heap.size w w'))
  case atStart => exact ⟨(0), (y185), (.slice Ao9 y185.length co9), (by first | rfl | (simp; done) | (simp [*]; done)), H', ⟨Nat.le_refl _⟩, ⟨by (with_reducible repeat (first | apply Kd.R_alloc | apply Kd.R_drewN | apply Kd.R_drew)); exact Kd.R_mono (Kd.R_far (p := ⟨gb188, 1, none⟩) (Kd.R_far (p := ⟨gb188, 0, none⟩) (Kd.R_types HO187.out BK188.out (by decide)) (fun _ hk => hk.2) (.int .i64 a0_0)) (fun _ hk => hk.2) (.slice Ao9 y185.length co9)) (fun _ hk => trivial)⟩, ⟨by (with_reducible repeat (first | refine blk_drewN ?_ _ | refine blk_drew ?_ | refine blk_alloc ?_ _)); refine blk_far ?_ NB183_188.out _; (with_reducible repeat (first | refine blk_drewN ?_ _ | refine blk_drew ?_ | refine blk_alloc ?_ _)); refine blk_far ?_ NB183_188.out _; (with_reducible repeat (first | refine blk_drewN ?_ _ | refine blk_drew ?_ | refine blk_alloc ?_ _)); exact BK183.out⟩, ⟨by (with_reducible repeat (first | refine blk_drewN ?_ _ | refine blk_drew ?_ | refine blk_alloc ?_ _)); refine blk_far ?_ NB184_188.out _; (with_reducible repeat (first | refine blk_drewN ?_ _ | refine blk_drew ?_ | refine blk_alloc ?_ _)); refine blk_far ?_ NB184_188.out _; (with_reducible repeat (first | refine blk_drewN ?_ _ | refine blk_drew ?_ | refine blk_alloc ?_ _)); exact BK184.out⟩, ⟨by (with_reducible repeat (first | refine blk_drewN ?_ _ | refine blk_drew ?_ | refine blk_alloc ?_ _)); refine blk_put (cs := #[.int .i64 a0_0, .slice none 0 0]) ?_ 1 _ rfl; (with_reducible repeat (first | refine blk_drewN ?_ _ | refine blk_drew ?_ | refine blk_alloc ?_ _)); refine blk_put (cs := #[.int .i64 0, .slice none 0 0]) ?_ 0 _ rfl; (with_reducible repeat (first | refine blk_drewN ?_ _ | refine blk_drew ?_ | refine blk_alloc ?_ _)); exact BK188.out⟩, ⟨by repeat (first | (with_reducible first | exact HB.out | apply below_alloc | apply pw_below_drewN | apply below_drew1 | refine below_set ?_ GE183.out | refine below_set ?_ GE184.out | refine below_set ?_ GE188.out) | exact HB.out)⟩⟩
  case round =>
    clear H'
    try clear c1
    try clear p2
    try clear c5
    try clear c6
    try clear c11
    try clear c12
    try clear hcz13_0
    try clear hcz13_1
    try clear hcz6_0
    try clear hcz6_1
    try clear hfz13_0
    try clear hfz13_1
    try clear hfz6_0
    try clear hfz6_1
    obtain ⟨x6_1, x189001_1, u189001, rfl, HA, HK1, HO_189001, BK183, BK184, BK188, HB⟩ := hrel
    cases gk with
    | zero => exact absurd HA.out (by simp [spec_l01On.l0])
    | succ k1 =>
      have H := HA.out
      clear HA
      simp only [spec_l01On.l0] at H
      by_cases c14 : x6_1 < (l0_1.length : Int)
      · rw [if_pos c14] at H
        have c14b0 : decide (x6_1 < (l0_1.length : Int)) = true := decide_eq_true c14
        clear c14
        by_cases c15 : 0 ≤ x6_1
        · rw [if_pos c15] at H
          have c15b0 : decide (0 ≤ x6_1) = true := decide_eq_true c15
          clear c15
          by_cases c16 : (Go.bits .and .i64 (rd l0_1 x6_1) a1) = (rd l0_1 x6_1)
          · rw [if_pos c16] at H
            have c16b0 : ((Go.bits .and .i64 (rd l0_1 x6_1) a1) == (rd l0_1 x6_1)) = true := beq_iff_eq.mpr c16
            have c16b1 : ((Go.bits .and .i64 (rd l0_1 x6_1) a1) != (rd l0_1 x6_1)) = false := bne_eq_false_iff_eq.mpr c16
            clear c16
            by_cases c17 : x189001_1.length < 17592186044416
            · rw [if_pos c17] at H
              have LMc17 := Aside0.mk c17
              clear c17
              obtain ⟨y192, hy192⟩ : ∃ y_ : List Int, y_ = (x189001_1 ++ [rd l0_1 x6_1]) := ⟨_, rfl⟩
              replace H : (spec_l01On.l0 k1 a1 (wrap64 (x6_1 + 1)) a0_0 l0_1 a0_0 y192) = some (r1, r2) := by first | (rw [hy192]; with_reducible exact H) | (have H2_ := (Option.bind_some _ _).symm.trans H; rw [hy192]; with_reducible exact H2_) | (have H2_ := (Option.bind_some _ _).symm.trans H; with_reducible exact H2_) | with_reducible exact H | (rw [hy192]; exact H) | exact H
              have Ny192 := Aside0.mk hy192
              clear hy192
              have H' := Aside0.mk H
              clear H
              have hnb18 := NB183_184.out
              have hnc18 := NB184_183.out
              have hnb19 := NB183_188.out
              have hnc19 := NB188_183.out
              have hcz20_0 : wr.cell? ⟨gb183, 0, none⟩ = some (.int .i64 a0_0) := (blk_cell BK183.out 0).trans rfl
              have hcz20_1 : wr.cell? ⟨gb183, 1, none⟩ = some (.slice A0_1 l0_1.length c0_1) := (blk_cell BK183.out 1).trans rfl
              have hfz20_0 := blk_frozen BK183.out 0
              have hfz20_1 := blk_frozen BK183.out 1
              try go_wp2
              have n0_ := Aside0.mk (Kd.R_drew HO_189001.out)
              have n1_ := Aside0.mk (blk_drew BK183.out)
              have n2_ := Aside0.mk (blk_drew BK184.out)
              have n3_ := Aside0.mk (blk_drew BK188.out)
              have n4_ := Aside0.mk (below_drew1 HB.out)
              clear HO_189001
              clear BK183
              clear BK184
              clear BK188
              clear HB
              have HO_189001 := n0_
              have BK183 := n1_
              have BK184 := n2_
              have BK188 := n3_
              have HB := n4_
              clear n0_ n1_ n2_ n3_ n4_
              have p189 : 0 ≤ (x6_1 : Int) := of_decide_eq_true (by first | (with_reducible assumption) | assumption)
              have q189 : x6_1 < (l0_1.length : Int) := of_decide_eq_true (by first | (with_reducible assumption) | assumption)
              obtain ⟨ad189, e189, hx189_0⟩ := Kd.at_int HR0_1.out x6_1 p189 q189
              have hw189_0 := hx189_0
              cases e189
              replace hx189_0 := (HB.out.cell (World.block_lt_of_cell? w _ hx189_0)).trans hx189_0
              replace p189 := eq_true p189
              replace q189 := eq_true q189
              have p190 : 0 ≤ (x6_1 : Int) := of_decide_eq_true (by first | (with_reducible assumption) | assumption)
              have q190 : x6_1 < (l0_1.length : Int) := of_decide_eq_true (by first | (with_reducible assumption) | assumption)
              obtain ⟨ad190, e190, hx190_0⟩ := Kd.at_int HR0_1.out x6_1 p190 q190
              have hw190_0 := hx190_0
              obtain rfl : ad189 = ad190 := (by injection e190)
              replace hx190_0 := (HB.out.cell (World.block_lt_of_cell? w _ hx190_0)).trans hx190_0
              replace p190 := eq_true p190
              replace q190 := eq_true q190
              refine start_ (n := 13) (S := fun w' => w'.cell? ⟨gb183, 0, none⟩ = some (.int .i64 a0_0) ∧ w'.cell? ⟨gb183, 1, none⟩ = some (.slice (some ad189) l0_1.length c0_1) ∧ w'.cell? (ad189.add (x6_1).toNat) = some (.int .i64 (rd l0_1 x6_1)) ∧ w'.cell? (ad189.add (x6_1).toNat) = some (.int .i64 (rd l0_1 x6_1))) (ds := []) #[false, false, false, false, false, false, false, false, false, false, false, false, false] (by kernel_rfl) rfl rfl ⟨(blk_cell BK183.out 0).trans rfl, (blk_cell BK183.out 1).trans rfl, ((HB.out.cell (World.block_lt_of_cell? w _ hw189_0)).trans hw189_0), ((HB.out.cell (World.block_lt_of_cell? w _ hw190_0)).trans hw190_0)⟩ (fun hHeld => ?_); refine with_tabW spec_l01On.tab5 spec_l01On.bits5 (fun HT_ HW_ => ?_)
              generalize wr.drew = w21 at HO_189001 BK183 BK184 BK188 HB hx189_0 hx190_0 hHeld ⊢
              refine pure_ (i := 0) (N := some 18) (v := ?_) (a' := ?_) #[true, false, false, false, false, false, false, false, false, false, false, false, false] rfl rfl (any_of HT_.out (by kernel_rfl)) (fun _ _ _ h => h) (Or.inl ⟨by rfl, ?_⟩) ?_ ?_
              rotate_left
              · intro w'
                go_simp
                with_reducible rfl
              rotate_left
              · simp only [Act.put, List.setIfInBounds_toArray, List.set_cons_zero, List.set_cons_succ, i64_w, i32_w]
                rfl
              refine pure_ (i := 2) (N := some 20) (v := ?_) (a' := ?_) #[true, false, true, false, false, false, false, false, false, false, false, false, false] rfl rfl (any_of HT_.out (by kernel_rfl)) (fun _ _ _ h => h) (Or.inl ⟨by rfl, ?_⟩) ?_ ?_
              rotate_left
              · intro w'
                go_simp
                with_reducible rfl
              rotate_left
              · simp only [Act.put, List.setIfInBounds_toArray, List.set_cons_zero, List.set_cons_succ, i64_w, i32_w]
                rfl
              refine pure_ (i := 5) (N := some 23) (v := ?_) (a' := ?_) #[true, false, true, false, false, true, false, false, false, false, false, false, false] rfl rfl (any_of HT_.out (by kernel_rfl)) (fun _ _ _ h => h) (Or.inl ⟨by rfl, ?_⟩) ?_ ?_
              rotate_left
              · intro w'
                go_simp
                with_reducible rfl
              rotate_left
              · simp only [Act.put, List.setIfInBounds_toArray, List.set_cons_zero, List.set_cons_succ, i64_w, i32_w]
                rfl
              refine pure_ (i := 7) (N := some 25) (v := ?_) (a' := ?_) #[true, false, true, false, false, true, false, true, false, false, false, false, false] rfl rfl (any_of HT_.out (by kernel_rfl)) (fun _ _ _ h => h) (Or.inl ⟨by rfl, ?_⟩) ?_ ?_
              rotate_left
              · intro w'
                go_simp
                with_reducible rfl
              rotate_left
              · simp only [Act.put, List.setIfInBounds_toArray, List.set_cons_zero, List.set_cons_succ, i64_w, i32_w]
                rfl
              refine pure_ (i := 9) (N := some 27) (v := ?_) (a' := ?_) #[true, false, true, false, false, true, false, true, false, true, false, false, false] rfl rfl (any_of HT_.out (by kernel_rfl)) (fun _ _ _ h => h) (Or.inl ⟨by rfl, ?_⟩) ?_ ?_
              rotate_left
              · intro w'
                go_simp
                with_reducible rfl
              rotate_left
              · simp only [Act.put, List.setIfInBounds_toArray, List.set_cons_zero, List.set_cons_succ, i64_w, i32_w]
                rfl
              refine take_ (i := 1) (N := some 19) (v := ?_) (a' := ?_) #[true, true, true, false, false, true, false, true, false, true, false, false, false] rfl rfl (take_ofW HT_.out HW_.out (by kernel_rfl)) (fun _ _ _ h => h) (Or.inl ⟨by rfl, ?_⟩) hHeld ?_ ?_
              rotate_left
              · rintro w' ⟨s0, s1, s2, s3⟩
                go_simp
                with_reducible rfl
              rotate_left
              · simp only [Act.put, List.setIfInBounds_toArray, List.set_cons_zero, List.set_cons_succ, i64_w, i32_w]
                rfl
              refine pure_ (i := 3) (N := some 21) (v := ?_) (a' := ?_) #[true, true, true, true, false, true, false, true, false, true, false, false, false] rfl rfl (any_of HT_.out (by kernel_rfl)) (fun _ _ _ h => h) (Or.inl ⟨by rfl, ?_⟩) ?_ ?_
              rotate_left
              · intro w'
                go_simp
                with_reducible rfl
              rotate_left
              · simp only [Act.put, List.setIfInBounds_toArray, List.set_cons_zero, List.set_cons_succ, i64_w, i32_w]
                rfl
              refine take_ (i := 4) (N := some 22) (v := ?_) (a' := ?_) #[true, true, true, true, true, true, false, true, false, true, false, false, false] rfl rfl (take_ofW HT_.out HW_.out (by kernel_rfl)) (fun _ _ _ h => h) (Or.inl ⟨by rfl, ?_⟩) hHeld ?_ ?_
              rotate_left
              · rintro w' ⟨s0, s1, s2, s3⟩
                go_simp
                with_reducible rfl
              rotate_left
              · simp only [Act.put, List.setIfInBounds_toArray, List.set_cons_zero, List.set_cons_succ, i64_w, i32_w]
                rfl
              refine pure_ (i := 6) (N := some 24) (v := ?_) (a' := ?_) #[true, true, true, true, true, true, true, true, false, true, false, false, false] rfl rfl (any_of HT_.out (by kernel_rfl)) (fun _ _ _ h => h) (Or.inl ⟨by rfl, ?_⟩) ?_ ?_
              rotate_left
              · intro w'
                go_simp
                with_reducible rfl
              rotate_left
              · simp only [Act.put, List.setIfInBounds_toArray, List.set_cons_zero, List.set_cons_succ, i64_w, i32_w]
                rfl
              refine take_ (i := 8) (N := some 26) (v := ?_) (a' := ?_) #[true, true, true, true, true, true, true, true, true, true, false, false, false] rfl rfl (take_ofW HT_.out HW_.out (by kernel_rfl)) (fun _ _ _ h => h) (Or.inl ⟨by rfl, ?_⟩) hHeld ?_ ?_
              rotate_left
              · rintro w' ⟨s0, s1, s2, s3⟩
                go_simp
                with_reducible rfl
              rotate_left
              · simp only [Act.put, List.setIfInBounds_toArray, List.set_cons_zero, List.set_cons_succ, i64_w, i32_w]
                rfl
              refine pure_ (i := 10) (N := some 28) (v := ?_) (a' := ?_) #[true, true, true, true, true, true, true, true, true, true, true, false, false] rfl rfl (any_of HT_.out (by kernel_rfl)) (fun _ _ _ h => h) (Or.inl ⟨by rfl, ?_⟩) ?_ ?_
              rotate_left
              · intro w'
                go_simp
                with_reducible rfl
              rotate_left
              · simp only [Act.put, List.setIfInBounds_toArray, List.set_cons_zero, List.set_cons_succ, i64_w, i32_w]
                rfl
              refine take_ (i := 11) (N := some 29) (v := ?_) (a' := ?_) #[true, true, true, true, true, true, true, true, true, true, true, true, false] rfl rfl (take_ofW HT_.out HW_.out (by kernel_rfl)) (fun _ _ _ h => h) (Or.inl ⟨by rfl, ?_⟩) hHeld ?_ ?_
              rotate_left
              · rintro w' ⟨s0, s1, s2, s3⟩
                go_simp
                with_reducible rfl
              rotate_left
              · simp only [Act.put, List.setIfInBounds_toArray, List.set_cons_zero, List.set_cons_succ, i64_w, i32_w]
                rfl
              refine pure_ (i := 12) (N := some 30) (v := ?_) (a' := ?_) #[true, true, true, true, true, true, true, true, true, true, true, true, true] rfl rfl (any_of HT_.out (by kernel_rfl)) (fun _ _ _ h => h) (Or.inl ⟨by rfl, ?_⟩) ?_ ?_
              rotate_left
              · intro w'
                go_simp
                with_reducible rfl
              rotate_left
              · simp only [Act.put, List.setIfInBounds_toArray, List.set_cons_zero, List.set_cons_succ, i64_w, i32_w]
                rfl
              refine done_ (done_of HT_.out (by kernel_rfl)) ?_
              try go_wp2
              have n0_ := Aside0.mk (Kd.R_drew HO_189001.out)
              have n1_ := Aside0.mk (blk_drew BK183.out)
              have n2_ := Aside0.mk (blk_drew BK184.out)
              have n3_ := Aside0.mk (blk_drew BK188.out)
              have n4_ := Aside0.mk (below_drew1 HB.out)
              clear HO_189001
              clear BK183
              clear BK184
              clear BK188
              clear HB
              have HO_189001 := n0_
              have BK183 := n1_
              have BK184 := n2_
              have BK188 := n3_
              have HB := n4_
              clear n0_ n1_ n2_ n3_ n4_
              have p191 : 0 ≤ (x6_1 : Int) := of_decide_eq_true (by first | (with_reducible assumption) | assumption)
              have q191 : x6_1 < (l0_1.length : Int) := of_decide_eq_true (by first | (with_reducible assumption) | assumption)
              obtain ⟨ad191, e191, hx191_0⟩ := Kd.at_int HR0_1.out x6_1 p191 q191
              have hw191_0 := hx191_0
              obtain rfl : ad189 = ad191 := (by injection e191)
              replace hx191_0 := (HB.out.cell (World.block_lt_of_cell? w _ hx191_0)).trans hx191_0
              replace p191 := eq_true p191
              replace q191 := eq_true q191
              refine start_ (n := 11) (S := fun w' => w'.cell? ⟨gb188, 0, none⟩ = some (.int .i64 a0_0) ∧ w'.cell? ⟨gb188, 1, none⟩ = some (u189001) ∧ w'.cell? ⟨gb183, 0, none⟩ = some (.int .i64 a0_0) ∧ w'.cell? ⟨gb183, 1, none⟩ = some (.slice (some ad189) l0_1.length c0_1) ∧ w'.cell? (ad189.add (x6_1).toNat) = some (.int .i64 (rd l0_1 x6_1))) (ds := [10]) #[false, false, false, false, false, false, false, false, false, false, false] (by kernel_rfl) rfl rfl ⟨(blk_cell BK188.out 0).trans rfl, (blk_cell BK188.out 1).trans rfl, (blk_cell BK183.out 0).trans rfl, (blk_cell BK183.out 1).trans rfl, ((HB.out.cell (World.block_lt_of_cell? w _ hw191_0)).trans hw191_0)⟩ (fun hHeld => ?_); refine with_tabW spec_l01On.tab6 spec_l01On.bits6 (fun HT_ HW_ => ?_)
              generalize w21.drew = w22 at HO_189001 BK183 BK184 BK188 HB hx191_0 hHeld ⊢
              refine pure_ (i := 0) (N := some 31) (v := ?_) (a' := ?_) #[true, false, false, false, false, false, false, false, false, false, false] rfl rfl (any_of HT_.out (by kernel_rfl)) (fun _ _ _ h => h) (Or.inl ⟨by rfl, ?_⟩) ?_ ?_
              rotate_left
              · intro w'
                go_simp
                with_reducible rfl
              rotate_left
              · simp only [Act.put, List.setIfInBounds_toArray, List.set_cons_zero, List.set_cons_succ, i64_w, i32_w]
                rfl
              refine pure_ (i := 2) (N := some 33) (v := ?_) (a' := ?_) #[true, false, true, false, false, false, false, false, false, false, false] rfl rfl (any_of HT_.out (by kernel_rfl)) (fun _ _ _ h => h) (Or.inl ⟨by rfl, ?_⟩) ?_ ?_
              rotate_left
              · intro w'
                go_simp
                with_reducible rfl
              rotate_left
              · simp only [Act.put, List.setIfInBounds_toArray, List.set_cons_zero, List.set_cons_succ, i64_w, i32_w]
                rfl
              refine pure_ (i := 4) (N := some 35) (v := ?_) (a' := ?_) #[true, false, true, false, true, false, false, false, false, false, false] rfl rfl (any_of HT_.out (by kernel_rfl)) (fun _ _ _ h => h) (Or.inl ⟨by rfl, ?_⟩) ?_ ?_
              rotate_left
              · intro w'
                go_simp
                with_reducible rfl
              rotate_left
              · simp only [Act.put, List.setIfInBounds_toArray, List.set_cons_zero, List.set_cons_succ, i64_w, i32_w]
                rfl
              refine take_ (i := 1) (N := some 32) (v := ?_) (a' := ?_) #[true, true, true, false, true, false, false, false, false, false, false] rfl rfl (take_ofW HT_.out HW_.out (by kernel_rfl)) (fun _ _ _ h => h) (Or.inl ⟨by rfl, ?_⟩) hHeld ?_ ?_
              rotate_left
              · rintro w' ⟨s0, s1, s2, s3, s4⟩
                go_simp
                with_reducible rfl
              rotate_left
              · simp only [Act.put, List.setIfInBounds_toArray, List.set_cons_zero, List.set_cons_succ, i64_w, i32_w]
                rfl
              refine take_ (i := 3) (N := some 34) (v := ?_) (a' := ?_) #[true, true, true, true, true, false, false, false, false, false, false] rfl rfl (take_ofW HT_.out HW_.out (by kernel_rfl)) (fun _ _ _ h => h) (Or.inl ⟨by rfl, ?_⟩) hHeld ?_ ?_
              rotate_left
              · rintro w' ⟨s0, s1, s2, s3, s4⟩
                go_simp
                with_reducible rfl
              rotate_left
              · simp only [Act.put, List.setIfInBounds_toArray, List.set_cons_zero, List.set_cons_succ, i64_w, i32_w]
                rfl
              refine pure_ (i := 5) (N := some 36) (v := ?_) (a' := ?_) #[true, true, true, true, true, true, false, false, false, false, false] rfl rfl (any_of HT_.out (by kernel_rfl)) (fun _ _ _ h => h) (Or.inl ⟨by rfl, ?_⟩) ?_ ?_
              rotate_left
              · intro w'
                go_simp
                with_reducible rfl
              rotate_left
              · simp only [Act.put, List.setIfInBounds_toArray, List.set_cons_zero, List.set_cons_succ, i64_w, i32_w]
                rfl
              refine take_ (i := 6) (N := some 37) (v := ?_) (a' := ?_) #[true, true, true, true, true, true, true, false, false, false, false] rfl rfl (take_ofW HT_.out HW_.out (by kernel_rfl)) (fun _ _ _ h => h) (Or.inl ⟨by rfl, ?_⟩) hHeld ?_ ?_
              rotate_left
              · rintro w' ⟨s0, s1, s2, s3, s4⟩
                go_simp
                with_reducible rfl
              rotate_left
              · simp only [Act.put, List.setIfInBounds_toArray, List.set_cons_zero, List.set_cons_succ, i64_w, i32_w]
                rfl
              refine one_ (i := 7) (N := some 38) #[true, true, true, true, true, true, true, true, false, false, false] rfl rfl (one_of HT_.out (by kernel_rfl)) (by decide) (fun K hK => ?_)
              refine value_ (w1 := ?_) (v := ?_) (by rfl) rfl ?_ ?_
              rotate_left 2
              · go_simp
                constructor
                · rfl
                · rfl
              refine hK.out _ _ ⟨(blk_cell (blk_alloc BK188.out _) 0).trans rfl, (blk_cell (blk_alloc BK188.out _) 1).trans rfl, (blk_cell (blk_alloc BK183.out _) 0).trans rfl, (blk_cell (blk_alloc BK183.out _) 1).trans rfl, (World.cell?_alloc_lt _ _ _ (World.block_lt_of_cell? _ _ (((HB.out.cell (World.block_lt_of_cell? w _ hw191_0)).trans hw191_0)))).trans (((HB.out.cell (World.block_lt_of_cell? w _ hw191_0)).trans hw191_0))⟩ (fun hHeld => ?_)
              clear hK K
              refine norm_ (a' := ?_) ?_ ?_
              rotate_left
              · show Act.put _ (some 38) _ = _
                simp only [Act.put, List.setIfInBounds_toArray, List.set_cons_zero, List.set_cons_succ, i64_w, i32_w]
                rfl
              refine one_ (i := 8) (N := some 39) #[true, true, true, true, true, true, true, true, true, false, false] rfl rfl (one_of HT_.out (by kernel_rfl)) (by decide) (fun K hK => ?_)
              refine Kd.R_append_step (Kd.int .i64) (w0 := w) w.heap.size (by rfl) (.tmp 32) (.tmp 38) 23 2 (.int .i64 0) 8 rfl Try.underlying23 info2 rfl (by decide) (by omega) u189001 x189001_1 (rd l0_1 x6_1) [.int .i64 (rd l0_1 x6_1)] (fun _ => True) (fun _ => False) rfl rfl ?aP (fun _ hk => hk.elim) ?aF ?aO ?aB ?aS ?aL ?_
              (case aP => exact rfl)
              (case aB => exact (by repeat (first | (with_reducible first | exact HB.out | apply below_alloc | apply pw_below_drewN | apply below_drew1 | refine below_set ?_ GE183.out | refine below_set ?_ GE184.out | refine below_set ?_ GE188.out) | exact HB.out)))
              (case aF => exact (fun _ _ => trivial))
              (case aO => exact (by (with_reducible repeat (first | apply Kd.R_alloc | apply Kd.R_drewN | apply Kd.R_drew)); exact HO_189001.out))
              (case aS => exact (below_size (by repeat (first | (with_reducible first | exact HB.out | apply below_alloc | apply pw_below_drewN | apply below_drew1 | refine below_set ?_ GE183.out | refine below_set ?_ GE184.out | refine below_set ?_ GE188.out) | exact HB.out))))
              (case aL => have := LMc17.out; omega)
              intro v193 w23 ho hb hg hat
              rw [← Ny192.out] at ho
              have n0_ := Aside0.mk (blk_grown (g := gb183) (o := .cells #[.int .i64 a0_0, .slice (some ad189) l0_1.length c0_1] 25 (0, 0)) (by (with_reducible repeat (first | refine blk_drewN ?_ _ | refine blk_drew ?_ | refine blk_alloc ?_ _)); exact BK183.out) hg (Kd.R_ne HO_189001.out BK183.out (by decide)))
              have n1_ := Aside0.mk (blk_grown (g := gb184) (o := .cells #[.int .i64 0, .slice none 0 0] 25 (0, 0)) (by (with_reducible repeat (first | refine blk_drewN ?_ _ | refine blk_drew ?_ | refine blk_alloc ?_ _)); exact BK184.out) hg (Kd.R_ne HO_189001.out BK184.out (by decide)))
              have n2_ := Aside0.mk (blk_grown (g := gb188) (o := .cells #[.int .i64 a0_0, u189001] 25 (0, 0)) (by (with_reducible repeat (first | refine blk_drewN ?_ _ | refine blk_drew ?_ | refine blk_alloc ?_ _)); exact BK188.out) hg (Kd.R_ne HO_189001.out BK188.out (by decide)))
              have n3_ := Aside0.mk (hb)
              have n4_ := Aside0.mk (ho)
              clear BK183
              clear BK184
              clear BK188
              clear HB
              clear HO_189001
              have BK183 := n0_
              have BK184 := n1_
              have BK188 := n2_
              have HB := n3_
              have HO194 := n4_
              clear n0_ n1_ n2_ n3_ n4_
              clear ho hb hg hat
              obtain ⟨Ao24, co24, eo24⟩ := Kd.R_slice HO194.out
              (first | subst eo24 | (injection eo24 with f1_ f2_ f3_; have f4_ := f1_.symm; have f5_ := f3_.symm; clear f1_ f2_ f3_; subst f4_; subst f5_))
              refine hK.out _ _ ⟨(blk_cell BK188.out 0).trans rfl, (blk_cell BK188.out 1).trans rfl, (blk_cell BK183.out 0).trans rfl, (blk_cell BK183.out 1).trans rfl, ((HB.out.cell (World.block_lt_of_cell? w _ hw191_0)).trans hw191_0)⟩ (fun hHeld => ?_)
              clear hK K
              refine norm_ (a' := ?_) ?_ ?_
              rotate_left
              · show Act.put _ (some 39) _ = _
                simp only [Act.put, List.setIfInBounds_toArray, List.set_cons_zero, List.set_cons_succ, i64_w, i32_w]
                rfl
              refine pure_ (i := 9) (N := some 40) (v := ?_) (a' := ?_) #[true, true, true, true, true, true, true, true, true, true, false] rfl rfl (any_of HT_.out (by kernel_rfl)) (fun _ _ _ h => h) (Or.inl ⟨by rfl, ?_⟩) ?_ ?_
              rotate_left
              · intro w'
                go_simp
                with_reducible rfl
              rotate_left
              · simp only [Act.put, List.setIfInBounds_toArray, List.set_cons_zero, List.set_cons_succ, i64_w, i32_w]
                rfl
              refine last_ (i := 10) (N := none) #[true, true, true, true, true, true, true, true, true, true, true] rfl rfl (one_of HT_.out (by kernel_rfl)) (by decide) (fun K hK => ?_)
              have hs25 : w23.cell? ⟨gb188, 1, none⟩ = some (u189001) := (blk_cell BK188.out 1).trans rfl
              have hfs25 := blk_frozen BK188.out 1
              have hns25_0 := NB183_188.out
              have hns25_1 := NB184_188.out
              have hms25_0 := NB188_183.out
              have hms25_1 := NB188_184.out
              refine skip_ (w1 := ?_) (by rfl) rfl ?_ ?_
              rotate_left
              · go_simp
                rfl
              refine hK.out _ _ ?_
              clear hK K
              refine done_ (done_of HT_.out (by kernel_rfl)) ?_
              try go_wp2
              go_roundg k1
              case measure => have := HK1.out; omega
              case rel => exact ⟨(wrap64 (x6_1 + 1)), (y192), (.slice Ao24 y192.length co24), (by first | rfl | (simp; done) | (simp [*]; done)), H', ⟨by have := HK1.out; omega⟩, ⟨by (with_reducible repeat (first | apply Kd.R_alloc | apply Kd.R_drewN | apply Kd.R_drew)); exact Kd.R_mono (Kd.R_far (p := ⟨gb188, 1, none⟩) (Kd.R_types HO194.out BK188.out (by decide)) (fun _ hk => hk.2) (.slice Ao24 y192.length co24)) (fun _ hk => trivial)⟩, ⟨by (with_reducible repeat (first | refine blk_drewN ?_ _ | refine blk_drew ?_ | refine blk_alloc ?_ _)); refine blk_far ?_ NB183_188.out _; (with_reducible repeat (first | refine blk_drewN ?_ _ | refine blk_drew ?_ | refine blk_alloc ?_ _)); exact BK183.out⟩, ⟨by (with_reducible repeat (first | refine blk_drewN ?_ _ | refine blk_drew ?_ | refine blk_alloc ?_ _)); refine blk_far ?_ NB184_188.out _; (with_reducible repeat (first | refine blk_drewN ?_ _ | refine blk_drew ?_ | refine blk_alloc ?_ _)); exact BK184.out⟩, ⟨by (with_reducible repeat (first | refine blk_drewN ?_ _ | refine blk_drew ?_ | refine blk_alloc ?_ _)); refine blk_put (cs := #[.int .i64 a0_0, u189001]) ?_ 1 _ rfl; (with_reducible repeat (first | refine blk_drewN ?_ _ | refine blk_drew ?_ | refine blk_alloc ?_ _)); exact BK188.out⟩, ⟨by repeat (first | (with_reducible first | exact HB.out | apply below_alloc | apply pw_below_drewN | apply below_drew1 | refine below_set ?_ GE183.out | refine below_set ?_ GE184.out | refine below_set ?_ GE188.out) | exact HB.out)⟩⟩
            · rw [if_neg c17] at H
              exact absurd H (by simp)
          · rw [if_neg c16] at H
            have c16b0 : ((Go.bits .and .i64 (rd l0_1 x6_1) a1) == (rd l0_1 x6_1)) = false := beq_eq_false_iff_ne.mpr c16
            have c16b1 : ((Go.bits .and .i64 (rd l0_1 x6_1) a1) != (rd l0_1 x6_1)) = true := bne_iff_ne.mpr c16
            have H' := Aside0.mk H
            clear H
            have hnb26 := NB183_184.out
            have hnc26 := NB184_183.out
            have hnb27 := NB183_188.out
            have hnc27 := NB188_183.out
            have hcz28_0 : wr.cell? ⟨gb183, 0, none⟩ = some (.int .i64 a0_0) := (blk_cell BK183.out 0).trans rfl
            have hcz28_1 : wr.cell? ⟨gb183, 1, none⟩ = some (.slice A0_1 l0_1.length c0_1) := (blk_cell BK183.out 1).trans rfl
            have hfz28_0 := blk_frozen BK183.out 0
            have hfz28_1 := blk_frozen BK183.out 1
            try go_wp2
            have n0_ := Aside0.mk (Kd.R_drew HO_189001.out)
            have n1_ := Aside0.mk (blk_drew BK183.out)
            have n2_ := Aside0.mk (blk_drew BK184.out)
            have n3_ := Aside0.mk (blk_drew BK188.out)
            have n4_ := Aside0.mk (below_drew1 HB.out)
            clear HO_189001
            clear BK183
            clear BK184
            clear BK188
            clear HB
            have HO_189001 := n0_
            have BK183 := n1_
            have BK184 := n2_
            have BK188 := n3_
            have HB := n4_
            clear n0_ n1_ n2_ n3_ n4_
            have p189 : 0 ≤ (x6_1 : Int) := of_decide_eq_true (by first | (with_reducible assumption) | assumption)
            have q189 : x6_1 < (l0_1.length : Int) := of_decide_eq_true (by first | (with_reducible assumption) | assumption)
            obtain ⟨ad189, e189, hx189_0⟩ := Kd.at_int HR0_1.out x6_1 p189 q189
            have hw189_0 := hx189_0
            cases e189
            replace hx189_0 := (HB.out.cell (World.block_lt_of_cell? w _ hx189_0)).trans hx189_0
            replace p189 := eq_true p189
            replace q189 := eq_true q189
            have p190 : 0 ≤ (x6_1 : Int) := of_decide_eq_true (by first | (with_reducible assumption) | assumption)
            have q190 : x6_1 < (l0_1.length : Int) := of_decide_eq_true (by first | (with_reducible assumption) | assumption)
            obtain ⟨ad190, e190, hx190_0⟩ := Kd.at_int HR0_1.out x6_1 p190 q190
            have hw190_0 := hx190_0
            obtain rfl : ad189 = ad190 := (by injection e190)
            replace hx190_0 := (HB.out.cell (World.block_lt_of_cell? w _ hx190_0)).trans hx190_0
            replace p190 := eq_true p190
            replace q190 := eq_true q190
            refine start_ (n := 13) (S := fun w' => w'.cell? ⟨gb183, 0, none⟩ = some (.int .i64 a0_0) ∧ w'.cell? ⟨gb183, 1, none⟩ = some (.slice (some ad189) l0_1.length c0_1) ∧ w'.cell? (ad189.add (x6_1).toNat) = some (.int .i64 (rd l0_1 x6_1)) ∧ w'.cell? (ad189.add (x6_1).toNat) = some (.int .i64 (rd l0_1 x6_1))) (ds := []) #[false, false, false, false, false, false, false, false, false, false, false, false, false] (by kernel_rfl) rfl rfl ⟨(blk_cell BK183.out 0).trans rfl, (blk_cell BK183.out 1).trans rfl, ((HB.out.cell (World.block_lt_of_cell? w _ hw189_0)).trans hw189_0), ((HB.out.cell (World.block_lt_of_cell? w _ hw190_0)).trans hw190_0)⟩ (fun hHeld => ?_); refine with_tabW spec_l01On.tab5 spec_l01On.bits5 (fun HT_ HW_ => ?_)
            generalize wr.drew = w29 at HO_189001 BK183 BK184 BK188 HB hx189_0 hx190_0 hHeld ⊢
            refine pure_ (i := 0) (N := some 18) (v := ?_) (a' := ?_) #[true, false, false, false, false, false, false, false, false, false, false, false, false] rfl rfl (any_of HT_.out (by kernel_rfl)) (fun _ _ _ h => h) (Or.inl ⟨by rfl, ?_⟩) ?_ ?_
            rotate_left
            · intro w'
              go_simp
              with_reducible rfl
            rotate_left
            · simp only [Act.put, List.setIfInBounds_toArray, List.set_cons_zero, List.set_cons_succ, i64_w, i32_w]
              rfl
            refine pure_ (i := 2) (N := some 20) (v := ?_) (a' := ?_) #[true, false, true, false, false, false, false, false, false, false, false, false, false] rfl rfl (any_of HT_.out (by kernel_rfl)) (fun _ _ _ h => h) (Or.inl ⟨by rfl, ?_⟩) ?_ ?_
            rotate_left
            · intro w'
              go_simp
              with_reducible rfl
            rotate_left
            · simp only [Act.put, List.setIfInBounds_toArray, List.set_cons_zero, List.set_cons_succ, i64_w, i32_w]
              rfl
            refine pure_ (i := 5) (N := some 23) (v := ?_) (a' := ?_) #[true, false, true, false, false, true, false, false, false, false, false, false, false] rfl rfl (any_of HT_.out (by kernel_rfl)) (fun _ _ _ h => h) (Or.inl ⟨by rfl, ?_⟩) ?_ ?_
            rotate_left
            · intro w'
              go_simp
              with_reducible rfl
            rotate_left
            · simp only [Act.put, List.setIfInBounds_toArray, List.set_cons_zero, List.set_cons_succ, i64_w, i32_w]
              rfl
            refine pure_ (i := 7) (N := some 25) (v := ?_) (a' := ?_) #[true, false, true, false, false, true, false, true, false, false, false, false, false] rfl rfl (any_of HT_.out (by kernel_rfl)) (fun _ _ _ h => h) (Or.inl ⟨by rfl, ?_⟩) ?_ ?_
            rotate_left
            · intro w'
              go_simp
              with_reducible rfl
            rotate_left
            · simp only [Act.put, List.setIfInBounds_toArray, List.set_cons_zero, List.set_cons_succ, i64_w, i32_w]
              rfl
            refine pure_ (i := 9) (N := some 27) (v := ?_) (a' := ?_) #[true, false, true, false, false, true, false, true, false, true, false, false, false] rfl rfl (any_of HT_.out (by kernel_rfl)) (fun _ _ _ h => h) (Or.inl ⟨by rfl, ?_⟩) ?_ ?_
            rotate_left
            · intro w'
              go_simp
              with_reducible rfl
            rotate_left
            · simp only [Act.put, List.setIfInBounds_toArray, List.set_cons_zero, List.set_cons_succ, i64_w, i32_w]
              rfl
            refine take_ (i := 1) (N := some 19) (v := ?_) (a' := ?_) #[true, true, true, false, false, true, false, true, false, true, false, false, false] rfl rfl (take_ofW HT_.out HW_.out (by kernel_rfl)) (fun _ _ _ h => h) (Or.inl ⟨by rfl, ?_⟩) hHeld ?_ ?_
            rotate_left
            · rintro w' ⟨s0, s1, s2, s3⟩
              go_simp
              with_reducible rfl
            rotate_left
            · simp only [Act.put, List.setIfInBounds_toArray, List.set_cons_zero, List.set_cons_succ, i64_w, i32_w]
              rfl
            refine pure_ (i := 3) (N := some 21) (v := ?_) (a' := ?_) #[true, true, true, true, false, true, false, true, false, true, false, false, false] rfl rfl (any_of HT_.out (by kernel_rfl)) (fun _ _ _ h => h) (Or.inl ⟨by rfl, ?_⟩) ?_ ?_
            rotate_left
            · intro w'
              go_simp
              with_reducible rfl
            rotate_left
            · simp only [Act.put, List.setIfInBounds_toArray, List.set_cons_zero, List.set_cons_succ, i64_w, i32_w]
              rfl
            refine take_ (i := 4) (N := some 22) (v := ?_) (a' := ?_) #[true, true, true, true, true, true, false, true, false, true, false, false, false] rfl rfl (take_ofW HT_.out HW_.out (by kernel_rfl)) (fun _ _ _ h => h) (Or.inl ⟨by rfl, ?_⟩) hHeld ?_ ?_
            rotate_left
            · rintro w' ⟨s0, s1, s2, s3⟩
              go_simp
              with_reducible rfl
            rotate_left
            · simp only [Act.put, List.setIfInBounds_toArray, List.set_cons_zero, List.set_cons_succ, i64_w, i32_w]
              rfl
            refine pure_ (i := 6) (N := some 24) (v := ?_) (a' := ?_) #[true, true, true, true, true, true, true, true, false, true, false, false, false] rfl rfl (any_of HT_.out (by kernel_rfl)) (fun _ _ _ h => h) (Or.inl ⟨by rfl, ?_⟩) ?_ ?_
            rotate_left
            · intro w'
              go_simp
              with_reducible rfl
            rotate_left
            · simp only [Act.put, List.setIfInBounds_toArray, List.set_cons_zero, List.set_cons_succ, i64_w, i32_w]
              rfl
            refine take_ (i := 8) (N := some 26) (v := ?_) (a' := ?_) #[true, true, true, true, true, true, true, true, true, true, false, false, false] rfl rfl (take_ofW HT_.out HW_.out (by kernel_rfl)) (fun _ _ _ h => h) (Or.inl ⟨by rfl, ?_⟩) hHeld ?_ ?_
            rotate_left
            · rintro w' ⟨s0, s1, s2, s3⟩
              go_simp
              with_reducible rfl
            rotate_left
            · simp only [Act.put, List.setIfInBounds_toArray, List.set_cons_zero, List.set_cons_succ, i64_w, i32_w]
              rfl
            refine pure_ (i := 10) (N := some 28) (v := ?_) (a' := ?_) #[true, true, true, true, true, true, true, true, true, true, true, false, false] rfl rfl (any_of HT_.out (by kernel_rfl)) (fun _ _ _ h => h) (Or.inl ⟨by rfl, ?_⟩) ?_ ?_
            rotate_left
            · intro w'
              go_simp
              with_reducible rfl
            rotate_left
            · simp only [Act.put, List.setIfInBounds_toArray, List.set_cons_zero, List.set_cons_succ, i64_w, i32_w]
              rfl
            refine take_ (i := 11) (N := some 29) (v := ?_) (a' := ?_) #[true, true, true, true, true, true, true, true, true, true, true, true, false] rfl rfl (take_ofW HT_.out HW_.out (by kernel_rfl)) (fun _ _ _ h => h) (Or.inl ⟨by rfl, ?_⟩) hHeld ?_ ?_
            rotate_left
            · rintro w' ⟨s0, s1, s2, s3⟩
              go_simp
              with_reducible rfl
            rotate_left
            · simp only [Act.put, List.setIfInBounds_toArray, List.set_cons_zero, List.set_cons_succ, i64_w, i32_w]
              rfl
            refine pure_ (i := 12) (N := some 30) (v := ?_) (a' := ?_) #[true, true, true, true, true, true, true, true, true, true, true, true, true] rfl rfl (any_of HT_.out (by kernel_rfl)) (fun _ _ _ h => h) (Or.inl ⟨by rfl, ?_⟩) ?_ ?_
            rotate_left
            · intro w'
              go_simp
              with_reducible rfl
            rotate_left
            · simp only [Act.put, List.setIfInBounds_toArray, List.set_cons_zero, List.set_cons_succ, i64_w, i32_w]
              rfl
            refine done_ (done_of HT_.out (by kernel_rfl)) ?_
            try go_wp2
            go_roundg k1
            case measure => have := HK1.out; omega
            case rel => exact ⟨(wrap64 (x6_1 + 1)), (x189001_1), (u189001), (by first | rfl | (simp; done) | (simp [*]; done)), H', ⟨by have := HK1.out; omega⟩, ⟨by (with_reducible repeat (first | apply Kd.R_alloc | apply Kd.R_drewN | apply Kd.R_drew)); exact HO_189001.out⟩, ⟨by (with_reducible repeat (first | refine blk_drewN ?_ _ | refine blk_drew ?_ | refine blk_alloc ?_ _)); exact BK183.out⟩, ⟨by (with_reducible repeat (first | refine blk_drewN ?_ _ | refine blk_drew ?_ | refine blk_alloc ?_ _)); exact BK184.out⟩, ⟨by (with_reducible repeat (first | refine blk_drewN ?_ _ | refine blk_drew ?_ | refine blk_alloc ?_ _)); exact BK188.out⟩, ⟨by repeat (first | (with_reducible first | exact HB.out | apply below_alloc | apply pw_below_drewN | apply below_drew1 | refine below_set ?_ GE183.out | refine below_set ?_ GE184.out | refine below_set ?_ GE188.out) | exact HB.out)⟩⟩
        · rw [if_neg c15] at H
          exact absurd H (by simp)
      · rw [if_neg c14] at H
        have c14b0 : decide (x6_1 < (l0_1.length : Int)) = false := decide_eq_false c14
        clear c14
        simp only [Option.some.injEq, Prod.mk.injEq] at H
        obtain ⟨rfl, rfl⟩ := H
        have hnb30 := NB183_184.out
        have hnc30 := NB184_183.out
        have hnb31 := NB183_188.out
        have hnc31 := NB188_183.out
        have hcz32_0 : wr.cell? ⟨gb183, 0, none⟩ = some (.int .i64 a0_0) := (blk_cell BK183.out 0).trans rfl
        have hcz32_1 : wr.cell? ⟨gb183, 1, none⟩ = some (.slice A0_1 l0_1.length c0_1) := (blk_cell BK183.out 1).trans rfl
        have hfz32_0 := blk_frozen BK183.out 0
        have hfz32_1 := blk_frozen BK183.out 1
        have hnb33 := NB188_184.out
        have hnc33 := NB184_188.out
        have hcz34_0 : wr.cell? ⟨gb188, 0, none⟩ = some (.int .i64 a0_0) := (blk_cell BK188.out 0).trans rfl
        have hcz34_1 : wr.cell? ⟨gb188, 1, none⟩ = some (u189001) := (blk_cell BK188.out 1).trans rfl
        have hfz34_0 := blk_frozen BK188.out 0
        have hfz34_1 := blk_frozen BK188.out 1
        have hcz35_0 : wr.cell? ⟨gb184, 0, none⟩ = some (.int .i64 0) := (blk_cell BK184.out 0).trans rfl
        have hcz35_1 : wr.cell? ⟨gb184, 1, none⟩ = some (.slice none 0 0) := (blk_cell BK184.out 1).trans rfl
        have hfz35_0 := blk_frozen BK184.out 0
        have hfz35_1 := blk_frozen BK184.out 1
        obtain ⟨Ao36, co36, eo36⟩ := Kd.R_slice HO_189001.out
        subst eo36
        go_wp2
        refine bodyPost_ret (results_cell_row rfl _ _ gb184 25 #[.int .i64 a0_0, .slice Ao36 x189001_1.length co36] (0, 0) _ rfl (by (with_reducible repeat (first | refine blk_drewN ?_ _ | refine blk_drew ?_ | refine blk_alloc ?_ _)); refine blk_put (cs := #[.int .i64 a0_0, .slice none 0 0]) ?_ 1 _ rfl; (with_reducible repeat (first | refine blk_drewN ?_ _ | refine blk_drew ?_ | refine blk_alloc ?_ _)); refine blk_put (cs := #[.int .i64 0, .slice none 0 0]) ?_ 0 _ rfl; (with_reducible repeat (first | refine blk_drewN ?_ _ | refine blk_drew ?_ | refine blk_alloc ?_ _)); exact BK184.out) Try.underlying25 rfl (by kernel_rfl)) rfl ?_
        exact ⟨_, by first | rfl | (simp [errW_none, errW_some] <;> rfl) | (simp [*, errW_none, errW_some] <;> rfl), by (with_reducible repeat (first | apply Kd.R_alloc | apply Kd.R_drewN | apply Kd.R_drew)); exact Kd.R_mono (Kd.R_far (p := ⟨gb184, 1, none⟩) (Kd.R_far (p := ⟨gb184, 0, none⟩) (Kd.R_types HO_189001.out BK184.out (by decide)) (fun _ hk => hk.2) (.int .i64 a0_0)) (fun _ hk => hk.2) (.slice Ao36 x189001_1.length co36)) (fun _ hk => trivial), by repeat (first | (with_reducible first | exact HB.out | apply below_alloc | apply pw_below_drewN | apply below_drew1 | refine below_set ?_ GE183.out | refine below_set ?_ GE184.out | refine below_set ?_ GE188.out) | exact HB.out)⟩

end Go.Proofs.Ytoeapnempdgagaa.Q
end

section
/- StarOf. -/
namespace Go.Proofs.Ytoeapnempdgagaa.K
open Go.RowKit Go.Shelf Go.Proofs.YtoeapnempdgagaaW.PrintWords Go.Proofs.YtoeapnempdgagaaW.PrintLast Go.Proofs.YtoeapnempdgagaaW.PrintMore
set_option linter.unusedVariables false
set_option linter.unusedSimpArgs false

set_option maxHeartbeats 1000000 in
theorem StarOf1_calls (n f : Int) (hn : 1 ≤ n ∧ n ≤ 6) (Bk Bf : Nat) (A : Option Addr) (c : Nat) (l : List Int) (w : World) (hb : CB w Bk n (.slice A l.length c)) (hf : w.cell? ⟨Bf, 0, none⟩ = some (I f)) (hk : Kx w A c l) :
    Calls Try.prog 74 #[.pointer (some ⟨Bk, 0, none⟩), .pointer (some ⟨Bf, 0, none⟩)] w fun e w' => e = .returned (.bool (hasB l f)) ∧ Grew w w' := by
  have k0 := hb.c0
  have k1 := hb.c1
  have H := Aside0.mk (hk.has n f)
  clear hk hb
  go_enter Try.func74, Try.ntmps74
  go_wp2_with fail
  refine H.out.mono ?_
  rintro e w1 ⟨rfl, hG1⟩
  go_wp2_with fail
  go_ret
  exact ⟨rfl, hG1⟩

set_option maxHeartbeats 1000000 in
theorem StarOf2_calls (x n f : Int) (Bk Bf : Nat) (A : Option Addr) (c : Nat) (l : List Int) (w : World) (hb : CB w Bk n (.slice A l.length c)) (hf : w.cell? ⟨Bf, 0, none⟩ = some (I f)) (hk : Kx w A c l) :
    Calls Try.prog 75 (#[I x] ++ #[.pointer (some ⟨Bk, 0, none⟩), .pointer (some ⟨Bf, 0, none⟩)]) w fun e w' => e = .returned (.bool (hasB l (Go.bits .or .i64 f x))) ∧ Grew w w' := by
  have k0 := hb.c0
  have k1 := hb.c1
  have H := Aside0.mk (hk.has n (Go.bits .or .i64 f x))
  clear hk hb
  go_enter Try.func75, Try.ntmps75
  go_wp2_with fail
  refine H.out.mono ?_
  rintro e w1 ⟨rfl, hG1⟩
  go_wp2_with fail
  go_ret
  exact ⟨rfl, hG1⟩

/-- What StarOf answers. -/
def StarOf_b (n : Int) (l : List Int) (f : Int) : Bool := hasB l f
def StarOf_p (l : List Int) (f x : Int) : Bool := hasB l (Go.bits .or .i64 f x)

set_option maxHeartbeats 2000000 in
theorem StarOf_calls (n : Int) (A : Option Addr) (c : Nat) (l : List Int) (f : Int) (w : World) (hk : Kx w A c l) :
    Calls Try.prog 36 #[.agg #[I n, .slice A l.length c], I f] w fun e w' => ∃ v, e = .returned (.tuple #[.agg #[I (partOf n l (StarOf_b n l f) (StarOf_p l f)).1, v], I (partOf n l (StarOf_b n l f) (StarOf_p l f)).2.2]) ∧ Ki.R 2 w' w.heap.size (fun _ => True) v (partOf n l (StarOf_b n l f) (StarOf_p l f)).2.1 ∧ Grew w w' := by
  obtain ⟨W3, hW3⟩ : ∃ W3, W3 = ((w.alloc (.cells #[I n, .slice A l.length c] 25)).alloc (.cells #[I f] 2)).alloc (.cells #[I 0, .slice none 0 0] 25) := ⟨_, rfl⟩
  have hB : CB W3 w.heap.size n (.slice A l.length c) := by rw [hW3]; exact blk_alloc (blk_alloc (blk_new w _) _) _
  have hF : W3.heap[w.heap.size + 1]? = some (.cells #[I f] 2 (0, 0)) := by
    rw [hW3]
    refine blk_alloc ?_ _
    have := blk_new (w.alloc (.cells #[I n, .slice A l.length c] 25)) (.cells #[I f] 2)
    rwa [World.size_alloc] at this
  have hO : CB W3 (w.heap.size + 2) 0 (.slice none 0 0) := by
    rw [hW3]
    have := blk_new ((w.alloc (.cells #[I n, .slice A l.length c] 25)).alloc (.cells #[I f] 2)) (.cells #[I 0, .slice none 0 0] 25)
    rwa [World.size_alloc, World.size_alloc] at this
  have hg : Grew w W3 := by rw [hW3]; exact below_alloc (below_alloc (below_alloc (Grew.refl w) _) _) _
  have H := Aside0.mk (complexCode_calls (StarOf_b n l f) n A c l 74 #[] #[.pointer (some ⟨w.heap.size, 0, none⟩), .pointer (some ⟨w.heap.size + 1, 0, none⟩)] W3 (hk.later hg) (enters_of Try.func74 (by kernel_rfl) rfl)
    (fun hi W hW => by
      have := StarOf1_calls n f (isC_size hi) w.heap.size (w.heap.size + 1) A c l W (blk_below hB hW) (blk_cell (blk_below hF hW) 0) (hk.later (Grew.trans hg hW))
      rw [Array.empty_append]
      exact this))
  obtain ⟨r, hr⟩ : ∃ r, r = partOf n l (StarOf_b n l f) (StarOf_p l f) := ⟨_, rfl⟩
  rw [← hr]
  have k0 := hB.c0
  have k1 := hB.c1
  have HK := Aside0.mk hk
  have HB := Aside0.mk hB
  have HF := Aside0.mk hF
  have HO := Aside0.mk hO
  have HG := Aside0.mk hg
  clear hk hB hF hO hg
  obtain ⟨cc, hcc⟩ : ∃ cc, cc = codeOf n l (StarOf_b n l f) := ⟨_, rfl⟩
  rw [← hcc] at H
  by_cases hz : cc = 0
  · subst hz
    obtain ⟨hi, hb⟩ := codeOf_zero hcc.symm
    have HN := Aside0.mk (isC_size hi)
    have HV : Aside0 (r = (n, thoseL n (fun x => hasB l x && StarOf_p l f x), 0)) := ⟨by rw [hr]; unfold partOf; rw [if_pos hcc.symm]⟩
    clear hr hcc hi hb
    subst hW3
    go_enter Try.func36, Try.ntmps36
    go_wp2_with fail
    refine H.out.mono ?_
    rintro e w1 ⟨rfl, hG1⟩
    have HB1 := Aside0.mk (blk_below HB.out hG1)
    have HF1 := Aside0.mk (blk_below HF.out hG1)
    have HO1 := Aside0.mk (blk_below HO.out hG1)
    have HG1 := Aside0.mk (Grew.trans HG.out hG1)
    have H2 := Aside0.mk (part_calls (StarOf_p l f) n (by have := HN.out; omega) A c l 75 #[] #[.pointer (some ⟨w.heap.size, 0, none⟩), .pointer (some ⟨w.heap.size + 1, 0, none⟩)] w1 (HK.out.later HG1.out) (enters_of Try.func75 (by kernel_rfl) rfl)
      (fun x _ _ _ W hW => StarOf2_calls x n f w.heap.size (w.heap.size + 1) A c l W (blk_below HB1.out hW) (blk_cell (blk_below HF1.out hW) 0) (HK.out.later (Grew.trans HG1.out hW))))
    have k0 : w1.cell? ⟨w.heap.size, 0, none⟩ = some (I n) := blk_cell HB1.out 0
    have k1 : w1.cell? ⟨w.heap.size, 1, none⟩ = some (.slice A l.length c) := blk_cell HB1.out 1
    clear hG1
    go_wp2_with fail
    refine H2.out.mono ?_
    rintro e w2 ⟨v, rfl, hR, hG⟩
    clear k0 k1
    have hB2 : CB w2 (w.heap.size + 2) 0 (.slice none 0 0) := blk_below HO1.out hG
    have HB2 := Aside0.mk hB2
    have HR2 := Aside0.mk hR
    have HG2 := Aside0.mk (Grew.trans HG1.out hG)
    have hsz := HG1.out.size
    have k0 := hB2.c0
    have k1 := hB2.c1
    have f0 := blk_frozen hB2 0
    have f1 := blk_frozen hB2 1
    obtain ⟨A2, c2, e2⟩ := Kd.R_slice hR
    subst e2
    clear hB2 hR hG
    go_wp2_with fail
    refine bodyPost_ret (results_ct rfl _ _ (w.heap.size + 2) 25 #[I n, _] (0, 0) _ rfl HB2.out.set Try.underlying25 rfl (by kernel_rfl)) rfl ?_
    rw [HV.out]
    exact ⟨_, rfl, Kd.R_lower (Ri.setCB2 HR2.out HB2.out) hsz, below_set (below_set HG2.out (by omega)) (by omega)⟩
  · have HV : Aside0 (r = (0, [], cc)) := ⟨by rw [hr, hcc]; unfold partOf; rw [if_neg (by rw [← hcc]; exact hz)]⟩
    clear hr hcc
    subst hW3
    go_enter Try.func36, Try.ntmps36
    go_wp2_with fail
    refine H.out.mono ?_
    rintro e w1 ⟨rfl, hG1⟩
    clear k0 k1
    have hB1 : CB w1 (w.heap.size + 2) 0 (.slice none 0 0) := blk_below HO.out hG1
    have HB1 := Aside0.mk hB1
    have HG1 := Aside0.mk (Grew.trans HG.out hG1)
    have k0 := hB1.c0
    have k1 := hB1.c1
    have f0 := blk_frozen hB1 0
    have f1 := blk_frozen hB1 1
    clear hB1 hG1
    go_wp2_with fail
    refine bodyPost_ret (results_ct rfl _ _ (w.heap.size + 2) 25 #[I 0, .slice none 0 0] (0, 0) _ rfl HB1.out.set Try.underlying25 rfl (by kernel_rfl)) rfl ?_
    rw [HV.out]
    exact ⟨_, rfl, Kd.R_nil _ _ _ _ _, below_set (below_set HG1.out (by omega)) (by omega)⟩

end Go.Proofs.Ytoeapnempdgagaa.K
end

section
/- StarOf in the form that the printed law takes. -/
namespace Go.Proofs.Ytoeapnempdgagaa.X
open Go.RowKit Go.Shelf Go.Proofs.Ytoeapnempdgagaa.K Go.Proofs.YtoeapnempdgagaaW.PrintWords Go.Proofs.YtoeapnempdgagaaW.PrintLast Go.Proofs.YtoeapnempdgagaaW.PrintMore
set_option linter.unusedVariables false
set_option linter.unusedSimpArgs false

def impl_StarOf.f (a0_0 : Int) (l0_1 : List Int) (a1 : Int) : Option (Int × List Int × Int) := if l0_1.length ≤ 2097152 then some (partOf a0_0 l0_1 (StarOf_b a0_0 l0_1 a1) (StarOf_p l0_1 a1)) else none
theorem impl_StarOf.calls (a0_0 : Int) (A0_1 : Option Addr) (c0_1 : Nat) (l0_1 : List Int) (a1 : Int) (r1 : Int) (r2 : List Int) (r3 : Int) (w : World) (hr0_1 : Kd.C (Kd.int .i64) w A0_1 l0_1.length l0_1) (hc0_1 : l0_1.length ≤ c0_1) (h : impl_StarOf.f a0_0 l0_1 a1 = some (r1, r2, r3)) :
    Calls Try.prog 36 #[.agg #[.int .i64 a0_0, .slice A0_1 l0_1.length c0_1], .int .i64 a1] w fun e w' => ∃ v1_ : Value, e = .returned (.tuple #[.agg #[.int .i64 r1, v1_], .int .i64 r3]) ∧ Kd.R (Kd.int .i64) 2 w' w.heap.size (fun _ => True) v1_ r2 ∧ Below w.heap.size w w' := by
  unfold impl_StarOf.f at h
  by_cases hl : l0_1.length ≤ 2097152
  · rw [if_pos hl] at h
    injection h with h
    have H := StarOf_calls a0_0 A0_1 c0_1 l0_1 a1 w ⟨hr0_1, hc0_1, by omega⟩
    rw [h] at H
    exact H
  · rw [if_neg hl] at h
    cases h

end Go.Proofs.Ytoeapnempdgagaa.X
end

section
/- LinkOf. -/
namespace Go.Proofs.Ytoeapnempdgagaa.K
open Go.RowKit Go.Shelf Go.Proofs.YtoeapnempdgagaaW.PrintWords Go.Proofs.YtoeapnempdgagaaW.PrintLast Go.Proofs.YtoeapnempdgagaaW.PrintMore
set_option linter.unusedVariables false
set_option linter.unusedSimpArgs false

set_option maxHeartbeats 1000000 in
theorem LinkOf1_calls (n f : Int) (hn : 1 ≤ n ∧ n ≤ 6) (Bk Bf : Nat) (A : Option Addr) (c : Nat) (l : List Int) (w : World) (hb : CB w Bk n (.slice A l.length c)) (hf : w.cell? ⟨Bf, 0, none⟩ = some (I f)) (hk : Kx w A c l) :
    Calls Try.prog 77 #[.pointer (some ⟨Bk, 0, none⟩), .pointer (some ⟨Bf, 0, none⟩)] w fun e w' => e = .returned (.bool (hasB l f)) ∧ Grew w w' := by
  have k0 := hb.c0
  have k1 := hb.c1
  have H := Aside0.mk (hk.has n f)
  clear hk hb
  go_enter Try.func77, Try.ntmps77
  go_wp2_with fail
  refine H.out.mono ?_
  rintro e w1 ⟨rfl, hG1⟩
  go_wp2_with fail
  go_ret
  exact ⟨rfl, hG1⟩

set_option maxHeartbeats 1000000 in
theorem LinkOf2_calls (x n f : Int) (Bk Bf : Nat) (A : Option Addr) (c : Nat) (l : List Int) (w : World) (hb : CB w Bk n (.slice A l.length c)) (hf : w.cell? ⟨Bf, 0, none⟩ = some (I f)) (hk : Kx w A c l) :
    Calls Try.prog 78 (#[I x] ++ #[.pointer (some ⟨Bf, 0, none⟩), .pointer (some ⟨Bk, 0, none⟩)]) w fun e w' => e = .returned (.bool (Go.bits .and .i64 f x == 0 && hasB l (Go.bits .or .i64 f x))) ∧ Grew w w' := by
  have k0 := hb.c0
  have k1 := hb.c1
  have H := Aside0.mk (hk.has n (Go.bits .or .i64 f x))
  clear hk hb
  by_cases hz : Go.bits .and .i64 f x = 0
  · have hz2 : (Go.bits .and .i64 f x == 0) = true := by simp [hz]
    rw [hz2]
    clear hz2
    go_enter Try.func78, Try.ntmps78
    go_wp2_with fail
    refine H.out.mono ?_
    rintro e w1 ⟨rfl, hG1⟩
    go_wp2_with fail
    go_ret
    exact ⟨rfl, hG1⟩
  · have hz2 : (Go.bits .and .i64 f x == 0) = false := by simp [hz]
    rw [hz2]
    clear hz2
    go_enter Try.func78, Try.ntmps78
    go_wp2_with fail
    go_ret
    exact ⟨rfl, Grew.refl w⟩

/-- What LinkOf answers. -/
def LinkOf_b (n : Int) (l : List Int) (f : Int) : Bool := hasB l f
def LinkOf_p (l : List Int) (f x : Int) : Bool := Go.bits .and .i64 f x == 0 && hasB l (Go.bits .or .i64 f x)

set_option maxHeartbeats 2000000 in
theorem LinkOf_calls (n : Int) (A : Option Addr) (c : Nat) (l : List Int) (f : Int) (w : World) (hk : Kx w A c l) :
    Calls Try.prog 38 #[.agg #[I n, .slice A l.length c], I f] w fun e w' => ∃ v, e = .returned (.tuple #[.agg #[I (partOf n l (LinkOf_b n l f) (LinkOf_p l f)).1, v], I (partOf n l (LinkOf_b n l f) (LinkOf_p l f)).2.2]) ∧ Ki.R 2 w' w.heap.size (fun _ => True) v (partOf n l (LinkOf_b n l f) (LinkOf_p l f)).2.1 ∧ Grew w w' := by
  obtain ⟨W3, hW3⟩ : ∃ W3, W3 = ((w.alloc (.cells #[I n, .slice A l.length c] 25)).alloc (.cells #[I f] 2)).alloc (.cells #[I 0, .slice none 0 0] 25) := ⟨_, rfl⟩
  have hB : CB W3 w.heap.size n (.slice A l.length c) := by rw [hW3]; exact blk_alloc (blk_alloc (blk_new w _) _) _
  have hF : W3.heap[w.heap.size + 1]? = some (.cells #[I f] 2 (0, 0)) := by
    rw [hW3]
    refine blk_alloc ?_ _
    have := blk_new (w.alloc (.cells #[I n, .slice A l.length c] 25)) (.cells #[I f] 2)
    rwa [World.size_alloc] at this
  have hO : CB W3 (w.heap.size + 2) 0 (.slice none 0 0) := by
    rw [hW3]
    have := blk_new ((w.alloc (.cells #[I n, .slice A l.length c] 25)).alloc (.cells #[I f] 2)) (.cells #[I 0, .slice none 0 0] 25)
    rwa [World.size_alloc, World.size_alloc] at this
  have hg : Grew w W3 := by rw [hW3]; exact below_alloc (below_alloc (below_alloc (Grew.refl w) _) _) _
  have H := Aside0.mk (complexCode_calls (LinkOf_b n l f) n A c l 77 #[] #[.pointer (some ⟨w.heap.size, 0, none⟩), .pointer (some ⟨w.heap.size + 1, 0, none⟩)] W3 (hk.later hg) (enters_of Try.func77 (by kernel_rfl) rfl)
    (fun hi W hW => by
      have := LinkOf1_calls n f (isC_size hi) w.heap.size (w.heap.size + 1) A c l W (blk_below hB hW) (blk_cell (blk_below hF hW) 0) (hk.later (Grew.trans hg hW))
      rw [Array.empty_append]
      exact this))
  obtain ⟨r, hr⟩ : ∃ r, r = partOf n l (LinkOf_b n l f) (LinkOf_p l f) := ⟨_, rfl⟩
  rw [← hr]
  have k0 := hB.c0
  have k1 := hB.c1
  have HK := Aside0.mk hk
  have HB := Aside0.mk hB
  have HF := Aside0.mk hF
  have HO := Aside0.mk hO
  have HG := Aside0.mk hg
  clear hk hB hF hO hg
  obtain ⟨cc, hcc⟩ : ∃ cc, cc = codeOf n l (LinkOf_b n l f) := ⟨_, rfl⟩
  rw [← hcc] at H
  by_cases hz : cc = 0
  · subst hz
    obtain ⟨hi, hb⟩ := codeOf_zero hcc.symm
    have HN := Aside0.mk (isC_size hi)
    have HV : Aside0 (r = (n, thoseL n (fun x => hasB l x && LinkOf_p l f x), 0)) := ⟨by rw [hr]; unfold partOf; rw [if_pos hcc.symm]⟩
    clear hr hcc hi hb
    subst hW3
    go_enter Try.func38, Try.ntmps38
    go_wp2_with fail
    refine H.out.mono ?_
    rintro e w1 ⟨rfl, hG1⟩
    have HB1 := Aside0.mk (blk_below HB.out hG1)
    have HF1 := Aside0.mk (blk_below HF.out hG1)
    have HO1 := Aside0.mk (blk_below HO.out hG1)
    have HG1 := Aside0.mk (Grew.trans HG.out hG1)
    have H2 := Aside0.mk (part_calls (LinkOf_p l f) n (by have := HN.out; omega) A c l 78 #[] #[.pointer (some ⟨w.heap.size + 1, 0, none⟩), .pointer (some ⟨w.heap.size, 0, none⟩)] w1 (HK.out.later HG1.out) (enters_of Try.func78 (by kernel_rfl) rfl)
      (fun x _ _ _ W hW => LinkOf2_calls x n f w.heap.size (w.heap.size + 1) A c l W (blk_below HB1.out hW) (blk_cell (blk_below HF1.out hW) 0) (HK.out.later (Grew.trans HG1.out hW))))
    have k0 : w1.cell? ⟨w.heap.size, 0, none⟩ = some (I n) := blk_cell HB1.out 0
    have k1 : w1.cell? ⟨w.heap.size, 1, none⟩ = some (.slice A l.length c) := blk_cell HB1.out 1
    clear hG1
    go_wp2_with fail
    refine H2.out.mono ?_
    rintro e w2 ⟨v, rfl, hR, hG⟩
    clear k0 k1
    have hB2 : CB w2 (w.heap.size + 2) 0 (.slice none 0 0) := blk_below HO1.out hG
    have HB2 := Aside0.mk hB2
    have HR2 := Aside0.mk hR
    have HG2 := Aside0.mk (Grew.trans HG1.out hG)
    have hsz := HG1.out.size
    have k0 := hB2.c0
    have k1 := hB2.c1
    have f0 := blk_frozen hB2 0
    have f1 := blk_frozen hB2 1
    obtain ⟨A2, c2, e2⟩ := Kd.R_slice hR
    subst e2
    clear hB2 hR hG
    go_wp2_with fail
    refine bodyPost_ret (results_ct rfl _ _ (w.heap.size + 2) 25 #[I n, _] (0, 0) _ rfl HB2.out.set Try.underlying25 rfl (by kernel_rfl)) rfl ?_
    rw [HV.out]
    exact ⟨_, rfl, Kd.R_lower (Ri.setCB2 HR2.out HB2.out) hsz, below_set (below_set HG2.out (by omega)) (by omega)⟩
  · have HV : Aside0 (r = (0, [], cc)) := ⟨by rw [hr, hcc]; unfold partOf; rw [if_neg (by rw [← hcc]; exact hz)]⟩
    clear hr hcc
    subst hW3
    go_enter Try.func38, Try.ntmps38
    go_wp2_with fail
    refine H.out.mono ?_
    rintro e w1 ⟨rfl, hG1⟩
    clear k0 k1
    have hB1 : CB w1 (w.heap.size + 2) 0 (.slice none 0 0) := blk_below HO.out hG1
    have HB1 := Aside0.mk hB1
    have HG1 := Aside0.mk (Grew.trans HG.out hG1)
    have k0 := hB1.c0
    have k1 := hB1.c1
    have f0 := blk_frozen hB1 0
    have f1 := blk_frozen hB1 1
    clear hB1 hG1
    go_wp2_with fail
    refine bodyPost_ret (results_ct rfl _ _ (w.heap.size + 2) 25 #[I 0, .slice none 0 0] (0, 0) _ rfl HB1.out.set Try.underlying25 rfl (by kernel_rfl)) rfl ?_
    rw [HV.out]
    exact ⟨_, rfl, Kd.R_nil _ _ _ _ _, below_set (below_set HG1.out (by omega)) (by omega)⟩

end Go.Proofs.Ytoeapnempdgagaa.K
end

section
/- LinkOf in the form that the printed law takes. -/
namespace Go.Proofs.Ytoeapnempdgagaa.X
open Go.RowKit Go.Shelf Go.Proofs.Ytoeapnempdgagaa.K Go.Proofs.YtoeapnempdgagaaW.PrintWords Go.Proofs.YtoeapnempdgagaaW.PrintLast Go.Proofs.YtoeapnempdgagaaW.PrintMore
set_option linter.unusedVariables false
set_option linter.unusedSimpArgs false

def impl_LinkOf.f (a0_0 : Int) (l0_1 : List Int) (a1 : Int) : Option (Int × List Int × Int) := if l0_1.length ≤ 2097152 then some (partOf a0_0 l0_1 (LinkOf_b a0_0 l0_1 a1) (LinkOf_p l0_1 a1)) else none
theorem impl_LinkOf.calls (a0_0 : Int) (A0_1 : Option Addr) (c0_1 : Nat) (l0_1 : List Int) (a1 : Int) (r1 : Int) (r2 : List Int) (r3 : Int) (w : World) (hr0_1 : Kd.C (Kd.int .i64) w A0_1 l0_1.length l0_1) (hc0_1 : l0_1.length ≤ c0_1) (h : impl_LinkOf.f a0_0 l0_1 a1 = some (r1, r2, r3)) :
    Calls Try.prog 38 #[.agg #[.int .i64 a0_0, .slice A0_1 l0_1.length c0_1], .int .i64 a1] w fun e w' => ∃ v1_ : Value, e = .returned (.tuple #[.agg #[.int .i64 r1, v1_], .int .i64 r3]) ∧ Kd.R (Kd.int .i64) 2 w' w.heap.size (fun _ => True) v1_ r2 ∧ Below w.heap.size w w' := by
  unfold impl_LinkOf.f at h
  by_cases hl : l0_1.length ≤ 2097152
  · rw [if_pos hl] at h
    injection h with h
    have H := LinkOf_calls a0_0 A0_1 c0_1 l0_1 a1 w ⟨hr0_1, hc0_1, by omega⟩
    rw [h] at H
    exact H
  · rw [if_neg hl] at h
    cases h

end Go.Proofs.Ytoeapnempdgagaa.X
end

section
/- TakeFace. -/
namespace Go.Proofs.Ytoeapnempdgagaa.K
open Go.RowKit Go.Shelf Go.Proofs.YtoeapnempdgagaaW.PrintWords Go.Proofs.YtoeapnempdgagaaW.PrintLast Go.Proofs.YtoeapnempdgagaaW.PrintMore
set_option linter.unusedVariables false
set_option linter.unusedSimpArgs false

set_option maxHeartbeats 1000000 in
theorem TakeFace1_calls (n f : Int) (hn : 1 ≤ n ∧ n ≤ 6) (Bk Bf : Nat) (A : Option Addr) (c : Nat) (l : List Int) (w : World) (hb : CB w Bk n (.slice A l.length c)) (hf : w.cell? ⟨Bf, 0, none⟩ = some (I f)) (hk : Kx w A c l) :
    Calls Try.prog 80 #[.pointer (some ⟨Bk, 0, none⟩), .pointer (some ⟨Bf, 0, none⟩)] w fun e w' => e = .returned (.bool (hasB l f)) ∧ Grew w w' := by
  have k0 := hb.c0
  have k1 := hb.c1
  have H := Aside0.mk (hk.has n f)
  clear hk hb
  go_enter Try.func80, Try.ntmps80
  go_wp2_with fail
  refine H.out.mono ?_
  rintro e w1 ⟨rfl, hG1⟩
  go_wp2_with fail
  go_ret
  exact ⟨rfl, hG1⟩

set_option maxHeartbeats 1000000 in
theorem TakeFace2_calls (x n f : Int) (Bk Bf : Nat) (A : Option Addr) (c : Nat) (l : List Int) (w : World) (hb : CB w Bk n (.slice A l.length c)) (hf : w.cell? ⟨Bf, 0, none⟩ = some (I f)) (hk : Kx w A c l) :
    Calls Try.prog 81 (#[I x] ++ #[.pointer (some ⟨Bf, 0, none⟩)]) w fun e w' => e = .returned (.bool (!inB f x)) ∧ Grew w w' := by
  have H := Aside0.mk (isIn_calls f x w)
  clear hk hb
  go_enter Try.func81, Try.ntmps81
  go_wp2_with fail
  refine H.out.mono ?_
  rintro e w1 ⟨rfl, hG1⟩
  go_wp2_with fail
  go_ret
  exact ⟨rfl, hG1⟩

/-- What TakeFace answers. -/
def TakeFace_b (n : Int) (l : List Int) (f : Int) : Bool := hasB l f
def TakeFace_p (l : List Int) (f x : Int) : Bool := !inB f x

set_option maxHeartbeats 2000000 in
theorem TakeFace_calls (n : Int) (A : Option Addr) (c : Nat) (l : List Int) (f : Int) (w : World) (hk : Kx w A c l) :
    Calls Try.prog 40 #[.agg #[I n, .slice A l.length c], I f] w fun e w' => ∃ v, e = .returned (.tuple #[.agg #[I (partOf n l (TakeFace_b n l f) (TakeFace_p l f)).1, v], I (partOf n l (TakeFace_b n l f) (TakeFace_p l f)).2.2]) ∧ Ki.R 2 w' w.heap.size (fun _ => True) v (partOf n l (TakeFace_b n l f) (TakeFace_p l f)).2.1 ∧ Grew w w' := by
  obtain ⟨W3, hW3⟩ : ∃ W3, W3 = ((w.alloc (.cells #[I n, .slice A l.length c] 25)).alloc (.cells #[I f] 2)).alloc (.cells #[I 0, .slice none 0 0] 25) := ⟨_, rfl⟩
  have hB : CB W3 w.heap.size n (.slice A l.length c) := by rw [hW3]; exact blk_alloc (blk_alloc (blk_new w _) _) _
  have hF : W3.heap[w.heap.size + 1]? = some (.cells #[I f] 2 (0, 0)) := by
    rw [hW3]
    refine blk_alloc ?_ _
    have := blk_new (w.alloc (.cells #[I n, .slice A l.length c] 25)) (.cells #[I f] 2)
    rwa [World.size_alloc] at this
  have hO : CB W3 (w.heap.size + 2) 0 (.slice none 0 0) := by
    rw [hW3]
    have := blk_new ((w.alloc (.cells #[I n, .slice A l.length c] 25)).alloc (.cells #[I f] 2)) (.cells #[I 0, .slice none 0 0] 25)
    rwa [World.size_alloc, World.size_alloc] at this
  have hg : Grew w W3 := by rw [hW3]; exact below_alloc (below_alloc (below_alloc (Grew.refl w) _) _) _
  have H := Aside0.mk (complexCode_calls (TakeFace_b n l f) n A c l 80 #[] #[.pointer (some ⟨w.heap.size, 0, none⟩), .pointer (some ⟨w.heap.size + 1, 0, none⟩)] W3 (hk.later hg) (enters_of Try.func80 (by kernel_rfl) rfl)
    (fun hi W hW => by
      have := TakeFace1_calls n f (isC_size hi) w.heap.size (w.heap.size + 1) A c l W (blk_below hB hW) (blk_cell (blk_below hF hW) 0) (hk.later (Grew.trans hg hW))
      rw [Array.empty_append]
      exact this))
  obtain ⟨r, hr⟩ : ∃ r, r = partOf n l (TakeFace_b n l f) (TakeFace_p l f) := ⟨_, rfl⟩
  rw [← hr]
  have k0 := hB.c0
  have k1 := hB.c1
  have HK := Aside0.mk hk
  have HB := Aside0.mk hB
  have HF := Aside0.mk hF
  have HO := Aside0.mk hO
  have HG := Aside0.mk hg
  clear hk hB hF hO hg
  obtain ⟨cc, hcc⟩ : ∃ cc, cc = codeOf n l (TakeFace_b n l f) := ⟨_, rfl⟩
  rw [← hcc] at H
  by_cases hz : cc = 0
  · subst hz
    obtain ⟨hi, hb⟩ := codeOf_zero hcc.symm
    have HN := Aside0.mk (isC_size hi)
    have HV : Aside0 (r = (n, thoseL n (fun x => hasB l x && TakeFace_p l f x), 0)) := ⟨by rw [hr]; unfold partOf; rw [if_pos hcc.symm]⟩
    clear hr hcc hi hb
    subst hW3
    go_enter Try.func40, Try.ntmps40
    go_wp2_with fail
    refine H.out.mono ?_
    rintro e w1 ⟨rfl, hG1⟩
    have HB1 := Aside0.mk (blk_below HB.out hG1)
    have HF1 := Aside0.mk (blk_below HF.out hG1)
    have HO1 := Aside0.mk (blk_below HO.out hG1)
    have HG1 := Aside0.mk (Grew.trans HG.out hG1)
    have H2 := Aside0.mk (part_calls (TakeFace_p l f) n (by have := HN.out; omega) A c l 81 #[] #[.pointer (some ⟨w.heap.size + 1, 0, none⟩)] w1 (HK.out.later HG1.out) (enters_of Try.func81 (by kernel_rfl) rfl)
      (fun x _ _ _ W hW => TakeFace2_calls x n f w.heap.size (w.heap.size + 1) A c l W (blk_below HB1.out hW) (blk_cell (blk_below HF1.out hW) 0) (HK.out.later (Grew.trans HG1.out hW))))
    have k0 : w1.cell? ⟨w.heap.size, 0, none⟩ = some (I n) := blk_cell HB1.out 0
    have k1 : w1.cell? ⟨w.heap.size, 1, none⟩ = some (.slice A l.length c) := blk_cell HB1.out 1
    clear hG1
    go_wp2_with fail
    refine H2.out.mono ?_
    rintro e w2 ⟨v, rfl, hR, hG⟩
    clear k0 k1
    have hB2 : CB w2 (w.heap.size + 2) 0 (.slice none 0 0) := blk_below HO1.out hG
    have HB2 := Aside0.mk hB2
    have HR2 := Aside0.mk hR
    have HG2 := Aside0.mk (Grew.trans HG1.out hG)
    have hsz := HG1.out.size
    have k0 := hB2.c0
    have k1 := hB2.c1
    have f0 := blk_frozen hB2 0
    have f1 := blk_frozen hB2 1
    obtain ⟨A2, c2, e2⟩ := Kd.R_slice hR
    subst e2
    clear hB2 hR hG
    go_wp2_with fail
    refine bodyPost_ret (results_ct rfl _ _ (w.heap.size + 2) 25 #[I n, _] (0, 0) _ rfl HB2.out.set Try.underlying25 rfl (by kernel_rfl)) rfl ?_
    rw [HV.out]
    exact ⟨_, rfl, Kd.R_lower (Ri.setCB2 HR2.out HB2.out) hsz, below_set (below_set HG2.out (by omega)) (by omega)⟩
  · have HV : Aside0 (r = (0, [], cc)) := ⟨by rw [hr, hcc]; unfold partOf; rw [if_neg (by rw [← hcc]; exact hz)]⟩
    clear hr hcc
    subst hW3
    go_enter Try.func40, Try.ntmps40
    go_wp2_with fail
    refine H.out.mono ?_
    rintro e w1 ⟨rfl, hG1⟩
    clear k0 k1
    have hB1 : CB w1 (w.heap.size + 2) 0 (.slice none 0 0) := blk_below HO.out hG1
    have HB1 := Aside0.mk hB1
    have HG1 := Aside0.mk (Grew.trans HG.out hG1)
    have k0 := hB1.c0
    have k1 := hB1.c1
    have f0 := blk_frozen hB1 0
    have f1 := blk_frozen hB1 1
    clear hB1 hG1
    go_wp2_with fail
    refine bodyPost_ret (results_ct rfl _ _ (w.heap.size + 2) 25 #[I 0, .slice none 0 0] (0, 0) _ rfl HB1.out.set Try.underlying25 rfl (by kernel_rfl)) rfl ?_
    rw [HV.out]
    exact ⟨_, rfl, Kd.R_nil _ _ _ _ _, below_set (below_set HG1.out (by omega)) (by omega)⟩

end Go.Proofs.Ytoeapnempdgagaa.K
end

section
/- TakeFace in the form that the printed law takes. -/
namespace Go.Proofs.Ytoeapnempdgagaa.X
open Go.RowKit Go.Shelf Go.Proofs.Ytoeapnempdgagaa.K Go.Proofs.YtoeapnempdgagaaW.PrintWords Go.Proofs.YtoeapnempdgagaaW.PrintLast Go.Proofs.YtoeapnempdgagaaW.PrintMore
set_option linter.unusedVariables false
set_option linter.unusedSimpArgs false

def impl_TakeFace.f (a0_0 : Int) (l0_1 : List Int) (a1 : Int) : Option (Int × List Int × Int) := if l0_1.length ≤ 2097152 then some (partOf a0_0 l0_1 (TakeFace_b a0_0 l0_1 a1) (TakeFace_p l0_1 a1)) else none
theorem impl_TakeFace.calls (a0_0 : Int) (A0_1 : Option Addr) (c0_1 : Nat) (l0_1 : List Int) (a1 : Int) (r1 : Int) (r2 : List Int) (r3 : Int) (w : World) (hr0_1 : Kd.C (Kd.int .i64) w A0_1 l0_1.length l0_1) (hc0_1 : l0_1.length ≤ c0_1) (h : impl_TakeFace.f a0_0 l0_1 a1 = some (r1, r2, r3)) :
    Calls Try.prog 40 #[.agg #[.int .i64 a0_0, .slice A0_1 l0_1.length c0_1], .int .i64 a1] w fun e w' => ∃ v1_ : Value, e = .returned (.tuple #[.agg #[.int .i64 r1, v1_], .int .i64 r3]) ∧ Kd.R (Kd.int .i64) 2 w' w.heap.size (fun _ => True) v1_ r2 ∧ Below w.heap.size w w' := by
  unfold impl_TakeFace.f at h
  by_cases hl : l0_1.length ≤ 2097152
  · rw [if_pos hl] at h
    injection h with h
    have H := TakeFace_calls a0_0 A0_1 c0_1 l0_1 a1 w ⟨hr0_1, hc0_1, by omega⟩
    rw [h] at H
    exact H
  · rw [if_neg hl] at h
    cases h

end Go.Proofs.Ytoeapnempdgagaa.X
end

section
/- slices.Clone and slices.DeleteFunc over rows of numbers of the call's own. -/
namespace Go.Proofs.Ytoeapnempdgagaa.K
open Go.RowKit Go.Shelf Go.Proofs.YtoeapnempdgagaaW.PrintWords Go.Proofs.YtoeapnempdgagaaW.PrintLast Go.Proofs.YtoeapnempdgagaaW.PrintMore
set_option linter.unusedVariables false
set_option linter.unusedSimpArgs false

theorem below_setCells {base : Nat} {w : World} {G : Nat} (hb : base ≤ G) : ∀ (vs : List Value) (i : Nat) (W : World), Below base w W → Below base w (W.setCells G i vs)
  | [], _, _, h => h
  | v :: r, i, W, h => below_setCells hb r (i + 1) _ (Below.setCell h hb v)
theorem Ri.clear {base : Nat} {ok : Nat → Prop} {G n c : Nat} : ∀ (m i : Nat) (W : World) (xs : List Int), Ki.R 2 W base ok (.slice (some ⟨G, 0, none⟩) n c) xs →
    ∃ ys : List Int, ys.take i = xs.take i ∧ ys.length = xs.length ∧ Ki.R 2 (W.setCells G i (List.replicate m (I 0))) base ok (.slice (some ⟨G, 0, none⟩) n c) ys
  | 0, i, W, xs, h => ⟨xs, rfl, rfl, h⟩
  | m + 1, i, W, xs, h => by
    have h1 := Kd.R_putn h (i : Int) 0
    rw [Int.toNat_natCast] at h1
    obtain ⟨ys, e1, e2, e3⟩ := Ri.clear m (i + 1) _ _ h1
    refine ⟨ys, ?_, by rw [e2, List.length_set], e3⟩
    have := congrArg (List.take i) e1
    rw [List.take_take, List.take_take, List.take_set, List.set_eq_of_length_le (by simp; omega)] at this
    simpa [Nat.min_eq_left (Nat.le_succ i)] using this

theorem del_keep (q : Int → Bool) (l xs : List Int) (i j : Nat) (hij : i < j) (hj : j < l.length) (hx : xs.length = l.length) (h1 : xs.take i = (l.take j).filter q) (h2 : xs.drop j = l.drop j) (hp : q l[j] = true) :
    (xs.set i l[j]).take (i + 1) = (l.take (j + 1)).filter q ∧ (xs.set i l[j]).drop (j + 1) = l.drop (j + 1) := by
  constructor
  · rw [List.take_succ_eq_append_getElem hj, List.filter_append, ← h1, List.take_set, List.take_succ_eq_append_getElem (show i < xs.length by omega), List.set_append_right _ _ (by simp; omega)]
    simp [hp]
    have : i - min i xs.length = 0 := by omega
    rw [this]
    rfl
  · rw [List.drop_set_of_lt (by omega)]
    have := congrArg (List.drop 1) h2
    simpa using this
theorem del_skip (q : Int → Bool) (l xs : List Int) (i j : Nat) (hj : j < l.length) (h1 : xs.take i = (l.take j).filter q) (h2 : xs.drop j = l.drop j) (hp : q l[j] = false) :
    xs.take i = (l.take (j + 1)).filter q ∧ xs.drop (j + 1) = l.drop (j + 1) := by
  constructor
  · rw [List.take_succ_eq_append_getElem hj, List.filter_append, ← h1]
    simp [hp]
  · have := congrArg (List.drop 1) h2
    simpa using this
theorem del_get (l xs : List Int) (j : Nat) (hj : j < l.length) (hx : xs.length = l.length) (h2 : xs.drop j = l.drop j) : xs[j]'(by omega) = l[j] := by
  rw [List.drop_eq_getElem_cons hj, List.drop_eq_getElem_cons (show j < xs.length by omega)] at h2
  injection h2
theorem idx_some {p : Int → Bool} {l : List Int} (h : idx p l ≠ -1) : ∃ i : Nat, idx p l = i ∧ ∃ hi : i < l.length, p l[i] = true ∧ ∀ j (hj : j < i), p (l[j]'(by omega)) = false := by
  unfold idx at h ⊢
  cases hf : l.findIdx? p with
  | none => rw [hf] at h; exact absurd rfl h
  | some i =>
    rw [List.findIdx?_eq_some_iff_getElem] at hf
    obtain ⟨hi, hp, hn⟩ := hf
    exact ⟨i, rfl, hi, hp, fun j hj => by have := hn j hj; simpa using this⟩
theorem idx_none {p : Int → Bool} {l : List Int} (h : idx p l = -1) : l.filter (fun x => !p x) = l := by
  unfold idx at h
  cases hf : l.findIdx? p with
  | some i => rw [hf] at h; have : ((i : Int)) = -1 := h; omega
  | none =>
    rw [List.findIdx?_eq_none_iff] at hf
    rw [List.filter_eq_self]
    intro x hx
    simp [hf x hx]
theorem del_start {p : Int → Bool} {l : List Int} {i : Nat} (hi : i < l.length) (hp : p l[i] = true) (hn : ∀ j (hj : j < i), p (l[j]'(by omega)) = false) : l.take i = (l.take (i + 1)).filter (fun x => !p x) := by
  rw [List.take_succ_eq_append_getElem hi, List.filter_append]
  have : (l.take i).filter (fun x => !p x) = l.take i := by
    rw [List.filter_eq_self]
    intro x hx
    obtain ⟨j, hj, rfl⟩ := List.mem_iff_getElem.1 hx
    rw [List.length_take] at hj
    rw [List.getElem_take, hn j (by omega)]
    rfl
  rw [this]
  simp [hp]

set_option maxRecDepth 100000 in
set_option maxHeartbeats 4000000 in
theorem DeleteFunc_calls (p : Int → Bool) (base : Nat) (v : Value) (l : List Int) (g : Nat) (first caps : Array Value) (w : World) (hbase : base ≤ w.heap.size) (hR : Ki.R 2 w base (fun _ => True) v l) (hbig : l.length ≤ 1000000000) (eg : EntersG g)
    (hp : ∀ x, x ∈ l → ∀ W, Below base w W → Calls Try.prog g (first.push (I x) ++ caps) W fun e w' => e = .returned (.bool (p x)) ∧ Grew W w') :
    Calls Try.prog 99 #[v, .func (.func g) first caps] w fun e w' => ∃ v', e = .returned v' ∧ Ki.R 2 w' base (fun _ => True) v' (l.filter fun x => !p x) ∧ Below base w w' := by
  obtain ⟨A, c, hv, hc, hC⟩ := Kd.R_reads hR
  subst hv
  have H := Aside0.mk (IndexFunc_int p A c l g first caps w hC hc (by omega) eg (fun x hx W hW => hp x hx W (hW.mono hbase)))
  have HR := Aside0.mk hR
  have HP := Aside0.mk hp
  have HC := Aside0.mk hc
  clear hR hp hC hc
  by_cases hi : idx p l = -1
  · have HV := Aside0.mk (idx_none hi)
    rw [hi] at H
    rw [HV.out]
    go_enter Try.func99, Try.ntmps99
    go_wp2_with fail
    refine H.out.mono ?_
    rintro e w1 ⟨rfl, hG1⟩
    go_wp2_with fail
    go_ret
    exact ⟨_, rfl, Kd.R_below HR.out hG1, hG1.mono hbase⟩
  · obtain ⟨i0, he, hi0, hp0, hn0⟩ := idx_some hi
    rw [he] at H hi
    have HS := Aside0.mk (del_start hi0 hp0 hn0)
    clear hn0 hp0 he
    go_enter Try.func99, Try.ntmps99
    go_wp2_with fail
    refine H.out.mono ?_
    rintro e w1 ⟨rfl, hG1⟩
    have HR1 := Aside0.mk (Kd.R_below HR.out hG1)
    have HG1 : Aside0 (Below base w w1) := ⟨hG1.mono hbase⟩
    clear hG1 H HR
    obtain ⟨G, cc, eo, gb, gl, _⟩ := Kd.R_form HR1.out (by omega)
    injection eo with ea en ec
    subst ea ec
    clear en
    go_wp2_with fail
    go_loopg [5, 6] l.length (fun gg s5 s6 wr => ∃ (i j : Nat) (xs : List Int), s5 = .int .i64 i ∧ s6 = .int .i64 j ∧ i < j ∧ j ≤ l.length ∧ l.length - j ≤ gg ∧ xs.length = l.length ∧
      Aside0 (xs.take i = (l.take j).filter (fun x => !p x)) ∧ Aside0 (xs.drop j = l.drop j) ∧ Aside0 (Ki.R 2 wr base (fun _ => True) (.slice (some ⟨G, 0, none⟩) l.length c) xs) ∧ Aside0 (Below base w wr))
    case atStart => exact ⟨i0, i0 + 1, l, rfl, by go_num, by omega, by omega, by omega, rfl, HS, ⟨rfl⟩, HR1, HG1⟩
    case round =>
      obtain ⟨i, j, xs, rfl, rfl, hij, hj, hg, hxl, HT, HD, HRr, HGr⟩ := hrel
      by_cases hlt : j < l.length
      · have hltz : (j : Int) < (l.length : Int) := by omega
        obtain ⟨hx, _⟩ := Kd.R_celln 0 HRr.out (j : Int) (by omega) (by omega)
        obtain ⟨hy, hf⟩ := Kd.R_celln 0 HRr.out (i : Int) (by omega) (by omega)
        have hrd : rdOf 0 xs (j : Int) = l[j] := by rw [← del_get l xs j hlt hxl HD.out]; simp [rdOf, show j < xs.length by omega]
        rw [hrd, Int.toNat_natCast] at hx
        rw [Int.toNat_natCast] at hy hf
        have hcall := HP.out l[j] (List.getElem_mem hlt) wr HGr.out
        have HK := Aside0.mk (fun h => del_keep (fun x => !p x) l xs i j hij hlt hxl HT.out HD.out h)
        have HS2 := Aside0.mk (fun h => del_skip (fun x => !p x) l xs i j hlt HT.out HD.out h)
        clear hrd
        generalize l[j] = y at hx hcall HK HS2
        cases hq : p y with
        | false =>
          rw [hq] at hcall
          have HK2 := Aside0.mk (HK.out (by simp [hq]))
          clear HK HS2
          go_wp2_with fail
          refine hcall.mono ?_
          rintro e w2 ⟨rfl, hG2⟩
          have HR2 := Aside0.mk (Kd.R_below HRr.out hG2)
          have HG2 := Aside0.mk (Below.trans HGr.out (hG2.mono (Nat.le_trans hbase HGr.out.size)))
          obtain ⟨hy, hf⟩ := Kd.R_celln 0 HR2.out (i : Int) (by omega) (by omega)
          rw [Int.toNat_natCast] at hy hf
          have HW := Aside0.mk (Kd.R_putn HR2.out (i : Int) y)
          clear hcall hx hG2
          go_wp2_with fail
          go_roundg (l.length - (j + 1))
          case measure => omega
          case rel => exact ⟨i + 1, j + 1, xs.set i y, by go_num, by go_num, by omega, by omega, by omega, by rw [List.length_set]; exact hxl, ⟨HK2.out.1⟩, ⟨HK2.out.2⟩, HW, ⟨Below.setCell HG2.out gb _⟩⟩
        | true =>
          rw [hq] at hcall
          have HK2 := Aside0.mk (HS2.out (by simp [hq]))
          clear HK HS2
          go_wp2_with fail
          refine hcall.mono ?_
          rintro e w2 ⟨rfl, hG2⟩
          have HR2 := Aside0.mk (Kd.R_below HRr.out hG2)
          have HG2 := Aside0.mk (Below.trans HGr.out (hG2.mono (Nat.le_trans hbase HGr.out.size)))
          clear hcall hx hy hf hG2
          go_wp2_with fail
          go_roundg (l.length - (j + 1))
          case measure => omega
          case rel => exact ⟨i, j + 1, xs, rfl, by go_num, by omega, by omega, by omega, hxl, ⟨HK2.out.1⟩, ⟨HK2.out.2⟩, HR2, HG2⟩
      · obtain rfl : j = l.length := by omega
        have hltz : ¬ (l.length : Int) < (l.length : Int) := by omega
        have HT2 : Aside0 (xs.take i = l.filter (fun x => !p x)) := ⟨by have := HT.out; rwa [List.take_length] at this⟩
        clear HT HD
        have hcl : ∀ ty, (Builtin.clear_ #[23] ty #[.slice (some ⟨G, i, none⟩) (l.length - i) (c - i)]).run Try.prog wr = .ok (.tuple #[]) (wr.setCells G i (List.replicate (l.length - i) (I 0))) :=
          fun ty => Lib.run_clear_slice wr _ _ ty _ Try.underlying23 (fun w => by kernel_rfl) rfl rfl G i _ _ (by omega) (fun t ht => by
            obtain ⟨h1, h2⟩ := Kd.R_celln 0 HRr.out ((i + t : Nat) : Int) (by omega) (by omega)
            rw [Int.toNat_natCast] at h1
            rw [h1]; rfl) (fun t ht => by
            obtain ⟨h1, h2⟩ := Kd.R_celln 0 HRr.out ((i + t : Nat) : Int) (by omega) (by omega)
            rw [Int.toNat_natCast] at h2
            exact h2)
        have hic : i < c := by have := HC.out; omega
        go_wp2_with fail
        go_ret
        obtain ⟨ys, h1, h2, h3⟩ := Ri.clear (l.length - i) i wr xs HRr.out
        refine ⟨_, rfl, ?_, below_setCells gb _ _ _ HGr.out⟩
        have h4 := Kd.R_take h3 (m := i) (by omega)
        rw [h1, HT2.out] at h4
        exact h4

end Go.Proofs.Ytoeapnempdgagaa.K
end

section
/- Written by a program of this session (myprint.py over the kit's print). -/
namespace Go.Proofs.Ytoeapnempdgagaa.RB
open Go.RowKit Go.Proofs.Ytoeapnempdgagaa.Q Go.Proofs.Ytoeapnempdgagaa.X Go.Proofs.YtoeapnempdgagaaW.PrintWords Go.Proofs.YtoeapnempdgagaaW.PrintLast Go.Proofs.YtoeapnempdgagaaW.PrintMore
attribute [local go_sem] max2_int min2_int max_two min_two max_three min_three max_four min_four   -- for this text's walks alone
set_option linter.unusedVariables false
set_option linter.unusedSimpArgs false



def errW : Option Int → Value
  | none => .nilIface
  | some c => .iface 0 (.int .i64 c)
theorem errW_none : errW none = .nilIface := rfl
theorem errW_some (c : Int) : errW (some c) = .iface 0 (.int .i64 c) := rfl

-- the values' own types

end Go.Proofs.Ytoeapnempdgagaa.RB
end

section
/- The reference's code of a complex and a face. -/
namespace Go.Proofs.Ytoeapnempdgagaa.K
open Go.RowKit Go.Shelf Go.Proofs.Ytoeapnempdgagaa.Q Go.Proofs.YtoeapnempdgagaaW.PrintWords Go.Proofs.YtoeapnempdgagaaW.PrintLast Go.Proofs.YtoeapnempdgagaaW.PrintMore
set_option linter.unusedVariables false
set_option linter.unusedSimpArgs false

theorem specFace_is (n : Int) (l : List Int) (f : Int) (hl : l.length ≤ 2097152) (k : Nat) (hk : isK l ≤ k) : spec_l01Face.f k n l f = some (codeOf n l (decide (f ∈ l))) := by
  have hk2 : l.length < k := by unfold isK at hk; omega
  unfold spec_l01Face.f
  rw [specIs_is n l hl k hk]
  simp only [Option.bind_some]
  unfold codeOf
  cases isC n l
  · simp
  · rw [if_pos rfl, specHas_is n f l (by omega) k hk2]
    by_cases h : f ∈ l <;> simp [h]

end Go.Proofs.Ytoeapnempdgagaa.K
end
