/- Texts of this work, put together by its pack.py. No conditions. -/
import Derived.Test.YtniikppojffiaaaGreatJFlt3
import Derived.Below
import Derived.Deep.Draws
import Derived.Deep.AppendLies
import Derived.Maps.AppendAt
import Derived.OwnWalk
import Derived.Laws.BytesArg
import Derived.Laws.MakeOwn
import Derived.Laws.OwnMore
import Derived.Deep.OwnRows
import Derived.Tactics
import Derived.Lib.ConvBytes
import Derived.Laws.Slices
import Derived.WalkKit
import Derived.KernelRfl
import Derived.RowKit3
import Derived.Deep.LoopGhost
import Derived.Deep.QuietTactic
import Derived.BigQuiet
import Derived.WideLaws
import Derived.Deep.DeepCutAuto
import Derived.Deep.CutBlock
import Derived.Deep.RegionHeld3
import Derived.Laws.Rows
import Derived.Lib.AppendStr
import Derived.ArgAppend
import Derived.Laws.IdiomCopy
import Derived.RowKit
import Derived.OrdersHeld
import Derived.Laws.BitsLemmas
import Derived.Test.YtniikppojffiaaaGreatProg
import Derived.Shelf.Abstract
import Derived.Laws.StructEq
import Derived.LoopN
import Derived.RangeFuncBox
import Derived.RangeFuncLeaves
import Derived.OwnWalkIn
import Derived.TacticsInMore
import Derived.LoopNIn
import Derived.LoopIn
import Derived.Lib.SliceRun
import Derived.Maps.OwnSet
import Derived.Lib.SlKeysI
import Derived.Test.YtniikppojffiaaaGreatChecked
import Derived.Shelf.SlSortCmp.NoneTotal
import Derived.Shelf.SlicesE.Delete
import Derived.Lib.OwnBridge
import Derived.Lib.SortBridge
import Derived.Lib.Small
section
/- The reference's pairings come to what the program's come to. -/
namespace Go.Proofs.YtniikppojffiaaaGreat.K
open Go.RowKit Go.Shelf Go.Proofs.YtniikppojffiaaaGreat.Q Go.Proofs.YtniikppojffiaaaGreatW.PrintWords Go.Proofs.YtniikppojffiaaaGreatW.PrintLast Go.Proofs.YtniikppojffiaaaGreatW.PrintMore
set_option linter.unusedVariables false
set_option linter.unusedSimpArgs false

theorem rdP (q : List PairT) (i : Nat) (h : i < q.length) : rd_T46 q (i : Int) = q[i] := by simp [rd_T46, h]
theorem specPair_is {n : Int} {l : List Int} (hi : isC n l = true) (x y : Int) (k : Nat) (hk : l.length + 8 < k) : spec_l02Pair.f k n l x y = some (pairK l ⟨x, y⟩) := by
 obtain ⟨hn, hs, hr, h63⟩ := isC_faces hi
 have hh : ∀ f, hasB l f = decide (f ∈ l) := fun f => has_asc l f (by omega) hs
 unfold spec_l02Pair.f pairK
 rw [specHas_is n x l (by omega) k (by omega), ← hh x]
 simp only [Option.bind_some]
 cases h1 : hasB l x with
 | false => simp
 | true =>
  rw [if_pos rfl, specHas_is n y l (by omega) k (by omega), ← hh y]
  simp only [Option.bind_some]
  cases h2 : hasB l y with
  | false => simp
  | true =>
   have hx := has_mem hi h1
   have hy := has_mem hi h2
   rw [if_pos rfl, inB_is x y (by omega) (by omega)]
   by_cases h3 : Go.bits .and .i64 x y = x
   ·rw [if_pos h3, specOnes_is y (by omega) (by omega) k (by omega), specOnes_is x (by omega) (by omega) k (by omega)]
    simp only [Option.bind_some]
    have := ones_le x
    have hw : wrap64 (onesI x + 1) = onesI x + 1 := by unfold wrap64; omega
    rw [hw, decide_eq_true h3]
    rfl
   ·rw [if_neg h3, decide_eq_false h3]
    rfl
theorem specLess_is (a b c d : Int) : spec_l02Less.f a b c d = some (decide (cmp2 a b c d < 0)) := by
 unfold spec_l02Less.f cmp2 cmp1
 by_cases h1 : a < c
 ·simp [h1]
 ·by_cases h2 : a = c
  ·subst h2
   by_cases h3 : b < d
   ·simp [h3]
   ·by_cases h4 : d < b <;> simp [h3, h4]
  ·have h3 : c < a := by omega
   simp [h1, h2, h3]
/-- Two pairs share a number. -/
def clash (p r : PairT) : Bool := p.f0 == r.f0 || p.f0 == r.f1 || p.f1 == r.f0 || p.f1 == r.f1
theorem seen_clash (q : List PairT) (i : Nat) (p : PairT) : (!seenB q i p.f0 && !seenB q i p.f1) = (q.take i).all fun r => !clash p r := by
 unfold seenB
 generalize q.take i = L
 induction L with
 | nil => rfl
 | cons r L ih =>
  rw [List.any_cons, List.any_cons, List.all_cons, ← ih]
  unfold clash
  have e1 : (r.f0 == p.f0) = (p.f0 == r.f0) := BEq.comm
  have e2 : (r.f1 == p.f0) = (p.f0 == r.f1) := BEq.comm
  have e3 : (r.f0 == p.f1) = (p.f1 == r.f0) := BEq.comm
  have e4 : (r.f1 == p.f1) = (p.f1 == r.f1) := BEq.comm
  rw [e1, e2, e3, e4]
  generalize L.any (fun r => r.f0 == p.f0 || r.f1 == p.f0) = a
  generalize L.any (fun r => r.f0 == p.f1 || r.f1 == p.f1) = b
  cases (p.f0 == r.f0) <;> cases (p.f0 == r.f1) <;> cases (p.f1 == r.f0) <;> cases (p.f1 == r.f1) <;> cases a <;> cases b <;> rfl
theorem specIs02_l1 (n : Int) (l : List Int) (q : List PairT) (hq : q.length ≤ 2097152) (i : Nat) (hi : i < q.length) : ∀ (e j k : Nat), i - j = e → j ≤ i → e < k →
  spec_l02Is.l1 k q (i : Int) (j : Int) n l = if ((q.take i).drop j).all (fun r => !clash q[i] r) then spec_l02Is.l0 (k - (e + 1)) q ((i + 1 : Nat) : Int) n l else some false := by
 intro e
 induction e with
 | zero =>
  intro j k he hj hk
  obtain ⟨k, rfl⟩ : ∃ m, k = m + 1 := ⟨k - 1, by omega⟩
  obtain rfl : j = i := by omega
  simp only [spec_l02Is.l1]
  rw [if_neg (by omega), w64 ((j : Int) + 1) (by omega) (by omega), nat_succ, List.drop_eq_nil_of_le (by rw [List.length_take]; omega)]
  simp
 | succ e ih =>
  intro j k he hj hk
  obtain ⟨k, rfl⟩ : ∃ m, k = m + 1 := ⟨k - 1, by omega⟩
  have hji : j < i := by omega
  have hjl : j < (q.take i).length := by rw [List.length_take]; omega
  simp only [spec_l02Is.l1]
  rw [if_pos (by omega), if_pos (by omega), if_pos (by omega), if_pos (by omega), if_pos (by omega), rdP q i hi, rdP q j (by omega), w64 ((j : Int) + 1) (by omega) (by omega), nat_succ, ih (j + 1) k (by omega) (by omega) (by omega), List.drop_eq_getElem_cons hjl, List.getElem_take, List.all_cons]
  have hkk : k + 1 - (e + 1 + 1) = k - (e + 1) := by omega
  rw [hkk]
  unfold clash
  by_cases h1 : q[i].f0 = q[j].f0
  ·simp [h1]
  ·by_cases h2 : q[i].f0 = q[j].f1
   ·simp [h1, h2]
   ·by_cases h3 : q[i].f1 = q[j].f0
    ·simp [h1, h2, h3]
    ·by_cases h4 : q[i].f1 = q[j].f1
     ·simp [h1, h2, h3, h4]
     ·have e1 : (q[i].f0 == q[j].f0) = false := by simpa using h1
      have e2 : (q[i].f0 == q[j].f1) = false := by simpa using h2
      have e3 : (q[i].f1 == q[j].f0) = false := by simpa using h3
      have e4 : (q[i].f1 == q[j].f1) = false := by simpa using h4
      rw [if_neg h1, if_neg h2, if_neg h3, if_neg h4, e1, e2, e3, e4]
      rfl
theorem specIs02_l0 {n : Int} {l : List Int} (hC : isC n l = true) (q : List PairT) (hq : q.length ≤ 2097152) : ∀ (e i k : Nat), q.length - i = e → i ≤ q.length → e * (q.length + 5) + l.length + 12 < k →
  spec_l02Is.l0 k q (i : Int) n l = some (((List.range q.length).drop i).all (okAt l q)) := by
 intro e
 induction e with
 | zero =>
  intro i k he hi hk
  obtain ⟨k, rfl⟩ : ∃ m, k = m + 1 := ⟨k - 1, by omega⟩
  obtain rfl : i = q.length := by omega
  simp only [spec_l02Is.l0]
  rw [if_neg (by omega), List.drop_eq_nil_of_le (by simp)]
  rfl
 | succ e ih =>
  intro i k he hi hk
  rw [Nat.succ_mul] at hk
  generalize hM : e * (q.length + 5) = M at hk ih
  obtain ⟨k, rfl⟩ : ∃ m, k = m + 1 := ⟨k - 1, by omega⟩
  have hil : i < q.length := by omega
  have hrl : i < (List.range q.length).length := by rw [List.length_range]; exact hil
  rw [List.drop_eq_getElem_cons hrl, List.getElem_range, List.all_cons, okAt_eq l q i hil]
  have hsc := seen_clash q i q[i]
  have hfin : ∀ k', e * (q.length + 5) + l.length + 12 < k' → spec_l02Is.l0 k' q ((i + 1 : Nat) : Int) n l = some (((List.range q.length).drop (i + 1)).all (okAt l q)) := fun k' hk' => ih (i + 1) k' (by omega) (by omega) (by omega)
  simp only [spec_l02Is.l0]
  rw [if_pos (by omega), if_pos (by omega), rdP q i hil, specPair_is hC _ _ k (by omega)]
  simp only [Option.bind_some]
  cases hp : pairK l q[i] with
  | false =>
   rw [if_neg (by simp)]
   obtain ⟨k, rfl⟩ : ∃ m, k = m + 1 := ⟨k - 1, by omega⟩
   simp only [spec_l02Is.j1]
   simp
  | true =>
   rw [if_pos rfl]
   have hrest : ∀ k' : Nat, M + q.length + l.length + 14 < k' → spec_l02Is.l1 k' q (i : Int) 0 n l = some ((!seenB q i q[i].f0 && !seenB q i q[i].f1) && ((List.range q.length).drop (i + 1)).all (okAt l q)) := fun k' hk' => by
    have h1 := specIs02_l1 n l q hq i hil i 0 k' (by omega) (by omega) (by omega)
    rw [show ((0 : Nat) : Int) = 0 from rfl, List.drop_zero, ← hsc] at h1
    rw [h1]
    cases hs : (!seenB q i q[i].f0 && !seenB q i q[i].f1) with
    | false => simp
    | true => rw [if_pos rfl, hfin _ (by omega)]; simp
   by_cases h0 : i = 0
   ·subst h0
    rw [if_neg (by omega)]
    obtain ⟨k, rfl⟩ : ∃ m, k = m + 1 := ⟨k - 1, by omega⟩
    simp only [spec_l02Is.j1]
    have h9 := hrest k (by omega)
    rw [show ((0 : Nat) : Int) = 0 from rfl] at h9
    rw [if_neg (by simp), show ((0 : Nat) : Int) = 0 from rfl, h9]
    simp
   ·have hw : wrap64 ((i : Int) - 1) = ((i - 1 : Nat) : Int) := by rw [w64 _ (by omega) (by omega)]; omega
    rw [if_pos (by omega), hw, if_pos (by omega), if_pos (by omega), rdP q (i - 1) (by omega), specLess_is]
    simp only [Option.bind_some]
    obtain ⟨k, rfl⟩ : ∃ m, k = m + 1 := ⟨k - 1, by omega⟩
    have hgd : q.getD (i - 1) z46 = q[i - 1]'(by omega) := by simp [show i - 1 < q.length by omega]
    have hi0 : (i == 0) = false := by simpa using h0
    rw [hgd, hi0]
    simp only [spec_l02Is.j1]
    cases hc : decide (cmp2 (q[i - 1]'(by omega)).f0 (q[i - 1]'(by omega)).f1 q[i].f0 q[i].f1 < 0) with
    | false => simp
    | true =>
     rw [if_neg (by simp), hrest k (by omega)]
     simp
def pgK (l : List Int) (q : List PairT) : Nat := q.length * (q.length + 5) + l.length + 13
theorem specIs02_is {n : Int} {l : List Int} (hC : isC n l = true) (q : List PairT) (hq : q.length ≤ 2097152) (k : Nat) (hk : pgK l q ≤ k) : spec_l02Is.f k n l q = some (pingB l q) := by
 unfold spec_l02Is.f
 have := specIs02_l0 hC q hq q.length 0 k (by omega) (by omega) (by unfold pgK at hk; omega)
 rw [show ((0 : Nat) : Int) = 0 from rfl, List.drop_zero] at this
 exact this
theorem specCode02_loop {n : Int} {l : List Int} (hC : isC n l = true) (fs : List Int) (hf : fs.length ≤ 100) : ∀ (e i k : Nat), fs.length - i = e → i ≤ fs.length → e + l.length + 2 < k →
  spec_l02Code.l0 k fs (i : Int) n l = some (if (fs.drop i).all (hasB l) then 0 else 2) := by
 obtain ⟨hn, hs, hr, h63⟩ := isC_faces hC
 intro e
 induction e with
 | zero =>
  intro i k he hi hk
  obtain ⟨k, rfl⟩ : ∃ m, k = m + 1 := ⟨k - 1, by omega⟩
  obtain rfl : i = fs.length := by omega
  simp only [spec_l02Code.l0]
  rw [if_neg (by omega), List.drop_eq_nil_of_le (by omega)]
  simp
 | succ e ih =>
  intro i k he hi hk
  obtain ⟨k, rfl⟩ : ∃ m, k = m + 1 := ⟨k - 1, by omega⟩
  have hil : i < fs.length := by omega
  simp only [spec_l02Code.l0]
  rw [if_pos (by omega), if_pos (by omega), rd_nat fs i hil, specHas_is n _ l (by omega) k (by omega), ← has_asc l fs[i] (by omega) hs]
  simp only [Option.bind_some]
  rw [w64 ((i : Int) + 1) (by omega) (by omega), nat_succ, List.drop_eq_getElem_cons hil, List.all_cons]
  cases h : hasB l fs[i] with
  | false => simp
  | true => rw [if_pos rfl, ih (i + 1) k (by omega) (by omega) (by omega), Bool.true_and]
theorem specCode02_is (n : Int) (l : List Int) (q : List PairT) (fs : List Int) (hf : fs.length ≤ 100) (hl : l.length ≤ 2097152) (hq : q.length ≤ 2097152) (k : Nat) (hk : isK l + pgK l q + 300 ≤ k) :
  spec_l02Code.f k n l q fs = some (codeOf n l (pingB l q && fs.all (hasB l))) := by
 unfold spec_l02Code.f
 rw [specIs_is n l hl k (by omega)]
 simp only [Option.bind_some]
 cases hi : isC n l with
 | false => simp [codeOf, hi]
 | true =>
  rw [if_pos rfl, specIs02_is hi q hq k (by omega)]
  simp only [Option.bind_some]
  cases hp : pingB l q with
  | false => simp [codeOf, hi]
  | true =>
   rw [if_pos rfl]
   have := specCode02_loop hi fs hf fs.length 0 k (by omega) (by omega) (by unfold pgK at hk; omega)
   rw [show ((0 : Nat) : Int) = 0 from rfl, List.drop_zero] at this
   rw [this]
   simp [codeOf, hi]

end Go.Proofs.YtniikppojffiaaaGreat.K
end

section
/- Sets of vertices as bits; a set in a face is a face. -/
namespace Go.Proofs.YtniikppojffiaaaGreat.K
open Go.RowKit Go.Shelf Go.Proofs.YtniikppojffiaaaGreat.Q Go.Proofs.YtniikppojffiaaaGreatW.PrintWords Go.Proofs.YtniikppojffiaaaGreatW.PrintLast Go.Proofs.YtniikppojffiaaaGreatW.PrintMore
set_option linter.unusedVariables false
set_option linter.unusedSimpArgs false

theorem closed_mem {n : Int} {l : List Int} (hi : isC n l = true) (g : Int) (hg : g ∈ l) (h : Int) (hh : h ∈ bords g) : h ∈ l := by
 obtain ⟨hn, hs, hr, h63⟩ := isC_faces hi
 have h1 := ((isC_iff n l).1 hi).2.2 g hg
 unfold closedAt at h1
 rw [List.all_eq_true] at h1
 have h2 := h1 h hh
 rw [has_asc l h (by omega) hs] at h2
 exact of_decide_eq_true h2
end Go.Proofs.YtniikppojffiaaaGreat.K
end

section
/- Flat functions and lists of values, plain. -/
namespace Go.Proofs.YtniikppojffiaaaGreat.K
open Go.RowKit Go.Shelf Go.Proofs.YtniikppojffiaaaGreat.Q Go.Proofs.YtniikppojffiaaaGreatW.PrintWords Go.Proofs.YtniikppojffiaaaGreatW.PrintLast Go.Proofs.YtniikppojffiaaaGreatW.PrintMore
set_option linter.unusedVariables false
set_option linter.unusedSimpArgs false

/-- The high face of the pair with a low face. -/
def highL : List PairT → Int → Int
 | [], _ => 0
 | p :: q, a => if p.f0 = a then p.f1 else highL q a
theorem high_cases : ∀ (q : List PairT) (a : Int), (highL q a = 0 ∧ ∀ p ∈ q, p.f0 ≠ a) ∨ ∃ p ∈ q, p.f0 = a ∧ p.f1 = highL q a
 | [], a => Or.inl ⟨rfl, fun p hp => absurd hp (by simp)⟩
 | p :: q, a => by
  unfold highL
  by_cases h : p.f0 = a
  ·rw [if_pos h]
   exact Or.inr ⟨p, by simp, h, rfl⟩
  ·rw [if_neg h]
   rcases high_cases q a with ⟨h1, h2⟩ | ⟨r, hr, h1, h2⟩
   ·exact Or.inl ⟨h1, fun r hr => by
     rcases List.mem_cons.1 hr with e | hr
     ·rw [e]; exact h
     ·exact h2 r hr⟩
   ·exact Or.inr ⟨r, by simp [hr], h1, h2⟩
end Go.Proofs.YtniikppojffiaaaGreat.K
end

section
/- The faces to which gradient steps lead. -/
namespace Go.Proofs.YtniikppojffiaaaGreat.K
open Go.RowKit Go.Shelf Go.Proofs.YtniikppojffiaaaGreat.Q Go.Proofs.YtniikppojffiaaaGreatW.PrintWords Go.Proofs.YtniikppojffiaaaGreatW.PrintLast Go.Proofs.YtniikppojffiaaaGreatW.PrintMore
set_option linter.unusedVariables false
set_option linter.unusedSimpArgs false

/-- The pairs of a pairing: faces. -/
structure GoodQ (q : List PairT) : Prop where
 len : q.length ≤ 63
 f0 : ∀ p ∈ q, 1 ≤ p.f0 ∧ p.f0 ≤ 63
 f1 : ∀ p ∈ q, 1 ≤ p.f1 ∧ p.f1 ≤ 63
/-- The faces to which steps lead. -/
def stepsL (q : List PairT) (a : Int) : List Int := if highL q a = 0 then [] else (bords (highL q a)).filter fun f => !(f == a)
theorem idx_high (a : Int) : ∀ (q : List PairT) (i : Nat) (hi : i < q.length), (q[i].f0 == a) = true → (∀ j (hj : j < i), ((q[j]'(by omega)).f0 == a) = false) → highL q a = q[i].f1
 | [], i, hi, _, _ => absurd hi (Nat.not_lt_zero _)
 | p :: q, 0, _, h, _ => by
  have h' : p.f0 = a := by simpa using h
  simp [highL, h']
 | p :: q, i + 1, hi, h, hn => by
  have h0 : ¬ p.f0 = a := by simpa using hn 0 (by omega)
  simp only [highL, if_neg h0, List.getElem_cons_succ]
  exact idx_high a q i (by simpa using hi) (by simpa using h) (fun j hj => by simpa using hn (j + 1) (by omega))
theorem idx_low (a : Int) (q : List PairT) (h : ∀ p ∈ q, ¬ p.f0 = a) : highL q a = 0 := by
 rcases high_cases q a with ⟨h1, _⟩ | ⟨p, hp, h1, _⟩
 ·exact h1
 ·exact absurd h1 (h p hp)
theorem idx_caseP {p : PairT → Bool} (l : List PairT) : (idx p l = -1 ∧ ∀ x ∈ l, p x = false) ∨ ∃ i : Nat, idx p l = i ∧ ∃ hi : i < l.length, p l[i] = true ∧ ∀ j (hj : j < i), p (l[j]'(by omega)) = false := by
 unfold idx
 cases hf : l.findIdx? p with
 | none =>
  rw [List.findIdx?_eq_none_iff] at hf
  exact .inl ⟨rfl, fun x hx => by simpa using hf x hx⟩
 | some i =>
  rw [List.findIdx?_eq_some_iff_getElem] at hf
  obtain ⟨hi, hp, hn⟩ := hf
  exact .inr ⟨i, rfl, hi, hp, fun j hj => by have := hn j hj; simpa using this⟩
theorem bords_in_64 : ∀ m : Fin 64, (bords (m.val : Int)).all (fun g => decide (1 ≤ g ∧ g ≤ 63)) = true := by decide +kernel
theorem bords_in (f : Int) (h0 : 0 ≤ f) (h1 : f ≤ 63) (g : Int) (hg : g ∈ bords f) : 1 ≤ g ∧ g ≤ 63 := by
 obtain ⟨m, rfl⟩ : ∃ m : Nat, f = (m : Int) := ⟨f.toNat, by omega⟩
 have h := List.all_eq_true.1 (bords_in_64 ⟨m, by omega⟩) g hg
 simpa using h
theorem steps_mem {q : List PairT} (hg : GoodQ q) {a x : Int} (h : x ∈ stepsL q a) : 1 ≤ x ∧ x ≤ 63 := by
 unfold stepsL at h
 split at h
 ·cases h
 ·rename_i hz
  rcases high_cases q a with ⟨h1, _⟩ | ⟨p, hp, _, h2⟩
  ·exact absurd h1 hz
  ·have := hg.f1 p hp
   rw [h2] at this
   exact (bords_in _ (by omega) this.2 x (List.mem_filter.1 h).1)
theorem steps_len {q : List PairT} (a : Int) : (stepsL q a).length ≤ 6 := by
 unfold stepsL
 split
 ·simp
 ·exact Nat.le_trans (List.length_filter_le _ _) (bords_length _)

set_option maxHeartbeats 1000000 in
theorem steps1_calls (x : PairT) (a : Int) (B : Nat) (w : World) (hb : w.cell? ⟨B, 0, none⟩ = some (I a)) :
  Calls Tryz.prog 102 #[.agg #[I x.f0, I x.f1], .pointer (some ⟨B, 0, none⟩)] w fun e w' => e = .returned (.bool (x.f0 == a)) ∧ Grew w w' := by
 have hlt := World.block_lt_of_cell? w _ hb
 have hg := Aside0.mk (below_alloc (Grew.refl w) (.cells #[I x.f0, I x.f1] 46))
 go_enter Tryz.func102, Tryz.ntmps102
 go_wp2_with fail
 go_ret
 exact ⟨rfl, hg.out⟩
set_option maxHeartbeats 1000000 in
theorem steps2_calls (f a : Int) (B : Nat) (w : World) (hb : w.cell? ⟨B, 0, none⟩ = some (I a)) :
  Calls Tryz.prog 103 #[I f, .pointer (some ⟨B, 0, none⟩)] w fun e w' => e = .returned (.bool (f == a)) ∧ Grew w w' := by
 go_enter Tryz.func103, Tryz.ntmps103
 go_wp2_with fail
 go_ret
 exact ⟨rfl, Grew.refl w⟩

set_option maxRecDepth 100000 in
set_option maxHeartbeats 4000000 in
theorem steps_calls (A2 : Option Addr) (c2 : Nat) {q : List PairT} (a : Int) (w : World) (hq : Kq.C w A2 q.length q) (hc2 : q.length ≤ c2) (hgq : GoodQ q) :
  Calls Tryz.prog 80 #[.slice A2 q.length c2, I a] w fun e w' => ∃ v, e = .returned v ∧ Ki.R 2 w' w.heap.size (fun _ => True) v (stepsL q a) ∧ Grew w w' := by
 have hg1 : Grew w (w.alloc (.cells #[I a] 2)) := below_alloc (Below.refl _ _) _
 have H := Aside0.mk (IndexFunc_pair (fun x => x.f0 == a) A2 c2 q 102 #[] #[.pointer (some ⟨w.heap.size, 0, none⟩)] (w.alloc (.cells #[I a] 2))
  (Kd.C_below hq hg1) hc2 hq.2.1 (enters_of Tryz.func102 (by kernel_rfl) rfl) (fun x hx W hW => steps1_calls x a w.heap.size W (blk_cell (blk_below (blk_new w _) hW) 0)))
 have HQ := Aside0.mk hq
 have HL := Aside0.mk hgq.len
 have HG1 := Aside0.mk hg1
 rcases idx_caseP (p := fun x : PairT => x.f0 == a) q with ⟨he, hn⟩ | ⟨i, he, hi, hp, hn⟩
 ·have HS : Aside0 (stepsL q a = []) := ⟨by
   unfold stepsL
   rw [if_pos (idx_low a q (fun p hp => by simpa using hn p hp))]⟩
  rw [he] at H
  rw [HS.out]
  clear hn hq hgq hg1 he
  go_enter Tryz.func80, Tryz.ntmps80
  go_wp2_with fail
  refine H.out.mono ?_
  rintro e w1 ⟨rfl, hG⟩
  have HGw := Aside0.mk (Grew.trans HG1.out hG)
  clear hG
  go_wp2_with fail
  go_ret
  exact ⟨_, rfl, Kd.R_nil _ _ _ _ _, HGw.out⟩
 ·have hh := idx_high a q i hi hp hn
  have h1 := hgq.f1 _ (List.getElem_mem hi)
  have HS : Aside0 (stepsL q a = (bords q[i].f1).filter fun f => !(f == a)) := ⟨by
   unfold stepsL
   rw [if_neg (by rw [hh]; omega), hh]⟩
  rw [he] at H
  rw [HS.out]
  obtain ⟨ad, e2, hx0, hx1⟩ := Kq_read hq i hi rfl
  have hlt := World.block_lt_of_cell? w _ hx1
  have HX1 : Aside0 (∀ w1, Grew w w1 → w1.cell? ⟨(ad.add (i * 2)).block, (ad.add (i * 2)).off + 1, none⟩ = some (I q[i].f1)) := ⟨fun w1 hG => (Below.cell hG (p := ⟨(ad.add (i * 2)).block, (ad.add (i * 2)).off + 1, none⟩) hlt).trans hx1⟩
  cases e2
  have hiz : (i : Int) < (q.length : Int) := by omega
  have hi0 : ¬ (i : Int) < 0 := by omega
  have hlq := hgq.len
  clear hn hq hgq hg1 he hh hx0 hx1 hlt HS hp
  generalize q[i].f1 = y at HX1 h1 ⊢
  have HBL := Aside0.mk (bords_length y)
  go_enter Tryz.func80, Tryz.ntmps80
  go_wp2_with fail
  refine H.out.mono ?_
  rintro e w1 ⟨rfl, hG⟩
  have HGw := Aside0.mk (Grew.trans HG1.out hG)
  have hx1 := HX1.out w1 HGw.out
  have HB := Aside0.mk (borders_calls y w1)
  have HBX : Aside0 (w1.heap[w.heap.size]? = some (.cells #[I a] 2 (0, 0))) := ⟨blk_below (blk_new w _) hG⟩
  clear hG
  go_wp2_with fail
  refine HB.out.mono ?_
  rintro e w2 ⟨v2, rfl, hR2, hG2⟩
  have HG2 := Aside0.mk hG2
  have HD := Aside0.mk (DeleteFunc_calls (fun f => f == a) w1.heap.size v2 (bords y) 103 #[] #[.pointer (some ⟨w.heap.size, 0, none⟩)] w2 hG2.size hR2 (by have := HBL.out; omega) (enters_of Tryz.func103 (by kernel_rfl) rfl)
   (fun x hx W hW => by
    have hlw : w.heap.size < w1.heap.size := blk_lt HBX.out
    have hb2 : W.heap[w.heap.size]? = some (.cells #[I a] 2 (0, 0)) := (hW.block _ hlw).trans (blk_below HBX.out HG2.out)
    exact steps2_calls x a w.heap.size W (blk_cell hb2 0)))
  clear hR2 hG2
  go_wp2_with fail
  refine HD.out.mono ?_
  rintro e w3 ⟨v3, rfl, hR3, hG3⟩
  go_wp2_with fail
  go_ret
  exact ⟨_, rfl, Kd.R_lower hR3 HGw.out.size, Grew.trans HGw.out (Below.trans HG2.out hG3)⟩

end Go.Proofs.YtniikppojffiaaaGreat.K
end

section
/- Sets of numbers as maps from numbers to bools that the call makes. -/
namespace Go.Proofs.YtniikppojffiaaaGreat.K
open Go.RowKit Go.Shelf Go.Proofs.YtniikppojffiaaaGreatW.PrintWords Go.Proofs.YtniikppojffiaaaGreatW.PrintLast Go.Proofs.YtniikppojffiaaaGreatW.PrintMore
open Go.Maps (Keyed IsMap)
set_option linter.unusedVariables false
set_option linter.unusedSimpArgs false

abbrev TMap : TypeId := 67
theorem keyLaw : Keyed Tryz.prog 2 := Go.Maps.int_keyed Tryz.underlying2
theorem zeroBool (w : World) : (zeroValue 4).run Tryz.prog w = .ok (.bool false) w := by kernel_rfl
/-- How the set changes where x is stored. -/
def upd (S : Int → Bool) (x : Int) (v : Bool) : Int → Bool := fun y => if y = x then v else S y

/-- Block b is a map of at most n entries that reads as the set S. -/
def SetM (w : World) (b n : Nat) (S : Int → Bool) : Prop :=
 ∃ D : DataW Unit, w.ownsMap Tryz.prog 2 (plainElem Tryz.prog 4) b n D ∧ IsMap D ∧ ∀ x, (Lit.int .i64 x).wf = true → D.atKey (.int .i64 x) (.lit (.bool false)) = .lit (.bool (S x))
theorem SetM_made (w : World) : SetM (w.alloc (.map #[] 0)) w.heap.size 0 (fun _ => false) := ⟨.map [], World.ownsMap_made _ _ _ _, Go.Maps.isMap_empty, fun x _ => rfl⟩
theorem SetM.lt {w : World} {b n : Nat} {S : Int → Bool} (h : SetM w b n S) : b < w.heap.size := by
 obtain ⟨D, ho, _⟩ := h
 exact ho.lt
theorem SetM.same {w w' : World} {b n : Nat} {S : Int → Bool} (h : SetM w b n S) (he : w'.heap[b]? = w.heap[b]?) : SetM w' b n S := by
 obtain ⟨D, ⟨es, clock, hb, F, hs, hD⟩, h2, h3⟩ := h
 exact ⟨D, ⟨es, clock, he.trans hb, F, hs, hD⟩, h2, h3⟩
theorem SetM.kept {w w' : World} {b n : Nat} {S : Int → Bool} {T : Nat → Prop} (h : SetM w b n S) (hk : Kept w w' T) (hb : ¬ T b) : SetM w' b n S := h.same (hk.2 b h.lt hb)
theorem SetM.later {w w' : World} {b n : Nat} {S : Int → Bool} (h : SetM w b n S) (hg : Grew w w') : SetM w' b n S := h.kept (Kept.of_below hg (fun _ => False)) (fun h => h)
theorem SetM.mono {w : World} {b n m : Nat} {S : Int → Bool} (h : SetM w b n S) (hn : n ≤ m) : SetM w b m S := by
 obtain ⟨D, ho, h2⟩ := h
 exact ⟨D, ho.mono hn, h2⟩
theorem SetM.cong {w : World} {b n : Nat} {S S' : Int → Bool} (h : SetM w b n S) (hs : ∀ x, (Lit.int .i64 x).wf = true → S x = S' x) : SetM w b n S' := by
 obtain ⟨D, ho, h2, h3⟩ := h
 exact ⟨D, ho, h2, fun x hx => by rw [h3 x hx, hs x hx]⟩
theorem boolElem_inv {H : Type} {P : Program} {e : TypeId} (he : P.underlying e = some .bool) {v : Value} {b : Bool} {ps : List MemPlace} (h : plainElem (H := H) P e v = some (.lit (.bool b), ps)) : v = .bool b := by
 unfold plainElem at h
 rw [he] at h
 cases v <;> simp at h
 rw [h.1]
theorem SetM.look {w : World} {b n : Nat} {S : Int → Bool} (h : SetM w b n S) (x : Int) (hx : (Lit.int .i64 x).wf = true) :
  (Instr.lookup TMap (.map (some b)) (I x) false).run Tryz.prog w = .ok (.bool (S x)) w := by
 obtain ⟨D, ho, _, h3⟩ := h
 obtain ⟨v, ps, hrun, hv⟩ := ho.lookup keyLaw Tryz.underlying67 (zeroBool w) (plainElem_bool Tryz.underlying4 false) (Go.Maps.keyOf_int_mk Tryz.underlying2 hx)
 rw [h3 x hx] at hv
 rw [hrun, boolElem_inv Tryz.underlying4 hv]
theorem SetM.store {w : World} {b n : Nat} {S : Int → Bool} (h : SetM w b n S) (hn : n < 1000000000) (x : Int) (hx : (Lit.int .i64 x).wf = true) (v : Bool) :
  ∃ w', (Instr.mapUpdate TMap (.map (some b)) (I x) (.bool v)).run Tryz.prog w = .ok () w' ∧ SetM w' b (n + 1) (upd S x v) ∧ w.grownBy w' (some b) := by
 obtain ⟨D, ho, hm, h3⟩ := h
 obtain ⟨w', hrun, ho', hg⟩ := ho.update keyLaw Tryz.underlying67 (by unfold maxLen; omega) (Go.Maps.keyOf_int_mk Tryz.underlying2 hx) (plainElem_bool Tryz.underlying4 v)
 refine ⟨w', hrun, ⟨_, ho', hm.put _ _, fun y hy => ?_⟩, hg⟩
 by_cases e : y = x
 ·subst e
  rw [Go.Maps.atKey_put_same hm (by simp [WideAt.IsKeyLit])]
  simp [upd]
 ·rw [Go.Maps.atKey_put_other (by simpa using e), h3 y hy]
  simp [upd, e]

section
variable {ops : Array Oper} {rest : List Oper} {o : Oper} {a : Act} {Q : Exit → Act → World → Prop}
end

end Go.Proofs.YtniikppojffiaaaGreat.K
end

section
/- Plain words: what is reached by steps, by a queue and by a stack. -/
namespace Go.Proofs.YtniikppojffiaaaGreat.K
open Go.RowKit Go.Shelf
set_option linter.unusedVariables false
set_option linter.unusedSimpArgs false

/-- Reached by at least one step. -/
inductive Reach (nx : Int → List Int) (a : Int) : Int → Prop where
 | one {x : Int} (h : x ∈ nx a) : Reach nx a x
 | more {x y : Int} (h : Reach nx a x) (k : y ∈ nx x) : Reach nx a y
theorem Reach.from {nx : Int → List Int} {a x y : Int} (h : x = a ∨ Reach nx a x) (k : y ∈ nx x) : Reach nx a y := by
 rcases h with rfl | h
 ·exact .one k
 ·exact .more h k
theorem Reach.trans {nx : Int → List Int} {a x y : Int} (h : Reach nx a x) (k : Reach nx x y) : Reach nx a y := by
 induction k with
 | one k => exact .more h k
 | more _ k ih => exact .more ih k
/-- How many of the numbers 0 .. 63 are in the set. -/
def cnt (S : Int → Bool) : Nat := (List.range 64).countP fun i : Nat => S (i : Int)
theorem cnt_le (S : Int → Bool) : cnt S ≤ 64 := by
 have := List.countP_le_length (p := fun i : Nat => S (i : Int)) (l := List.range 64)
 simpa [cnt] using this
theorem countP_upd (S : Int → Bool) (f : Nat) (hf : S (f : Int) = false) : ∀ n : Nat, (List.range n).countP (fun i : Nat => upd S (f : Int) true (i : Int)) = (List.range n).countP (fun i : Nat => S (i : Int)) + if f < n then 1 else 0
 | 0 => by simp
 | n + 1 => by
  rw [List.range_succ, List.countP_append, List.countP_append, countP_upd S f hf n]
  by_cases e : n = f
  ·subst e
   simp [List.countP_cons, upd, hf]
  ·have e' : ¬ ((n : Int) = (f : Int)) := by omega
   have hu : upd S (f : Int) true (n : Int) = S (n : Int) := by simp [upd, e']
   simp only [List.countP_cons, List.countP_nil, hu]
   by_cases h1 : f < n
   ·have h2 : f < n + 1 := by omega
    rw [if_pos h1, if_pos h2]
    omega
   ·have h2 : ¬ f < n + 1 := by omega
    rw [if_neg h1, if_neg h2]
    omega
theorem cnt_upd (S : Int → Bool) (f : Int) (h0 : 0 ≤ f) (h1 : f < 64) (hf : S f = false) : cnt (upd S f true) = cnt S + 1 := by
 obtain ⟨n, rfl⟩ : ∃ n : Nat, f = (n : Int) := ⟨f.toNat, by omega⟩
 unfold cnt
 rw [countP_upd S n hf 64, if_pos (by omega)]
theorem cnt_none : cnt (fun _ => false) = 0 := by simp [cnt]

structure Bfs (nx : Int → List Int) (a : Int) (S : Int → Bool) (q : List Int) : Prop where
 sound : ∀ x, S x = true → Reach nx a x
 qin : ∀ x ∈ q, x = a ∨ S x = true
 closed : ∀ x, (x = a ∨ S x = true) → x ∈ q ∨ ∀ y ∈ nx x, S y = true
section
variable {nx : Int → List Int} {a x f : Int} {S : Int → Bool} {q : List Int}
theorem upd_self (S : Int → Bool) (f : Int) (v : Bool) : upd S f v f = v := by simp [upd]
theorem upd_keep {S : Int → Bool} {f y : Int} (h : S y = true) : upd S f true y = true := by
 unfold upd
 split
 ·rfl
 ·exact h
theorem upd_or {S : Int → Bool} {f y : Int} (h : upd S f true y = true) : y = f ∨ S y = true := by
 unfold upd at h
 split at h
 ·exact .inl (by assumption)
 ·exact .inr h
theorem Bfs.start (nx : Int → List Int) (a : Int) : Bfs nx a (fun _ => false) [a] :=
 ⟨fun x h => by simp at h, fun x h => .inl (by simpa using h), fun x h => .inl (by rcases h with rfl | h <;> simp_all)⟩
theorem Bfs.add (h : Bfs nx a S (x :: q)) (hf : f ∈ nx x) : Bfs nx a (upd S f true) (x :: q ++ [f]) := by
 refine ⟨fun y hy => ?_, fun y hy => ?_, fun y hy => ?_⟩
 ·rcases upd_or hy with rfl | hy
  ·exact Reach.from ((h.qin x (by simp)).imp id (h.sound x)) hf
  ·exact h.sound y hy
 ·rcases List.mem_append.1 hy with hy | hy
  ·exact (h.qin y hy).imp id upd_keep
  ·exact .inr (by rw [List.mem_singleton.1 hy]; exact upd_self _ _ _)
 ·by_cases e : y = f
  ·exact .inl (by simp [e])
  ·rcases h.closed y (hy.imp id fun hy => (upd_or hy).resolve_left e) with h1 | h1
   ·exact .inl (List.mem_append_left _ h1)
   ·exact .inr fun z hz => upd_keep (h1 z hz)
theorem Bfs.pop (h : Bfs nx a S (x :: q)) (hall : ∀ y ∈ nx x, S y = true) : Bfs nx a S q := by
 refine ⟨h.sound, fun y hy => h.qin y (List.mem_cons_of_mem _ hy), fun y hy => ?_⟩
 rcases h.closed y hy with h1 | h1
 ·rcases List.mem_cons.1 h1 with rfl | h1
  ·exact .inr hall
  ·exact .inl h1
 ·exact .inr h1
theorem Bfs.done (h : Bfs nx a S []) (y : Int) : S y = true ↔ Reach nx a y := by
 refine ⟨h.sound y, fun hy => ?_⟩
 induction hy with
 | one hy => exact ((h.closed a (.inl rfl)).resolve_left (by simp)) _ hy
 | more _ hy ih => exact ((h.closed _ (.inr ih)).resolve_left (by simp)) _ hy

structure Dfs (nx : Int → List Int) (a : Int) (S : Int → Bool) (q : List Int) : Prop where
 sound : ∀ x, S x = true → Reach nx a x
 qin : ∀ x ∈ q, Reach nx a x
 closed : ∀ x, (x = a ∨ S x = true) → ∀ y ∈ nx x, S y = true ∨ y ∈ q
theorem Dfs.start (nx : Int → List Int) (a : Int) : Dfs nx a (fun _ => false) (nx a) :=
 ⟨fun x h => by simp at h, fun x h => .one h, fun x h y hy => .inr (by rcases h with rfl | h; exact hy; simp at h)⟩
theorem Dfs.skip (h : Dfs nx a S (q ++ [x])) (hx : S x = true) : Dfs nx a S q := by
 refine ⟨h.sound, fun y hy => h.qin y (List.mem_append_left _ hy), fun y hy z hz => ?_⟩
 rcases h.closed y hy z hz with h1 | h1
 ·exact .inl h1
 ·rcases List.mem_append.1 h1 with h1 | h1
  ·exact .inr h1
  ·exact .inl (by rw [List.mem_singleton.1 h1]; exact hx)
theorem Dfs.new (h : Dfs nx a S (q ++ [x])) : Dfs nx a (upd S x true) (q ++ nx x) := by
 have hr := h.qin x (by simp)
 refine ⟨fun y hy => ?_, fun y hy => ?_, fun y hy z hz => ?_⟩
 ·rcases upd_or hy with rfl | hy
  ·exact hr
  ·exact h.sound y hy
 ·rcases List.mem_append.1 hy with hy | hy
  ·exact h.qin y (List.mem_append_left _ hy)
  ·exact .more hr hy
 ·by_cases e : y = x
  ·subst e
   exact .inr (List.mem_append_right _ hz)
  ·rcases h.closed y (hy.imp id fun hy => (upd_or hy).resolve_left e) z hz with h1 | h1
   ·exact .inl (upd_keep h1)
   ·rcases List.mem_append.1 h1 with h1 | h1
    ·exact .inr (List.mem_append_left _ h1)
    ·exact .inl (by rw [List.mem_singleton.1 h1]; exact upd_self _ _ _)
theorem Dfs.done (h : Dfs nx a S []) (y : Int) : S y = true ↔ Reach nx a y := by
 refine ⟨h.sound y, fun hy => ?_⟩
 induction hy with
 | one hy => exact (h.closed a (.inl rfl) _ hy).resolve_right (by simp)
 | more _ hy ih => exact (h.closed _ (.inr ih) _ hy).resolve_right (by simp)
end
/-- The set of what is reached. -/
noncomputable def reachB (nx : Int → List Int) (a : Int) (x : Int) : Bool := @decide (Reach nx a x) (Classical.propDecidable _)
theorem reachB_of {nx : Int → List Int} {a : Int} {S : Int → Bool} (h : ∀ y, S y = true ↔ Reach nx a y) (y : Int) : S y = reachB nx a y := by
 unfold reachB
 by_cases hy : Reach nx a y
 ·rw [(h y).2 hy]
  simp [hy]
 ·cases hS : S y with
  | true => exact absurd ((h y).1 hS) hy
  | false => simp [hy]
theorem reachB_true {nx : Int → List Int} {a x : Int} : reachB nx a x = true ↔ Reach nx a x := by
 unfold reachB
 simp
theorem reachB_false {nx : Int → List Int} {a x : Int} (h : ¬ Reach nx a x) : reachB nx a x = false := by
 cases hb : reachB nx a x with
 | false => rfl
 | true => exact absurd (reachB_true.1 hb) h

end Go.Proofs.YtniikppojffiaaaGreat.K
end

section
/- Sets of numbers as maps whose keys are just what is in the set. -/
namespace Go.Proofs.YtniikppojffiaaaGreat.K
open Go.RowKit Go.Shelf Go.Proofs.YtniikppojffiaaaGreatW.PrintWords Go.Proofs.YtniikppojffiaaaGreatW.PrintLast Go.Proofs.YtniikppojffiaaaGreatW.PrintMore
open Go.Maps (Keyed IsMap has)
set_option linter.unusedVariables false
set_option linter.unusedSimpArgs false

def SetK (w : World) (b n : Nat) (S : Int → Bool) : Prop :=
 ∃ D : DataW Unit, w.ownsMap Tryz.prog 2 (plainElem Tryz.prog 4) b n D ∧ IsMap D ∧ (∀ x, (Lit.int .i64 x).wf = true → D.atKey (.int .i64 x) (.lit (.bool false)) = .lit (.bool (S x))) ∧ ∀ x, has D (.int .i64 x) = S x
theorem SetK_made (w : World) : SetK (w.alloc (.map #[] 0)) w.heap.size 0 (fun _ => false) := ⟨.map [], World.ownsMap_made _ _ _ _, Go.Maps.isMap_empty, fun x _ => rfl, fun x => rfl⟩
theorem SetK.set {w : World} {b n : Nat} {S : Int → Bool} (h : SetK w b n S) : SetM w b n S := by
 obtain ⟨D, h1, h2, h3, _⟩ := h
 exact ⟨D, h1, h2, h3⟩
theorem SetK.lt {w : World} {b n : Nat} {S : Int → Bool} (h : SetK w b n S) : b < w.heap.size := h.set.lt
theorem SetK.same {w w' : World} {b n : Nat} {S : Int → Bool} (h : SetK w b n S) (he : w'.heap[b]? = w.heap[b]?) : SetK w' b n S := by
 obtain ⟨D, ⟨es, clock, hb, F, hs, hD⟩, h2, h3⟩ := h
 exact ⟨D, ⟨es, clock, he.trans hb, F, hs, hD⟩, h2, h3⟩
theorem SetK.later {w w' : World} {b n : Nat} {S : Int → Bool} (h : SetK w b n S) (hg : Grew w w') : SetK w' b n S := h.same (hg.block b h.lt)
theorem SetK.mono {w : World} {b n m : Nat} {S : Int → Bool} (h : SetK w b n S) (hn : n ≤ m) : SetK w b m S := by
 obtain ⟨D, ho, h2⟩ := h
 exact ⟨D, ho.mono hn, h2⟩
theorem SetK.cong {w : World} {b n : Nat} {S S' : Int → Bool} (h : SetK w b n S) (hs : ∀ x, S x = S' x) : SetK w b n S' := by
 obtain rfl : S = S' := funext hs
 exact h
theorem SetK.look {w : World} {b n : Nat} {S : Int → Bool} (h : SetK w b n S) (x : Int) (hx : (Lit.int .i64 x).wf = true) :
  (Instr.lookup TMap (.map (some b)) (I x) false).run Tryz.prog w = .ok (.bool (S x)) w := h.set.look x hx
theorem SetK.store {w : World} {b n : Nat} {S : Int → Bool} (h : SetK w b n S) (hn : n < 1000000000) (x : Int) (hx : (Lit.int .i64 x).wf = true) :
  ∃ w', (Instr.mapUpdate TMap (.map (some b)) (I x) (.bool true)).run Tryz.prog w = .ok () w' ∧ SetK w' b (n + 1) (upd S x true) ∧ w.grownBy w' (some b) := by
 obtain ⟨D, ho, hm, h3, h4⟩ := h
 obtain ⟨w', hrun, ho', hg⟩ := ho.update keyLaw Tryz.underlying67 (by unfold maxLen; omega) (Go.Maps.keyOf_int_mk Tryz.underlying2 hx) (plainElem_bool Tryz.underlying4 true)
 refine ⟨w', hrun, ⟨_, ho', hm.put _ _, fun y hy => ?_, fun y => ?_⟩, hg⟩
 ·by_cases e : y = x
  ·subst e
   rw [Go.Maps.atKey_put_same hm (by simp [WideAt.IsKeyLit])]
   simp [upd]
  ·rw [Go.Maps.atKey_put_other (by simpa using e), h3 y hy]
   simp [upd, e]
 ·by_cases e : y = x
  ·subst e
   rw [Go.Maps.has_put_same hm (by simp [WideAt.IsKeyLit])]
   simp [upd]
  ·rw [Go.Maps.has_put_other (by simpa using e), h4 y]
   simp [upd, e]
end Go.Proofs.YtniikppojffiaaaGreat.K
end

section
/- What is behind a face: a queue and a set. -/
namespace Go.Proofs.YtniikppojffiaaaGreat.K
open Go.RowKit Go.Shelf Go.Proofs.YtniikppojffiaaaGreat.Q Go.Proofs.YtniikppojffiaaaGreatW.PrintWords Go.Proofs.YtniikppojffiaaaGreatW.PrintLast Go.Proofs.YtniikppojffiaaaGreatW.PrintMore
set_option linter.unusedVariables false
set_option linter.unusedSimpArgs false

abbrev Qi (w : World) (base : Nat) (v : Value) (xs : List Int) : Prop := Ki.Q 2 w base (fun _ => True) v xs
theorem Q_one (w : World) (a : Int) : Qi (w.alloc (.cells #[I a] 2)) w.heap.size (.slice (some ⟨w.heap.size, 0, none⟩) 1 1) [a] := by
 refine Kd.Q_of_R (Kd.R_of_own ?_ (fun _ _ => trivial))
 have := World.ownsRow_lit (base := w.heap.size) (e := 2) (size := 1) w #[I a] 1 (Nat.le_refl _) (by decide) rfl
 exact this
theorem cutQ {W : World} {base : Nat} {A : Option Addr} {n c : Nat} {x : Int} {xs : List Int} (h : Qi W base (.slice A n c) (x :: xs)) :
  ∃ A1 c1, (∀ W : World, (Instr.slice 22 (.slice A n c) (some (.int .i64 1)) none none).run Tryz.prog W = .ok (.slice A1 xs.length c1) W) ∧ Qi W base (.slice A1 xs.length c1) xs := by
 have hn : n = xs.length + 1 := by have := (Kd.Q_reads' h).1; simpa using this
 obtain ⟨i0, hi0, _, hsz, _⟩ := info_parts infoI
 have hcut := cut_from (P := Tryz.prog) 22 2 .i64 Tryz.underlying22 hi0 1 hsz A n c 1 (by omega) (by omega)
 have hr := Kd.Q_drop (k := 1) h (by simp)
 have e1 : n - (1 : Int).toNat = xs.length := by rw [hn]; rfl
 have e2 : n - 1 = xs.length := by omega
 rw [e1] at hcut
 rw [e2] at hr
 exact ⟨_, _, hcut, hr⟩
section
variable {ops : Array Oper} {rest : List Oper} {o : Oper} {a : Act} {Q : Exit → Act → World → Prop}
theorem appendQ {W : World} (base : Nat) (hgd : o.guard = none) (s x : Operand)
  (ho : o.op = .call { callee := .builtin .append, args := #[s, x], argTypes := #[22, 22] })
  (v : Value) (xs : List Int) (p : Int) (hs : a.eval s = v) (hx : a.eval x = .slice (some ⟨W.heap.size, 0, none⟩) 1 1)
  (HO : Qi W base v xs) (hbase : base ≤ W.heap.size) (hl : xs.length ≤ 1000000000000)
  (h : ∀ v1 w1, Qi w1 base v1 (xs ++ [p]) → Below base W w1 → W.grownBy w1 v.ownBlock → (v1.ownBlock = v.ownBlock ∨ ∃ b, v1.ownBlock = some b ∧ W.heap.size ≤ b) → wpList Tryz.prog ops Q rest (a.put o.dst v1) w1) :
  wpList Tryz.prog ops Q (o :: rest) a (W.alloc (.cells #[I p] 2)) :=
 Kd.Q_append Ki (w0 := W) base hgd s x 22 2 (.int .i64 0) 8 ho Tryz.underlying22 infoI rfl (by decide) (by omega) v xs p [I p] (fun _ => True) (fun _ => False) hs hx rfl (fun _ hk => hk.elim) (fun _ _ => trivial) HO (Below.refl _ _) hbase (by omega) h
end
set_option maxRecDepth 100000 in
set_option maxHeartbeats 16000000 in
theorem behind_calls (A2 : Option Addr) (c2 : Nat) {q : List PairT} (a : Int) (w : World) (hq : Kq.C w A2 q.length q) (hc2 : q.length ≤ c2) (hgq : GoodQ q) :
  Calls Tryz.prog 61 #[.slice A2 q.length c2, I a] w fun e w' => ∃ b, e = .returned (.map (some b)) ∧ w.heap.size ≤ b ∧ (∃ m, m ≤ 64 ∧ SetK w' b m (reachB (stepsL q) a)) ∧ Grew w w' := by
 obtain ⟨W0, hW0⟩ : ∃ W0, W0 = w.alloc (.map #[] 0) := ⟨_, rfl⟩
 have hS : SetK W0 w.heap.size 0 (fun _ => false) := by rw [hW0]; exact SetK_made w
 have hg0 : Grew w W0 := by rw [hW0]; exact below_alloc (Grew.refl w) _
 have hz : W0.heap.size = w.heap.size + 1 := by rw [hW0]; simp
 have hQ1 := Q_one W0 a
 have hg1 : Grew W0 (W0.alloc (.cells #[I a] 2)) := below_alloc (Grew.refl W0) _
 have HS1 := Aside0.mk (hS.later hg1)
 have HGA := Aside0.mk (Grew.trans hg0 hg1)
 rw [hz] at hQ1
 have HQ1 := Aside0.mk hQ1
 have HST := Aside0.mk (fun (x : Int) (W : World) (h : Grew w W) => steps_calls A2 c2 x W (Kd.C_below hq h) hc2 hgq)
 have HSM := Aside0.mk (fun (x y : Int) (h : y ∈ stepsL q x) => steps_mem hgq h)
 have HSL := Aside0.mk (fun (x : Int) => steps_len (q := q) x)
 have hmm := @run_makeMap Tryz.prog
 have hlq := hgq.len
 clear hq hS hg0 hz hg1 hQ1 hgq
 subst hW0
 go_enter Tryz.func61, Tryz.ntmps61
 go_wp2_with fail
 go_loopg [6, 8] (1 + 128) (fun gg s6 _ wr => ∃ (S : Int → Bool) (xs : List Int), xs.length + 2 * (64 - cnt S) ≤ gg ∧ xs.length + 2 * (64 - cnt S) ≤ 129 ∧ Aside0 (Bfs (stepsL q) a S xs) ∧ Aside0 (SetK wr w.heap.size (cnt S) S) ∧ Aside0 (Qi wr (w.heap.size + 1) s6 xs) ∧ Aside0 (Grew w wr))
 case atStart => exact ⟨fun _ => false, [a], by simp [cnt_none], by simp [cnt_none], ⟨Bfs.start _ _⟩, ⟨by rw [cnt_none]; exact HS1.out⟩, HQ1, HGA⟩
 case round =>
  obtain ⟨S, xs, hgg, h129, HB, HS, HQ, HG⟩ := hrel
  obtain ⟨A6, c6, e6, hc6, hC6⟩ := Kd.Q_reads HQ.out
  cases xs with
  | nil =>
   subst e6
   have HR := Aside0.mk (reachB_of (Bfs.done HB.out))
   go_wp2_with fail
   go_ret
   exact ⟨_, rfl, Nat.le_refl _, ⟨cnt S, cnt_le S, HS.out.cong HR.out⟩, HG.out⟩
  | cons x xs =>
   obtain ⟨n6, hn6⟩ : ∃ n, n = (x :: xs).length := ⟨_, rfl⟩
   rw [← hn6] at e6
   subst e6
   obtain ⟨ad, e6, hx⟩ := Kd.at_int hC6 0 (by omega) (by simp)
   cases e6
   have hrd : rd (x :: xs) 0 = x := by simp [rd]
   rw [hrd] at hx
   have hx2 : wr.cell? ad = some (I x) := by simpa [Addr.add] using hx
   have hn0 : 0 < n6 := by simp at hn6; omega
   have HN6 : Aside0 (n6 = xs.length + 1) := ⟨by simpa using hn6⟩
   simp only [List.length_cons] at hgg h129
   have HSTx := Aside0.mk (HST.out x wr HG.out)
   have HMx := Aside0.mk (HSM.out x)
   have HLx := Aside0.mk (HSL.out x)
   obtain ⟨L, hL⟩ : ∃ L, L = stepsL q x := ⟨_, rfl⟩
   rw [← hL] at HSTx HLx
   have HL := Aside0.mk hL
   clear hrd hC6 hn6 hc6 hL
   go_wp2_with fail
   refine HSTx.out.mono ?_
   rintro e w1 ⟨v1, rfl, hR1, hG1⟩
   obtain ⟨A1, c1, e1, hc1, _⟩ := Kd.R_reads hR1
   subst e1
   have HR1 := Aside0.mk (Kd.R_new' hR1 (Kd.Q_lt HQ.out))
   have HS1' := Aside0.mk (HS.out.later hG1)
   have HQ1' : Aside0 (Qi w1 (w.heap.size + 1) (.slice (some ad) n6 c6) (x :: xs)) := ⟨Kd.Q_below HQ.out hG1⟩
   have HG1 := Aside0.mk (Grew.trans HG.out hG1)
   have HLW := Aside0.mk HLx.out
   have hLl := HLx.out
   obtain ⟨N0, hN0⟩ : ∃ N0, N0 = wr.heap.size := ⟨_, rfl⟩
   have HWR : Aside0 (w.heap.size < N0) := ⟨by rw [hN0]; exact HS.out.lt⟩
   rw [← hN0] at HR1
   clear hN0 hR1 hG1 hx hx2 hn0 HSTx HLx HS HQ HG
   go_wp2_with fail
   go_loopg [6, 8, 23] L.length (fun gj s6 _ s23 wq => ∃ (j : Nat) (T : Int → Bool) (ys : List Int), j ≤ L.length ∧ L.length - j ≤ gj ∧ s23 = .int .i64 j ∧ (ys.length + 1) + 2 * (64 - cnt T) ≤ gk ∧ (ys.length + 1) + 2 * (64 - cnt T) ≤ 129 ∧ Aside0 (Bfs (stepsL q) a T (x :: ys)) ∧ Aside0 (∀ t (ht : t < L.length), t < j → T L[t] = true) ∧ Aside0 (SetK wq w.heap.size (cnt T) T) ∧ Aside0 (Qi wq (w.heap.size + 1) s6 (x :: ys)) ∧ Aside0 (Ki.R 2 wq N0 (fun k => True ∧ some k ≠ s6.ownBlock) (.slice A1 L.length c1) L) ∧ Aside0 (Grew w wq))
   case atStart => exact ⟨0, S, xs, Nat.zero_le _, by omega, rfl, hgg, h129, HB, ⟨fun j _ hj => absurd hj (Nat.not_lt_zero _)⟩, HS1', HQ1', HR1, HG1⟩
   case round =>
    obtain ⟨j, T, ys, hj1, hgj, rfl, hgT, hT9, HBT, HDT, HST', HQT, HRT, HGT⟩ := hrel
    obtain ⟨A6, cc, e6, hc6, _⟩ := Kd.Q_reads HQT.out
    obtain ⟨m6, hm6⟩ : ∃ n, n = (x :: ys).length := ⟨_, rfl⟩
    rw [← hm6] at e6
    subst e6
    have HM6 := Aside0.mk hm6
    clear hm6 hc6
    by_cases hlj : j < L.length
    ·have hljz : (j : Int) < (L.length : Int) := by omega
     obtain ⟨ad2, e2, hy⟩ := Kd.at_int (Kd.R_reads' HRT.out).2.2 (j : Int) (by omega) (by omega)
     cases e2
     have hrd : rd L (j : Int) = L[j] := by simp [rd, hlj]
     rw [hrd, Int.toNat_natCast] at hy
     have HYM : Aside0 (L[j] ∈ stepsL q x) := ⟨by rw [← HL.out]; exact List.getElem_mem hlj⟩
     have HYB := HMx.out _ HYM.out
     have HDJ : Aside0 (∀ T' : Int → Bool, T' L[j] = true → (∀ z, T z = true → T' z = true) → ∀ t (ht : t < L.length), t < j + 1 → T' L[t] = true) := ⟨fun T' h hm t ht ht2 => by
      rcases Nat.lt_or_ge t j with h1 | h1
      ·exact hm _ (HDT.out t ht h1)
      ·obtain rfl : t = j := by omega
       exact h⟩
     clear hrd
     generalize L[j] = y at hy HYM HYB HDJ
     have HWF := Aside0.mk (wf_face HYB.1 HYB.2)
     have HY := Aside0.mk HYB
     have hlk := HST'.out.look y HWF.out
     clear HYB
     cases hty : T y with
     | true =>
      rw [hty] at hlk
      have HD2 := Aside0.mk (HDJ.out T hty (fun _ h => h))
      clear hty
      go_wp2_with fail
      go_roundg (L.length - (j + 1))
      case measure => omega
      case rel => exact ⟨j + 1, T, ys, by omega, by omega, by go_num, hgT, hT9, HBT, HD2, HST', HQT, HRT, HGT⟩
     | false =>
      rw [hty] at hlk
      have HCT := Aside0.mk (cnt_upd T y (by have := HY.out; omega) (by have := HY.out; omega) hty)
      have h64 := cnt_le (upd T y true)
      rw [HCT.out] at h64
      obtain ⟨w5, hr5, hS5, hg5⟩ := HST'.out.store (by have := cnt_le T; omega) y HWF.out
      have hbs := HST'.out.lt
      have HD2 := Aside0.mk (HDJ.out (upd T y true) (upd_self _ _ _) (fun z h => upd_keep h))
      have HB2 := Aside0.mk (HBT.out.add HYM.out)
      have HQ5 : Aside0 (Qi w5 (w.heap.size + 1) (.slice A6 m6 cc) (x :: ys)) := ⟨Kd.Q_mono (Kd.Q_grown (Kd.Q_bound HQT.out) hg5 (fun k hk e => by cases e; omega)) (fun _ _ => trivial)⟩
      have hsz := HGT.out.size
      have HR5 : Aside0 (Ki.R 2 w5 N0 (fun k => True ∧ some k ≠ (Value.slice A6 m6 cc).ownBlock) (.slice (some ad2) L.length c1) L) := ⟨Kd.R_mono (Kd.R_grown (Kd.R_bound HRT.out) hg5 (fun k hk e => by cases e; have := HG1.out.size; have := hk.2.1; have := HWR.out; omega)) (fun _ hk => hk.1)⟩
      have HG5 := Aside0.mk (pw_below_grown HGT.out _ hsz hg5 (fun k hk => by cases hk; omega))
      have HS5 := Aside0.mk hS5
      have hs5 : w.heap.size + 1 ≤ w5.heap.size := by have := hg5.size; omega
      have hml : (x :: ys).length ≤ 1000000000000 := by simp; omega
      clear hty hS5 hg5 hsz
      go_wp2_with (at_builtin; refine appendQ (w.heap.size + 1) rfl (.tmp 33) (.tmp 35) rfl _ (x :: ys) y rfl rfl HQ5.out hs5 hml ?_; intro v6 w6 hQ6 hB6 hg6 hat6; have HQ6 := Aside0.mk hQ6; have HR6 := Aside0.mk (Kd.R_after HR5.out hg6 hat6); have HS6 := Aside0.mk (HS5.out.same (hg6.block w.heap.size (by omega) (fun e => by have := Kd.Q_base HQ5.out _ e.symm; omega))); have HG6 := Aside0.mk (Below.trans HG5.out (hB6.mono (Nat.le_succ _))); clear hQ6 hB6 hg6 hat6 hml hs5)
      go_roundg (L.length - (j + 1))
      case measure => omega
      case rel => exact ⟨j + 1, upd T y true, ys ++ [y], by omega, by omega, by go_num, by rw [HCT.out, List.length_append]; simp; omega, by rw [HCT.out, List.length_append]; simp; omega, HB2, HD2, ⟨by rw [HCT.out]; exact HS6.out⟩, HQ6, HR6, HG6⟩
    ·have hltz : ¬ (j : Int) < (L.length : Int) := by omega
     have HPO := Aside0.mk (HBT.out.pop (fun y hy => by
      rw [← HL.out] at hy
      obtain ⟨t, ht, rfl⟩ := List.mem_iff_getElem.1 hy
      exact HDT.out t ht (by omega)))
     obtain ⟨A7, c7, hcut, hQ7⟩ := cutQ HQT.out
     have HQ7 := Aside0.mk hQ7
     clear hQ7
     go_wp2_with fail
     go_roundg (ys.length + 2 * (64 - cnt T))
     case measure => omega
     case rel => exact ⟨T, ys, Nat.le_refl _, by omega, HPO, HST', HQ7, HGT⟩

end Go.Proofs.YtniikppojffiaaaGreat.K
end

section
/- isPair. -/
namespace Go.Proofs.YtniikppojffiaaaGreat.K
open Go.RowKit Go.Shelf Go.Proofs.YtniikppojffiaaaGreat.Q Go.Proofs.YtniikppojffiaaaGreatW.PrintWords Go.Proofs.YtniikppojffiaaaGreatW.PrintLast Go.Proofs.YtniikppojffiaaaGreatW.PrintMore
set_option linter.unusedVariables false
set_option linter.unusedSimpArgs false

theorem isPair_is {n : Int} {l : List Int} (hi : isC n l = true) (x y : Int) : impl_Complex_isPair.f (l.length + 1) n l x y = some (pairK l ⟨x, y⟩) := by
 obtain ⟨hn, hs, hr, h63⟩ := isC_faces hi
 have hh : ∀ f, impl_Complex_has.f (l.length + 1) n l f = some (hasB l f) := fun f => by unfold impl_Complex_has.f; rw [bs_is l f (by omega)]; rfl
 have hI : impl_isIn.f x y = some (inB x y) := rfl
 unfold impl_Complex_isPair.f pairK
 rw [hh x]
 simp only [Option.bind_some]
 cases h1 : hasB l x with
 | false => simp
 | true =>
  rw [if_pos rfl, hh y]
  simp only [Option.bind_some]
  cases h2 : hasB l y with
  | false => simp
  | true =>
   rw [if_pos rfl, hI]
   simp only [Option.bind_some]
   cases h3 : inB x y with
   | false => simp
   | true =>
    have hx := has_mem hi h1
    have hy := has_mem hi h2
    rw [if_pos rfl, size_is y (by omega) (by omega), size_is x (by omega) (by omega)]
    simp only [Option.bind_some]
    have := ones_le x
    have hw : wrap64 (onesI x + 1) = onesI x + 1 := by unfold wrap64; omega
    rw [hw]
    simp only [Bool.true_and]
    rfl
theorem isPair_calls {n : Int} (A : Option Addr) (c : Nat) {l : List Int} (hi : isC n l = true) (p : PairT) (w : World) (hk : Kx w A c l) :
  Calls Tryz.prog 77 #[.agg #[I n, .slice A l.length c], .agg #[I p.f0, I p.f1]] w fun e w' => e = .returned (.bool (pairK l p)) ∧ Grew w w' :=
 impl_Complex_isPair.calls (l.length + 1) n A c l p.f0 p.f1 (pairK l p) w hk.r hk.c (isPair_is hi p.f0 p.f1)


end Go.Proofs.YtniikppojffiaaaGreat.K
end

section
/- isPairing. -/
namespace Go.Proofs.YtniikppojffiaaaGreat.K
open Go.RowKit Go.Shelf Go.Proofs.YtniikppojffiaaaGreat.Q Go.Proofs.YtniikppojffiaaaGreatW.PrintWords Go.Proofs.YtniikppojffiaaaGreatW.PrintLast Go.Proofs.YtniikppojffiaaaGreatW.PrintMore
open Go.Maps (Keyed IsMap)
set_option linter.unusedVariables false
set_option linter.unusedSimpArgs false

theorem upd_seen (S : Int → Bool) (a b x : Int) : upd (upd S a true) b true x = (S x || (a == x || b == x)) := by
 unfold upd
 by_cases h1 : x = b
 ·subst h1; simp
 ·by_cases h2 : x = a
  ·subst h2; simp [h1]
  ·have e1 : (a == x) = false := by simpa using fun h => h2 h.symm
   have e2 : (b == x) = false := by simpa using fun h => h1 h.symm
   simp [h1, h2, e1, e2]
set_option maxRecDepth 100000 in
set_option maxHeartbeats 16000000 in
theorem isPairing_calls {n : Int} (A : Option Addr) (c : Nat) {l : List Int} (hi : isC n l = true) (A2 : Option Addr) (c2 : Nat) (q : List PairT) (w : World) (hk : Kx w A c l) (hq : Kq.C w A2 q.length q) (hc2 : q.length ≤ c2) (hq2 : q.length ≤ 2097152) :
  Calls Tryz.prog 58 #[.agg #[I n, .slice A l.length c], .slice A2 q.length c2] w fun e w' => e = .returned (.bool (pingB l q)) ∧ Grew w w' := by
 obtain ⟨W0, hW0⟩ : ∃ W0, W0 = (w.alloc (.cells #[I n, .slice A l.length c] 30)).alloc (.map #[] 0) := ⟨_, rfl⟩
 have hB : CB W0 w.heap.size n (.slice A l.length c) := by rw [hW0]; exact blk_alloc (blk_new w _) _
 have hS : SetM W0 (w.heap.size + 1) 0 (fun _ => false) := by
  rw [hW0]
  have := SetM_made (w.alloc (.cells #[I n, .slice A l.length c] 30))
  rwa [World.size_alloc] at this
 have hg : Grew w W0 := by rw [hW0]; exact below_alloc (below_alloc (Grew.refl w) _) _
 have HK := Aside0.mk hk
 have HQ := Aside0.mk hq
 have HC2 := Aside0.mk hc2
 have HI := Aside0.mk hi
 have HB := Aside0.mk hB
 have HS := Aside0.mk hS
 have HG := Aside0.mk hg
 have hmm := @run_makeMap Tryz.prog
 clear hk hq hc2 hi hB hS hg
 subst hW0
 go_enter Tryz.func58, Tryz.ntmps58
 go_wp2_with fail
 go_loopg [6, 7, 11] q.length (fun gg _ _ s11 wr => ∃ i : Nat, i ≤ q.length ∧ q.length - i ≤ gg ∧ s11 = .int .i64 i ∧ Aside0 (CB wr w.heap.size n (.slice A l.length c)) ∧ Aside0 (SetM wr (w.heap.size + 1) (2 * i) (seenB q i)) ∧ Aside0 (Grew w wr) ∧ Aside0 (∀ j, j < i → okAt l q j = true))
 case atStart => exact ⟨0, Nat.zero_le _, by omega, rfl, HB, ⟨HS.out.cong (fun x _ => by simp [seenB])⟩, HG, ⟨fun j hj => absurd hj (Nat.not_lt_zero _)⟩⟩
 case round =>
  obtain ⟨i, hi1, hgg, rfl, HBr, HSr, HGr, HO⟩ := hrel
  by_cases hlt : i < q.length
  ·have hltz : (i : Int) < (q.length : Int) := by omega
   obtain ⟨ad, e0, hx0, hx1⟩ := Kq_read (Kd.C_below HQ.out HGr.out) i hlt rfl
   cases e0
   have hlw : w.heap.size < wr.heap.size := blk_lt HBr.out
   have HOK := Aside0.mk (okAt_eq l q i hlt)
   have HSS := Aside0.mk (seen_succ q i hlt)
   have HPB : Aside0 (okAt l q i = false → pingB l q = false) := ⟨fun h => ping_false hlt h⟩
   have HPS : Aside0 (okAt l q i = true → ∀ j, j < i + 1 → okAt l q j = true) := ⟨fun h j hj => by
    rcases Nat.lt_or_ge j i with h1 | h1
    ·exact HO.out j h1
    ·rw [show j = i by omega]; exact h⟩
   -- the pair before
   have HPV : Aside0 (0 < i → wr.cell? (ad.add ((i - 1) * 2)) = some (I (q.getD (i - 1) z46).f0) ∧ wr.cell? ⟨(ad.add ((i - 1) * 2)).block, (ad.add ((i - 1) * 2)).off + 1, none⟩ = some (I (q.getD (i - 1) z46).f1)) := ⟨fun h0 => by
    obtain ⟨ad2, e2, hy0, hy1⟩ := Kq_read (Kd.C_below HQ.out HGr.out) (i - 1) (by omega) rfl
    cases e2
    have hz : q.getD (i - 1) z46 = q[i - 1] := by simp [show i - 1 < q.length by omega]
    rw [hz]
    exact ⟨hy0, hy1⟩⟩
   generalize q.getD (i - 1) z46 = r at HOK HPV
   generalize q[i] = p at hx0 hx1 HOK HSS
   have HLB := Aside0.mk (World.block_lt_of_cell? wr _ hx0)
   -- the world with the pair's box
   obtain ⟨W1, hW1⟩ : ∃ W1, W1 = wr.alloc (.cells #[I p.f0, I p.f1] 46) := ⟨_, rfl⟩
   have hp : W1.heap[wr.heap.size]? = some (.cells #[I p.f0, I p.f1] 46 (0, 0)) := by rw [hW1]; exact blk_new wr _
   have hG1 : Grew wr W1 := by rw [hW1]; exact below_alloc (Grew.refl wr) _
   have HS1 := Aside0.mk (HSr.out.later hG1)
   have HB1 : Aside0 (CB W1 w.heap.size n (.slice A l.length c)) := ⟨blk_below HBr.out hG1⟩
   have HP1 := Aside0.mk hp
   have HG1 := Aside0.mk hG1
   have HGw1 := Aside0.mk (Grew.trans HGr.out hG1)
   have HIP := Aside0.mk (fun (W : World) (h : Grew W1 W) => isPair_calls A c HI.out p W (HK.out.later (Grew.trans HGw1.out h)))
   have HCP := Aside0.mk (fun (W : World) => comparePairs_calls r.f0 r.f1 p.f0 p.f1 W)
   have k0 := HB1.out.c0
   have k1 := HB1.out.c1
   have hp0 : W1.cell? ⟨wr.heap.size, 0, none⟩ = some (I p.f0) := blk_cell hp 0
   have hp1 : W1.cell? ⟨wr.heap.size, 1, none⟩ = some (I p.f1) := blk_cell hp 1
   have hl0 := World.block_lt_of_cell? W1 _ k0
   have hl1 := World.block_lt_of_cell? W1 _ hp0
   have HE1 := Aside0.mk hW1
   clear hp hG1 hW1
   generalize hb1 : pairK l p = b1 at HOK HIP
   have HPK := Aside0.mk hb1
   clear hb1
   cases b1 with
   | false =>
    have HPF := Aside0.mk (HPB.out (by rw [HOK.out]; rfl))
    clear HPB HPS HOK
    go_wp2_with fail
    rw [← HE1.out]
    refine start_ (n := 30) (S := fun w' => w'.cell? ⟨w.heap.size, 0, none⟩ = some (I n) ∧ w'.cell? ⟨w.heap.size, 1, none⟩ = some (.slice A l.length c) ∧ w'.cell? ⟨wr.heap.size, 0, none⟩ = some (I p.f0) ∧ w'.cell? ⟨wr.heap.size, 1, none⟩ = some (I p.f1)) (ds := []) (ar 0 30) (by kernel_rfl) rfl rfl ⟨(Below.cell (w := W1) (below_drew (Grew.refl W1)) (p := ⟨w.heap.size, 0, none⟩) hl0).trans k0, (Below.cell (w := W1) (below_drew (Grew.refl W1)) (p := ⟨w.heap.size, 1, none⟩) hl0).trans k1, (Below.cell (w := W1) (below_drew (Grew.refl W1)) (p := ⟨wr.heap.size, 0, none⟩) hl1).trans hp0, (Below.cell (w := W1) (below_drew (Grew.refl W1)) (p := ⟨wr.heap.size, 1, none⟩) hl1).trans hp1⟩ (fun hHeld => ?_)
    refine take_ (i := 0) (N := some 16) (v := ?_) (a' := ?_) (ar 1 29) rfl rfl (by kernel_rfl) hh_ (Or.inl ⟨by rfl, ?_⟩) hHeld ?_ ?_
    rotate_left; · rintro w' ⟨s0, s1, s2, s3⟩; go_simp; with_reducible rfl
    rotate_left; · simp only [nm_]; rfl
    refine take_ (i := 1) (N := some 17) (v := ?_) (a' := ?_) (ar 2 28) rfl rfl (by kernel_rfl) hh_ (Or.inl ⟨by rfl, ?_⟩) hHeld ?_ ?_
    rotate_left; · rintro w' ⟨s0, s1, s2, s3⟩; go_simp; with_reducible rfl
    rotate_left; · simp only [nm_]; rfl
    refine one_ (i := 2) (N := some 18) (ar 3 27) rfl rfl (by kernel_rfl) (by decide) (fun K hK => ?_)
    refine goes_ Tryz.func77 (by kernel_rfl) rfl #[.agg #[I n, .slice A l.length c], .agg #[I p.f0, I p.f1]] (by rfl) rfl rfl (by simp only [List.map_toArray, List.map_cons, List.map_nil]; rfl) ?_
    with_reducible refine (HIP.out _ (below_drew (Grew.refl W1))).mono ?_
    rintro e w3 ⟨rfl, hGa⟩
    refine ⟨_, rfl, ?_⟩
    have HL := Aside0.mk (Grew.trans (below_drew (Grew.refl W1)) hGa)
    clear hGa
    refine hK.out _ _ ⟨(Below.cell (w := W1) HL.out (p := ⟨w.heap.size, 0, none⟩) hl0).trans k0, (Below.cell (w := W1) HL.out (p := ⟨w.heap.size, 1, none⟩) hl0).trans k1, (Below.cell (w := W1) HL.out (p := ⟨wr.heap.size, 0, none⟩) hl1).trans hp0, (Below.cell (w := W1) HL.out (p := ⟨wr.heap.size, 1, none⟩) hl1).trans hp1⟩ (fun hHeld => ?_)
    clear hK K
    refine norm_ (a' := ?_) ?_ ?_
    rotate_left
    ·show Act.put _ (some 18) _ = _
     simp only [nm_]
     rfl
    refine pure_ (i := 3) (N := some 19) (v := ?_) (a' := ?_) (ar 4 26) rfl rfl (by kernel_rfl) hh_ (Or.inl ⟨by rfl, ?_⟩) ?_ ?_; rotate_left; (intro w'; go_simp; with_reducible rfl); rotate_left; · simp only [nm_]; rfl
    refine pure_ (i := 4) (N := some 20) (v := ?_) (a' := ?_) (ar 5 25) rfl rfl (by kernel_rfl) hh_ (Or.inl ⟨by rfl, ?_⟩) ?_ ?_; rotate_left; (intro w'; go_simp; with_reducible rfl); rotate_left; · simp only [nm_]; rfl
    refine pure_ (i := 5) (N := some 21) (v := undef) (a' := ?_) (ar 6 24) rfl rfl (by kernel_rfl) hh_ (Or.inr ⟨by rfl, rfl⟩) ?_ ?_; rotate_left; · simp only [nm_]; rfl
    refine pure_ (i := 6) (N := some 22) (v := undef) (a' := ?_) (ar 7 23) rfl rfl (by kernel_rfl) hh_ (Or.inr ⟨by rfl, rfl⟩) ?_ ?_; rotate_left; · simp only [nm_]; rfl
    refine pure_ (i := 7) (N := some 23) (v := undef) (a' := ?_) (ar 8 22) rfl rfl (by kernel_rfl) hh_ (Or.inr ⟨by rfl, rfl⟩) ?_ ?_; rotate_left; · simp only [nm_]; rfl
    refine pure_ (i := 8) (N := some 24) (v := undef) (a' := ?_) (ar 9 21) rfl rfl (by kernel_rfl) hh_ (Or.inr ⟨by rfl, rfl⟩) ?_ ?_; rotate_left; · simp only [nm_]; rfl
    refine pure_ (i := 9) (N := some 25) (v := ?_) (a' := ?_) (ar 10 20) rfl rfl (by kernel_rfl) hh_ (Or.inl ⟨by rfl, ?_⟩) ?_ ?_; rotate_left; (intro w'; go_simp; with_reducible rfl); rotate_left; · simp only [nm_]; rfl
    refine pure_ (i := 10) (N := some 26) (v := ?_) (a' := ?_) (ar 11 19) rfl rfl (by kernel_rfl) hh_ (Or.inl ⟨by rfl, ?_⟩) ?_ ?_; rotate_left; (intro w'; go_simp; with_reducible rfl); rotate_left; · simp only [nm_]; rfl
    refine pure_ (i := 11) (N := some 27) (v := undef) (a' := ?_) (ar 12 18) rfl rfl (by kernel_rfl) hh_ (Or.inr ⟨by rfl, rfl⟩) ?_ ?_; rotate_left; · simp only [nm_]; rfl
    refine pure_ (i := 12) (N := some 28) (v := undef) (a' := ?_) (ar 13 17) rfl rfl (by kernel_rfl) hh_ (Or.inr ⟨by rfl, rfl⟩) ?_ ?_; rotate_left; · simp only [nm_]; rfl
    refine pure_ (i := 13) (N := some 29) (v := undef) (a' := ?_) (ar 14 16) rfl rfl (by kernel_rfl) hh_ (Or.inr ⟨by rfl, rfl⟩) ?_ ?_; rotate_left; · simp only [nm_]; rfl
    refine pure_ (i := 14) (N := some 30) (v := undef) (a' := ?_) (ar 15 15) rfl rfl (by kernel_rfl) hh_ (Or.inr ⟨by rfl, rfl⟩) ?_ ?_; rotate_left; · simp only [nm_]; rfl
    refine pure_ (i := 15) (N := some 31) (v := ?_) (a' := ?_) (ar 16 14) rfl rfl (by kernel_rfl) hh_ (Or.inl ⟨by rfl, ?_⟩) ?_ ?_; rotate_left; (intro w'; go_simp; with_reducible rfl); rotate_left; · simp only [nm_]; rfl
    refine pure_ (i := 16) (N := some 32) (v := ?_) (a' := ?_) (ar 17 13) rfl rfl (by kernel_rfl) hh_ (Or.inl ⟨by rfl, ?_⟩) ?_ ?_; rotate_left; (intro w'; go_simp; with_reducible rfl); rotate_left; · simp only [nm_]; rfl
    refine pure_ (i := 17) (N := some 33) (v := undef) (a' := ?_) (ar 18 12) rfl rfl (by kernel_rfl) hh_ (Or.inr ⟨by rfl, rfl⟩) ?_ ?_; rotate_left; · simp only [nm_]; rfl
    refine pure_ (i := 18) (N := some 34) (v := undef) (a' := ?_) (ar 19 11) rfl rfl (by kernel_rfl) hh_ (Or.inr ⟨by rfl, rfl⟩) ?_ ?_; rotate_left; · simp only [nm_]; rfl
    refine pure_ (i := 19) (N := some 35) (v := undef) (a' := ?_) (ar 20 10) rfl rfl (by kernel_rfl) hh_ (Or.inr ⟨by rfl, rfl⟩) ?_ ?_; rotate_left; · simp only [nm_]; rfl
    refine pure_ (i := 20) (N := some 36) (v := undef) (a' := ?_) (ar 21 9) rfl rfl (by kernel_rfl) hh_ (Or.inr ⟨by rfl, rfl⟩) ?_ ?_; rotate_left; · simp only [nm_]; rfl
    refine pure_ (i := 21) (N := some 37) (v := undef) (a' := ?_) (ar 22 8) rfl rfl (by kernel_rfl) hh_ (Or.inr ⟨by rfl, rfl⟩) ?_ ?_; rotate_left; · simp only [nm_]; rfl
    refine pure_ (i := 22) (N := some 38) (v := undef) (a' := ?_) (ar 23 7) rfl rfl (by kernel_rfl) hh_ (Or.inr ⟨by rfl, rfl⟩) ?_ ?_; rotate_left; · simp only [nm_]; rfl
    refine pure_ (i := 23) (N := some 39) (v := undef) (a' := ?_) (ar 24 6) rfl rfl (by kernel_rfl) hh_ (Or.inr ⟨by rfl, rfl⟩) ?_ ?_; rotate_left; · simp only [nm_]; rfl
    refine pure_ (i := 24) (N := some 40) (v := undef) (a' := ?_) (ar 25 5) rfl rfl (by kernel_rfl) hh_ (Or.inr ⟨by rfl, rfl⟩) ?_ ?_; rotate_left; · simp only [nm_]; rfl
    refine pure_ (i := 25) (N := some 41) (v := undef) (a' := ?_) (ar 26 4) rfl rfl (by kernel_rfl) hh_ (Or.inr ⟨by rfl, rfl⟩) ?_ ?_; rotate_left; · simp only [nm_]; rfl
    refine pure_ (i := 26) (N := some 42) (v := undef) (a' := ?_) (ar 27 3) rfl rfl (by kernel_rfl) hh_ (Or.inr ⟨by rfl, rfl⟩) ?_ ?_; rotate_left; · simp only [nm_]; rfl
    refine pure_ (i := 27) (N := some 43) (v := undef) (a' := ?_) (ar 28 2) rfl rfl (by kernel_rfl) hh_ (Or.inr ⟨by rfl, rfl⟩) ?_ ?_; rotate_left; · simp only [nm_]; rfl
    refine pure_ (i := 28) (N := some 44) (v := undef) (a' := ?_) (ar 29 1) rfl rfl (by kernel_rfl) hh_ (Or.inr ⟨by rfl, rfl⟩) ?_ ?_; rotate_left; · simp only [nm_]; rfl
    refine pure_ (i := 29) (N := some 45) (v := ?_) (a' := ?_) (ar 30 0) rfl rfl (by kernel_rfl) hh_ (Or.inl ⟨by rfl, ?_⟩) ?_ ?_; rotate_left; (intro w'; go_simp; with_reducible rfl); rotate_left; · simp only [nm_]; rfl
    refine done_ (by kernel_rfl) ?_
    go_wp2_with fail
    go_ret
    exact ⟨by rw [HPF.out]; rfl, Grew.trans HGw1.out HL.out⟩
   | true =>
    have HM := Aside0.mk (pairK_mem HI.out HPK.out)
    have HW0 := Aside0.mk (wf_face HM.out.1.2.1 HM.out.1.2.2)
    have HW1 := Aside0.mk (wf_face HM.out.2.1.2.1 HM.out.2.1.2.2)
    cases hb2 : seenB q i p.f0 with
    | true =>
     have HL0 := Aside0.mk hb2
     clear hb2
     have HPF := Aside0.mk (HPB.out (by rw [HOK.out]; rw [HL0.out]; rfl))
     clear HPB HPS HOK
     go_wp2_with fail
     rw [← HE1.out]
     have HLK0 : Aside0 (∀ W, Grew W1 W → (Instr.lookup TMap (.map (some (w.heap.size + 1))) (I p.f0) false).run Tryz.prog W = .ok (.bool true) W) := ⟨fun W h => by have h2 := (HS1.out.later h).look p.f0 HW0.out; rw [HL0.out] at h2; exact h2⟩
     refine start_ (n := 30) (S := fun w' => w'.cell? ⟨w.heap.size, 0, none⟩ = some (I n) ∧ w'.cell? ⟨w.heap.size, 1, none⟩ = some (.slice A l.length c) ∧ w'.cell? ⟨wr.heap.size, 0, none⟩ = some (I p.f0) ∧ w'.cell? ⟨wr.heap.size, 1, none⟩ = some (I p.f1) ∧ (Instr.lookup TMap (.map (some (w.heap.size + 1))) (I p.f0) false).run Tryz.prog w' = .ok (.bool true) w') (ds := []) (ar 0 30) (by kernel_rfl) rfl rfl ⟨(Below.cell (w := W1) (below_drew (Grew.refl W1)) (p := ⟨w.heap.size, 0, none⟩) hl0).trans k0, (Below.cell (w := W1) (below_drew (Grew.refl W1)) (p := ⟨w.heap.size, 1, none⟩) hl0).trans k1, (Below.cell (w := W1) (below_drew (Grew.refl W1)) (p := ⟨wr.heap.size, 0, none⟩) hl1).trans hp0, (Below.cell (w := W1) (below_drew (Grew.refl W1)) (p := ⟨wr.heap.size, 1, none⟩) hl1).trans hp1, HLK0.out _ (below_drew (Grew.refl W1))⟩ (fun hHeld => ?_)
     refine take_ (i := 0) (N := some 16) (v := ?_) (a' := ?_) (ar 1 29) rfl rfl (by kernel_rfl) hh_ (Or.inl ⟨by rfl, ?_⟩) hHeld ?_ ?_
     rotate_left; · rintro w' ⟨s0, s1, s2, s3, s4⟩; go_simp; with_reducible rfl
     rotate_left; · simp only [nm_]; rfl
     refine take_ (i := 1) (N := some 17) (v := ?_) (a' := ?_) (ar 2 28) rfl rfl (by kernel_rfl) hh_ (Or.inl ⟨by rfl, ?_⟩) hHeld ?_ ?_
     rotate_left; · rintro w' ⟨s0, s1, s2, s3, s4⟩; go_simp; with_reducible rfl
     rotate_left; · simp only [nm_]; rfl
     refine one_ (i := 2) (N := some 18) (ar 3 27) rfl rfl (by kernel_rfl) (by decide) (fun K hK => ?_)
     refine goes_ Tryz.func77 (by kernel_rfl) rfl #[.agg #[I n, .slice A l.length c], .agg #[I p.f0, I p.f1]] (by rfl) rfl rfl (by simp only [List.map_toArray, List.map_cons, List.map_nil]; rfl) ?_
     with_reducible refine (HIP.out _ (below_drew (Grew.refl W1))).mono ?_
     rintro e w3 ⟨rfl, hGa⟩
     refine ⟨_, rfl, ?_⟩
     have HL := Aside0.mk (Grew.trans (below_drew (Grew.refl W1)) hGa)
     clear hGa
     refine hK.out _ _ ⟨(Below.cell (w := W1) HL.out (p := ⟨w.heap.size, 0, none⟩) hl0).trans k0, (Below.cell (w := W1) HL.out (p := ⟨w.heap.size, 1, none⟩) hl0).trans k1, (Below.cell (w := W1) HL.out (p := ⟨wr.heap.size, 0, none⟩) hl1).trans hp0, (Below.cell (w := W1) HL.out (p := ⟨wr.heap.size, 1, none⟩) hl1).trans hp1, HLK0.out _ HL.out⟩ (fun hHeld => ?_)
     clear hK K
     refine norm_ (a' := ?_) ?_ ?_
     rotate_left
     ·show Act.put _ (some 18) _ = _
      simp only [nm_]
      rfl
     refine pure_ (i := 3) (N := some 19) (v := ?_) (a' := ?_) (ar 4 26) rfl rfl (by kernel_rfl) hh_ (Or.inl ⟨by rfl, ?_⟩) ?_ ?_; rotate_left; (intro w'; go_simp; with_reducible rfl); rotate_left; · simp only [nm_]; rfl
     refine pure_ (i := 4) (N := some 20) (v := ?_) (a' := ?_) (ar 5 25) rfl rfl (by kernel_rfl) hh_ (Or.inl ⟨by rfl, ?_⟩) ?_ ?_; rotate_left; (intro w'; go_simp; with_reducible rfl); rotate_left; · simp only [nm_]; rfl
     refine pure_ (i := 5) (N := some 21) (v := ?_) (a' := ?_) (ar 6 24) rfl rfl (by kernel_rfl) hh_ (Or.inl ⟨by rfl, ?_⟩) ?_ ?_; rotate_left; (intro w'; go_simp; with_reducible rfl); rotate_left; · simp only [nm_]; rfl
     refine pure_ (i := 6) (N := some 22) (v := ?_) (a' := ?_) (ar 7 23) rfl rfl (by kernel_rfl) hh_ (Or.inl ⟨by rfl, ?_⟩) ?_ ?_; rotate_left; (intro w'; go_simp; with_reducible rfl); rotate_left; · simp only [nm_]; rfl
     refine take_ (i := 7) (N := some 23) (v := ?_) (a' := ?_) (ar 8 22) rfl rfl (by kernel_rfl) hh_ (Or.inl ⟨by rfl, ?_⟩) hHeld ?_ ?_
     rotate_left; · rintro w' ⟨s0, s1, s2, s3, s4⟩; go_simp; with_reducible rfl
     rotate_left; · simp only [nm_]; rfl
     refine take_ (i := 8) (N := some 24) (v := ?_) (a' := ?_) (ar 9 21) rfl rfl (by kernel_rfl) hh_ (Or.inl ⟨by rfl, ?_⟩) hHeld ?_ ?_
     rotate_left; · rintro w' ⟨s0, s1, s2, s3, s4⟩; go_simp; with_reducible rfl
     rotate_left; · simp only [nm_]; rfl
     refine pure_ (i := 9) (N := some 25) (v := ?_) (a' := ?_) (ar 10 20) rfl rfl (by kernel_rfl) hh_ (Or.inl ⟨by rfl, ?_⟩) ?_ ?_; rotate_left; (intro w'; go_simp; with_reducible rfl); rotate_left; · simp only [nm_]; rfl
     refine pure_ (i := 10) (N := some 26) (v := ?_) (a' := ?_) (ar 11 19) rfl rfl (by kernel_rfl) hh_ (Or.inl ⟨by rfl, ?_⟩) ?_ ?_; rotate_left; (intro w'; go_simp; with_reducible rfl); rotate_left; · simp only [nm_]; rfl
     refine pure_ (i := 11) (N := some 27) (v := undef) (a' := ?_) (ar 12 18) rfl rfl (by kernel_rfl) hh_ (Or.inr ⟨by rfl, rfl⟩) ?_ ?_; rotate_left; · simp only [nm_]; rfl
     refine pure_ (i := 12) (N := some 28) (v := undef) (a' := ?_) (ar 13 17) rfl rfl (by kernel_rfl) hh_ (Or.inr ⟨by rfl, rfl⟩) ?_ ?_; rotate_left; · simp only [nm_]; rfl
     refine pure_ (i := 13) (N := some 29) (v := undef) (a' := ?_) (ar 14 16) rfl rfl (by kernel_rfl) hh_ (Or.inr ⟨by rfl, rfl⟩) ?_ ?_; rotate_left; · simp only [nm_]; rfl
     refine pure_ (i := 14) (N := some 30) (v := undef) (a' := ?_) (ar 15 15) rfl rfl (by kernel_rfl) hh_ (Or.inr ⟨by rfl, rfl⟩) ?_ ?_; rotate_left; · simp only [nm_]; rfl
     refine pure_ (i := 15) (N := some 31) (v := ?_) (a' := ?_) (ar 16 14) rfl rfl (by kernel_rfl) hh_ (Or.inl ⟨by rfl, ?_⟩) ?_ ?_; rotate_left; (intro w'; go_simp; with_reducible rfl); rotate_left; · simp only [nm_]; rfl
     refine pure_ (i := 16) (N := some 32) (v := ?_) (a' := ?_) (ar 17 13) rfl rfl (by kernel_rfl) hh_ (Or.inl ⟨by rfl, ?_⟩) ?_ ?_; rotate_left; (intro w'; go_simp; with_reducible rfl); rotate_left; · simp only [nm_]; rfl
     refine pure_ (i := 17) (N := some 33) (v := undef) (a' := ?_) (ar 18 12) rfl rfl (by kernel_rfl) hh_ (Or.inr ⟨by rfl, rfl⟩) ?_ ?_; rotate_left; · simp only [nm_]; rfl
     refine pure_ (i := 18) (N := some 34) (v := undef) (a' := ?_) (ar 19 11) rfl rfl (by kernel_rfl) hh_ (Or.inr ⟨by rfl, rfl⟩) ?_ ?_; rotate_left; · simp only [nm_]; rfl
     refine pure_ (i := 19) (N := some 35) (v := undef) (a' := ?_) (ar 20 10) rfl rfl (by kernel_rfl) hh_ (Or.inr ⟨by rfl, rfl⟩) ?_ ?_; rotate_left; · simp only [nm_]; rfl
     refine pure_ (i := 20) (N := some 36) (v := undef) (a' := ?_) (ar 21 9) rfl rfl (by kernel_rfl) hh_ (Or.inr ⟨by rfl, rfl⟩) ?_ ?_; rotate_left; · simp only [nm_]; rfl
     refine pure_ (i := 21) (N := some 37) (v := undef) (a' := ?_) (ar 22 8) rfl rfl (by kernel_rfl) hh_ (Or.inr ⟨by rfl, rfl⟩) ?_ ?_; rotate_left; · simp only [nm_]; rfl
     refine pure_ (i := 22) (N := some 38) (v := undef) (a' := ?_) (ar 23 7) rfl rfl (by kernel_rfl) hh_ (Or.inr ⟨by rfl, rfl⟩) ?_ ?_; rotate_left; · simp only [nm_]; rfl
     refine pure_ (i := 23) (N := some 39) (v := undef) (a' := ?_) (ar 24 6) rfl rfl (by kernel_rfl) hh_ (Or.inr ⟨by rfl, rfl⟩) ?_ ?_; rotate_left; · simp only [nm_]; rfl
     refine pure_ (i := 24) (N := some 40) (v := undef) (a' := ?_) (ar 25 5) rfl rfl (by kernel_rfl) hh_ (Or.inr ⟨by rfl, rfl⟩) ?_ ?_; rotate_left; · simp only [nm_]; rfl
     refine pure_ (i := 25) (N := some 41) (v := undef) (a' := ?_) (ar 26 4) rfl rfl (by kernel_rfl) hh_ (Or.inr ⟨by rfl, rfl⟩) ?_ ?_; rotate_left; · simp only [nm_]; rfl
     refine pure_ (i := 26) (N := some 42) (v := undef) (a' := ?_) (ar 27 3) rfl rfl (by kernel_rfl) hh_ (Or.inr ⟨by rfl, rfl⟩) ?_ ?_; rotate_left; · simp only [nm_]; rfl
     refine pure_ (i := 27) (N := some 43) (v := undef) (a' := ?_) (ar 28 2) rfl rfl (by kernel_rfl) hh_ (Or.inr ⟨by rfl, rfl⟩) ?_ ?_; rotate_left; · simp only [nm_]; rfl
     refine pure_ (i := 28) (N := some 44) (v := undef) (a' := ?_) (ar 29 1) rfl rfl (by kernel_rfl) hh_ (Or.inr ⟨by rfl, rfl⟩) ?_ ?_; rotate_left; · simp only [nm_]; rfl
     refine pure_ (i := 29) (N := some 45) (v := ?_) (a' := ?_) (ar 30 0) rfl rfl (by kernel_rfl) hh_ (Or.inl ⟨by rfl, ?_⟩) ?_ ?_; rotate_left; (intro w'; go_simp; with_reducible rfl); rotate_left; · simp only [nm_]; rfl
     refine done_ (by kernel_rfl) ?_
     go_wp2_with fail
     go_ret
     exact ⟨by rw [HPF.out]; rfl, Grew.trans HGw1.out HL.out⟩
    | false =>
     have HL0 := Aside0.mk hb2
     clear hb2
     cases hb3 : seenB q i p.f1 with
     | true =>
      have HL1 := Aside0.mk hb3
      clear hb3
      have HPF := Aside0.mk (HPB.out (by rw [HOK.out]; rw [HL0.out, HL1.out]; rfl))
      clear HPB HPS HOK
      go_wp2_with fail
      rw [← HE1.out]
      have HLK0 : Aside0 (∀ W, Grew W1 W → (Instr.lookup TMap (.map (some (w.heap.size + 1))) (I p.f0) false).run Tryz.prog W = .ok (.bool false) W) := ⟨fun W h => by have h2 := (HS1.out.later h).look p.f0 HW0.out; rw [HL0.out] at h2; exact h2⟩
      have HLK1 : Aside0 (∀ W, Grew W1 W → (Instr.lookup TMap (.map (some (w.heap.size + 1))) (I p.f1) false).run Tryz.prog W = .ok (.bool true) W) := ⟨fun W h => by have h2 := (HS1.out.later h).look p.f1 HW1.out; rw [HL1.out] at h2; exact h2⟩
      refine start_ (n := 30) (S := fun w' => w'.cell? ⟨w.heap.size, 0, none⟩ = some (I n) ∧ w'.cell? ⟨w.heap.size, 1, none⟩ = some (.slice A l.length c) ∧ w'.cell? ⟨wr.heap.size, 0, none⟩ = some (I p.f0) ∧ w'.cell? ⟨wr.heap.size, 1, none⟩ = some (I p.f1) ∧ (Instr.lookup TMap (.map (some (w.heap.size + 1))) (I p.f0) false).run Tryz.prog w' = .ok (.bool false) w' ∧ (Instr.lookup TMap (.map (some (w.heap.size + 1))) (I p.f1) false).run Tryz.prog w' = .ok (.bool true) w') (ds := []) (ar 0 30) (by kernel_rfl) rfl rfl ⟨(Below.cell (w := W1) (below_drew (Grew.refl W1)) (p := ⟨w.heap.size, 0, none⟩) hl0).trans k0, (Below.cell (w := W1) (below_drew (Grew.refl W1)) (p := ⟨w.heap.size, 1, none⟩) hl0).trans k1, (Below.cell (w := W1) (below_drew (Grew.refl W1)) (p := ⟨wr.heap.size, 0, none⟩) hl1).trans hp0, (Below.cell (w := W1) (below_drew (Grew.refl W1)) (p := ⟨wr.heap.size, 1, none⟩) hl1).trans hp1, HLK0.out _ (below_drew (Grew.refl W1)), HLK1.out _ (below_drew (Grew.refl W1))⟩ (fun hHeld => ?_)
      refine take_ (i := 0) (N := some 16) (v := ?_) (a' := ?_) (ar 1 29) rfl rfl (by kernel_rfl) hh_ (Or.inl ⟨by rfl, ?_⟩) hHeld ?_ ?_
      rotate_left; · rintro w' ⟨s0, s1, s2, s3, s4, s5⟩; go_simp; with_reducible rfl
      rotate_left; · simp only [nm_]; rfl
      refine take_ (i := 1) (N := some 17) (v := ?_) (a' := ?_) (ar 2 28) rfl rfl (by kernel_rfl) hh_ (Or.inl ⟨by rfl, ?_⟩) hHeld ?_ ?_
      rotate_left; · rintro w' ⟨s0, s1, s2, s3, s4, s5⟩; go_simp; with_reducible rfl
      rotate_left; · simp only [nm_]; rfl
      refine one_ (i := 2) (N := some 18) (ar 3 27) rfl rfl (by kernel_rfl) (by decide) (fun K hK => ?_)
      refine goes_ Tryz.func77 (by kernel_rfl) rfl #[.agg #[I n, .slice A l.length c], .agg #[I p.f0, I p.f1]] (by rfl) rfl rfl (by simp only [List.map_toArray, List.map_cons, List.map_nil]; rfl) ?_
      with_reducible refine (HIP.out _ (below_drew (Grew.refl W1))).mono ?_
      rintro e w3 ⟨rfl, hGa⟩
      refine ⟨_, rfl, ?_⟩
      have HL := Aside0.mk (Grew.trans (below_drew (Grew.refl W1)) hGa)
      clear hGa
      refine hK.out _ _ ⟨(Below.cell (w := W1) HL.out (p := ⟨w.heap.size, 0, none⟩) hl0).trans k0, (Below.cell (w := W1) HL.out (p := ⟨w.heap.size, 1, none⟩) hl0).trans k1, (Below.cell (w := W1) HL.out (p := ⟨wr.heap.size, 0, none⟩) hl1).trans hp0, (Below.cell (w := W1) HL.out (p := ⟨wr.heap.size, 1, none⟩) hl1).trans hp1, HLK0.out _ HL.out, HLK1.out _ HL.out⟩ (fun hHeld => ?_)
      clear hK K
      refine norm_ (a' := ?_) ?_ ?_
      rotate_left
      ·show Act.put _ (some 18) _ = _
       simp only [nm_]
       rfl
      refine pure_ (i := 3) (N := some 19) (v := ?_) (a' := ?_) (ar 4 26) rfl rfl (by kernel_rfl) hh_ (Or.inl ⟨by rfl, ?_⟩) ?_ ?_; rotate_left; (intro w'; go_simp; with_reducible rfl); rotate_left; · simp only [nm_]; rfl
      refine pure_ (i := 4) (N := some 20) (v := ?_) (a' := ?_) (ar 5 25) rfl rfl (by kernel_rfl) hh_ (Or.inl ⟨by rfl, ?_⟩) ?_ ?_; rotate_left; (intro w'; go_simp; with_reducible rfl); rotate_left; · simp only [nm_]; rfl
      refine pure_ (i := 5) (N := some 21) (v := ?_) (a' := ?_) (ar 6 24) rfl rfl (by kernel_rfl) hh_ (Or.inl ⟨by rfl, ?_⟩) ?_ ?_; rotate_left; (intro w'; go_simp; with_reducible rfl); rotate_left; · simp only [nm_]; rfl
      refine pure_ (i := 6) (N := some 22) (v := ?_) (a' := ?_) (ar 7 23) rfl rfl (by kernel_rfl) hh_ (Or.inl ⟨by rfl, ?_⟩) ?_ ?_; rotate_left; (intro w'; go_simp; with_reducible rfl); rotate_left; · simp only [nm_]; rfl
      refine take_ (i := 7) (N := some 23) (v := ?_) (a' := ?_) (ar 8 22) rfl rfl (by kernel_rfl) hh_ (Or.inl ⟨by rfl, ?_⟩) hHeld ?_ ?_
      rotate_left; · rintro w' ⟨s0, s1, s2, s3, s4, s5⟩; go_simp; with_reducible rfl
      rotate_left; · simp only [nm_]; rfl
      refine take_ (i := 8) (N := some 24) (v := ?_) (a' := ?_) (ar 9 21) rfl rfl (by kernel_rfl) hh_ (Or.inl ⟨by rfl, ?_⟩) hHeld ?_ ?_
      rotate_left; · rintro w' ⟨s0, s1, s2, s3, s4, s5⟩; go_simp; with_reducible rfl
      rotate_left; · simp only [nm_]; rfl
      refine pure_ (i := 9) (N := some 25) (v := ?_) (a' := ?_) (ar 10 20) rfl rfl (by kernel_rfl) hh_ (Or.inl ⟨by rfl, ?_⟩) ?_ ?_; rotate_left; (intro w'; go_simp; with_reducible rfl); rotate_left; · simp only [nm_]; rfl
      refine pure_ (i := 10) (N := some 26) (v := ?_) (a' := ?_) (ar 11 19) rfl rfl (by kernel_rfl) hh_ (Or.inl ⟨by rfl, ?_⟩) ?_ ?_; rotate_left; (intro w'; go_simp; with_reducible rfl); rotate_left; · simp only [nm_]; rfl
      refine pure_ (i := 11) (N := some 27) (v := ?_) (a' := ?_) (ar 12 18) rfl rfl (by kernel_rfl) hh_ (Or.inl ⟨by rfl, ?_⟩) ?_ ?_; rotate_left; (intro w'; go_simp; with_reducible rfl); rotate_left; · simp only [nm_]; rfl
      refine pure_ (i := 12) (N := some 28) (v := ?_) (a' := ?_) (ar 13 17) rfl rfl (by kernel_rfl) hh_ (Or.inl ⟨by rfl, ?_⟩) ?_ ?_; rotate_left; (intro w'; go_simp; with_reducible rfl); rotate_left; · simp only [nm_]; rfl
      refine take_ (i := 13) (N := some 29) (v := ?_) (a' := ?_) (ar 14 16) rfl rfl (by kernel_rfl) hh_ (Or.inl ⟨by rfl, ?_⟩) hHeld ?_ ?_
      rotate_left; · rintro w' ⟨s0, s1, s2, s3, s4, s5⟩; go_simp; with_reducible rfl
      rotate_left; · simp only [nm_]; rfl
      refine take_ (i := 14) (N := some 30) (v := ?_) (a' := ?_) (ar 15 15) rfl rfl (by kernel_rfl) hh_ (Or.inl ⟨by rfl, ?_⟩) hHeld ?_ ?_
      rotate_left; · rintro w' ⟨s0, s1, s2, s3, s4, s5⟩; go_simp; with_reducible rfl
      rotate_left; · simp only [nm_]; rfl
      refine pure_ (i := 15) (N := some 31) (v := ?_) (a' := ?_) (ar 16 14) rfl rfl (by kernel_rfl) hh_ (Or.inl ⟨by rfl, ?_⟩) ?_ ?_; rotate_left; (intro w'; go_simp; with_reducible rfl); rotate_left; · simp only [nm_]; rfl
      refine pure_ (i := 16) (N := some 32) (v := ?_) (a' := ?_) (ar 17 13) rfl rfl (by kernel_rfl) hh_ (Or.inl ⟨by rfl, ?_⟩) ?_ ?_; rotate_left; (intro w'; go_simp; with_reducible rfl); rotate_left; · simp only [nm_]; rfl
      refine pure_ (i := 17) (N := some 33) (v := undef) (a' := ?_) (ar 18 12) rfl rfl (by kernel_rfl) hh_ (Or.inr ⟨by rfl, rfl⟩) ?_ ?_; rotate_left; · simp only [nm_]; rfl
      refine pure_ (i := 18) (N := some 34) (v := undef) (a' := ?_) (ar 19 11) rfl rfl (by kernel_rfl) hh_ (Or.inr ⟨by rfl, rfl⟩) ?_ ?_; rotate_left; · simp only [nm_]; rfl
      refine pure_ (i := 19) (N := some 35) (v := undef) (a' := ?_) (ar 20 10) rfl rfl (by kernel_rfl) hh_ (Or.inr ⟨by rfl, rfl⟩) ?_ ?_; rotate_left; · simp only [nm_]; rfl
      refine pure_ (i := 20) (N := some 36) (v := undef) (a' := ?_) (ar 21 9) rfl rfl (by kernel_rfl) hh_ (Or.inr ⟨by rfl, rfl⟩) ?_ ?_; rotate_left; · simp only [nm_]; rfl
      refine pure_ (i := 21) (N := some 37) (v := undef) (a' := ?_) (ar 22 8) rfl rfl (by kernel_rfl) hh_ (Or.inr ⟨by rfl, rfl⟩) ?_ ?_; rotate_left; · simp only [nm_]; rfl
      refine pure_ (i := 22) (N := some 38) (v := undef) (a' := ?_) (ar 23 7) rfl rfl (by kernel_rfl) hh_ (Or.inr ⟨by rfl, rfl⟩) ?_ ?_; rotate_left; · simp only [nm_]; rfl
      refine pure_ (i := 23) (N := some 39) (v := undef) (a' := ?_) (ar 24 6) rfl rfl (by kernel_rfl) hh_ (Or.inr ⟨by rfl, rfl⟩) ?_ ?_; rotate_left; · simp only [nm_]; rfl
      refine pure_ (i := 24) (N := some 40) (v := undef) (a' := ?_) (ar 25 5) rfl rfl (by kernel_rfl) hh_ (Or.inr ⟨by rfl, rfl⟩) ?_ ?_; rotate_left; · simp only [nm_]; rfl
      refine pure_ (i := 25) (N := some 41) (v := undef) (a' := ?_) (ar 26 4) rfl rfl (by kernel_rfl) hh_ (Or.inr ⟨by rfl, rfl⟩) ?_ ?_; rotate_left; · simp only [nm_]; rfl
      refine pure_ (i := 26) (N := some 42) (v := undef) (a' := ?_) (ar 27 3) rfl rfl (by kernel_rfl) hh_ (Or.inr ⟨by rfl, rfl⟩) ?_ ?_; rotate_left; · simp only [nm_]; rfl
      refine pure_ (i := 27) (N := some 43) (v := undef) (a' := ?_) (ar 28 2) rfl rfl (by kernel_rfl) hh_ (Or.inr ⟨by rfl, rfl⟩) ?_ ?_; rotate_left; · simp only [nm_]; rfl
      refine pure_ (i := 28) (N := some 44) (v := undef) (a' := ?_) (ar 29 1) rfl rfl (by kernel_rfl) hh_ (Or.inr ⟨by rfl, rfl⟩) ?_ ?_; rotate_left; · simp only [nm_]; rfl
      refine pure_ (i := 29) (N := some 45) (v := ?_) (a' := ?_) (ar 30 0) rfl rfl (by kernel_rfl) hh_ (Or.inl ⟨by rfl, ?_⟩) ?_ ?_; rotate_left; (intro w'; go_simp; with_reducible rfl); rotate_left; · simp only [nm_]; rfl
      refine done_ (by kernel_rfl) ?_
      go_wp2_with fail
      go_ret
      exact ⟨by rw [HPF.out]; rfl, Grew.trans HGw1.out HL.out⟩
     | false =>
      have HL1 := Aside0.mk hb3
      clear hb3
      by_cases hi0 : i = 0
      ·have hi0z : decide (0 < i) = false := decide_eq_false (by omega)
       have HI0 := Aside0.mk hi0
       clear hi0
       have HOK2 := Aside0.mk (HPS.out (by rw [HOK.out, HL0.out, HL1.out]; simp [HI0.out]))
       clear HPB HPS HOK
       go_wp2_with fail
       rw [← HE1.out]
       have HLK0 : Aside0 (∀ W, Grew W1 W → (Instr.lookup TMap (.map (some (w.heap.size + 1))) (I p.f0) false).run Tryz.prog W = .ok (.bool false) W) := ⟨fun W h => by have h2 := (HS1.out.later h).look p.f0 HW0.out; rw [HL0.out] at h2; exact h2⟩
       have HLK1 : Aside0 (∀ W, Grew W1 W → (Instr.lookup TMap (.map (some (w.heap.size + 1))) (I p.f1) false).run Tryz.prog W = .ok (.bool false) W) := ⟨fun W h => by have h2 := (HS1.out.later h).look p.f1 HW1.out; rw [HL1.out] at h2; exact h2⟩
       refine start_ (n := 30) (S := fun w' => w'.cell? ⟨w.heap.size, 0, none⟩ = some (I n) ∧ w'.cell? ⟨w.heap.size, 1, none⟩ = some (.slice A l.length c) ∧ w'.cell? ⟨wr.heap.size, 0, none⟩ = some (I p.f0) ∧ w'.cell? ⟨wr.heap.size, 1, none⟩ = some (I p.f1) ∧ (Instr.lookup TMap (.map (some (w.heap.size + 1))) (I p.f0) false).run Tryz.prog w' = .ok (.bool false) w' ∧ (Instr.lookup TMap (.map (some (w.heap.size + 1))) (I p.f1) false).run Tryz.prog w' = .ok (.bool false) w') (ds := []) (ar 0 30) (by kernel_rfl) rfl rfl ⟨(Below.cell (w := W1) (below_drew (Grew.refl W1)) (p := ⟨w.heap.size, 0, none⟩) hl0).trans k0, (Below.cell (w := W1) (below_drew (Grew.refl W1)) (p := ⟨w.heap.size, 1, none⟩) hl0).trans k1, (Below.cell (w := W1) (below_drew (Grew.refl W1)) (p := ⟨wr.heap.size, 0, none⟩) hl1).trans hp0, (Below.cell (w := W1) (below_drew (Grew.refl W1)) (p := ⟨wr.heap.size, 1, none⟩) hl1).trans hp1, HLK0.out _ (below_drew (Grew.refl W1)), HLK1.out _ (below_drew (Grew.refl W1))⟩ (fun hHeld => ?_)
       refine take_ (i := 0) (N := some 16) (v := ?_) (a' := ?_) (ar 1 29) rfl rfl (by kernel_rfl) hh_ (Or.inl ⟨by rfl, ?_⟩) hHeld ?_ ?_
       rotate_left; · rintro w' ⟨s0, s1, s2, s3, s4, s5⟩; go_simp; with_reducible rfl
       rotate_left; · simp only [nm_]; rfl
       refine take_ (i := 1) (N := some 17) (v := ?_) (a' := ?_) (ar 2 28) rfl rfl (by kernel_rfl) hh_ (Or.inl ⟨by rfl, ?_⟩) hHeld ?_ ?_
       rotate_left; · rintro w' ⟨s0, s1, s2, s3, s4, s5⟩; go_simp; with_reducible rfl
       rotate_left; · simp only [nm_]; rfl
       refine one_ (i := 2) (N := some 18) (ar 3 27) rfl rfl (by kernel_rfl) (by decide) (fun K hK => ?_)
       refine goes_ Tryz.func77 (by kernel_rfl) rfl #[.agg #[I n, .slice A l.length c], .agg #[I p.f0, I p.f1]] (by rfl) rfl rfl (by simp only [List.map_toArray, List.map_cons, List.map_nil]; rfl) ?_
       with_reducible refine (HIP.out _ (below_drew (Grew.refl W1))).mono ?_
       rintro e w3 ⟨rfl, hGa⟩
       refine ⟨_, rfl, ?_⟩
       have HL := Aside0.mk (Grew.trans (below_drew (Grew.refl W1)) hGa)
       clear hGa
       refine hK.out _ _ ⟨(Below.cell (w := W1) HL.out (p := ⟨w.heap.size, 0, none⟩) hl0).trans k0, (Below.cell (w := W1) HL.out (p := ⟨w.heap.size, 1, none⟩) hl0).trans k1, (Below.cell (w := W1) HL.out (p := ⟨wr.heap.size, 0, none⟩) hl1).trans hp0, (Below.cell (w := W1) HL.out (p := ⟨wr.heap.size, 1, none⟩) hl1).trans hp1, HLK0.out _ HL.out, HLK1.out _ HL.out⟩ (fun hHeld => ?_)
       clear hK K
       refine norm_ (a' := ?_) ?_ ?_
       rotate_left
       ·show Act.put _ (some 18) _ = _
        simp only [nm_]
        rfl
       refine pure_ (i := 3) (N := some 19) (v := ?_) (a' := ?_) (ar 4 26) rfl rfl (by kernel_rfl) hh_ (Or.inl ⟨by rfl, ?_⟩) ?_ ?_; rotate_left; (intro w'; go_simp; with_reducible rfl); rotate_left; · simp only [nm_]; rfl
       refine pure_ (i := 4) (N := some 20) (v := ?_) (a' := ?_) (ar 5 25) rfl rfl (by kernel_rfl) hh_ (Or.inl ⟨by rfl, ?_⟩) ?_ ?_; rotate_left; (intro w'; go_simp; with_reducible rfl); rotate_left; · simp only [nm_]; rfl
       refine pure_ (i := 5) (N := some 21) (v := ?_) (a' := ?_) (ar 6 24) rfl rfl (by kernel_rfl) hh_ (Or.inl ⟨by rfl, ?_⟩) ?_ ?_; rotate_left; (intro w'; go_simp; with_reducible rfl); rotate_left; · simp only [nm_]; rfl
       refine pure_ (i := 6) (N := some 22) (v := ?_) (a' := ?_) (ar 7 23) rfl rfl (by kernel_rfl) hh_ (Or.inl ⟨by rfl, ?_⟩) ?_ ?_; rotate_left; (intro w'; go_simp; with_reducible rfl); rotate_left; · simp only [nm_]; rfl
       refine take_ (i := 7) (N := some 23) (v := ?_) (a' := ?_) (ar 8 22) rfl rfl (by kernel_rfl) hh_ (Or.inl ⟨by rfl, ?_⟩) hHeld ?_ ?_
       rotate_left; · rintro w' ⟨s0, s1, s2, s3, s4, s5⟩; go_simp; with_reducible rfl
       rotate_left; · simp only [nm_]; rfl
       refine take_ (i := 8) (N := some 24) (v := ?_) (a' := ?_) (ar 9 21) rfl rfl (by kernel_rfl) hh_ (Or.inl ⟨by rfl, ?_⟩) hHeld ?_ ?_
       rotate_left; · rintro w' ⟨s0, s1, s2, s3, s4, s5⟩; go_simp; with_reducible rfl
       rotate_left; · simp only [nm_]; rfl
       refine pure_ (i := 9) (N := some 25) (v := ?_) (a' := ?_) (ar 10 20) rfl rfl (by kernel_rfl) hh_ (Or.inl ⟨by rfl, ?_⟩) ?_ ?_; rotate_left; (intro w'; go_simp; with_reducible rfl); rotate_left; · simp only [nm_]; rfl
       refine pure_ (i := 10) (N := some 26) (v := ?_) (a' := ?_) (ar 11 19) rfl rfl (by kernel_rfl) hh_ (Or.inl ⟨by rfl, ?_⟩) ?_ ?_; rotate_left; (intro w'; go_simp; with_reducible rfl); rotate_left; · simp only [nm_]; rfl
       refine pure_ (i := 11) (N := some 27) (v := ?_) (a' := ?_) (ar 12 18) rfl rfl (by kernel_rfl) hh_ (Or.inl ⟨by rfl, ?_⟩) ?_ ?_; rotate_left; (intro w'; go_simp; with_reducible rfl); rotate_left; · simp only [nm_]; rfl
       refine pure_ (i := 12) (N := some 28) (v := ?_) (a' := ?_) (ar 13 17) rfl rfl (by kernel_rfl) hh_ (Or.inl ⟨by rfl, ?_⟩) ?_ ?_; rotate_left; (intro w'; go_simp; with_reducible rfl); rotate_left; · simp only [nm_]; rfl
       refine take_ (i := 13) (N := some 29) (v := ?_) (a' := ?_) (ar 14 16) rfl rfl (by kernel_rfl) hh_ (Or.inl ⟨by rfl, ?_⟩) hHeld ?_ ?_
       rotate_left; · rintro w' ⟨s0, s1, s2, s3, s4, s5⟩; go_simp; with_reducible rfl
       rotate_left; · simp only [nm_]; rfl
       refine take_ (i := 14) (N := some 30) (v := ?_) (a' := ?_) (ar 15 15) rfl rfl (by kernel_rfl) hh_ (Or.inl ⟨by rfl, ?_⟩) hHeld ?_ ?_
       rotate_left; · rintro w' ⟨s0, s1, s2, s3, s4, s5⟩; go_simp; with_reducible rfl
       rotate_left; · simp only [nm_]; rfl
       refine pure_ (i := 15) (N := some 31) (v := ?_) (a' := ?_) (ar 16 14) rfl rfl (by kernel_rfl) hh_ (Or.inl ⟨by rfl, ?_⟩) ?_ ?_; rotate_left; (intro w'; go_simp; with_reducible rfl); rotate_left; · simp only [nm_]; rfl
       refine pure_ (i := 16) (N := some 32) (v := ?_) (a' := ?_) (ar 17 13) rfl rfl (by kernel_rfl) hh_ (Or.inl ⟨by rfl, ?_⟩) ?_ ?_; rotate_left; (intro w'; go_simp; with_reducible rfl); rotate_left; · simp only [nm_]; rfl
       refine pure_ (i := 17) (N := some 33) (v := ?_) (a' := ?_) (ar 18 12) rfl rfl (by kernel_rfl) hh_ (Or.inl ⟨by rfl, ?_⟩) ?_ ?_; rotate_left; (intro w'; go_simp; with_reducible rfl); rotate_left; · simp only [nm_]; rfl
       refine pure_ (i := 18) (N := some 34) (v := ?_) (a' := ?_) (ar 19 11) rfl rfl (by kernel_rfl) hh_ (Or.inl ⟨by rfl, ?_⟩) ?_ ?_; rotate_left; (intro w'; go_simp; with_reducible rfl); rotate_left; · simp only [nm_]; rfl
       refine pure_ (i := 19) (N := some 35) (v := ?_) (a' := ?_) (ar 20 10) rfl rfl (by kernel_rfl) hh_ (Or.inl ⟨by rfl, ?_⟩) ?_ ?_; rotate_left; (intro w'; go_simp; with_reducible rfl); rotate_left; · simp only [nm_]; rfl
       refine pure_ (i := 20) (N := some 36) (v := undef) (a' := ?_) (ar 21 9) rfl rfl (by kernel_rfl) hh_ (Or.inr ⟨by rfl, rfl⟩) ?_ ?_; rotate_left; · simp only [nm_]; rfl
       refine pure_ (i := 21) (N := some 37) (v := undef) (a' := ?_) (ar 22 8) rfl rfl (by kernel_rfl) hh_ (Or.inr ⟨by rfl, rfl⟩) ?_ ?_; rotate_left; · simp only [nm_]; rfl
       refine pure_ (i := 22) (N := some 38) (v := undef) (a' := ?_) (ar 23 7) rfl rfl (by kernel_rfl) hh_ (Or.inr ⟨by rfl, rfl⟩) ?_ ?_; rotate_left; · simp only [nm_]; rfl
       refine pure_ (i := 23) (N := some 39) (v := undef) (a' := ?_) (ar 24 6) rfl rfl (by kernel_rfl) hh_ (Or.inr ⟨by rfl, rfl⟩) ?_ ?_; rotate_left; · simp only [nm_]; rfl
       refine pure_ (i := 24) (N := some 40) (v := undef) (a' := ?_) (ar 25 5) rfl rfl (by kernel_rfl) hh_ (Or.inr ⟨by rfl, rfl⟩) ?_ ?_; rotate_left; · simp only [nm_]; rfl
       refine pure_ (i := 25) (N := some 41) (v := undef) (a' := ?_) (ar 26 4) rfl rfl (by kernel_rfl) hh_ (Or.inr ⟨by rfl, rfl⟩) ?_ ?_; rotate_left; · simp only [nm_]; rfl
       refine pure_ (i := 26) (N := some 42) (v := undef) (a' := ?_) (ar 27 3) rfl rfl (by kernel_rfl) hh_ (Or.inr ⟨by rfl, rfl⟩) ?_ ?_; rotate_left; · simp only [nm_]; rfl
       refine pure_ (i := 27) (N := some 43) (v := undef) (a' := ?_) (ar 28 2) rfl rfl (by kernel_rfl) hh_ (Or.inr ⟨by rfl, rfl⟩) ?_ ?_; rotate_left; · simp only [nm_]; rfl
       refine pure_ (i := 28) (N := some 44) (v := ?_) (a' := ?_) (ar 29 1) rfl rfl (by kernel_rfl) hh_ (Or.inl ⟨by rfl, ?_⟩) ?_ ?_; rotate_left; (intro w'; go_simp; with_reducible rfl); rotate_left; · simp only [nm_]; rfl
       refine pure_ (i := 29) (N := some 45) (v := ?_) (a' := ?_) (ar 30 0) rfl rfl (by kernel_rfl) hh_ (Or.inl ⟨by rfl, ?_⟩) ?_ ?_; rotate_left; (intro w'; go_simp; with_reducible rfl); rotate_left; · simp only [nm_]; rfl
       refine done_ (by kernel_rfl) ?_
       have hbB := HSr.out.lt
       have HS4 := Aside0.mk (HS1.out.later HL.out)
       have HP4 := Aside0.mk (blk_below HP1.out HL.out)
       obtain ⟨w5, hr5, hS5, hg5⟩ := SetM.store (w := w3.drew) (HS4.out.same rfl) (by omega) p.f0 HW0.out true
       have HP5 := Aside0.mk (blk_grown (blk_drew HP4.out) hg5 (by simp; omega))
       obtain ⟨w6, hr6, hS6, hg6⟩ := SetM.store hS5 (by omega) p.f1 HW1.out true
       have HP6 := Aside0.mk (blk_grown HP5.out hg6 (by simp; omega))
       have HB6 := Aside0.mk (blk_grown (blk_grown (blk_drew (blk_below HB1.out HL.out)) hg5 (by simp)) hg6 (by simp))
       have HS6 := Aside0.mk hS6
       have HGL := Aside0.mk (Grew.trans HGw1.out HL.out)
       have hzl := HGL.out.size
       have HG6 := Aside0.mk (pw_below_grown (pw_below_grown (below_drew HGL.out) _ (by simp; omega) hg5 (fun k hk => by cases hk; omega)) _ (by have := hg5.size; simp at this; omega) hg6 (fun k hk => by cases hk; omega))
       clear hS5 hS6 hg5 hg6 hzl
       go_wp2_with fail
       refine start_ (n := 8) (S := fun w' => w'.cell? ⟨wr.heap.size, 0, none⟩ = some (I p.f0) ∧ w'.cell? ⟨wr.heap.size, 1, none⟩ = some (I p.f1)) (ds := []) (ar 0 8) (by kernel_rfl) rfl rfl ⟨blk_cell (blk_drew HP4.out) 0, blk_cell (blk_drew HP4.out) 1⟩ (fun hHeld => ?_)
       refine pure_ (i := 0) (N := some 46) (v := ?_) (a' := ?_) (ar 1 7) rfl rfl (by kernel_rfl) hh_ (Or.inl ⟨by rfl, ?_⟩) ?_ ?_; rotate_left; (intro w'; go_simp; with_reducible rfl); rotate_left; · simp only [nm_]; rfl
       refine pure_ (i := 1) (N := some 47) (v := ?_) (a' := ?_) (ar 2 6) rfl rfl (by kernel_rfl) hh_ (Or.inl ⟨by rfl, ?_⟩) ?_ ?_; rotate_left; (intro w'; go_simp; with_reducible rfl); rotate_left; · simp only [nm_]; rfl
       refine pure_ (i := 3) (N := some 49) (v := ?_) (a' := ?_) #[U,U,O,U,O,O,O,O] rfl rfl (by kernel_rfl) hh_ (Or.inl ⟨by rfl, ?_⟩) ?_ ?_; rotate_left; (intro w'; go_simp; with_reducible rfl); rotate_left; · simp only [nm_]; rfl
       refine pure_ (i := 4) (N := some 50) (v := ?_) (a' := ?_) #[U,U,O,U,U,O,O,O] rfl rfl (by kernel_rfl) hh_ (Or.inl ⟨by rfl, ?_⟩) ?_ ?_; rotate_left; (intro w'; go_simp; with_reducible rfl); rotate_left; · simp only [nm_]; rfl
       refine take_ (i := 2) (N := some 48) (v := ?_) (a' := ?_) (ar 5 3) rfl rfl (by kernel_rfl) hh_ (Or.inl ⟨by rfl, ?_⟩) hHeld ?_ ?_
       rotate_left; · rintro w' ⟨s0, s1⟩; go_simp; with_reducible rfl
       rotate_left; · simp only [nm_]; rfl
       refine take_ (i := 5) (N := some 51) (v := ?_) (a' := ?_) (ar 6 2) rfl rfl (by kernel_rfl) hh_ (Or.inl ⟨by rfl, ?_⟩) hHeld ?_ ?_
       rotate_left; · rintro w' ⟨s0, s1⟩; go_simp; with_reducible rfl
       rotate_left; · simp only [nm_]; rfl
       refine one_ (i := 6) (N := none) (ar 7 1) rfl rfl (by kernel_rfl) (by decide) (fun K hK => ?_)
       refine skip_ (w1 := w5) (by rfl) rfl ?_ ?_
       ·simp only [execOp]
        go_simp
       refine hK.out _ _ ⟨blk_cell HP5.out 0, blk_cell HP5.out 1⟩ (fun hHeld => ?_)
       clear hK K
       refine one_ (i := 7) (N := none) (ar 8 0) rfl rfl (by kernel_rfl) (by decide) (fun K hK => ?_)
       refine skip_ (w1 := w6) (by rfl) rfl ?_ ?_
       ·simp only [execOp]
        go_simp
       refine hK.out _ _ ⟨blk_cell HP6.out 0, blk_cell HP6.out 1⟩ (fun hHeld => ?_)
       clear hK K
       refine done_ (by kernel_rfl) ?_
       go_wp2_with fail
       go_roundg (q.length - (i + 1))
       case measure => omega
       case rel => exact ⟨i + 1, by omega, by omega, by go_num, HB6, ⟨(HS6.out.mono (by omega)).cong (fun x _ => by rw [HSS.out x]; exact upd_seen _ _ _ x)⟩, HG6, HOK2⟩
      ·obtain ⟨j, rfl⟩ : ∃ j, i = j + 1 := ⟨i - 1, by omega⟩
       have HWJ : Aside0 (wrap64 (j : Int) = (j : Int)) := ⟨by unfold wrap64; omega⟩
       have hj0 : 0 ≤ (j : Int) := by omega
       have hj0d : decide (0 < j + 1) = true := decide_eq_true (by omega)
       have hv := HPV.out (Nat.succ_pos j)
       rw [Nat.add_sub_cancel] at hv
       obtain ⟨hv0, hv1⟩ := hv
       have hl2 := World.block_lt_of_cell? wr _ hv0
       replace hv0 : W1.cell? (ad.add (j * 2)) = some (I r.f0) := (Below.cell HG1.out (p := ad.add (j * 2)) hl2).trans hv0
       replace hv1 : W1.cell? ⟨(ad.add (j * 2)).block, (ad.add (j * 2)).off + 1, none⟩ = some (I r.f1) := (Below.cell HG1.out (p := ⟨(ad.add (j * 2)).block, (ad.add (j * 2)).off + 1, none⟩) hl2).trans hv1
       replace hl2 := World.block_lt_of_cell? W1 _ hv0
       clear HPV
       have hj1 : ((j + 1 : Nat) : Int) - 1 = (j : Int) := by omega
       have hjp : (0 : Int) < ((j + 1 : Nat) : Int) := by omega
       have hjl : (j : Int) < (q.length : Int) := by omega
       by_cases hcv : cmp2 r.f0 r.f1 p.f0 p.f1 < 0
       ·have HCV := Aside0.mk hcv
        have hge : ¬ (0 ≤ cmp2 r.f0 r.f1 p.f0 p.f1) := by omega
        clear hcv
        have HOK2 := Aside0.mk (HPS.out (by rw [HOK.out, HL0.out, HL1.out]; simp [HCV.out]))
        clear HPB HPS HOK
        go_wp2_with fail
        rw [← HE1.out]
        have HLK0 : Aside0 (∀ W, Grew W1 W → (Instr.lookup TMap (.map (some (w.heap.size + 1))) (I p.f0) false).run Tryz.prog W = .ok (.bool false) W) := ⟨fun W h => by have h2 := (HS1.out.later h).look p.f0 HW0.out; rw [HL0.out] at h2; exact h2⟩
        have HLK1 : Aside0 (∀ W, Grew W1 W → (Instr.lookup TMap (.map (some (w.heap.size + 1))) (I p.f1) false).run Tryz.prog W = .ok (.bool false) W) := ⟨fun W h => by have h2 := (HS1.out.later h).look p.f1 HW1.out; rw [HL1.out] at h2; exact h2⟩
        have hwj := HWJ.out
        refine start_ (n := 30) (S := fun w' => w'.cell? ⟨w.heap.size, 0, none⟩ = some (I n) ∧ w'.cell? ⟨w.heap.size, 1, none⟩ = some (.slice A l.length c) ∧ w'.cell? ⟨wr.heap.size, 0, none⟩ = some (I p.f0) ∧ w'.cell? ⟨wr.heap.size, 1, none⟩ = some (I p.f1) ∧ w'.cell? (ad.add (j * 2)) = some (I r.f0) ∧ w'.cell? ⟨(ad.add (j * 2)).block, (ad.add (j * 2)).off + 1, none⟩ = some (I r.f1) ∧ (Instr.lookup TMap (.map (some (w.heap.size + 1))) (I p.f0) false).run Tryz.prog w' = .ok (.bool false) w' ∧ (Instr.lookup TMap (.map (some (w.heap.size + 1))) (I p.f1) false).run Tryz.prog w' = .ok (.bool false) w') (ds := []) (ar 0 30) (by kernel_rfl) rfl rfl ⟨(Below.cell (w := W1) (below_drew (Grew.refl W1)) (p := ⟨w.heap.size, 0, none⟩) hl0).trans k0, (Below.cell (w := W1) (below_drew (Grew.refl W1)) (p := ⟨w.heap.size, 1, none⟩) hl0).trans k1, (Below.cell (w := W1) (below_drew (Grew.refl W1)) (p := ⟨wr.heap.size, 0, none⟩) hl1).trans hp0, (Below.cell (w := W1) (below_drew (Grew.refl W1)) (p := ⟨wr.heap.size, 1, none⟩) hl1).trans hp1, (Below.cell (w := W1) (below_drew (Grew.refl W1)) (p := ad.add (j * 2)) hl2).trans hv0, (Below.cell (w := W1) (below_drew (Grew.refl W1)) (p := ⟨(ad.add (j * 2)).block, (ad.add (j * 2)).off + 1, none⟩) hl2).trans hv1, HLK0.out _ (below_drew (Grew.refl W1)), HLK1.out _ (below_drew (Grew.refl W1))⟩ (fun hHeld => ?_)
        refine take_ (i := 0) (N := some 16) (v := ?_) (a' := ?_) (ar 1 29) rfl rfl (by kernel_rfl) hh_ (Or.inl ⟨by rfl, ?_⟩) hHeld ?_ ?_
        rotate_left; · rintro w' ⟨s0, s1, s2, s3, s4, s5, s6, s7⟩; go_simp; with_reducible rfl
        rotate_left; · simp only [nm_]; rfl
        refine take_ (i := 1) (N := some 17) (v := ?_) (a' := ?_) (ar 2 28) rfl rfl (by kernel_rfl) hh_ (Or.inl ⟨by rfl, ?_⟩) hHeld ?_ ?_
        rotate_left; · rintro w' ⟨s0, s1, s2, s3, s4, s5, s6, s7⟩; go_simp; with_reducible rfl
        rotate_left; · simp only [nm_]; rfl
        refine one_ (i := 2) (N := some 18) (ar 3 27) rfl rfl (by kernel_rfl) (by decide) (fun K hK => ?_)
        refine goes_ Tryz.func77 (by kernel_rfl) rfl #[.agg #[I n, .slice A l.length c], .agg #[I p.f0, I p.f1]] (by rfl) rfl rfl (by simp only [List.map_toArray, List.map_cons, List.map_nil]; rfl) ?_
        with_reducible refine (HIP.out _ (below_drew (Grew.refl W1))).mono ?_
        rintro e w3 ⟨rfl, hGa⟩
        refine ⟨_, rfl, ?_⟩
        have HL := Aside0.mk (Grew.trans (below_drew (Grew.refl W1)) hGa)
        clear hGa
        refine hK.out _ _ ⟨(Below.cell (w := W1) HL.out (p := ⟨w.heap.size, 0, none⟩) hl0).trans k0, (Below.cell (w := W1) HL.out (p := ⟨w.heap.size, 1, none⟩) hl0).trans k1, (Below.cell (w := W1) HL.out (p := ⟨wr.heap.size, 0, none⟩) hl1).trans hp0, (Below.cell (w := W1) HL.out (p := ⟨wr.heap.size, 1, none⟩) hl1).trans hp1, (Below.cell (w := W1) HL.out (p := ad.add (j * 2)) hl2).trans hv0, (Below.cell (w := W1) HL.out (p := ⟨(ad.add (j * 2)).block, (ad.add (j * 2)).off + 1, none⟩) hl2).trans hv1, HLK0.out _ HL.out, HLK1.out _ HL.out⟩ (fun hHeld => ?_)
        clear hK K
        refine norm_ (a' := ?_) ?_ ?_
        rotate_left
        ·show Act.put _ (some 18) _ = _
         simp only [nm_]
         rfl
        refine pure_ (i := 3) (N := some 19) (v := ?_) (a' := ?_) (ar 4 26) rfl rfl (by kernel_rfl) hh_ (Or.inl ⟨by rfl, ?_⟩) ?_ ?_; rotate_left; (intro w'; go_simp; with_reducible rfl); rotate_left; · simp only [nm_]; rfl
        refine pure_ (i := 4) (N := some 20) (v := ?_) (a' := ?_) (ar 5 25) rfl rfl (by kernel_rfl) hh_ (Or.inl ⟨by rfl, ?_⟩) ?_ ?_; rotate_left; (intro w'; go_simp; with_reducible rfl); rotate_left; · simp only [nm_]; rfl
        refine pure_ (i := 5) (N := some 21) (v := ?_) (a' := ?_) (ar 6 24) rfl rfl (by kernel_rfl) hh_ (Or.inl ⟨by rfl, ?_⟩) ?_ ?_; rotate_left; (intro w'; go_simp; with_reducible rfl); rotate_left; · simp only [nm_]; rfl
        refine pure_ (i := 6) (N := some 22) (v := ?_) (a' := ?_) (ar 7 23) rfl rfl (by kernel_rfl) hh_ (Or.inl ⟨by rfl, ?_⟩) ?_ ?_; rotate_left; (intro w'; go_simp; with_reducible rfl); rotate_left; · simp only [nm_]; rfl
        refine take_ (i := 7) (N := some 23) (v := ?_) (a' := ?_) (ar 8 22) rfl rfl (by kernel_rfl) hh_ (Or.inl ⟨by rfl, ?_⟩) hHeld ?_ ?_
        rotate_left; · rintro w' ⟨s0, s1, s2, s3, s4, s5, s6, s7⟩; go_simp; with_reducible rfl
        rotate_left; · simp only [nm_]; rfl
        refine take_ (i := 8) (N := some 24) (v := ?_) (a' := ?_) (ar 9 21) rfl rfl (by kernel_rfl) hh_ (Or.inl ⟨by rfl, ?_⟩) hHeld ?_ ?_
        rotate_left; · rintro w' ⟨s0, s1, s2, s3, s4, s5, s6, s7⟩; go_simp; with_reducible rfl
        rotate_left; · simp only [nm_]; rfl
        refine pure_ (i := 9) (N := some 25) (v := ?_) (a' := ?_) (ar 10 20) rfl rfl (by kernel_rfl) hh_ (Or.inl ⟨by rfl, ?_⟩) ?_ ?_; rotate_left; (intro w'; go_simp; with_reducible rfl); rotate_left; · simp only [nm_]; rfl
        refine pure_ (i := 10) (N := some 26) (v := ?_) (a' := ?_) (ar 11 19) rfl rfl (by kernel_rfl) hh_ (Or.inl ⟨by rfl, ?_⟩) ?_ ?_; rotate_left; (intro w'; go_simp; with_reducible rfl); rotate_left; · simp only [nm_]; rfl
        refine pure_ (i := 11) (N := some 27) (v := ?_) (a' := ?_) (ar 12 18) rfl rfl (by kernel_rfl) hh_ (Or.inl ⟨by rfl, ?_⟩) ?_ ?_; rotate_left; (intro w'; go_simp; with_reducible rfl); rotate_left; · simp only [nm_]; rfl
        refine pure_ (i := 12) (N := some 28) (v := ?_) (a' := ?_) (ar 13 17) rfl rfl (by kernel_rfl) hh_ (Or.inl ⟨by rfl, ?_⟩) ?_ ?_; rotate_left; (intro w'; go_simp; with_reducible rfl); rotate_left; · simp only [nm_]; rfl
        refine take_ (i := 13) (N := some 29) (v := ?_) (a' := ?_) (ar 14 16) rfl rfl (by kernel_rfl) hh_ (Or.inl ⟨by rfl, ?_⟩) hHeld ?_ ?_
        rotate_left; · rintro w' ⟨s0, s1, s2, s3, s4, s5, s6, s7⟩; go_simp; with_reducible rfl
        rotate_left; · simp only [nm_]; rfl
        refine take_ (i := 14) (N := some 30) (v := ?_) (a' := ?_) (ar 15 15) rfl rfl (by kernel_rfl) hh_ (Or.inl ⟨by rfl, ?_⟩) hHeld ?_ ?_
        rotate_left; · rintro w' ⟨s0, s1, s2, s3, s4, s5, s6, s7⟩; go_simp; with_reducible rfl
        rotate_left; · simp only [nm_]; rfl
        refine pure_ (i := 15) (N := some 31) (v := ?_) (a' := ?_) (ar 16 14) rfl rfl (by kernel_rfl) hh_ (Or.inl ⟨by rfl, ?_⟩) ?_ ?_; rotate_left; (intro w'; go_simp; with_reducible rfl); rotate_left; · simp only [nm_]; rfl
        refine pure_ (i := 16) (N := some 32) (v := ?_) (a' := ?_) (ar 17 13) rfl rfl (by kernel_rfl) hh_ (Or.inl ⟨by rfl, ?_⟩) ?_ ?_; rotate_left; (intro w'; go_simp; with_reducible rfl); rotate_left; · simp only [nm_]; rfl
        refine pure_ (i := 17) (N := some 33) (v := ?_) (a' := ?_) (ar 18 12) rfl rfl (by kernel_rfl) hh_ (Or.inl ⟨by rfl, ?_⟩) ?_ ?_; rotate_left; (intro w'; go_simp; with_reducible rfl); rotate_left; · simp only [nm_]; rfl
        refine pure_ (i := 18) (N := some 34) (v := ?_) (a' := ?_) (ar 19 11) rfl rfl (by kernel_rfl) hh_ (Or.inl ⟨by rfl, ?_⟩) ?_ ?_; rotate_left; (intro w'; go_simp; with_reducible rfl); rotate_left; · simp only [nm_]; rfl
        refine pure_ (i := 19) (N := some 35) (v := ?_) (a' := ?_) (ar 20 10) rfl rfl (by kernel_rfl) hh_ (Or.inl ⟨by rfl, ?_⟩) ?_ ?_; rotate_left; (intro w'; go_simp; with_reducible rfl); rotate_left; · simp only [nm_]; rfl
        refine pure_ (i := 20) (N := some 36) (v := ?_) (a' := ?_) (ar 21 9) rfl rfl (by kernel_rfl) hh_ (Or.inl ⟨by rfl, ?_⟩) ?_ ?_; rotate_left; (intro w'; go_simp; with_reducible rfl); rotate_left; · simp only [nm_]; rfl
        refine pure_ (i := 21) (N := some 37) (v := ?_) (a' := ?_) (ar 22 8) rfl rfl (by kernel_rfl) hh_ (Or.inl ⟨by rfl, ?_⟩) ?_ ?_; rotate_left; (intro w'; go_simp; with_reducible rfl); rotate_left; · simp only [nm_]; rfl
        refine pure_ (i := 22) (N := some 38) (v := ?_) (a' := ?_) (ar 23 7) rfl rfl (by kernel_rfl) hh_ (Or.inl ⟨by rfl, ?_⟩) ?_ ?_; rotate_left; (intro w'; go_simp; with_reducible rfl); rotate_left; · simp only [nm_]; rfl
        refine pure_ (i := 23) (N := some 39) (v := ?_) (a' := ?_) (ar 24 6) rfl rfl (by kernel_rfl) hh_ (Or.inl ⟨by rfl, ?_⟩) ?_ ?_; rotate_left; (intro w'; go_simp; with_reducible rfl); rotate_left; · simp only [nm_]; rfl
        refine take_ (i := 24) (N := some 40) (v := ?_) (a' := ?_) (ar 25 5) rfl rfl (by kernel_rfl) hh_ (Or.inl ⟨by rfl, ?_⟩) hHeld ?_ ?_
        rotate_left; · rintro w' ⟨s0, s1, s2, s3, s4, s5, s6, s7⟩; go_simp; with_reducible rfl
        rotate_left; · simp only [nm_]; rfl
        refine take_ (i := 25) (N := some 41) (v := ?_) (a' := ?_) (ar 26 4) rfl rfl (by kernel_rfl) hh_ (Or.inl ⟨by rfl, ?_⟩) hHeld ?_ ?_
        rotate_left; · rintro w' ⟨s0, s1, s2, s3, s4, s5, s6, s7⟩; go_simp; with_reducible rfl
        rotate_left; · simp only [nm_]; rfl
        refine one_ (i := 26) (N := some 42) (ar 27 3) rfl rfl (by kernel_rfl) (by decide) (fun K hK => ?_)
        refine goes_ Tryz.func78 (by kernel_rfl) rfl #[.agg #[I r.f0, I r.f1], .agg #[I p.f0, I p.f1]] (by rfl) rfl rfl (by simp only [List.map_toArray, List.map_cons, List.map_nil]; rfl) ?_
        with_reducible refine (HCP.out _).mono ?_
        rintro e w4 ⟨rfl, hGb⟩
        refine ⟨_, rfl, ?_⟩
        replace HL := Aside0.mk (Grew.trans HL.out hGb)
        clear hGb
        refine hK.out _ _ ⟨(Below.cell (w := W1) HL.out (p := ⟨w.heap.size, 0, none⟩) hl0).trans k0, (Below.cell (w := W1) HL.out (p := ⟨w.heap.size, 1, none⟩) hl0).trans k1, (Below.cell (w := W1) HL.out (p := ⟨wr.heap.size, 0, none⟩) hl1).trans hp0, (Below.cell (w := W1) HL.out (p := ⟨wr.heap.size, 1, none⟩) hl1).trans hp1, (Below.cell (w := W1) HL.out (p := ad.add (j * 2)) hl2).trans hv0, (Below.cell (w := W1) HL.out (p := ⟨(ad.add (j * 2)).block, (ad.add (j * 2)).off + 1, none⟩) hl2).trans hv1, HLK0.out _ HL.out, HLK1.out _ HL.out⟩ (fun hHeld => ?_)
        clear hK K
        refine norm_ (a' := ?_) ?_ ?_
        rotate_left
        ·show Act.put _ (some 42) _ = _
         simp only [nm_]
         rfl
        refine pure_ (i := 27) (N := some 43) (v := ?_) (a' := ?_) (ar 28 2) rfl rfl (by kernel_rfl) hh_ (Or.inl ⟨by rfl, ?_⟩) ?_ ?_; rotate_left; (intro w'; go_simp; with_reducible rfl); rotate_left; · simp only [nm_]; rfl
        refine pure_ (i := 28) (N := some 44) (v := ?_) (a' := ?_) (ar 29 1) rfl rfl (by kernel_rfl) hh_ (Or.inl ⟨by rfl, ?_⟩) ?_ ?_; rotate_left; (intro w'; go_simp; with_reducible rfl); rotate_left; · simp only [nm_]; rfl
        refine pure_ (i := 29) (N := some 45) (v := ?_) (a' := ?_) (ar 30 0) rfl rfl (by kernel_rfl) hh_ (Or.inl ⟨by rfl, ?_⟩) ?_ ?_; rotate_left; (intro w'; go_simp; with_reducible rfl); rotate_left; · simp only [nm_]; rfl
        refine done_ (by kernel_rfl) ?_
        clear hwj
        have hbB := HSr.out.lt
        have HS4 := Aside0.mk (HS1.out.later HL.out)
        have HP4 := Aside0.mk (blk_below HP1.out HL.out)
        obtain ⟨w5, hr5, hS5, hg5⟩ := SetM.store (w := w4.drew) (HS4.out.same rfl) (by omega) p.f0 HW0.out true
        have HP5 := Aside0.mk (blk_grown (blk_drew HP4.out) hg5 (by simp; omega))
        obtain ⟨w6, hr6, hS6, hg6⟩ := SetM.store hS5 (by omega) p.f1 HW1.out true
        have HP6 := Aside0.mk (blk_grown HP5.out hg6 (by simp; omega))
        have HB6 := Aside0.mk (blk_grown (blk_grown (blk_drew (blk_below HB1.out HL.out)) hg5 (by simp)) hg6 (by simp))
        have HS6 := Aside0.mk hS6
        have HGL := Aside0.mk (Grew.trans HGw1.out HL.out)
        have hzl := HGL.out.size
        have HG6 := Aside0.mk (pw_below_grown (pw_below_grown (below_drew HGL.out) _ (by simp; omega) hg5 (fun k hk => by cases hk; omega)) _ (by have := hg5.size; simp at this; omega) hg6 (fun k hk => by cases hk; omega))
        clear hS5 hS6 hg5 hg6 hzl
        go_wp2_with fail
        refine start_ (n := 8) (S := fun w' => w'.cell? ⟨wr.heap.size, 0, none⟩ = some (I p.f0) ∧ w'.cell? ⟨wr.heap.size, 1, none⟩ = some (I p.f1)) (ds := []) (ar 0 8) (by kernel_rfl) rfl rfl ⟨blk_cell (blk_drew HP4.out) 0, blk_cell (blk_drew HP4.out) 1⟩ (fun hHeld => ?_)
        refine pure_ (i := 0) (N := some 46) (v := ?_) (a' := ?_) (ar 1 7) rfl rfl (by kernel_rfl) hh_ (Or.inl ⟨by rfl, ?_⟩) ?_ ?_; rotate_left; (intro w'; go_simp; with_reducible rfl); rotate_left; · simp only [nm_]; rfl
        refine pure_ (i := 1) (N := some 47) (v := ?_) (a' := ?_) (ar 2 6) rfl rfl (by kernel_rfl) hh_ (Or.inl ⟨by rfl, ?_⟩) ?_ ?_; rotate_left; (intro w'; go_simp; with_reducible rfl); rotate_left; · simp only [nm_]; rfl
        refine pure_ (i := 3) (N := some 49) (v := ?_) (a' := ?_) #[U,U,O,U,O,O,O,O] rfl rfl (by kernel_rfl) hh_ (Or.inl ⟨by rfl, ?_⟩) ?_ ?_; rotate_left; (intro w'; go_simp; with_reducible rfl); rotate_left; · simp only [nm_]; rfl
        refine pure_ (i := 4) (N := some 50) (v := ?_) (a' := ?_) #[U,U,O,U,U,O,O,O] rfl rfl (by kernel_rfl) hh_ (Or.inl ⟨by rfl, ?_⟩) ?_ ?_; rotate_left; (intro w'; go_simp; with_reducible rfl); rotate_left; · simp only [nm_]; rfl
        refine take_ (i := 2) (N := some 48) (v := ?_) (a' := ?_) (ar 5 3) rfl rfl (by kernel_rfl) hh_ (Or.inl ⟨by rfl, ?_⟩) hHeld ?_ ?_
        rotate_left; · rintro w' ⟨s0, s1⟩; go_simp; with_reducible rfl
        rotate_left; · simp only [nm_]; rfl
        refine take_ (i := 5) (N := some 51) (v := ?_) (a' := ?_) (ar 6 2) rfl rfl (by kernel_rfl) hh_ (Or.inl ⟨by rfl, ?_⟩) hHeld ?_ ?_
        rotate_left; · rintro w' ⟨s0, s1⟩; go_simp; with_reducible rfl
        rotate_left; · simp only [nm_]; rfl
        refine one_ (i := 6) (N := none) (ar 7 1) rfl rfl (by kernel_rfl) (by decide) (fun K hK => ?_)
        refine skip_ (w1 := w5) (by rfl) rfl ?_ ?_
        ·simp only [execOp]
         go_simp
        refine hK.out _ _ ⟨blk_cell HP5.out 0, blk_cell HP5.out 1⟩ (fun hHeld => ?_)
        clear hK K
        refine one_ (i := 7) (N := none) (ar 8 0) rfl rfl (by kernel_rfl) (by decide) (fun K hK => ?_)
        refine skip_ (w1 := w6) (by rfl) rfl ?_ ?_
        ·simp only [execOp]
         go_simp
        refine hK.out _ _ ⟨blk_cell HP6.out 0, blk_cell HP6.out 1⟩ (fun hHeld => ?_)
        clear hK K
        refine done_ (by kernel_rfl) ?_
        go_wp2_with fail
        go_roundg (q.length - ((j + 1) + 1))
        case measure => omega
        case rel => exact ⟨(j + 1) + 1, by omega, by omega, by go_num, HB6, ⟨(HS6.out.mono (by omega)).cong (fun x _ => by rw [HSS.out x]; exact upd_seen _ _ _ x)⟩, HG6, HOK2⟩
       ·have HCV := Aside0.mk hcv
        have hge : 0 ≤ cmp2 r.f0 r.f1 p.f0 p.f1 := by omega
        clear hcv
        have HPF := Aside0.mk (HPB.out (by rw [HOK.out]; rw [HL0.out, HL1.out]; simp [HCV.out]))
        clear HPB HPS HOK
        go_wp2_with fail
        rw [← HE1.out]
        have HLK0 : Aside0 (∀ W, Grew W1 W → (Instr.lookup TMap (.map (some (w.heap.size + 1))) (I p.f0) false).run Tryz.prog W = .ok (.bool false) W) := ⟨fun W h => by have h2 := (HS1.out.later h).look p.f0 HW0.out; rw [HL0.out] at h2; exact h2⟩
        have HLK1 : Aside0 (∀ W, Grew W1 W → (Instr.lookup TMap (.map (some (w.heap.size + 1))) (I p.f1) false).run Tryz.prog W = .ok (.bool false) W) := ⟨fun W h => by have h2 := (HS1.out.later h).look p.f1 HW1.out; rw [HL1.out] at h2; exact h2⟩
        have hwj := HWJ.out
        refine start_ (n := 30) (S := fun w' => w'.cell? ⟨w.heap.size, 0, none⟩ = some (I n) ∧ w'.cell? ⟨w.heap.size, 1, none⟩ = some (.slice A l.length c) ∧ w'.cell? ⟨wr.heap.size, 0, none⟩ = some (I p.f0) ∧ w'.cell? ⟨wr.heap.size, 1, none⟩ = some (I p.f1) ∧ w'.cell? (ad.add (j * 2)) = some (I r.f0) ∧ w'.cell? ⟨(ad.add (j * 2)).block, (ad.add (j * 2)).off + 1, none⟩ = some (I r.f1) ∧ (Instr.lookup TMap (.map (some (w.heap.size + 1))) (I p.f0) false).run Tryz.prog w' = .ok (.bool false) w' ∧ (Instr.lookup TMap (.map (some (w.heap.size + 1))) (I p.f1) false).run Tryz.prog w' = .ok (.bool false) w') (ds := []) (ar 0 30) (by kernel_rfl) rfl rfl ⟨(Below.cell (w := W1) (below_drew (Grew.refl W1)) (p := ⟨w.heap.size, 0, none⟩) hl0).trans k0, (Below.cell (w := W1) (below_drew (Grew.refl W1)) (p := ⟨w.heap.size, 1, none⟩) hl0).trans k1, (Below.cell (w := W1) (below_drew (Grew.refl W1)) (p := ⟨wr.heap.size, 0, none⟩) hl1).trans hp0, (Below.cell (w := W1) (below_drew (Grew.refl W1)) (p := ⟨wr.heap.size, 1, none⟩) hl1).trans hp1, (Below.cell (w := W1) (below_drew (Grew.refl W1)) (p := ad.add (j * 2)) hl2).trans hv0, (Below.cell (w := W1) (below_drew (Grew.refl W1)) (p := ⟨(ad.add (j * 2)).block, (ad.add (j * 2)).off + 1, none⟩) hl2).trans hv1, HLK0.out _ (below_drew (Grew.refl W1)), HLK1.out _ (below_drew (Grew.refl W1))⟩ (fun hHeld => ?_)
        refine take_ (i := 0) (N := some 16) (v := ?_) (a' := ?_) (ar 1 29) rfl rfl (by kernel_rfl) hh_ (Or.inl ⟨by rfl, ?_⟩) hHeld ?_ ?_
        rotate_left; · rintro w' ⟨s0, s1, s2, s3, s4, s5, s6, s7⟩; go_simp; with_reducible rfl
        rotate_left; · simp only [nm_]; rfl
        refine take_ (i := 1) (N := some 17) (v := ?_) (a' := ?_) (ar 2 28) rfl rfl (by kernel_rfl) hh_ (Or.inl ⟨by rfl, ?_⟩) hHeld ?_ ?_
        rotate_left; · rintro w' ⟨s0, s1, s2, s3, s4, s5, s6, s7⟩; go_simp; with_reducible rfl
        rotate_left; · simp only [nm_]; rfl
        refine one_ (i := 2) (N := some 18) (ar 3 27) rfl rfl (by kernel_rfl) (by decide) (fun K hK => ?_)
        refine goes_ Tryz.func77 (by kernel_rfl) rfl #[.agg #[I n, .slice A l.length c], .agg #[I p.f0, I p.f1]] (by rfl) rfl rfl (by simp only [List.map_toArray, List.map_cons, List.map_nil]; rfl) ?_
        with_reducible refine (HIP.out _ (below_drew (Grew.refl W1))).mono ?_
        rintro e w3 ⟨rfl, hGa⟩
        refine ⟨_, rfl, ?_⟩
        have HL := Aside0.mk (Grew.trans (below_drew (Grew.refl W1)) hGa)
        clear hGa
        refine hK.out _ _ ⟨(Below.cell (w := W1) HL.out (p := ⟨w.heap.size, 0, none⟩) hl0).trans k0, (Below.cell (w := W1) HL.out (p := ⟨w.heap.size, 1, none⟩) hl0).trans k1, (Below.cell (w := W1) HL.out (p := ⟨wr.heap.size, 0, none⟩) hl1).trans hp0, (Below.cell (w := W1) HL.out (p := ⟨wr.heap.size, 1, none⟩) hl1).trans hp1, (Below.cell (w := W1) HL.out (p := ad.add (j * 2)) hl2).trans hv0, (Below.cell (w := W1) HL.out (p := ⟨(ad.add (j * 2)).block, (ad.add (j * 2)).off + 1, none⟩) hl2).trans hv1, HLK0.out _ HL.out, HLK1.out _ HL.out⟩ (fun hHeld => ?_)
        clear hK K
        refine norm_ (a' := ?_) ?_ ?_
        rotate_left
        ·show Act.put _ (some 18) _ = _
         simp only [nm_]
         rfl
        refine pure_ (i := 3) (N := some 19) (v := ?_) (a' := ?_) (ar 4 26) rfl rfl (by kernel_rfl) hh_ (Or.inl ⟨by rfl, ?_⟩) ?_ ?_; rotate_left; (intro w'; go_simp; with_reducible rfl); rotate_left; · simp only [nm_]; rfl
        refine pure_ (i := 4) (N := some 20) (v := ?_) (a' := ?_) (ar 5 25) rfl rfl (by kernel_rfl) hh_ (Or.inl ⟨by rfl, ?_⟩) ?_ ?_; rotate_left; (intro w'; go_simp; with_reducible rfl); rotate_left; · simp only [nm_]; rfl
        refine pure_ (i := 5) (N := some 21) (v := ?_) (a' := ?_) (ar 6 24) rfl rfl (by kernel_rfl) hh_ (Or.inl ⟨by rfl, ?_⟩) ?_ ?_; rotate_left; (intro w'; go_simp; with_reducible rfl); rotate_left; · simp only [nm_]; rfl
        refine pure_ (i := 6) (N := some 22) (v := ?_) (a' := ?_) (ar 7 23) rfl rfl (by kernel_rfl) hh_ (Or.inl ⟨by rfl, ?_⟩) ?_ ?_; rotate_left; (intro w'; go_simp; with_reducible rfl); rotate_left; · simp only [nm_]; rfl
        refine take_ (i := 7) (N := some 23) (v := ?_) (a' := ?_) (ar 8 22) rfl rfl (by kernel_rfl) hh_ (Or.inl ⟨by rfl, ?_⟩) hHeld ?_ ?_
        rotate_left; · rintro w' ⟨s0, s1, s2, s3, s4, s5, s6, s7⟩; go_simp; with_reducible rfl
        rotate_left; · simp only [nm_]; rfl
        refine take_ (i := 8) (N := some 24) (v := ?_) (a' := ?_) (ar 9 21) rfl rfl (by kernel_rfl) hh_ (Or.inl ⟨by rfl, ?_⟩) hHeld ?_ ?_
        rotate_left; · rintro w' ⟨s0, s1, s2, s3, s4, s5, s6, s7⟩; go_simp; with_reducible rfl
        rotate_left; · simp only [nm_]; rfl
        refine pure_ (i := 9) (N := some 25) (v := ?_) (a' := ?_) (ar 10 20) rfl rfl (by kernel_rfl) hh_ (Or.inl ⟨by rfl, ?_⟩) ?_ ?_; rotate_left; (intro w'; go_simp; with_reducible rfl); rotate_left; · simp only [nm_]; rfl
        refine pure_ (i := 10) (N := some 26) (v := ?_) (a' := ?_) (ar 11 19) rfl rfl (by kernel_rfl) hh_ (Or.inl ⟨by rfl, ?_⟩) ?_ ?_; rotate_left; (intro w'; go_simp; with_reducible rfl); rotate_left; · simp only [nm_]; rfl
        refine pure_ (i := 11) (N := some 27) (v := ?_) (a' := ?_) (ar 12 18) rfl rfl (by kernel_rfl) hh_ (Or.inl ⟨by rfl, ?_⟩) ?_ ?_; rotate_left; (intro w'; go_simp; with_reducible rfl); rotate_left; · simp only [nm_]; rfl
        refine pure_ (i := 12) (N := some 28) (v := ?_) (a' := ?_) (ar 13 17) rfl rfl (by kernel_rfl) hh_ (Or.inl ⟨by rfl, ?_⟩) ?_ ?_; rotate_left; (intro w'; go_simp; with_reducible rfl); rotate_left; · simp only [nm_]; rfl
        refine take_ (i := 13) (N := some 29) (v := ?_) (a' := ?_) (ar 14 16) rfl rfl (by kernel_rfl) hh_ (Or.inl ⟨by rfl, ?_⟩) hHeld ?_ ?_
        rotate_left; · rintro w' ⟨s0, s1, s2, s3, s4, s5, s6, s7⟩; go_simp; with_reducible rfl
        rotate_left; · simp only [nm_]; rfl
        refine take_ (i := 14) (N := some 30) (v := ?_) (a' := ?_) (ar 15 15) rfl rfl (by kernel_rfl) hh_ (Or.inl ⟨by rfl, ?_⟩) hHeld ?_ ?_
        rotate_left; · rintro w' ⟨s0, s1, s2, s3, s4, s5, s6, s7⟩; go_simp; with_reducible rfl
        rotate_left; · simp only [nm_]; rfl
        refine pure_ (i := 15) (N := some 31) (v := ?_) (a' := ?_) (ar 16 14) rfl rfl (by kernel_rfl) hh_ (Or.inl ⟨by rfl, ?_⟩) ?_ ?_; rotate_left; (intro w'; go_simp; with_reducible rfl); rotate_left; · simp only [nm_]; rfl
        refine pure_ (i := 16) (N := some 32) (v := ?_) (a' := ?_) (ar 17 13) rfl rfl (by kernel_rfl) hh_ (Or.inl ⟨by rfl, ?_⟩) ?_ ?_; rotate_left; (intro w'; go_simp; with_reducible rfl); rotate_left; · simp only [nm_]; rfl
        refine pure_ (i := 17) (N := some 33) (v := ?_) (a' := ?_) (ar 18 12) rfl rfl (by kernel_rfl) hh_ (Or.inl ⟨by rfl, ?_⟩) ?_ ?_; rotate_left; (intro w'; go_simp; with_reducible rfl); rotate_left; · simp only [nm_]; rfl
        refine pure_ (i := 18) (N := some 34) (v := ?_) (a' := ?_) (ar 19 11) rfl rfl (by kernel_rfl) hh_ (Or.inl ⟨by rfl, ?_⟩) ?_ ?_; rotate_left; (intro w'; go_simp; with_reducible rfl); rotate_left; · simp only [nm_]; rfl
        refine pure_ (i := 19) (N := some 35) (v := ?_) (a' := ?_) (ar 20 10) rfl rfl (by kernel_rfl) hh_ (Or.inl ⟨by rfl, ?_⟩) ?_ ?_; rotate_left; (intro w'; go_simp; with_reducible rfl); rotate_left; · simp only [nm_]; rfl
        refine pure_ (i := 20) (N := some 36) (v := ?_) (a' := ?_) (ar 21 9) rfl rfl (by kernel_rfl) hh_ (Or.inl ⟨by rfl, ?_⟩) ?_ ?_; rotate_left; (intro w'; go_simp; with_reducible rfl); rotate_left; · simp only [nm_]; rfl
        refine pure_ (i := 21) (N := some 37) (v := ?_) (a' := ?_) (ar 22 8) rfl rfl (by kernel_rfl) hh_ (Or.inl ⟨by rfl, ?_⟩) ?_ ?_; rotate_left; (intro w'; go_simp; with_reducible rfl); rotate_left; · simp only [nm_]; rfl
        refine pure_ (i := 22) (N := some 38) (v := ?_) (a' := ?_) (ar 23 7) rfl rfl (by kernel_rfl) hh_ (Or.inl ⟨by rfl, ?_⟩) ?_ ?_; rotate_left; (intro w'; go_simp; with_reducible rfl); rotate_left; · simp only [nm_]; rfl
        refine pure_ (i := 23) (N := some 39) (v := ?_) (a' := ?_) (ar 24 6) rfl rfl (by kernel_rfl) hh_ (Or.inl ⟨by rfl, ?_⟩) ?_ ?_; rotate_left; (intro w'; go_simp; with_reducible rfl); rotate_left; · simp only [nm_]; rfl
        refine take_ (i := 24) (N := some 40) (v := ?_) (a' := ?_) (ar 25 5) rfl rfl (by kernel_rfl) hh_ (Or.inl ⟨by rfl, ?_⟩) hHeld ?_ ?_
        rotate_left; · rintro w' ⟨s0, s1, s2, s3, s4, s5, s6, s7⟩; go_simp; with_reducible rfl
        rotate_left; · simp only [nm_]; rfl
        refine take_ (i := 25) (N := some 41) (v := ?_) (a' := ?_) (ar 26 4) rfl rfl (by kernel_rfl) hh_ (Or.inl ⟨by rfl, ?_⟩) hHeld ?_ ?_
        rotate_left; · rintro w' ⟨s0, s1, s2, s3, s4, s5, s6, s7⟩; go_simp; with_reducible rfl
        rotate_left; · simp only [nm_]; rfl
        refine one_ (i := 26) (N := some 42) (ar 27 3) rfl rfl (by kernel_rfl) (by decide) (fun K hK => ?_)
        refine goes_ Tryz.func78 (by kernel_rfl) rfl #[.agg #[I r.f0, I r.f1], .agg #[I p.f0, I p.f1]] (by rfl) rfl rfl (by simp only [List.map_toArray, List.map_cons, List.map_nil]; rfl) ?_
        with_reducible refine (HCP.out _).mono ?_
        rintro e w4 ⟨rfl, hGb⟩
        refine ⟨_, rfl, ?_⟩
        replace HL := Aside0.mk (Grew.trans HL.out hGb)
        clear hGb
        refine hK.out _ _ ⟨(Below.cell (w := W1) HL.out (p := ⟨w.heap.size, 0, none⟩) hl0).trans k0, (Below.cell (w := W1) HL.out (p := ⟨w.heap.size, 1, none⟩) hl0).trans k1, (Below.cell (w := W1) HL.out (p := ⟨wr.heap.size, 0, none⟩) hl1).trans hp0, (Below.cell (w := W1) HL.out (p := ⟨wr.heap.size, 1, none⟩) hl1).trans hp1, (Below.cell (w := W1) HL.out (p := ad.add (j * 2)) hl2).trans hv0, (Below.cell (w := W1) HL.out (p := ⟨(ad.add (j * 2)).block, (ad.add (j * 2)).off + 1, none⟩) hl2).trans hv1, HLK0.out _ HL.out, HLK1.out _ HL.out⟩ (fun hHeld => ?_)
        clear hK K
        refine norm_ (a' := ?_) ?_ ?_
        rotate_left
        ·show Act.put _ (some 42) _ = _
         simp only [nm_]
         rfl
        refine pure_ (i := 27) (N := some 43) (v := ?_) (a' := ?_) (ar 28 2) rfl rfl (by kernel_rfl) hh_ (Or.inl ⟨by rfl, ?_⟩) ?_ ?_; rotate_left; (intro w'; go_simp; with_reducible rfl); rotate_left; · simp only [nm_]; rfl
        refine pure_ (i := 28) (N := some 44) (v := ?_) (a' := ?_) (ar 29 1) rfl rfl (by kernel_rfl) hh_ (Or.inl ⟨by rfl, ?_⟩) ?_ ?_; rotate_left; (intro w'; go_simp; with_reducible rfl); rotate_left; · simp only [nm_]; rfl
        refine pure_ (i := 29) (N := some 45) (v := ?_) (a' := ?_) (ar 30 0) rfl rfl (by kernel_rfl) hh_ (Or.inl ⟨by rfl, ?_⟩) ?_ ?_; rotate_left; (intro w'; go_simp; with_reducible rfl); rotate_left; · simp only [nm_]; rfl
        refine done_ (by kernel_rfl) ?_
        clear hwj
        go_wp2_with fail
        go_ret
        exact ⟨by rw [HPF.out]; rfl, Grew.trans HGw1.out HL.out⟩
  ·have hltz : ¬ (i : Int) < (q.length : Int) := by omega
   have HE : Aside0 (i = q.length) := ⟨by omega⟩
   have HPT := Aside0.mk (ping_true (l := l) (q := q) (fun j hj => HO.out j (by have := HE.out; omega)))
   go_wp2_with fail
   go_ret
   exact ⟨by rw [HPT.out]; rfl, HGr.out⟩

end Go.Proofs.YtniikppojffiaaaGreat.K
end

section
/- The code of a pairing. -/
namespace Go.Proofs.YtniikppojffiaaaGreat.K
open Go.RowKit Go.Shelf Go.Proofs.YtniikppojffiaaaGreat.Q Go.Proofs.YtniikppojffiaaaGreatW.PrintWords Go.Proofs.YtniikppojffiaaaGreatW.PrintLast Go.Proofs.YtniikppojffiaaaGreatW.PrintMore
set_option linter.unusedVariables false
set_option linter.unusedSimpArgs false

set_option maxHeartbeats 2000000 in
theorem pairingCode1_calls (b : Bool) {n : Int} (A : Option Addr) (c : Nat) {l : List Int} (A2 : Option Addr) (c2 : Nat) (q : List PairT) {Bk Bq Bb : Nat} (w : World) (hi : isC n l = true) (h0 : CB w Bk n (.slice A l.length c)) (h1 : w.cell? ⟨Bq, 0, none⟩ = some (.slice A2 q.length c2)) (h2 : w.cell? ⟨Bb, 0, none⟩ = some (.bool b)) (hk : Kx w A c l) (hq : Kq.C w A2 q.length q) (hc2 : q.length ≤ c2) (hq2 : q.length ≤ 2097152) :
  Calls Tryz.prog 57 #[.pointer (some ⟨Bb, 0, none⟩), .pointer (some ⟨Bk, 0, none⟩), .pointer (some ⟨Bq, 0, none⟩)] w fun e w' => e = .returned (.bool (b && pingB l q)) ∧ Grew w w' := by
 have k0 := h0.c0
 have k1 := h0.c1
 cases b with
 | false =>
  go_enter Tryz.func57, Tryz.ntmps57
  go_wp2_with fail
  go_ret
  exact ⟨rfl, Grew.refl w⟩
 | true =>
  have H := Aside0.mk (isPairing_calls A c hi A2 c2 q w hk hq hc2 hq2)
  clear hk hq hc2
  rw [Bool.true_and]
  generalize pingB l q = r at H ⊢
  go_enter Tryz.func57, Tryz.ntmps57
  go_wp2_with fail
  refine H.out.mono ?_
  rintro e w1 ⟨rfl, hG1⟩
  go_wp2_with fail
  go_ret
  exact ⟨rfl, hG1⟩
set_option maxHeartbeats 2000000 in
theorem pairingCode_calls (b : Bool) (n : Int) (A : Option Addr) (c : Nat) (l : List Int) (A2 : Option Addr) (c2 : Nat) (q : List PairT) (w : World) (hk : Kx w A c l) (hq : Kq.C w A2 q.length q) (hc2 : q.length ≤ c2) (hq2 : q.length ≤ 2097152) :
  Calls Tryz.prog 35 #[.agg #[I n, .slice A l.length c], .slice A2 q.length c2, .bool b] w fun e w' => e = .returned (I (codeOf n l (b && pingB l q))) ∧ Grew w w' := by
 obtain ⟨W, hW⟩ : ∃ W, W = ((w.alloc (.cells #[I n, .slice A l.length c] 30)).alloc (.cells #[.slice A2 q.length c2] 32)).alloc (.cells #[.bool b] 4) := ⟨_, rfl⟩
 have hB : CB W w.heap.size n (.slice A l.length c) := by rw [hW]; exact blk_alloc (blk_alloc (blk_new w _) _) _
 have hL : W.heap[w.heap.size + 1]? = some (.cells #[.slice A2 q.length c2] 32 (0, 0)) := by
  rw [hW]
  refine blk_alloc ?_ _
  have := blk_new (w.alloc (.cells #[I n, .slice A l.length c] 30)) (.cells #[.slice A2 q.length c2] 32)
  rwa [World.size_alloc] at this
 have hb : W.heap[w.heap.size + 2]? = some (.cells #[.bool b] 4 (0, 0)) := by
  rw [hW]
  have := blk_new ((w.alloc (.cells #[I n, .slice A l.length c] 30)).alloc (.cells #[.slice A2 q.length c2] 32)) (.cells #[.bool b] 4)
  rwa [World.size_alloc, World.size_alloc] at this
 have hg : Grew w W := by rw [hW]; exact below_alloc (below_alloc (below_alloc (Grew.refl w) _) _) _
 have H := Aside0.mk (complexCode_calls (b && pingB l q) n A c l 57 #[] #[.pointer (some ⟨w.heap.size + 2, 0, none⟩), .pointer (some ⟨w.heap.size, 0, none⟩), .pointer (some ⟨w.heap.size + 1, 0, none⟩)] W (hk.later hg) (enters_of Tryz.func57 (by kernel_rfl) rfl)
  (fun hi W2 hW2 => by
   have := pairingCode1_calls b A c A2 c2 q W2 hi (blk_below hB hW2) (blk_cell (blk_below hL hW2) 0) (blk_cell (blk_below hb hW2) 0) (hk.later (Grew.trans hg hW2)) (Kd.C_below hq (Grew.trans hg hW2)) hc2 hq2
   rw [Array.empty_append]
   exact this))
 have k0 := hB.c0
 have k1 := hB.c1
 have HG := Aside0.mk hg
 clear hk hq hc2 hB hL hb hg
 generalize codeOf n l (b && pingB l q) = cc at H ⊢
 subst hW
 go_enter Tryz.func35, Tryz.ntmps35
 go_wp2_with fail
 refine H.out.mono ?_
 rintro e w1 ⟨rfl, hG1⟩
 go_wp2_with fail
 go_ret
 exact ⟨rfl, Grew.trans HG.out hG1⟩

end Go.Proofs.YtniikppojffiaaaGreat.K
end

section
/- Acyclic pairings; the faces on cycles. -/
namespace Go.Proofs.YtniikppojffiaaaGreat.K
open Go.RowKit Go.Shelf Go.Proofs.YtniikppojffiaaaGreat.Q Go.Proofs.YtniikppojffiaaaGreatW.PrintWords Go.Proofs.YtniikppojffiaaaGreatW.PrintLast Go.Proofs.YtniikppojffiaaaGreatW.PrintMore
set_option linter.unusedVariables false
set_option linter.unusedSimpArgs false

/-- A pairing is acyclic; the faces on cycles. -/
noncomputable def acycB (q : List PairT) : Bool := q.all fun p => !reachB (stepsL q) p.f0 p.f0
theorem cmp_fst (a b c d : Int) (h : cmp2 a b c d < 0) : a < c ∨ (a = c ∧ b < d) := by
 unfold cmp2 cmp1 at h
 repeat' split at h
 all_goals omega
theorem ping_asc {n : Int} {l : List Int} (hi : isC n l = true) {q : List PairT} (h : pingB l q = true) : ∀ i (hi : i < q.length), (i : Int) + 1 ≤ q[i].f0 ∧ (q[i].f0 ∈ l ∧ 1 ≤ q[i].f0 ∧ q[i].f0 ≤ 63) ∧ (q[i].f1 ∈ l ∧ 1 ≤ q[i].f1 ∧ q[i].f1 ≤ 63) := by
 intro i
 induction i with
 | zero =>
  intro h0
  have h1 := ping_at h 0 h0
  rw [okAt_eq l q 0 h0] at h1
  simp only [Bool.and_eq_true] at h1
  obtain ⟨m0, m1, _, _⟩ := pairK_mem hi h1.1.1.1
  exact ⟨by have := m0.2.1; simpa using this, m0, m1⟩
 | succ i ih =>
  intro h0
  have h1 := ping_at h (i + 1) h0
  rw [okAt_eq l q (i + 1) h0] at h1
  simp only [Bool.and_eq_true] at h1
  obtain ⟨m0, m1, _, _⟩ := pairK_mem hi h1.1.1.1
  refine ⟨?_, m0, m1⟩
  have hp := (ih (by omega)).1
  have h2 := h1.2
  simp only [Nat.add_eq_zero_iff, Nat.succ_ne_zero, and_false, beq_iff_eq, Bool.or_eq_true, decide_eq_true_eq, Nat.add_sub_cancel] at h2
  have hg : q.getD i z46 = q[i]'(by omega) := by simp [show i < q.length by omega]
  rw [hg] at h2
  rcases h2 with h2 | h2
  ·exact absurd h2 (by simp)
  have hs := h1.1.1.2
  have hs2 : q[i + 1].f0 ≠ (q[i]'(by omega)).f0 := by
   intro e
   unfold seenB at hs
   simp only [Bool.not_eq_true', List.any_eq_false] at hs
   have := hs (q[i]'(by omega)) (List.mem_iff_getElem.2 ⟨i, by simp; omega, by simp⟩)
   simp [e] at this
  have := cmp_fst _ _ _ _ h2
  omega
theorem ping_good {n : Int} {l : List Int} (hi : isC n l = true) {q : List PairT} (h : pingB l q = true) : GoodQ q := by
 refine ⟨?_, fun p hp => ?_, fun p hp => ?_⟩
 ·rcases Nat.lt_or_ge 63 q.length with h1 | h1
  ·have := ping_asc hi h 63 h1
   omega
  ·exact h1
 ·obtain ⟨i, hl, rfl⟩ := List.mem_iff_getElem.1 hp
  exact (ping_asc hi h i hl).2.1.2
 ·obtain ⟨i, hl, rfl⟩ := List.mem_iff_getElem.1 hp
  exact (ping_asc hi h i hl).2.2.2

set_option maxRecDepth 100000 in
set_option maxHeartbeats 4000000 in
theorem isAcyclic1_calls (p : PairT) (B : Nat) (A2 : Option Addr) (c2 : Nat) {q : List PairT} (w : World) (hb : w.cell? ⟨B, 0, none⟩ = some (.slice A2 q.length c2)) (hq : Kq.C w A2 q.length q) (hc2 : q.length ≤ c2) (hgq : GoodQ q) (hf : 1 ≤ p.f0 ∧ p.f0 ≤ 63) :
  Calls Tryz.prog 60 #[.agg #[I p.f0, I p.f1], .pointer (some ⟨B, 0, none⟩)] w fun e w' => e = .returned (.bool (!reachB (stepsL q) p.f0 p.f0)) ∧ Grew w w' := by
 obtain ⟨W1, hW1⟩ : ∃ W1, W1 = w.alloc (.cells #[I p.f0, I p.f1] 46) := ⟨_, rfl⟩
 have hp : W1.heap[w.heap.size]? = some (.cells #[I p.f0, I p.f1] 46 (0, 0)) := by rw [hW1]; exact blk_new w _
 have hG1 : Grew w W1 := by rw [hW1]; exact below_alloc (Grew.refl w) _
 have HBH := Aside0.mk (fun (W : World) (h : Grew W1 W) => behind_calls A2 c2 p.f0 W (Kd.C_below hq (Grew.trans hG1 h)) hc2 hgq)
 have hlb := World.block_lt_of_cell? w _ hb
 have k0 : W1.cell? ⟨B, 0, none⟩ = some (.slice A2 q.length c2) := (Below.cell hG1 (p := ⟨B, 0, none⟩) hlb).trans hb
 have k1 : W1.cell? ⟨w.heap.size, 0, none⟩ = some (I p.f0) := blk_cell hp 0
 have hl0 := World.block_lt_of_cell? W1 _ k0
 have hl1 := World.block_lt_of_cell? W1 _ k1
 have HWF := Aside0.mk (wf_face hf.1 hf.2)
 have HG1 := Aside0.mk hG1
 have HE1 := Aside0.mk hW1
 generalize reachB (stepsL q) p.f0 = R at HBH ⊢
 clear hp hG1 hW1 hq hf hgq
 go_enter Tryz.func60, Tryz.ntmps60
 go_wp2_with fail
 rw [← HE1.out]
 refine start_ (n := 9) (S := fun w' => w'.cell? ⟨B, 0, none⟩ = some (.slice A2 q.length c2) ∧ w'.cell? ⟨w.heap.size, 0, none⟩ = some (I p.f0)) (ds := []) (ar 0 9) (by kernel_rfl) rfl rfl ⟨(Below.cell (w := W1) (below_drew (Grew.refl W1)) (p := ⟨B, 0, none⟩) hl0).trans k0, (Below.cell (w := W1) (below_drew (Grew.refl W1)) (p := ⟨w.heap.size, 0, none⟩) hl1).trans k1⟩ (fun hHeld => ?_)
 refine pure_ (i := 1) (N := some 5) (v := ?_) (a' := ?_) #[O,U,O,O,O,O,O,O,O] rfl rfl (by kernel_rfl) hh_ (Or.inl ⟨by rfl, ?_⟩) ?_ ?_; rotate_left; (intro w'; go_simp; with_reducible rfl); rotate_left; · simp only [nm_]; rfl
 refine pure_ (i := 4) (N := some 8) (v := ?_) (a' := ?_) #[O,U,O,O,U,O,O,O,O] rfl rfl (by kernel_rfl) hh_ (Or.inl ⟨by rfl, ?_⟩) ?_ ?_; rotate_left; (intro w'; go_simp; with_reducible rfl); rotate_left; · simp only [nm_]; rfl
 refine take_ (i := 0) (N := some 4) (v := ?_) (a' := ?_) #[U,U,O,O,U,O,O,O,O] rfl rfl (by kernel_rfl) hh_ (Or.inl ⟨by rfl, ?_⟩) hHeld ?_ ?_
 rotate_left; · rintro w' ⟨s0, s1⟩; go_simp; with_reducible rfl
 rotate_left; · simp only [nm_]; rfl
 refine take_ (i := 2) (N := some 6) (v := ?_) (a' := ?_) #[U,U,U,O,U,O,O,O,O] rfl rfl (by kernel_rfl) hh_ (Or.inl ⟨by rfl, ?_⟩) hHeld ?_ ?_
 rotate_left; · rintro w' ⟨s0, s1⟩; go_simp; with_reducible rfl
 rotate_left; · simp only [nm_]; rfl
 refine take_ (i := 5) (N := some 9) (v := ?_) (a' := ?_) #[U,U,U,O,U,U,O,O,O] rfl rfl (by kernel_rfl) hh_ (Or.inl ⟨by rfl, ?_⟩) hHeld ?_ ?_
 rotate_left; · rintro w' ⟨s0, s1⟩; go_simp; with_reducible rfl
 rotate_left; · simp only [nm_]; rfl
 refine one_ (i := 3) (N := some 7) (ar 6 3) rfl rfl (by kernel_rfl) (by decide) (fun K hK => ?_)
 refine goes_ Tryz.func61 (by kernel_rfl) rfl #[.slice A2 q.length c2, I p.f0] (by rfl) rfl rfl (by simp only [List.map_toArray, List.map_cons, List.map_nil]; rfl) ?_
 with_reducible refine (HBH.out _ (below_drew (Grew.refl W1))).mono ?_
 rintro e w3 ⟨b, rfl, hbb, ⟨m, hm, hS⟩, hGa⟩
 refine ⟨_, rfl, ?_⟩
 have HL := Aside0.mk (Grew.trans (below_drew (Grew.refl W1)) hGa)
 have hlk := hS.look p.f0 HWF.out
 clear hGa hS hbb hm
 refine hK.out _ _ ⟨(Below.cell (w := W1) HL.out (p := ⟨B, 0, none⟩) hl0).trans k0, (Below.cell (w := W1) HL.out (p := ⟨w.heap.size, 0, none⟩) hl1).trans k1⟩ (fun hHeld => ?_)
 clear hK K
 refine norm_ (a' := ?_) ?_ ?_
 rotate_left
 ·show Act.put _ (some 7) _ = _
  simp only [nm_]
  rfl
 refine one_ (i := 6) (N := some 10) (ar 7 2) rfl rfl (by kernel_rfl) (by decide) (fun K hK => ?_)
 refine value_ (w1 := ?_) (v := ?_) (by rfl) rfl ?_ ?_
 rotate_left 2
 ·go_simp
  constructor
  ·rfl
  ·rfl
 refine hK.out _ _ ⟨(Below.cell (w := W1) HL.out (p := ⟨B, 0, none⟩) hl0).trans k0, (Below.cell (w := W1) HL.out (p := ⟨w.heap.size, 0, none⟩) hl1).trans k1⟩ (fun hHeld => ?_)
 clear hK K
 refine norm_ (a' := ?_) ?_ ?_
 rotate_left
 ·show Act.put _ (some 10) _ = _
  simp only [nm_]
  rfl
 refine pure_ (i := 7) (N := some 11) (v := ?_) (a' := ?_) (ar 8 1) rfl rfl (by kernel_rfl) hh_ (Or.inl ⟨by rfl, ?_⟩) ?_ ?_; rotate_left; (intro w'; go_simp; with_reducible rfl); rotate_left; · simp only [nm_]; rfl
 refine pure_ (i := 8) (N := some 3) (v := ?_) (a' := ?_) (ar 9 0) rfl rfl (by kernel_rfl) hh_ (Or.inl ⟨by rfl, ?_⟩) ?_ ?_; rotate_left; (intro w'; go_simp; with_reducible rfl); rotate_left; · simp only [nm_]; rfl
 refine done_ (by kernel_rfl) ?_
 go_wp2_with fail
 go_ret
 exact ⟨rfl, Grew.trans HG1.out HL.out⟩
set_option maxHeartbeats 2000000 in
theorem isAcyclic_calls (A2 : Option Addr) (c2 : Nat) {q : List PairT} (n : Int) (A : Option Addr) (c : Nat) (l : List Int) (w : World) (hq : Kq.C w A2 q.length q) (hc2 : q.length ≤ c2) (hgq : GoodQ q) :
  Calls Tryz.prog 36 #[.agg #[I n, .slice A l.length c], .slice A2 q.length c2] w fun e w' => e = .returned (.bool (acycB q)) ∧ Grew w w' := by
 obtain ⟨W, hW⟩ : ∃ W, W = (w.alloc (.cells #[I n, .slice A l.length c] 30)).alloc (.cells #[.slice A2 q.length c2] 32) := ⟨_, rfl⟩
 have hL : W.heap[w.heap.size + 1]? = some (.cells #[.slice A2 q.length c2] 32 (0, 0)) := by
  rw [hW]
  have := blk_new (w.alloc (.cells #[I n, .slice A l.length c] 30)) (.cells #[.slice A2 q.length c2] 32)
  rwa [World.size_alloc] at this
 have hg : Grew w W := by rw [hW]; exact below_alloc (below_alloc (Grew.refl w) _) _
 have H := Aside0.mk (areAll_pair (fun p => !reachB (stepsL q) p.f0 p.f0) A2 c2 q 60 #[] #[.pointer (some ⟨w.heap.size + 1, 0, none⟩)] W (Kd.C_below hq hg) hc2 hq.2.1 (enters_of Tryz.func60 (by kernel_rfl) rfl)
  (fun x hx W2 hW2 => isAcyclic1_calls x (w.heap.size + 1) A2 c2 W2 (blk_cell (blk_below hL hW2) 0) (Kd.C_below hq (Grew.trans hg hW2)) hc2 hgq (hgq.f0 x hx)))
 have HG := Aside0.mk hg
 have HV : Aside0 (acycB q = q.all fun p => !reachB (stepsL q) p.f0 p.f0) := ⟨rfl⟩
 rw [HV.out]
 generalize (q.all fun p => !reachB (stepsL q) p.f0 p.f0) = r at H ⊢
 clear hL hg hq hgq HV
 subst hW
 go_enter Tryz.func36, Tryz.ntmps36
 go_wp2_with fail
 refine H.out.mono ?_
 rintro e w1 ⟨rfl, hG1⟩
 go_wp2_with fail
 go_ret
 exact ⟨rfl, Grew.trans HG.out hG1⟩

/-- The code of an acyclic pairing. -/
noncomputable def acode (n : Int) (l : List Int) (q : List PairT) (b : Bool) : Int := if codeOf n l (b && pingB l q) = 0 then (if acycB q then 0 else 5) else codeOf n l (b && pingB l q)
theorem acode_zero {n : Int} {l : List Int} {q : List PairT} {b : Bool} (h : acode n l q b = 0) : isC n l = true ∧ b = true ∧ pingB l q = true ∧ acycB q = true := by
 unfold acode at h
 split at h
 ·rename_i hz
  obtain ⟨h1, h2⟩ := codeOf_zero hz
  simp only [Bool.and_eq_true] at h2
  refine ⟨h1, h2.1, h2.2, ?_⟩
  cases ha : acycB q with
  | true => rfl
  | false => rw [ha] at h; simp at h
 ·rename_i hz
  exact absurd h hz
set_option maxHeartbeats 2000000 in
theorem acyclicCode_calls (b : Bool) (n : Int) (A : Option Addr) (c : Nat) (l : List Int) (A2 : Option Addr) (c2 : Nat) (q : List PairT) (w : World) (hk : Kx w A c l) (hq : Kq.C w A2 q.length q) (hc2 : q.length ≤ c2) (hq2 : q.length ≤ 2097152) :
  Calls Tryz.prog 25 #[.agg #[I n, .slice A l.length c], .slice A2 q.length c2, .bool b] w fun e w' => e = .returned (I (acode n l q b)) ∧ Grew w w' := by
 have hB : CB (w.alloc (.cells #[I n, .slice A l.length c] 30)) w.heap.size n (.slice A l.length c) := blk_new w _
 have HG : Aside0 (Grew w (w.alloc (.cells #[I n, .slice A l.length c] 30))) := ⟨below_alloc (Grew.refl w) _⟩
 have HC := Aside0.mk (pairingCode_calls b n A c l A2 c2 q _ (hk.later HG.out) (Kd.C_below hq HG.out) hc2 hq2)
 have HB := Aside0.mk hB
 have k0 := hB.c0
 have k1 := hB.c1
 by_cases hz : codeOf n l (b && pingB l q) = 0
 ·obtain ⟨hi, hbp⟩ := codeOf_zero hz
  simp only [Bool.and_eq_true] at hbp
  have hgq := ping_good hi hbp.2
  have HV : Aside0 (acode n l q b = if acycB q then 0 else 5) := ⟨by unfold acode; rw [if_pos hz]⟩
  have HA := Aside0.mk (fun (W : World) (h : Grew w W) => isAcyclic_calls A2 c2 n A c l W (Kd.C_below hq h) hc2 hgq)
  rw [HV.out]
  rw [hz] at HC
  clear hq hk hB hz hi hbp hgq HV
  generalize acycB q = r at HA ⊢
  go_enter Tryz.func25, Tryz.ntmps25
  go_wp2_with fail
  refine HC.out.mono ?_
  rintro e w1 ⟨rfl, hG1⟩
  have HB1 := Aside0.mk (CB.later HB.out hG1)
  have HG1 := Aside0.mk (Grew.trans HG.out hG1)
  clear hG1 k0 k1
  have k0 := HB1.out.c0
  have k1 := HB1.out.c1
  go_wp2_with fail
  refine (HA.out _ HG1.out).mono ?_
  rintro e w2 ⟨rfl, hG2⟩
  have HG2 := Aside0.mk (Grew.trans HG1.out hG2)
  clear hG2
  cases r with
  | true =>
   go_wp2_with fail
   go_ret
   exact ⟨rfl, HG2.out⟩
  | false =>
   go_wp2_with fail
   go_ret
   exact ⟨rfl, HG2.out⟩
 ·have HV : Aside0 (acode n l q b = codeOf n l (b && pingB l q)) := ⟨by unfold acode; rw [if_neg hz]⟩
  rw [HV.out]
  clear hq hk hB HV
  generalize codeOf n l (b && pingB l q) = cc at HC hz ⊢
  go_enter Tryz.func25, Tryz.ntmps25
  go_wp2_with fail
  refine HC.out.mono ?_
  rintro e w1 ⟨rfl, hG1⟩
  have HG1 := Aside0.mk (Grew.trans HG.out hG1)
  clear hG1
  go_wp2_with fail
  go_ret
  exact ⟨rfl, HG1.out⟩

end Go.Proofs.YtniikppojffiaaaGreat.K
end

section
/- Steps lower the number of what is reached. -/
namespace Go.Proofs.YtniikppojffiaaaGreat.K
open Go.RowKit Go.Shelf
set_option linter.unusedVariables false
set_option linter.unusedSimpArgs false

theorem cnt_mono {S T : Int → Bool} (h : ∀ x, S x = true → T x = true) : cnt S ≤ cnt T := by
 unfold cnt
 exact List.countP_mono_left (fun i _ hi => h _ hi)
theorem cnt_lt {S T : Int → Bool} (h : ∀ x, S x = true → T x = true) (y : Int) (h0 : 0 ≤ y) (h1 : y < 64) (hs : S y = false) (ht : T y = true) : cnt S < cnt T := by
 have h2 := cnt_upd S y h0 h1 hs
 have h3 : cnt (upd S y true) ≤ cnt T := cnt_mono fun x hx => by
  rcases upd_or hx with rfl | hx
  ·exact ht
  ·exact h x hx
 omega
theorem Reach.first {nx : Int → List Int} {a x : Int} (h : Reach nx a x) : ∃ y, y ∈ nx a := by
 induction h with
 | one h => exact ⟨_, h⟩
 | more _ _ ih => exact ih
theorem acyc_no {q : List PairT} (h : acycB q = true) (x : Int) : ¬ Reach (stepsL q) x x := by
 intro hr
 obtain ⟨y, hy⟩ := hr.first
 unfold stepsL at hy
 split at hy
 ·cases hy
 ·rename_i hz
  rcases high_cases q x with ⟨h1, _⟩ | ⟨p, hp, h1, _⟩
  ·exact hz h1
  ·unfold acycB at h
   have := List.all_eq_true.1 h p hp
   rw [h1, reachB_true.2 hr] at this
   simp at this
theorem rank_step {q : List PairT} (hg : GoodQ q) (hac : ∀ x, ¬ Reach (stepsL q) x x) {a y : Int} (hy : y ∈ stepsL q a) : cnt (reachB (stepsL q) y) < cnt (reachB (stepsL q) a) := by
 have hb := steps_mem hg hy
 refine cnt_lt (fun x hx => reachB_true.2 (Reach.trans (.one hy) (reachB_true.1 hx))) y (by omega) (by omega) (reachB_false (hac y)) (reachB_true.2 (.one hy))
end Go.Proofs.YtniikppojffiaaaGreat.K
end

section
/- The order of the groups of a pairing, plain. -/
namespace Go.Proofs.YtniikppojffiaaaGreat.K
open Go.RowKit Go.Shelf
set_option linter.unusedVariables false
set_option linter.unusedSimpArgs false

theorem bords_less_64 : ∀ m : Fin 64, (bords (m.val : Int)).all (fun g => decide (onesI g = onesI (m.val : Int) - 1)) = true := by decide +kernel
theorem bords_less (f : Int) (h0 : 0 ≤ f) (h1 : f ≤ 63) (g : Int) (hg : g ∈ bords f) : onesI g = onesI f - 1 := by
 obtain ⟨m, rfl⟩ : ∃ m : Nat, f = (m : Int) := ⟨f.toNat, by omega⟩
 have h := List.all_eq_true.1 (bords_less_64 ⟨m, by omega⟩) g hg
 simpa using h
theorem ones_nat_64 : ∀ m : Fin 64, decide (0 ≤ onesI (m.val : Int) ∧ onesI (m.val : Int) ≤ 6) = true := by decide +kernel
theorem ones_nat (f : Int) (h0 : 0 ≤ f) (h1 : f ≤ 63) : 0 ≤ onesI f ∧ onesI f ≤ 6 := by
 obtain ⟨m, rfl⟩ : ∃ m : Nat, f = (m : Int) := ⟨f.toNat, by omega⟩
 exact of_decide_eq_true (ones_nat_64 ⟨m, by omega⟩)
/-- A face that is the high face of a pair. -/
def isHi (q : List PairT) (f : Int) : Bool := q.any fun p => p.f1 == f
theorem isHi_iff {q : List PairT} {f : Int} : isHi q f = true ↔ ∃ p ∈ q, p.f1 = f := by simp [isHi]
/-- The group of a low or critical face. -/
def grp (q : List PairT) (f : Int) : List Int := if highL q f = 0 then [f] else [f, highL q f]
def lows (l : List Int) (q : List PairT) : List Int := l.filter fun f => !isHi q f
/-- All borders of a group are placed, or of the group. -/
def rdyG (S : Int → Bool) (own : List Int) : Bool := own.all fun g => (bords g).all fun m => S m || own.contains m
def placeL (S : Int → Bool) (own : List Int) : Int → Bool := own.foldl (fun S f => upd S f true) S
theorem placeL_iff (own : List Int) : ∀ (S : Int → Bool) (x : Int), placeL S own x = true ↔ S x = true ∨ x ∈ own := by
 induction own with
 | nil => intro S x; simp [placeL]
 | cons f own ih =>
  intro S x
  show placeL (upd S f true) own x = true ↔ _
  rw [ih, List.mem_cons]
  constructor
  ·rintro (h | h)
   ·rcases upd_or h with rfl | h
    ·exact .inr (.inl rfl)
    ·exact .inl h
   ·exact .inr (.inr h)
  ·rintro (h | rfl | h)
   ·exact .inl (upd_keep h)
   ·exact .inl (upd_self _ _ _)
   ·exact .inr h
/-- The groups in their order. -/
def ordR (q : List PairT) (L : List Int) : Nat → (Int → Bool) → List (List Int)
 | 0, _ => []
 | k + 1, S => match L.find? (fun f => !S f && rdyG S (grp q f)) with
  | none => []
  | some f => grp q f :: ordR q L k (placeL S (grp q f))
/-- What is placed behind it. -/
def ordS (q : List PairT) (L : List Int) : Nat → (Int → Bool) → (Int → Bool)
 | 0, S => S
 | k + 1, S => match L.find? (fun f => !S f && rdyG S (grp q f)) with
  | none => S
  | some f => ordS q L k (placeL S (grp q f))
def orderG (l : List Int) (q : List PairT) : List (List Int) := ordR q (lows l q) 64 fun _ => false

structure GoodP (l : List Int) (q : List PairT) : Prop where
 mem : ∀ p ∈ q, (p.f0 ∈ l ∧ 1 ≤ p.f0 ∧ p.f0 ≤ 63) ∧ (p.f1 ∈ l ∧ 1 ≤ p.f1 ∧ p.f1 ≤ 63) ∧ onesI p.f1 = onesI p.f0 + 1
 apart : ∀ p ∈ q, ∀ r ∈ q, p = r ∨ (p.f0 ≠ r.f0 ∧ p.f0 ≠ r.f1 ∧ p.f1 ≠ r.f0 ∧ p.f1 ≠ r.f1)
theorem ping_P {n : Int} {l : List Int} (hi : isC n l = true) {q : List PairT} (h : pingB l q = true) : GoodP l q := by
 have hk : ∀ i (hl : i < q.length), pairK l q[i] = true ∧ seenB q i q[i].f0 = false ∧ seenB q i q[i].f1 = false := by
  intro i hl
  have := ping_at h i hl
  rw [okAt_eq l q i hl] at this
  simp only [Bool.and_eq_true, Bool.not_eq_true'] at this
  exact ⟨this.1.1.1, this.1.1.2, this.1.2⟩
 have hs : ∀ i j (hj : j < q.length) (hij : i < j), (q[i]'(by omega)).f0 ≠ q[j].f0 ∧ (q[i]'(by omega)).f1 ≠ q[j].f0 ∧ (q[i]'(by omega)).f0 ≠ q[j].f1 ∧ (q[i]'(by omega)).f1 ≠ q[j].f1 := by
  intro i j hj hij
  obtain ⟨_, h0, h1⟩ := hk j hj
  unfold seenB at h0 h1
  rw [List.any_eq_false] at h0 h1
  have hm : (q[i]'(by omega)) ∈ q.take j := List.mem_iff_getElem.2 ⟨i, by simp; omega, by simp⟩
  have a := h0 _ hm
  have b := h1 _ hm
  simp at a b
  exact ⟨a.1, a.2, b.1, b.2⟩
 refine ⟨fun p hp => ?_, fun p hp r hr => ?_⟩
 ·obtain ⟨i, hl, rfl⟩ := List.mem_iff_getElem.1 hp
  have := pairK_mem hi (hk i hl).1
  exact ⟨this.1, this.2.1, this.2.2.2⟩
 ·obtain ⟨i, hl, rfl⟩ := List.mem_iff_getElem.1 hp
  obtain ⟨j, hj, rfl⟩ := List.mem_iff_getElem.1 hr
  rcases Nat.lt_trichotomy i j with h1 | h1 | h1
  ·have := hs i j hj h1
   exact .inr ⟨this.1, this.2.2.1, this.2.1, this.2.2.2⟩
  ·subst h1
   exact .inl rfl
  ·have := hs j i hl h1
   exact .inr ⟨fun e => this.1 e.symm, fun e => this.2.1 e.symm, fun e => this.2.2.1 e.symm, fun e => this.2.2.2 e.symm⟩
section
variable {n : Int} {l : List Int} {q : List PairT}
theorem high_of (hP : GoodP l q) {p : PairT} (hp : p ∈ q) : highL q p.f0 = p.f1 := by
 rcases high_cases q p.f0 with ⟨_, h2⟩ | ⟨r, hr, h1, h2⟩
 ·exact absurd rfl (h2 p hp)
 ·rcases hP.apart p hp r hr with rfl | h
  ·exact h2.symm
  ·exact absurd h1.symm h.1
theorem hi_zero (hP : GoodP l q) {p : PairT} (hp : p ∈ q) : highL q p.f1 = 0 := by
 rcases high_cases q p.f1 with ⟨h, _⟩ | ⟨r, hr, h1, h2⟩
 ·exact h
 ·rcases hP.apart p hp r hr with rfl | h
  ·have := (hP.mem p hp).2.2
   rw [h1] at this
   omega
  ·exact absurd h1.symm h.2.2.1
theorem lows_mem {f : Int} : f ∈ lows l q ↔ f ∈ l ∧ isHi q f = false := by simp [lows]
theorem grp_mem {f x : Int} : x ∈ grp q f ↔ x = f ∨ (highL q f ≠ 0 ∧ x = highL q f) := by
 unfold grp
 by_cases h : highL q f = 0
 ·simp [h]
 ·simp [h]
theorem low_nohi (hP : GoodP l q) {p : PairT} (hp : p ∈ q) : isHi q p.f0 = false := by
 cases h : isHi q p.f0 with
 | false => rfl
 | true =>
  obtain ⟨r, hr, h1⟩ := isHi_iff.1 h
  rcases hP.apart r hr p hp with rfl | h2
  ·have := (hP.mem r hr).2.2
   rw [h1] at this
   omega
  ·exact absurd h1 h2.2.2.1
/-- A place set holds both faces of a pair or none. -/
def Whole (q : List PairT) (S : Int → Bool) : Prop := ∀ p ∈ q, (S p.f0 = true ↔ S p.f1 = true)
theorem whole_place (hP : GoodP l q) {S : Int → Bool} (hS : Whole q S) {f : Int} (hf : f ∈ lows l q) : Whole q (placeL S (grp q f)) := by
 intro p hp
 rw [placeL_iff, placeL_iff, hS p hp, grp_mem, grp_mem]
 have hnh := (lows_mem.1 hf).2
 constructor
 ·rintro (h | h | ⟨h, h2⟩)
  ·exact .inl h
  ·refine .inr (.inr ⟨?_, ?_⟩)
   ·rw [← h, high_of hP hp]
    have := (hP.mem p hp).2.1.2.1
    omega
   ·rw [← h, high_of hP hp]
  ·rcases high_cases q f with ⟨h3, _⟩ | ⟨r, hr, h3, h4⟩
   ·exact absurd h3 h
   ·rw [← h4] at h2
    rcases hP.apart p hp r hr with rfl | h5
    ·have := (hP.mem p hp).2.2
     rw [h2] at this
     omega
    ·exact absurd h2 h5.2.1
 ·rintro (h | h | ⟨h, h2⟩)
  ·exact .inl h
  ·have := isHi_iff.2 ⟨p, hp, h⟩
   rw [hnh] at this
   cases this
  ·rcases high_cases q f with ⟨h3, _⟩ | ⟨r, hr, h3, h4⟩
   ·exact absurd h3 h
   ·rw [← h4] at h2
    rcases hP.apart p hp r hr with rfl | h5
    ·exact .inr (.inl h3)
    ·exact absurd h2 h5.2.2.2
/-- Of an acyclic pairing a group is ready till all are placed. -/
theorem ready_ex (hi : isC n l = true) (hg : GoodQ q) (hP : GoodP l q) (hac : ∀ x, ¬ Reach (stepsL q) x x) {S : Int → Bool} (hS : Whole q S) : ∀ (N : Nat) (f : Int), f ∈ lows l q → S f = false → 100 * (onesI f).toNat + cnt (reachB (stepsL q) f) < N → ∃ x ∈ lows l q, (!S x && rdyG S (grp q x)) = true := by
 have hr := (isC_faces hi).2.2.1
 intro N
 induction N with
 | zero => intro f _ _ h; omega
 | succ N ih =>
  intro f hf hSf hN
  obtain ⟨hfl, hnh⟩ := lows_mem.1 hf
  have hfr := hr f hfl
  cases hrd : rdyG S (grp q f) with
  | true => exact ⟨f, hf, by rw [hSf, hrd]; rfl⟩
  | false =>
   unfold rdyG at hrd
   obtain ⟨g, hgm, hrd⟩ := List.all_eq_false.1 hrd
   rw [Bool.not_eq_true] at hrd
   obtain ⟨m, hm, hrd⟩ := List.all_eq_false.1 hrd
   simp only [Bool.or_eq_true, not_or, Bool.not_eq_true] at hrd
   obtain ⟨hSm, hcm⟩ := hrd
   have hmo : m ∉ grp q f := by
    intro h
    rw [List.contains_iff_mem.2 h] at hcm
    cases hcm
   have hgl : g ∈ l ∧ onesI g ≤ onesI f + 1 ∧ (g = f ∨ (highL q f ≠ 0 ∧ g = highL q f ∧ onesI g = onesI f + 1)) := by
    rcases grp_mem.1 hgm with rfl | ⟨h1, h2⟩
    ·exact ⟨hfl, by omega, .inl rfl⟩
    ·rcases high_cases q f with ⟨h3, _⟩ | ⟨p, hp, h3, h4⟩
     ·exact absurd h3 h1
     ·have := hP.mem p hp
      rw [h4, ← h2, h3] at this
      exact ⟨this.2.1.1, by omega, .inr ⟨h1, h2, this.2.2⟩⟩
   have hgr := hr g hgl.1
   have hml : m ∈ l := closed_mem hi g hgl.1 m hm
   have hmr := hr m hml
   have hmn := bords_less g (by omega) (by omega) m hm
   have hof := ones_nat f (by omega) (by omega)
   have hom := ones_nat m (by omega) (by omega)
   have hc1 := cnt_le (reachB (stepsL q) m)
   cases hmh : isHi q m with
   | true =>
    obtain ⟨p, hp, h1⟩ := isHi_iff.1 hmh
    have hpm := hP.mem p hp
    have hc2 := cnt_le (reachB (stepsL q) p.f0)
    have hop := ones_nat p.f0 (by omega) (by omega)
    rw [h1] at hpm
    refine ih p.f0 (lows_mem.2 ⟨hpm.1.1, low_nohi hP hp⟩) ?_ (by omega)
    cases hs0 : S p.f0 with
    | false => rfl
    | true =>
     have := (hS p hp).1 hs0
     rw [h1, hSm] at this
     cases this
   | false =>
    refine ih m (lows_mem.2 ⟨hml, hmh⟩) hSm ?_
    rcases hgl.2.2 with rfl | ⟨h1, h2, h3⟩
    ·omega
    ·have hst : m ∈ stepsL q f := by
      unfold stepsL
      rw [if_neg h1, ← h2, List.mem_filter]
      refine ⟨hm, ?_⟩
      have : m ≠ f := fun e => hmo (grp_mem.2 (.inl e))
      simp [this]
     have := rank_step hg hac hst
     have : onesI m = onesI f := by omega
     rw [this]
     omega
/-- No cycle goes through what is placed. -/
structure Sound (l : List Int) (q : List PairT) (S : Int → Bool) : Prop where
 whole : Whole q S
 closed : ∀ x, S x = true → ∀ y ∈ stepsL q x, S y = true
 free : ∀ x, S x = true → ¬ Reach (stepsL q) x x
theorem sound_none : Sound l q fun _ => false := ⟨fun p _ => by simp, fun x h => by simp at h, fun x h => by simp at h⟩
theorem sound_place (hi : isC n l = true) (hP : GoodP l q) {S : Int → Bool} (hS : Sound l q S) {f : Int} (hf : f ∈ lows l q) (hSf : S f = false) (hrd : rdyG S (grp q f) = true) : Sound l q (placeL S (grp q f)) := by
 have hr := (isC_faces hi).2.2.1
 have hst : ∀ y ∈ stepsL q f, S y = true := by
  intro y hy
  unfold stepsL at hy
  split at hy
  ·cases hy
  ·rename_i hz
   obtain ⟨hy1, hy2⟩ := List.mem_filter.1 hy
   unfold rdyG at hrd
   have h1 := List.all_eq_true.1 (List.all_eq_true.1 hrd (highL q f) (grp_mem.2 (.inr ⟨hz, rfl⟩))) y hy1
   simp only [Bool.or_eq_true] at h1
   rcases h1 with h1 | h1
   ·exact h1
   ·rcases grp_mem.1 (List.contains_iff_mem.1 h1) with h2 | ⟨_, h2⟩
    ·simp [h2] at hy2
    ·rcases high_cases q f with ⟨h3, _⟩ | ⟨p, hp, h3, h4⟩
     ·exact absurd h3 hz
     ·have hb := (hP.mem p hp).2.1
      rw [h4] at hb
      have := bords_less (highL q f) (by omega) (by omega) y hy1
      rw [h2] at this
      omega
 have hno : ∀ y ∈ grp q f, ∀ z ∈ stepsL q y, S z = true := by
  intro y hy z hz
  rcases grp_mem.1 hy with rfl | ⟨h1, rfl⟩
  ·exact hst z hz
  ·rcases high_cases q f with ⟨h3, _⟩ | ⟨p, hp, h3, h4⟩
   ·exact absurd h3 h1
   ·unfold stepsL at hz
    rw [← h4, if_pos (hi_zero hP hp)] at hz
    cases hz
 have hcl : ∀ y ∈ grp q f, ∀ z, Reach (stepsL q) y z → S z = true := by
  intro y hy z hz
  induction hz with
  | one h => exact hno y hy _ h
  | more _ h ih => exact hS.closed _ ih _ h
 refine ⟨whole_place hP hS.whole hf, fun x hx y hy => ?_, fun x hx hxx => ?_⟩
 ·rw [placeL_iff] at hx ⊢
  rcases hx with hx | hx
  ·exact .inl (hS.closed x hx y hy)
  ·exact .inl (hno x hx y hy)
 ·rw [placeL_iff] at hx
  rcases hx with hx | hx
  ·exact hS.free x hx hxx
  ·exact hS.free x (hcl x hx x hxx) hxx
theorem find_what {S : Int → Bool} {f : Int} (h : (lows l q).find? (fun f => !S f && rdyG S (grp q f)) = some f) : f ∈ lows l q ∧ S f = false ∧ rdyG S (grp q f) = true := by
 have h1 := List.find?_some h
 have h2 := List.mem_of_find?_eq_some h
 simp only [Bool.and_eq_true, Bool.not_eq_true'] at h1
 exact ⟨h2, h1.1, h1.2⟩
theorem ordS_sound (hi : isC n l = true) (hP : GoodP l q) : ∀ (k : Nat) (S : Int → Bool), Sound l q S → Sound l q (ordS q (lows l q) k S)
 | 0, S, h => h
 | k + 1, S, h => by
  unfold ordS
  split
  ·exact h
  ·rename_i f hf
   obtain ⟨h1, h2, h3⟩ := find_what hf
   exact ordS_sound hi hP k _ (sound_place hi hP h h1 h2 h3)
/-- How many faces aren't placed. -/
def notYet (l : List Int) (S : Int → Bool) : Nat := l.countP fun f => !S f
theorem notYet_upd {f : Int} {S : Int → Bool} (hn : l.Nodup) (hf : f ∈ l) (hS : S f = false) : notYet l (upd S f true) + 1 = notYet l S := by
 unfold notYet
 induction l with
 | nil => cases hf
 | cons a l ih =>
  rw [List.nodup_cons] at hn
  by_cases e : a = f
  ·subst e
   rw [List.countP_cons, List.countP_cons]
   have : l.countP (fun x => !upd S a true x) = l.countP fun x => !S x := by
    apply List.countP_congr
    intro x hx
    have : x ≠ a := fun e => hn.1 (e ▸ hx)
    simp [upd, this]
   rw [this]
   simp [upd, hS]
  ·have hf' : f ∈ l := (List.mem_cons.1 hf).resolve_left (fun h => e h.symm)
   have := ih hn.2 hf'
   rw [List.countP_cons, List.countP_cons]
   have hu : upd S f true a = S a := by simp [upd, e]
   rw [hu]
   omega
theorem notYet_grp (hP : GoodP l q) (hn : l.Nodup) {S : Int → Bool} (hS : Whole q S) {f : Int} (hf : f ∈ lows l q) (hSf : S f = false) : notYet l (placeL S (grp q f)) + (grp q f).length = notYet l S := by
 have hfl := (lows_mem.1 hf).1
 unfold grp
 by_cases h : highL q f = 0
 ·rw [if_pos h]
  exact notYet_upd hn hfl hSf
 ·rw [if_neg h]
  rcases high_cases q f with ⟨h3, _⟩ | ⟨p, hp, h3, h4⟩
  ·exact absurd h3 h
  ·have hb := hP.mem p hp
   rw [h4, h3] at hb
   have hne : highL q f ≠ f := by intro e; rw [e] at hb; omega
   have hs1 : S (highL q f) = false := by
    cases hs : S (highL q f) with
    | false => rfl
    | true =>
     rw [← h4] at hs
     have := (hS p hp).2 hs
     rw [h3, hSf] at this
     cases this
   have h1 := notYet_upd hn hfl hSf
   have h2 := notYet_upd (S := upd S f true) hn hb.2.1.1 (f := highL q f) (by simp [upd, hne, hs1])
   show notYet l (upd (upd S f true) (highL q f) true) + 2 = _
   omega
theorem ord_count (hi : isC n l = true) (hP : GoodP l q) (hn : l.Nodup) : ∀ (k : Nat) (S : Int → Bool), Sound l q S → (ordR q (lows l q) k S).flatten.length + notYet l (ordS q (lows l q) k S) = notYet l S
 | 0, S, h => by simp [ordR, ordS]
 | k + 1, S, h => by
  unfold ordR ordS
  cases hfd : (lows l q).find? (fun f => !S f && rdyG S (grp q f)) with
  | none => simp
  | some f =>
   obtain ⟨h1, h2, h3⟩ := find_what hfd
   have := ord_count hi hP hn k _ (sound_place hi hP h h1 h2 h3)
   have h4 := notYet_grp hP hn h.whole h1 h2
   simp only [List.flatten_cons, List.length_append]
   omega
theorem notYet_zero {S : Int → Bool} : notYet l S = 0 ↔ ∀ x ∈ l, S x = true := by
 unfold notYet
 rw [List.countP_eq_zero]
 simp
theorem ord_full (hi : isC n l = true) (hg : GoodQ q) (hP : GoodP l q) (hn : l.Nodup) (hac : ∀ x, ¬ Reach (stepsL q) x x) : ∀ (k : Nat) (S : Int → Bool), Sound l q S → notYet l S < k → notYet l (ordS q (lows l q) k S) = 0
 | 0, S, h, hk => by omega
 | k + 1, S, h, hk => by
  unfold ordS
  cases hfd : (lows l q).find? (fun f => !S f && rdyG S (grp q f)) with
  | none =>
   rw [List.find?_eq_none] at hfd
   rw [notYet_zero]
   intro x hx
   have hlow : ∀ f ∈ lows l q, S f = true := by
    intro f hf
    cases hs : S f with
    | true => rfl
    | false =>
     obtain ⟨y, hy, hy2⟩ := ready_ex hi hg hP hac h.whole _ f hf hs (Nat.lt_succ_self _)
     exact absurd hy2 (hfd y hy)
   cases hxh : isHi q x with
   | false => exact hlow x (lows_mem.2 ⟨hx, hxh⟩)
   | true =>
    obtain ⟨p, hp, rfl⟩ := isHi_iff.1 hxh
    exact (h.whole p hp).1 (hlow _ (lows_mem.2 ⟨(hP.mem p hp).1.1, low_nohi hP hp⟩))
  | some f =>
   obtain ⟨h1, h2, h3⟩ := find_what hfd
   have h4 := notYet_grp hP hn h.whole h1 h2
   have hpos : 1 ≤ (grp q f).length := by unfold grp; split <;> simp
   exact ord_full hi hg hP hn hac k _ (sound_place hi hP h h1 h2 h3) (by omega)
theorem isC_nodup (hi : isC n l = true) : l.Nodup := (isC_faces hi).2.1.imp fun h => by omega
/-- All faces find a place if the pairing is acyclic, and only then. -/
theorem order_ok (hi : isC n l = true) (hp : pingB l q = true) : ((orderG l q).flatten.length = l.length) ↔ acycB q = true := by
 have hP := ping_P hi hp
 have hg := ping_good hi hp
 have hn := isC_nodup hi
 have h1 := ord_count hi hP hn 64 _ (sound_none (l := l) (q := q))
 have h0 : notYet l (fun _ => false) = l.length := by simp [notYet]
 have hl := (isC_faces hi).2.2.2
 have h2 := ordS_sound hi hP 64 _ (sound_none (l := l) (q := q))
 show (ordR q (lows l q) 64 fun _ => false).flatten.length = _ ↔ _
 rw [h0] at h1
 constructor
 ·intro h
  have h3 := notYet_zero.1 (show notYet l (ordS q (lows l q) 64 fun _ => false) = 0 by omega)
  unfold acycB
  rw [List.all_eq_true]
  intro p hpq
  rw [reachB_false (h2.free p.f0 (h3 p.f0 (hP.mem p hpq).1.1))]
  rfl
 ·intro h
  have := ord_full hi hg hP hn (acyc_no h) 64 _ sound_none (by omega)
  omega
end

end Go.Proofs.YtniikppojffiaaaGreat.K
end

section
/- Written by a program of this session (myprint.py over the kit's print). -/
namespace Go.Proofs.YtniikppojffiaaaGreat.D
open Go.RowKit Go.Proofs.YtniikppojffiaaaGreat.Q Go.Proofs.YtniikppojffiaaaGreatW.PrintWords Go.Proofs.YtniikppojffiaaaGreatW.PrintLast Go.Proofs.YtniikppojffiaaaGreatW.PrintMore
attribute [local go_sem] max2_int min2_int max_two min_two max_three min_three max_four min_four   -- for this text's walks alone
set_option linter.unusedVariables false
set_option linter.unusedSimpArgs false

/-! ### slices_Index_int64_int64: function 74 -/
def slices_Index_int64_int64.l0 : Nat → List Int → Int → Int → Int → Option (Int)
 | 0, _, _, _, _ => none
 | k + 1, x0, x1, x7, x8 => if x8 < x7 then (if 0 ≤ x8 then (if x8 < (x0.length : Int) then (if x1 = (rd x0 x8) then (some x8) else (slices_Index_int64_int64.l0 k x0 x1 x7 (wrap64 (x8 + 1)))) else (none)) else (none)) else (some (-1))
def slices_Index_int64_int64.f (k : Nat) (l0 : List Int) (a1 : Int) : Option (Int) := slices_Index_int64_int64.l0 k l0 a1 (l0.length : Int) 0
theorem slices_Index_int64_int64.mono_l : ∀ k, (∀ y0 y1 y2 y3, LeO (slices_Index_int64_int64.l0 k y0 y1 y2 y3) (slices_Index_int64_int64.l0 (k + 1) y0 y1 y2 y3))
 | 0 => fun _ _ _ _ r h => by simp [slices_Index_int64_int64.l0] at h
 | k + 1 => by
  have ih0 := slices_Index_int64_int64.mono_l k
  ·intro y0 y1 y2 y3
   unfold slices_Index_int64_int64.l0
   repeat' first
   | (with_reducible exact ih0 _ _ _ _)
   | (with_reducible exact LeO.refl _)
   | (with_reducible exact LeO.none _)
   | (with_reducible refine LeO.ite ?_ ?_)
   | (with_reducible refine LeO.bind ?_ (fun _ => ?_))
   | exact ih0 _ _ _ _
   | exact LeO.none _
   | refine LeO.ite ?_ ?_
   | refine LeO.bind ?_ (fun _ => ?_)
theorem slices_Index_int64_int64.mono : ∀ a0 a1 k, LeO (slices_Index_int64_int64.f k a0 a1) (slices_Index_int64_int64.f (k + 1) a0 a1) := by
 intro a0 a1 k
 have ih0 := slices_Index_int64_int64.mono_l k
 unfold slices_Index_int64_int64.f
 repeat' first
   | (with_reducible exact ih0 _ _ _ _)
   | (with_reducible exact LeO.refl _)
   | (with_reducible exact LeO.none _)
   | (with_reducible refine LeO.ite ?_ ?_)
   | (with_reducible refine LeO.bind ?_ (fun _ => ?_))
   | exact ih0 _ _ _ _
   | exact LeO.none _
   | refine LeO.ite ?_ ?_
   | refine LeO.bind ?_ (fun _ => ?_)
set_option maxHeartbeats 8000000 in
set_option maxRecDepth 100000 in
theorem slices_Index_int64_int64.calls (k : Nat) (A0 : Option Addr) (c0 : Nat) (l0 : List Int) (a1 : Int) (r : Int) (w : World) (hr0 : Kd.C (Kd.int .i64) w A0 l0.length l0) (hc0 : l0.length ≤ c0) (h : slices_Index_int64_int64.f k l0 a1 = some r) :
  Calls Tryz.prog 74 #[.slice A0 l0.length c0, .int .i64 a1] w fun e w' => e = .returned (.int .i64 r) ∧ Drawn0 w w' := by
 have HR0 := Aside0.mk hr0
 have HC0 := Aside0.mk hc0
 clear hr0 hc0
 have H : (slices_Index_int64_int64.l0 k l0 a1 (l0.length : Int) 0) = some r := h
 clear h
 have H' := Aside0.mk H
 clear H
 go_enter Tryz.func74, Tryz.ntmps74
 go_wp2
 go_loopg [8] k (fun kq v8 w' => ∃ (x8_1 : Int), v8 = .int .i64 x8_1 ∧ Aside0 (slices_Index_int64_int64.l0 kq l0 a1 (l0.length : Int) x8_1 = some r) ∧ Aside0 (kq ≤ k) ∧ Drawn0 w w')
 case atStart => exact ⟨(0), (by first | rfl | (simp; done) | (simp [*]; done)), H', ⟨Nat.le_refl _⟩, by repeat (first | exact Drawn0.refl _ | apply Drawn0.step)⟩
 case round =>
  clear H'
  try clear p2
  obtain ⟨x8_1, rfl, HA, HK1, ⟨m1, rfl⟩⟩ := hrel
  cases gk with
  | zero => exact absurd HA.out (by simp [slices_Index_int64_int64.l0])
  | succ k1 =>
   have H := HA.out
   clear HA
   simp only [slices_Index_int64_int64.l0] at H
   by_cases c3 : x8_1 < (l0.length : Int)
   ·rw [if_pos c3] at H
    have c3b0 : decide (x8_1 < (l0.length : Int)) = true := decide_eq_true c3
    clear c3
    by_cases c4 : 0 ≤ x8_1
    ·rw [if_pos c4] at H
     have c4b0 : decide (0 ≤ x8_1) = true := decide_eq_true c4
     clear c4
     by_cases c5 : x8_1 < (l0.length : Int)
     ·rw [if_pos c5] at H
      have c5b0 : decide (x8_1 < (l0.length : Int)) = true := decide_eq_true c5
      clear c5
      by_cases c6 : a1 = (rd l0 x8_1)
      ·rw [if_pos c6] at H
       have c6b0 : (a1 == (rd l0 x8_1)) = true := beq_iff_eq.mpr c6
       have c6b1 : (a1 != (rd l0 x8_1)) = false := bne_eq_false_iff_eq.mpr c6
       clear c6
       obtain rfl := Option.some.inj H
       have p101 : 0 ≤ (x8_1 : Int) := of_decide_eq_true (by first | (with_reducible assumption) | assumption)
       have q101 : x8_1 < (l0.length : Int) := of_decide_eq_true (by first | (with_reducible assumption) | assumption)
       obtain ⟨ad101, e101, hx101_0⟩ := Kd.at_int HR0.out x8_1 p101 q101
       cases e101
       replace p101 := eq_true p101
       replace q101 := eq_true q101
       go_wp2
       go_ret
       exact ⟨by first | rfl | (simp; done) | (simp [*]; done), by repeat (first | exact Drawn0.refl _ | apply Drawn0.step)⟩
      ·rw [if_neg c6] at H
       have c6b0 : (a1 == (rd l0 x8_1)) = false := beq_eq_false_iff_ne.mpr c6
       have c6b1 : (a1 != (rd l0 x8_1)) = true := bne_iff_ne.mpr c6
       have H' := Aside0.mk H
       clear H
       have p101 : 0 ≤ (x8_1 : Int) := of_decide_eq_true (by first | (with_reducible assumption) | assumption)
       have q101 : x8_1 < (l0.length : Int) := of_decide_eq_true (by first | (with_reducible assumption) | assumption)
       obtain ⟨ad101, e101, hx101_0⟩ := Kd.at_int HR0.out x8_1 p101 q101
       cases e101
       replace p101 := eq_true p101
       replace q101 := eq_true q101
       go_wp2
       go_roundg k1
       case measure => have := HK1.out; omega
       case rel => exact ⟨(wrap64 (x8_1 + 1)), (by first | rfl | (simp; done) | (simp [*]; done)), H', ⟨by have := HK1.out; omega⟩, by repeat (first | exact Drawn0.refl _ | apply Drawn0.step)⟩
     ·rw [if_neg c5] at H
      exact absurd H (by simp)
    ·rw [if_neg c4] at H
     exact absurd H (by simp)
   ·rw [if_neg c3] at H
    have c3b0 : decide (x8_1 < (l0.length : Int)) = false := decide_eq_false c3
    clear c3
    obtain rfl := Option.some.inj H
    go_wp2
    go_ret
    exact ⟨by first | rfl | (simp; done) | (simp [*]; done), by repeat (first | exact Drawn0.refl _ | apply Drawn0.step)⟩

/-! ### slices_Contains_int64_int64: function 48 -/
def slices_Contains_int64_int64.f (k : Nat) (l0 : List Int) (a1 : Int) : Option (Bool) := (slices_Index_int64_int64.f k l0 a1).bind fun t102 => (some (decide (t102 ≥ 0)))
theorem slices_Contains_int64_int64.mono : ∀ a0 a1 k, LeO (slices_Contains_int64_int64.f k a0 a1) (slices_Contains_int64_int64.f (k + 1) a0 a1) := by
 intro a0 a1 k
 unfold slices_Contains_int64_int64.f
 repeat' first
   | (with_reducible exact slices_Index_int64_int64.mono _ _ _)
   | (with_reducible exact LeO.refl _)
   | (with_reducible exact LeO.none _)
   | (with_reducible refine LeO.ite ?_ ?_)
   | (with_reducible refine LeO.bind ?_ (fun _ => ?_))
   | exact slices_Index_int64_int64.mono _ _ _
   | exact LeO.none _
   | refine LeO.ite ?_ ?_
   | refine LeO.bind ?_ (fun _ => ?_)
set_option maxHeartbeats 8000000 in
set_option maxRecDepth 100000 in
theorem slices_Contains_int64_int64.calls (k : Nat) (A0 : Option Addr) (c0 : Nat) (l0 : List Int) (a1 : Int) (r : Bool) (w : World) (hr0 : Kd.C (Kd.int .i64) w A0 l0.length l0) (hc0 : l0.length ≤ c0) (h : slices_Contains_int64_int64.f k l0 a1 = some r) :
  Calls Tryz.prog 48 #[.slice A0 l0.length c0, .int .i64 a1] w fun e w' => e = .returned (.bool r) ∧ Drawn0 w w' := by
 have HR0 := Aside0.mk hr0
 have HC0 := Aside0.mk hc0
 clear hr0 hc0
 have H : ((slices_Index_int64_int64.f k l0 a1).bind fun t102 => (some (decide (t102 ≥ 0)))) = some r := h
 clear h
 replace H := Option.bind_eq_some_iff.mp H
 obtain ⟨t102, A30, H⟩ := H
 replace H : (some (decide (t102 ≥ 0))) = some r := H
 have A3 := Aside0.mk A30
 clear A30
 obtain rfl := Option.some.inj H
 go_enter Tryz.func48, Tryz.ntmps48
 go_wp2_with (first | ((with_reducible refine gate_callee (f := 74) rfl ?_); refine goesL_ (some 7) rfl rfl Tryz.func74 (by kernel_rfl) rfl #[.slice A0 l0.length c0, .int .i64 a1] rfl (by (try simp only [List.map_toArray, List.map_cons, List.map_nil]); first | done | rfl | (simp only [List.length_drop, List.length_take]; rfl)) ?_; (with_reducible refine (slices_Index_int64_int64.calls k _ _ l0 a1 t102 _ ?side1 ?side2 A3.out).mono ?_); (case side1 => repeat (first | exact HR0.out | (with_reducible refine Kd.C_alloc ?_ _) | (with_reducible refine Kd.C_drewN ?_ _) | (with_reducible refine Kd.C_drew ?_))); (case side2 => exact HC0.out); rintro e w' ⟨rfl, ⟨nd, rfl⟩⟩; refine ⟨_, rfl, ?_⟩))
 go_ret
 exact ⟨by first | rfl | (simp; done) | (simp [*]; done), by repeat (first | exact Drawn0.refl _ | apply Drawn0.step)⟩


/-! ### cmp_Compare_int64: function 41 -/
end Go.Proofs.YtniikppojffiaaaGreat.D
end

section
/- The closures of groups. -/
namespace Go.Proofs.YtniikppojffiaaaGreat.K
open Go.RowKit Go.Shelf Go.Proofs.YtniikppojffiaaaGreat.Q Go.Proofs.YtniikppojffiaaaGreat.D Go.Proofs.YtniikppojffiaaaGreatW.PrintWords Go.Proofs.YtniikppojffiaaaGreatW.PrintLast Go.Proofs.YtniikppojffiaaaGreatW.PrintMore
set_option linter.unusedVariables false
set_option linter.unusedSimpArgs false

theorem cont_loop (l : List Int) (x : Int) (hl : l.length ≤ 2097152) : ∀ (e i k : Nat), l.length - i = e → i ≤ l.length → e < k →
  ∃ r, slices_Index_int64_int64.l0 k l x (l.length : Int) (i : Int) = some r ∧ decide (r ≥ 0) = (l.drop i).contains x := by
 intro e
 induction e with
 | zero =>
  intro i k he hi hk
  obtain ⟨k, rfl⟩ : ∃ m, k = m + 1 := ⟨k - 1, by omega⟩
  obtain rfl : i = l.length := by omega
  refine ⟨-1, ?_, ?_⟩
  ·simp only [slices_Index_int64_int64.l0]
   rw [if_neg (by omega)]
  ·rw [List.drop_eq_nil_of_le (Nat.le_refl _)]; rfl
 | succ e ih =>
  intro i k he hi hk
  obtain ⟨k, rfl⟩ : ∃ m, k = m + 1 := ⟨k - 1, by omega⟩
  have hil : i < l.length := by omega
  simp only [slices_Index_int64_int64.l0]
  rw [if_pos (by omega), if_pos (by omega), if_pos (by omega), rd_nat l i hil, w64 ((i : Int) + 1) (by omega) (by omega), nat_succ, List.drop_eq_getElem_cons hil, List.contains_cons]
  by_cases h : x = l[i]
  ·rw [if_pos h]
   refine ⟨(i : Int), rfl, ?_⟩
   have h1 : decide ((i : Int) ≥ 0) = true := decide_eq_true (by omega)
   rw [h1, h]
   simp
  ·rw [if_neg h]
   obtain ⟨r, h1, h2⟩ := ih (i + 1) k (by omega) (by omega) (by omega)
   have h3 : (x == l[i]) = false := by simpa using h
   exact ⟨r, h1, by rw [h2, h3, Bool.false_or]⟩
theorem Contains_calls (A : Option Addr) (c : Nat) (l : List Int) (x : Int) (w : World) (hr : Ki.C w A l.length l) (hc : l.length ≤ c) (hl : l.length ≤ 2097152) :
  Calls Tryz.prog 48 #[.slice A l.length c, I x] w fun e w' => e = .returned (.bool (l.contains x)) ∧ Grew w w' := by
 obtain ⟨r, h1, h2⟩ := cont_loop l x hl l.length 0 (l.length + 1) (by omega) (by omega) (by omega)
 rw [List.drop_zero] at h2
 have hf : slices_Contains_int64_int64.f (l.length + 1) l x = some (l.contains x) := by
  unfold slices_Contains_int64_int64.f slices_Index_int64_int64.f
  rw [show ((0 : Nat) : Int) = 0 from rfl] at h1
  rw [h1, ← h2]
  rfl
 refine (slices_Contains_int64_int64.calls (l.length + 1) A c l x _ w hr hc hf).mono ?_
 rintro e w' ⟨rfl, hd⟩
 exact ⟨rfl, hd.below⟩
set_option maxRecDepth 100000 in
set_option maxHeartbeats 4000000 in
theorem Grp3_calls (g : Int) (hg : 1 ≤ g ∧ g ≤ 63) (Bd Bo b m : Nat) (S : Int → Bool) (A : Option Addr) (c : Nat) (own : List Int) (w : World) (hd : w.cell? ⟨Bd, 0, none⟩ = some (.map (some b))) (hS : SetM w b m S) (ho : w.cell? ⟨Bo, 0, none⟩ = some (.slice A own.length c)) (hr : Ki.C w A own.length own) (hc : own.length ≤ c) (hl : own.length ≤ 2) :
  Calls Tryz.prog 47 #[I g, .pointer (some ⟨Bd, 0, none⟩), .pointer (some ⟨Bo, 0, none⟩)] w fun e w' => e = .returned (.bool (S g || own.contains g)) ∧ Grew w w' := by
 have hlk := hS.look g (wf_face hg.1 hg.2)
 have HCT := Aside0.mk (fun (W : World) (h : Grew w W) => Contains_calls A c own g W (Kd.C_below hr h) hc (by omega))
 clear hS hr hc hl
 generalize own.contains g = oc at HCT ⊢
 generalize S g = sg at hlk ⊢
 cases sg with
 | true =>
  go_enter Tryz.func47, Tryz.ntmps47
  go_wp2_with fail
  go_ret
  exact ⟨rfl, by repeat (first | exact Grew.refl w | apply below_drew | apply pw_below_drewN | apply below_alloc)⟩
 | false =>
  go_enter Tryz.func47, Tryz.ntmps47
  go_wp2_with fail
  refine (HCT.out _ (by repeat (first | exact Grew.refl w | apply below_drew | apply pw_below_drewN | apply below_alloc))).mono ?_
  rintro e w1 ⟨rfl, hG1⟩
  have HG := Aside0.mk (Grew.trans (by repeat (first | exact Grew.refl w | apply below_drew | apply pw_below_drewN | apply below_alloc)) hG1)
  clear hG1
  go_wp2_with fail
  go_ret
  exact ⟨by rw [Bool.false_or]; rfl, HG.out⟩
/-- The boxes of a group's question. -/
structure GrpB (w : World) (Bd Bo b m : Nat) (S : Int → Bool) (A : Option Addr) (c : Nat) (own : List Int) : Prop where
 d : w.cell? ⟨Bd, 0, none⟩ = some (.map (some b))
 s : SetM w b m S
 o : w.cell? ⟨Bo, 0, none⟩ = some (.slice A own.length c)
 r : Ki.C w A own.length own
 c : own.length ≤ c
 l : own.length ≤ 2
theorem GrpB.later {w w' : World} {Bd Bo b m : Nat} {S : Int → Bool} {A : Option Addr} {c : Nat} {own : List Int} (h : GrpB w Bd Bo b m S A c own) (hg : Grew w w') : GrpB w' Bd Bo b m S A c own :=
 ⟨(Below.cell hg (p := ⟨Bd, 0, none⟩) (World.block_lt_of_cell? w _ h.d)).trans h.d, h.s.later hg, (Below.cell hg (p := ⟨Bo, 0, none⟩) (World.block_lt_of_cell? w _ h.o)).trans h.o, Kd.C_below h.r hg, h.c, h.l⟩
set_option maxRecDepth 100000 in
set_option maxHeartbeats 4000000 in
theorem Grp2_calls (f : Int) (hf : 1 ≤ f ∧ f ≤ 63) (Bd Bo b m : Nat) (S : Int → Bool) (A : Option Addr) (c : Nat) (own : List Int) (w : World) (h : GrpB w Bd Bo b m S A c own) :
  Calls Tryz.prog 45 #[I f, .pointer (some ⟨Bd, 0, none⟩), .pointer (some ⟨Bo, 0, none⟩)] w fun e w' => e = .returned (.bool ((bords f).all fun g => S g || own.contains g)) ∧ Grew w w' := by
 have H := Aside0.mk h
 have HB := Aside0.mk (fun (W : World) => borders_calls f W)
 have HALL := Aside0.mk (fun (W : World) (hW : Grew w W) (A1 : Option Addr) (c1 : Nat) (hr : Ki.C W A1 (bords f).length (bords f)) (hc : (bords f).length ≤ c1) =>
  areAll_int (fun g => S g || own.contains g) A1 c1 (bords f) 47 #[] #[.pointer (some ⟨Bd, 0, none⟩), .pointer (some ⟨Bo, 0, none⟩)] W hr hc (by have := bords_length f; omega) (enters_of Tryz.func47 (by kernel_rfl) rfl)
   (fun x hx W2 hW2 => by
    have hx2 := bords_in f (by omega) hf.2 x hx
    have h2 := h.later (Grew.trans hW hW2)
    exact Grp3_calls x hx2 Bd Bo b m S A c own W2 h2.d h2.s h2.o h2.r h2.c h2.l))
 clear h
 generalize ((bords f).all fun g => S g || own.contains g) = r at HALL ⊢
 go_enter Tryz.func45, Tryz.ntmps45
 go_wp2_with fail
 refine (HB.out _).mono ?_
 rintro e w1 ⟨v1, rfl, hR1, hG1⟩
 obtain ⟨A1, c1, rfl, hc1, hC1⟩ := Kd.R_reads hR1
 have HG1 : Aside0 (Grew w w1) := ⟨Grew.trans (by repeat (first | exact Grew.refl w | apply below_drew | apply pw_below_drewN | apply below_alloc)) hG1⟩
 have HC1 := Aside0.mk hC1
 have HCC := Aside0.mk hc1
 clear hR1 hG1 hC1 hc1
 go_wp2_with fail
 refine (HALL.out _ HG1.out A1 c1 HC1.out HCC.out).mono ?_
 rintro e w2 ⟨rfl, hG2⟩
 have HG2 := Aside0.mk (Grew.trans HG1.out hG2)
 clear hG2
 go_wp2_with fail
 go_ret
 exact ⟨rfl, HG2.out⟩
set_option maxRecDepth 100000 in
set_option maxHeartbeats 4000000 in
theorem Grp1_calls (Bd b m : Nat) (S : Int → Bool) (A : Option Addr) (c : Nat) (own : List Int) (w : World) (hd : w.cell? ⟨Bd, 0, none⟩ = some (.map (some b))) (hS : SetM w b m S) (hr : Ki.C w A own.length own) (hc : own.length ≤ c) (hl : own.length ≤ 2) (hrg : ∀ x ∈ own, 1 ≤ x ∧ x ≤ 63) :
  Calls Tryz.prog 43 #[.slice A own.length c, .pointer (some ⟨Bd, 0, none⟩)] w fun e w' => e = .returned (.bool (rdyG S own)) ∧ Grew w w' := by
 obtain ⟨W1, hW1⟩ : ∃ W1, W1 = w.alloc (.cells #[.slice A own.length c] 22) := ⟨_, rfl⟩
 have hB : W1.heap[w.heap.size]? = some (.cells #[.slice A own.length c] 22 (0, 0)) := by rw [hW1]; exact blk_new w _
 have hG1 : Grew w W1 := by rw [hW1]; exact below_alloc (Grew.refl w) _
 have k0 : W1.cell? ⟨w.heap.size, 0, none⟩ = some (.slice A own.length c) := blk_cell hB 0
 have hgb : GrpB W1 Bd w.heap.size b m S A c own := ⟨(Below.cell hG1 (p := ⟨Bd, 0, none⟩) (World.block_lt_of_cell? w _ hd)).trans hd, hS.later hG1, k0, Kd.C_below hr hG1, hc, hl⟩
 have H := Aside0.mk (fun (W : World) (hW : Grew W1 W) => areAll_int (fun f => (bords f).all fun g => S g || own.contains g) A c own 45 #[] #[.pointer (some ⟨Bd, 0, none⟩), .pointer (some ⟨w.heap.size, 0, none⟩)] W (Kd.C_below hr (Grew.trans hG1 hW)) hc (by omega) (enters_of Tryz.func45 (by kernel_rfl) rfl)
   (fun x hx W2 hW2 => Grp2_calls x (hrg x hx) Bd w.heap.size b m S A c own W2 (hgb.later (Grew.trans hW hW2))))
 have HG1 := Aside0.mk hG1
 have HRD : Aside0 ((own.all fun f => (bords f).all fun g => S g || own.contains g) = rdyG S own) := ⟨rfl⟩
 clear hgb hB hG1 hS hr hc hl hrg
 generalize (own.all fun f => (bords f).all fun g => S g || own.contains g) = r at H HRD
 rw [← HRD.out]
 subst hW1
 go_enter Tryz.func43, Tryz.ntmps43
 go_wp2_with fail
 refine (H.out _ (by repeat (first | exact Grew.refl _ | apply below_drew | apply pw_below_drewN))).mono ?_
 rintro e w2 ⟨rfl, hG2⟩
 have HG2 := Aside0.mk (Grew.trans HG1.out (Grew.trans (by repeat (first | exact Grew.refl _ | apply below_drew | apply pw_below_drewN)) hG2))
 clear hG2
 go_wp2_with fail
 go_ret
 exact ⟨rfl, HG2.out⟩
theorem isNaNI (x : Int) (w : World) : Calls Tryz.prog 69 #[I x] w fun e w' => e = .returned (.bool false) ∧ w' = w := by
 go_enter Tryz.func69, Tryz.ntmps69
 go_wp2
 go_ret
 exact ⟨by simp, rfl⟩
set_option maxHeartbeats 1000000 in
theorem cmpE (x y : Int) (w : World) : Calls Tryz.prog 41 #[I x, I y] w fun e w' => e = .returned (I (cmp1 x y)) ∧ w' = w := by
 go_enter Tryz.func41, Tryz.ntmps41
 go_wp2_with (go_at_call 69; refine (isNaNI _ _).mono ?_; rintro e w' ⟨rfl, hw⟩; rw [hw])
 all_goals (go_ret; refine ⟨?_, rfl⟩; unfold cmp1; (repeat' split) <;> first | rfl | (exfalso; omega))
set_option maxRecDepth 100000 in
set_option maxHeartbeats 4000000 in
/-- Two groups held against each other by their first faces. -/
theorem GrpCmp_calls (a b : RowT) (x y : Int) (w : World) (ha : Ki.C w a.A a.xs.length a.xs) (hb : Ki.C w b.A b.xs.length b.xs) (hx : a.xs.head? = some x) (hy : b.xs.head? = some y) :
  Calls Tryz.prog 40 #[a.v, b.v] w fun e w' => e = .returned (I (cmp1 x y)) ∧ ∃ q, w' = w.drewN q := by
 have hal : 0 < a.xs.length := by cases h : a.xs with | nil => rw [h] at hx; cases hx | cons _ _ => simp
 have hbl : 0 < b.xs.length := by cases h : b.xs with | nil => rw [h] at hy; cases hy | cons _ _ => simp
 obtain ⟨ad, e1, h1⟩ := Kd.at_int ha (0 : Int) (by omega) (by omega)
 obtain ⟨bd, e2, h2⟩ := Kd.at_int hb (0 : Int) (by omega) (by omega)
 have ex : a.xs = x :: a.xs.tail := by cases h : a.xs with | nil => rw [h] at hx; cases hx | cons u v => rw [h] at hx; cases hx; rfl
 have ey : b.xs = y :: b.xs.tail := by cases h : b.xs with | nil => rw [h] at hy; cases hy | cons u v => rw [h] at hy; cases hy; rfl
 have r1 : rd a.xs 0 = x := by rw [ex]; rfl
 have r2 : rd b.xs 0 = y := by rw [ey]; rfl
 rw [r1] at h1
 rw [r2] at h2
 simp only [Int.toNat_zero, Addr.add_zero'] at h1 h2
 have HC := Aside0.mk (fun (W : World) => cmpE x y W)
 unfold RowT.v
 rw [e1, e2]
 have hal2 : 0 < a.xs.length := hal
 have hbl2 : 0 < b.xs.length := hbl
 have hl1 := World.block_lt_of_cell? w _ h1
 have hl2 := World.block_lt_of_cell? w _ h2
 generalize a.xs.length = la at hal2
 generalize b.xs.length = lb at hbl2
 clear ha hb hx hy ex ey r1 r2 e1 e2 hal hbl
 generalize cmp1 x y = r at HC ⊢
 go_enter Tryz.func40, Tryz.ntmps40
 go_wp2_with fail
 refine start_ (n := 8) (S := fun w' => w'.cell? ad = some (I x) ∧ w'.cell? bd = some (I y)) (ds := []) (ar 0 8) (by kernel_rfl) rfl rfl ⟨(Below.cell (w := w) (below_drew (Grew.refl w)) (p := ad) hl1).trans h1, (Below.cell (w := w) (below_drew (Grew.refl w)) (p := bd) hl2).trans h2⟩ (fun hHeld => ?_)
 refine pure_ (i := 0) (N := some 5) (v := ?_) (a' := ?_) (ar 1 7) rfl rfl (by kernel_rfl) hh_ (Or.inl ⟨by rfl, ?_⟩) ?_ ?_; rotate_left; (intro w'; go_simp; with_reducible rfl); rotate_left; · simp only [nm_]; rfl
 refine pure_ (i := 1) (N := some 6) (v := ?_) (a' := ?_) (ar 2 6) rfl rfl (by kernel_rfl) hh_ (Or.inl ⟨by rfl, ?_⟩) ?_ ?_; rotate_left; (intro w'; go_simp; with_reducible rfl); rotate_left; · simp only [nm_]; rfl
 refine pure_ (i := 3) (N := some 8) (v := ?_) (a' := ?_) #[U,U,O,U,O,O,O,O] rfl rfl (by kernel_rfl) hh_ (Or.inl ⟨by rfl, ?_⟩) ?_ ?_; rotate_left; (intro w'; go_simp; with_reducible rfl); rotate_left; · simp only [nm_]; rfl
 refine pure_ (i := 4) (N := some 9) (v := ?_) (a' := ?_) #[U,U,O,U,U,O,O,O] rfl rfl (by kernel_rfl) hh_ (Or.inl ⟨by rfl, ?_⟩) ?_ ?_; rotate_left; (intro w'; go_simp; with_reducible rfl); rotate_left; · simp only [nm_]; rfl
 refine take_ (i := 2) (N := some 7) (v := ?_) (a' := ?_) (ar 5 3) rfl rfl (by kernel_rfl) hh_ (Or.inl ⟨by rfl, ?_⟩) hHeld ?_ ?_
 rotate_left; · rintro w' ⟨s0, s1⟩; go_simp; with_reducible rfl
 rotate_left; · simp only [nm_]; rfl
 refine take_ (i := 5) (N := some 10) (v := ?_) (a' := ?_) (ar 6 2) rfl rfl (by kernel_rfl) hh_ (Or.inl ⟨by rfl, ?_⟩) hHeld ?_ ?_
 rotate_left; · rintro w' ⟨s0, s1⟩; go_simp; with_reducible rfl
 rotate_left; · simp only [nm_]; rfl
 refine one_ (i := 6) (N := some 11) (ar 7 1) rfl rfl (by kernel_rfl) (by decide) (fun K hK => ?_)
 refine goes_ Tryz.func41 (by kernel_rfl) rfl #[I x, I y] (by rfl) rfl rfl (by simp only [List.map_toArray, List.map_cons, List.map_nil]; rfl) ?_
 with_reducible refine (HC.out _).mono ?_
 rintro e w3 ⟨rfl, hw3⟩
 refine ⟨_, rfl, ?_⟩
 subst hw3
 refine hK.out _ _ ⟨(Below.cell (w := w) (below_drew (Grew.refl w)) (p := ad) hl1).trans h1, (Below.cell (w := w) (below_drew (Grew.refl w)) (p := bd) hl2).trans h2⟩ (fun hHeld => ?_)
 clear hK K
 refine norm_ (a' := ?_) ?_ ?_
 rotate_left
 ·show Act.put _ (some 11) _ = _
  simp only [nm_]
  rfl
 refine pure_ (i := 7) (N := some 4) (v := ?_) (a' := ?_) (ar 8 0) rfl rfl (by kernel_rfl) hh_ (Or.inl ⟨by rfl, ?_⟩) ?_ ?_; rotate_left; (intro w'; go_simp; with_reducible rfl); rotate_left; · simp only [nm_]; rfl
 refine done_ (by kernel_rfl) ?_
 go_wp2_with fail
 go_ret
 exact ⟨rfl, 1, rfl⟩

end Go.Proofs.YtniikppojffiaaaGreat.K
end

section
/- Groups in memory: sorted by their first faces; one cut out. -/
namespace Go.Proofs.YtniikppojffiaaaGreat.K
open Go.RowKit Go.Shelf Go.Lib Go.Sort Go.Proofs.YtniikppojffiaaaGreatW.PrintWords Go.Proofs.YtniikppojffiaaaGreatW.PrintLast Go.Proofs.YtniikppojffiaaaGreatW.PrintMore
set_option linter.unusedVariables false
set_option linter.unusedSimpArgs false

abbrev TI : TypeId := 2
abbrev TV : TypeId := 22
/-- A group's faces lie in a block of their own. -/
def GIn (w : World) (r : RowT) : Prop := ∃ k, r.A = some ⟨k, 0, none⟩ ∧ r.c = r.xs.length ∧ w.heap[k]? = some (.cells (r.xs.map (Value.int .i64)).toArray TI (0, 0))
theorem GIn.same {w w' : World} {r : RowT} (h : GIn w r) (hs : ∀ (k : Nat) (cells : Array Value), w.heap[k]? = some (Obj.cells cells TI (0, 0)) → w'.heap[k]? = w.heap[k]?) : GIn w' r := by
 obtain ⟨k, h1, h2, h3⟩ := h
 exact ⟨k, h1, h2, (hs k _ h3).trans h3⟩
theorem GIn.later {w w' : World} {r : RowT} (h : GIn w r) (hg : Grew w w') : GIn w' r := h.same fun k cells hk => hg.block k (Array.getElem?_eq_some_iff.1 hk).1
theorem GIn.grown {w w' : World} {r : RowT} (h : GIn w r) {G : Nat} {cells : Array Value} (hG : w.heap[G]? = some (.cells cells TV (0, 0))) (hg : w.grownBy w' (some G)) : GIn w' r :=
 h.same fun k cs hk => hg.block k (Array.getElem?_eq_some_iff.1 hk).1 (fun e => by
  injection e with e
  subst e
  rw [hG] at hk
  injection hk with hk
  injection hk with _ hk
  exact absurd hk (by decide))
theorem GIn.C {w : World} {r : RowT} (h : GIn w r) (hl : r.xs.length ≤ 9223372036854775807) : Ki.C w r.A r.xs.length r.xs := by
 obtain ⟨k, h1, h2, h3⟩ := h
 rw [h1]
 refine Kd.C_of_reads (d := (0 : Int)) ⟨rfl, hl, fun h0 => ⟨_, rfl, fun j hj => ?_⟩⟩
 have := blk_cell h3 j
 have e : (⟨k, 0, none⟩ : Addr).add j = ⟨k, j, none⟩ := by simp only [Addr.add]; split <;> simp_all
 rw [e, this]
 simp [hj]
theorem grownBy_putV {α : Type} [Inhabited α] (enc : α → Value) {w : World} {g n : Nat} {os : Array Obj} (d : Array α) : w.grownBy (grow (putRow enc (Sort.ahead w n) g 0 d) os) (some g) := by
 refine ⟨rfl, rfl, rfl, by simp [putRow, mapBlock, Sort.ahead, grow], fun k hk hne => ?_⟩
 rw [heap_grow_old _ _ (by simpa [putRow, mapBlock, Sort.ahead] using hk)]
 have : g ≠ k := fun e => hne (by rw [e])
 simp [putRow, mapBlock, Sort.ahead, Array.getElem?_modify, this]
/-- The first face of a group. -/
def fst0 (r : RowT) : Int := r.xs.headD 0
theorem ltG (x y : Int) : decide (cmp1 x y < 0) = decide (x < y) := by
 unfold cmp1
 by_cases h : x < y
 ·simp [h]
 ·by_cases h2 : y < x <;> simp [h, h2]
theorem permIn_list {α : Type} [Inhabited α] {d d' : Array α} (h : PermIn 0 d.size d d') : d'.toList.Perm d.toList := by
 obtain ⟨h1, _, h3⟩ := h
 have e1 : d'.extract 0 d.size = d' := by rw [← h1]; simp
 have e2 : d.extract 0 d.size = d := by simp
 rwa [e1, e2] at h3
theorem sortedIn_list {α : Type} [Inhabited α] {lt : α → α → Bool} {d : Array α} (h : SortedIn lt 0 d.size d) : d.toList.Pairwise fun a b => lt b a = false := by
 rw [List.pairwise_iff_getElem]
 intro i j hi hj hij
 have := h i j (Nat.zero_le _) hij (by simpa using hj)
 simp only [Array.length_toList] at hi hj
 rw [getElem!_pos d j hj, getElem!_pos d i hi] at this
 simpa using this
set_option maxHeartbeats 2000000 in
theorem SortV_calls {base : Nat} {G c : Nat} (vs : List RowT) (w : World) (hR : Kr.R TV w base (fun _ => True) (.slice (some ⟨G, 0, none⟩) vs.length c) vs) (hin : ∀ r ∈ vs, GIn w r ∧ r.xs ≠ [] ∧ r.xs.length ≤ 2) (hne : vs ≠ []) (hl : vs.length ≤ 1000000000) :
  Calls Tryz.prog 39 #[.slice (some ⟨G, 0, none⟩) vs.length c, .func (.func 40) #[] #[]] w fun e w' =>
   e = .returned (.tuple #[]) ∧ ∃ vs', vs'.Perm vs ∧ vs'.Pairwise (fun a b => ¬ fst0 b < fst0 a) ∧ Kr.R TV w' base (fun _ => True) (.slice (some ⟨G, 0, none⟩) vs.length c) vs' ∧ w.grownBy w' (some G) := by
 have hG : G < w.heap.size := Kd.R_lt hR G (by simp [Value.ownBlock])
 have hb : base ≤ G := Kd.R_base hR G (by simp [Value.ownBlock])
 obtain ⟨cells, hcells⟩ := Kd.R_typed hR G (by simp [Value.ownBlock])
 let α := { r : RowT // GIn w r ∧ r.xs ≠ [] ∧ r.xs.length ≤ 2 }
 obtain ⟨r0, hr0⟩ := List.exists_mem_of_ne_nil vs hne
 haveI : Inhabited α := ⟨⟨r0, hin r0 hr0⟩⟩
 let enc : α → Value := fun x => x.1.v
 let cf : α → α → Int := fun x y => cmp1 (fst0 x.1) (fst0 y.1)
 have hlt : ∀ x y : α, ltOf cf x y = decide (fst0 x.1 < fst0 y.1) := fun x y => ltG _ _
 have hO : SWO (ltOf cf) := {
  irrefl := fun x => by rw [hlt]; simp
  trans := fun x y z h1 h2 => by rw [hlt] at *; simp at *; omega
  ntrans := fun x y z h1 h2 => by rw [hlt] at *; simp at *; omega }
 let zs : List α := vs.attachWith _ hin
 have hzs : zs.map Subtype.val = vs := List.attachWith_map_subtype_val hin
 have hzl : zs.length = vs.length := by rw [← hzs]; simp
 have hown : w.ownsRow base TV 1 (.slice (some ⟨G, 0, none⟩) vs.length c) vs.length (zs.map enc) := by
  have h := Kd.own_of_R hR
  have e : zs.map enc = encs RowT.v vs := by
   show zs.map (fun x => RowT.v x.1) = vs.map RowT.v
   rw [← hzs, List.map_map]
   rfl
  rw [e]
  exact h
 have hH : Holds enc w G 0 zs.toArray := fun j hj => by
  have h := Kd.R_cell (d := nilT) (h1 := RowT.one) hR (j : Int) (by omega) (by rw [← hzl]; simpa using hj)
  rw [Int.toNat_natCast] at h
  have hj2 : j < vs.length := by rw [← hzl]; simpa using hj
  have hj3 : j < zs.length := by rw [hzl]; exact hj2
  have e1 : rdOf nilT vs (j : Int) = vs[j] := by simp [rdOf, hj2]
  have e2 : vs[j] = (zs[j]'hj3).1 := by
   have : (zs.map Subtype.val)[j]'(by simpa using hj3) = vs[j] := by simp [hzs]
   rw [← this]
   simp
  have e3 : zs.toArray[j]! = zs[j]'hj3 := by simp [hj3]
  rw [e1, e2] at h
  rw [Nat.zero_add, e3]
  exact h
 have hcmp : CmpReads Tryz.prog 40 #[] enc cf G 0 zs.toArray.size w := by
  intro m os dk hdk x y
  have hgw : w.grownBy (sortWorld enc w G 0 m dk os) (some G) := grownBy_putV enc dk
  have hx := x.2.1.grown hcells hgw
  have hy := y.2.1.grown hcells hgw
  have h1 : x.1.xs.head? = some (fst0 x.1) := by
   unfold fst0
   cases h : x.1.xs with
   | nil => exact absurd h x.2.2.1
   | cons u v => rfl
  have h2 : y.1.xs.head? = some (fst0 y.1) := by
   unfold fst0
   cases h : y.1.xs with
   | nil => exact absurd h y.2.2.1
   | cons u v => rfl
  have hx2 := x.2.2.2
  have hy2 := y.2.2.2
  have := GrpCmp_calls x.1 y.1 (fst0 x.1) (fst0 y.1) (sortWorld enc w G 0 m dk os) (hx.C (by omega)) (hy.C (by omega)) h1 h2
  exact this
 have hS := Any.slices_SortFunc SortV enc (fun _ => rfl) cf hO 40 #[] G 0 c zs.toArray w (enters_of Tryz.func40 (by kernel_rfl) rfl) hcmp.lays hH hG (by simp [hzl]; omega)
 have hsz : zs.toArray.size = vs.length := by simp [hzl]
 rw [hsz] at hS
 refine (show Calls Tryz.prog 39 _ _ _ from hS).mono ?_
 rintro e w' ⟨rfl, d', n, os, hp, hs, rfl⟩
 rw [← hsz] at hp hs
 have hdl : d'.toList.length = vs.length := by rw [(permIn_list hp).length_eq]; simp [hzl]
 have hsz' : d'.size = vs.length := by rw [← Array.length_toList]; exact hdl
 have hs2 : SortedIn (ltOf cf) 0 d'.size d' := by rw [hsz', ← hsz]; exact hs
 refine ⟨rfl, d'.toList.map Subtype.val, ?_, ?_, ?_, grownBy_putV enc d'⟩
 ·have := (permIn_list hp).map Subtype.val
  rwa [show zs.toArray.toList = zs by simp, hzs] at this
 ·rw [List.pairwise_map]
  refine (sortedIn_list hs2).imp fun {a b} h => ?_
  rw [hlt] at h
  simpa using h
 ·have ho := ownsRow_putRow (q := n) (k := vs.length) hown (ys := d'.toList) hdl (Nat.le_refl _)
  rw [Array.toArray_toList] at ho
  have ho2 : (sortWorld enc w G 0 n d' os).ownsRow base TV 1 (.slice (some ⟨G, 0, none⟩) vs.length c) (d'.toList.map Subtype.val).length (encs RowT.v (d'.toList.map Subtype.val)) := by
   have e : (d'.toList.take vs.length).map enc = encs RowT.v (d'.toList.map Subtype.val) := by
    rw [List.take_of_length_le (by omega)]
    show _ = (d'.toList.map Subtype.val).map RowT.v
    rw [List.map_map]
    rfl
   rw [e] at ho
   rw [List.length_map, hdl]
   exact ho.kept (row := none) ⟨rfl, rfl, rfl, by rw [show sortWorld enc w G 0 n d' os = grow (putRow enc (Sort.ahead w n) G 0 d') os from rfl, size_grow]; omega, fun k hk _ => heap_grow_old _ _ hk⟩ (.inr (by simp [Value.ownBlock]))
  have hR2 := Kd.R_of_own (h1 := RowT.one) (ok := fun _ => True) ho2 (fun _ _ => trivial)
  exact hR2
theorem infoV : (Tryz.prog.info? 22).map (fun i => (i.zero, i.size, i.bytes)) = some (some (.slice none 0 0), 1, 24) := by kernel_rfl
set_option maxHeartbeats 2000000 in
theorem DelV_calls {base : Nat} {G c : Nat} (vs : List RowT) (i : Nat) (hi : i < vs.length) (w : World) (hR : Kr.R TV w base (fun _ => True) (.slice (some ⟨G, 0, none⟩) vs.length c) vs) (hl : vs.length ≤ 1000000000) :
  Calls Tryz.prog 49 #[.slice (some ⟨G, 0, none⟩) vs.length c, I i, I ((i + 1 : Nat) : Int)] w fun e w' =>
   e = .returned (.slice (some ⟨G, 0, none⟩) (vs.eraseIdx i).length c) ∧ Kr.R TV w' base (fun _ => True) (.slice (some ⟨G, 0, none⟩) (vs.eraseIdx i).length c) (vs.eraseIdx i) ∧ w.grownBy w' (some G) := by
 haveI : Inhabited RowT := ⟨nilT⟩
 obtain ⟨i0, hi0, hz, hz1, _⟩ := info_parts infoV
 have hown : w.ownsRow base TV 1 (.slice (some ⟨G, 0, none⟩) vs.length c) vs.length (vs.map RowT.v) := Kd.own_of_R hR
 have hcl : vs.length ≤ c ∧ c ≤ 9223372036854775807 := by
  rcases hown.2 with ⟨e0, _⟩ | ⟨g', cap', cur, e0, _, _, hn, hm, _⟩
  ·cases e0
  ·injection e0 with _ _ e3
   subst e3
   unfold maxLen at hm
   exact ⟨hn, by omega⟩
 have hH : Holds RowT.v w G 0 vs.toArray := fun j hj => by
  have h := Kd.R_cell (d := nilT) (h1 := RowT.one) hR (j : Int) (by omega) (by simpa using hj)
  rw [Int.toNat_natCast] at h
  have hj2 : j < vs.length := by simpa using hj
  have e : rdOf nilT vs (j : Int) = vs.toArray[j]! := by simp [rdOf, hj2]
  rw [e] at h
  simpa using h
 have hS := AnyE.slices_Delete DelV RowT.v RowT.one nilT (fun w => by
   show (zeroValue TV).run Tryz.prog w = _
   simp [zeroValue, typeInfo, hi0, hz]
   rfl) i0 hi0 hz1 G 0 c i (i + 1) vs.toArray w hH (by simpa using hcl.1) hcl.2 (by omega) (by simp; omega)
 have hsz : vs.toArray.size = vs.length := by simp
 rw [hsz] at hS
 refine (show Calls Tryz.prog 49 _ _ _ from hS).mono ?_
 rintro e w' ⟨rfl, n, rfl⟩
 have hel : (vs.eraseIdx i).length = vs.length - 1 := by rw [List.length_eraseIdx, if_pos hi]
 have e1 : vs.length - (i + 1 - i) = (vs.eraseIdx i).length := by rw [hel]; omega
 have hge : w.grownBy (putRow RowT.v (Sort.ahead w n) G 0 (vs.toArray.toList.take i ++ vs.toArray.toList.drop (i + 1) ++ List.replicate (i + 1 - i) nilT).toArray) (some G) := by
  have := grownBy_putV (w := w) (g := G) (n := n) (os := #[]) RowT.v (vs.toArray.toList.take i ++ vs.toArray.toList.drop (i + 1) ++ List.replicate (i + 1 - i) nilT).toArray
  rwa [grow_empty] at this
 refine ⟨by rw [e1], ?_, hge⟩
 have ho := ownsRow_putRow (q := n) (k := (vs.eraseIdx i).length) hown (ys := vs.take i ++ vs.drop (i + 1) ++ List.replicate (i + 1 - i) nilT) (by simp; omega) (by omega)
 have e2 : (vs.take i ++ vs.drop (i + 1) ++ List.replicate (i + 1 - i) nilT).take (vs.eraseIdx i).length = vs.eraseIdx i := by
  rw [List.take_append_of_le_length (by rw [hel]; simp; omega), List.take_of_length_le (by rw [hel]; simp; omega), List.eraseIdx_eq_take_drop_succ]
 rw [e2] at ho
 exact Kd.R_of_own (h1 := RowT.one) ho (fun _ _ => trivial)

end Go.Proofs.YtniikppojffiaaaGreat.K
end

section
/- The groups as the program makes them, plain. -/
namespace Go.Proofs.YtniikppojffiaaaGreat.K
open Go.RowKit Go.Shelf
set_option linter.unusedVariables false
set_option linter.unusedSimpArgs false

section
variable {n : Int} {l : List Int} {q : List PairT}
theorem ping_f0 (h : pingB l q = true) : (q.map (fun p : PairT => p.f0)).Nodup := by
 rw [List.Nodup, List.pairwise_map, List.pairwise_iff_getElem]
 intro i j hi hj hij
 have := ping_at h j hj
 rw [okAt_eq l q j hj] at this
 simp only [Bool.and_eq_true, Bool.not_eq_true'] at this
 have h0 := this.1.1.2
 unfold seenB at h0
 rw [List.any_eq_false] at h0
 have hm : q[i] ∈ q.take j := List.mem_iff_getElem.2 ⟨i, by simp; omega, by simp⟩
 have a := h0 _ hm
 simp at a
 exact a.1
theorem inPair_iff {f : Int} : inPair q f = true ↔ ∃ p ∈ q, p.f0 = f ∨ p.f1 = f := by simp [inPair]
theorem crit_mem {f : Int} : f ∈ critL l q ↔ f ∈ l ∧ inPair q f = false := by simp [critL]
theorem low_iff (hP : GoodP l q) (f : Int) : f ∈ q.map (fun p : PairT => p.f0) ++ critL l q ↔ f ∈ lows l q := by
 rw [List.mem_append, List.mem_map, crit_mem, lows_mem]
 constructor
 ·rintro (⟨p, hp, rfl⟩ | ⟨h1, h2⟩)
  ·exact ⟨(hP.mem p hp).1.1, low_nohi hP hp⟩
  ·refine ⟨h1, ?_⟩
   cases h : isHi q f with
   | false => rfl
   | true =>
    obtain ⟨p, hp, h3⟩ := isHi_iff.1 h
    rw [inPair_iff.2 ⟨p, hp, .inr h3⟩] at h2
    cases h2
 ·rintro ⟨h1, h2⟩
  cases h : inPair q f with
  | false => exact .inr ⟨h1, rfl⟩
  | true =>
   obtain ⟨p, hp, h3 | h3⟩ := inPair_iff.1 h
   ·exact .inl ⟨p, hp, h3⟩
   ·rw [isHi_iff.2 ⟨p, hp, h3⟩] at h2
    cases h2
theorem lows_asc (hi : isC n l = true) : (lows l q).Pairwise (· < ·) := (isC_faces hi).2.1.filter _
/-- What is sorted: the groups of the low and critical faces. -/
theorem groups_sorted (hi : isC n l = true) (hp : pingB l q = true) (X : List (List Int)) (hX : X.Perm (q.map (fun p => [p.f0, p.f1]) ++ (critL l q).map fun f => [f])) (hs : X.Pairwise fun a b => ¬ b.headD 0 < a.headD 0) : X = (lows l q).map (grp q) := by
 have hP := ping_P hi hp
 have hh : (X.map fun x => x.headD 0).Perm (q.map (fun p : PairT => p.f0) ++ critL l q) := by
  have := hX.map fun x => x.headD 0
  rw [List.map_append, List.map_map, List.map_map] at this
  have e2 : (critL l q).map ((fun x : List Int => x.headD 0) ∘ fun f => [f]) = critL l q := by
   rw [show ((fun x : List Int => x.headD 0) ∘ fun f => [f]) = id from rfl, List.map_id]
  rw [e2] at this
  exact this
 have hnd : (q.map (fun p : PairT => p.f0) ++ critL l q).Nodup := by
  rw [List.nodup_append]
  refine ⟨ping_f0 hp, List.Pairwise.filter _ (isC_nodup hi), ?_⟩
  intro a ha b hb e
  subst e
  obtain ⟨p, hp2, rfl⟩ := List.mem_map.1 ha
  rw [crit_mem] at hb
  rw [inPair_iff.2 ⟨p, hp2, .inl rfl⟩] at hb
  cases hb.2
 have hasc : (X.map fun x => x.headD 0).Pairwise (· < ·) := by
  have h1 : (X.map fun x => x.headD 0).Nodup := hh.nodup_iff.2 hnd
  have h2 : (X.map fun x => x.headD 0).Pairwise fun a b => ¬ b < a := by rw [List.pairwise_map]; exact hs
  exact (h1.and h2).imp fun {a b} h => by
   have h3 : a ≠ b := h.1
   have h4 : ¬ b < a := h.2
   omega
 have heq : (X.map fun x => x.headD 0) = lows l q := asc_ext _ _ hasc (lows_asc hi) fun x => by rw [hh.mem_iff, low_iff hP]
 have hg : ∀ x ∈ X, x = grp q (x.headD 0) := by
  intro x hx
  rcases List.mem_append.1 (hX.mem_iff.1 hx) with h | h
  ·obtain ⟨p, hpq, rfl⟩ := List.mem_map.1 h
   have hb := hP.mem p hpq
   show [p.f0, p.f1] = grp q p.f0
   unfold grp
   rw [high_of hP hpq, if_neg (by omega)]
  ·obtain ⟨f, hf, rfl⟩ := List.mem_map.1 h
   show [f] = grp q f
   unfold grp
   have hz : highL q f = 0 := by
    rcases high_cases q f with ⟨h1, _⟩ | ⟨p, hpq, h1, _⟩
    ·exact h1
    ·have := (crit_mem.1 hf).2
     rw [inPair_iff.2 ⟨p, hpq, .inl h1⟩] at this
     cases this
   rw [if_pos hz]
 rw [← heq, List.map_map]
 conv => lhs; rw [← List.map_id X]
 exact List.map_congr_left fun x hx => hg x hx
theorem erase_filter : ∀ (xs : List Int) (i : Nat) (hi : i < xs.length), xs.Nodup → xs.filter (fun x => !(x == xs[i])) = xs.eraseIdx i
 | x :: xs, 0, hi, hn => by
  rw [List.nodup_cons] at hn
  have h1 : (x :: xs)[0] = x := rfl
  rw [h1, List.filter_cons, if_neg (by simp), List.eraseIdx_zero, List.tail_cons, List.filter_eq_self]
  intro y hy
  have : y ≠ x := fun e => hn.1 (e ▸ hy)
  simp [this]
 | x :: xs, i + 1, hi, hn => by
  rw [List.nodup_cons] at hn
  have hi2 : i < xs.length := by simpa using hi
  have h1 : (x :: xs)[i + 1] = xs[i] := rfl
  have h2 : x ≠ xs[i] := fun e => hn.1 (e ▸ List.getElem_mem hi2)
  rw [h1, List.filter_cons, if_pos (by simp [h2]), List.eraseIdx_cons_succ, erase_filter xs i hi2 hn.2]
theorem map_erase (f : Int → List Int) : ∀ (xs : List Int) (i : Nat), (xs.map f).eraseIdx i = (xs.eraseIdx i).map f
 | [], i => by simp
 | x :: xs, 0 => rfl
 | x :: xs, i + 1 => by simp [map_erase f xs i]
/-- What isn't placed, in its order. -/
def leftL (l : List Int) (q : List PairT) (S : Int → Bool) : List Int := (lows l q).filter fun f => !S f
theorem left_find (S : Int → Bool) : (lows l q).find? (fun f => !S f && rdyG S (grp q f)) = (leftL l q S).find? fun f => rdyG S (grp q f) := by
 unfold leftL
 rw [List.find?_filter]
 congr 1
 funext a
 cases S a <;> cases rdyG S (grp q a) <;> rfl
theorem grp_step (hi : isC n l = true) (hP : GoodP l q) {S : Int → Bool} {i : Nat} (hil : i < (leftL l q S).length) (hr : rdyG S (grp q (leftL l q S)[i]) = true) (hn : ∀ j (hj : j < i), rdyG S (grp q ((leftL l q S)[j]'(by omega))) = false) :
  (lows l q).find? (fun f => !S f && rdyG S (grp q f)) = some (leftL l q S)[i] ∧ leftL l q (placeL S (grp q (leftL l q S)[i])) = (leftL l q S).eraseIdx i := by
 have hnd : (leftL l q S).Nodup := List.Pairwise.filter _ (List.Pairwise.filter _ (isC_nodup hi))
 refine ⟨?_, ?_⟩
 ·rw [left_find, List.find?_eq_some_iff_getElem]
  exact ⟨hr, i, hil, rfl, fun j hj => by rw [hn j hj]; rfl⟩
 ·rw [← erase_filter _ i hil hnd]
  generalize (leftL l q S)[i] = f
  unfold leftL
  rw [List.filter_filter]
  apply List.filter_congr
  intro x hx
  have hx2 := lows_mem.1 hx
  show (!placeL S (grp q f) x) = (!(x == f) && !S x)
  rw [← Bool.not_or]
  congr 1
  rw [Bool.eq_iff_iff, placeL_iff, Bool.or_eq_true, beq_iff_eq, grp_mem]
  constructor
  ·rintro (h | h | ⟨hz, h⟩)
   ·exact .inr h
   ·exact .inl h
   ·rcases high_cases q f with ⟨h3, _⟩ | ⟨p, hp, h3, h4⟩
    ·exact absurd h3 hz
    ·rw [isHi_iff.2 ⟨p, hp, by rw [h4, h]⟩] at hx2
     cases hx2.2
  ·rintro (h | h)
   ·exact .inr (.inl h)
   ·exact .inl h
theorem placeL_snoc (S : Int → Bool) (a : List Int) (x : Int) : placeL S (a ++ [x]) = upd (placeL S a) x true := by simp [placeL]
/-- Where the loop over the groups stands. -/
structure GPos (l : List Int) (q : List PairT) (S : Int → Bool) (vx ox : List (List Int)) : Prop where
 sound : Sound l q S
 left : vx = (leftL l q S).map (grp q)
 run : ∃ K, notYet l S < K ∧ ox ++ ordR q (lows l q) K S = orderG l q
theorem GPos.start (hi : isC n l = true) : GPos l q (fun _ => false) ((lows l q).map (grp q)) [] :=
 ⟨sound_none, by
  have : leftL l q (fun _ => false) = lows l q := by unfold leftL; simp
  rw [this], 64, by have := (isC_faces hi).2.2.2; simp [notYet]; omega, rfl⟩
theorem GPos.ready (hi : isC n l = true) (hp : pingB l q = true) (hac : acycB q = true) {S : Int → Bool} {vx ox : List (List Int)} (h : GPos l q S vx ox) (hne : vx ≠ []) : ∃ x ∈ vx, rdyG S x = true := by
 have hP := ping_P hi hp
 obtain ⟨f, hf⟩ : ∃ f, f ∈ leftL l q S := by
  rw [h.left] at hne
  cases hl : leftL l q S with
  | nil => rw [hl] at hne; exact absurd rfl hne
  | cons a b => exact ⟨a, by simp⟩
 have hf2 : f ∈ lows l q ∧ S f = false := by
  unfold leftL at hf
  simpa using hf
 obtain ⟨x, hx, hx2⟩ := ready_ex hi (ping_good hi hp) hP (acyc_no hac) h.sound.whole _ f hf2.1 hf2.2 (Nat.lt_succ_self _)
 simp only [Bool.and_eq_true, Bool.not_eq_true'] at hx2
 refine ⟨grp q x, ?_, hx2.2⟩
 rw [h.left]
 refine List.mem_map.2 ⟨x, ?_, rfl⟩
 unfold leftL
 simp [hx, hx2.1]
theorem GPos.step (hi : isC n l = true) (hp : pingB l q = true) {S : Int → Bool} {vx ox : List (List Int)} (h : GPos l q S vx ox) {i : Nat} (hil : i < vx.length) (hr : rdyG S vx[i] = true) (hn : ∀ j (hj : j < i), rdyG S (vx[j]'(by omega)) = false) :
  GPos l q (placeL S vx[i]) (vx.eraseIdx i) (ox ++ [vx[i]]) := by
 have hP := ping_P hi hp
 obtain ⟨h1, h2, K, h3, h4⟩ := h
 subst h2
 have hil2 : i < (leftL l q S).length := by simpa using hil
 have e : ((leftL l q S).map (grp q))[i] = grp q (leftL l q S)[i] := by simp
 rw [e] at hr ⊢
 have hn2 : ∀ j (hj : j < i), rdyG S (grp q ((leftL l q S)[j]'(by omega))) = false := fun j hj => by
  have := hn j hj
  rwa [show ((leftL l q S).map (grp q))[j]'(by omega) = grp q ((leftL l q S)[j]'(by omega)) by simp] at this
 obtain ⟨hf, hE⟩ := grp_step hi hP hil2 hr hn2
 obtain ⟨g1, g2, g3⟩ := find_what hf
 have hcnt := notYet_grp hP (isC_nodup hi) h1.whole g1 g2
 have hpos : 1 ≤ (grp q (leftL l q S)[i]).length := by unfold grp; split <;> simp
 obtain ⟨K, rfl⟩ : ∃ m, K = m + 1 := ⟨K - 1, by omega⟩
 refine ⟨sound_place hi hP h1 g1 g2 g3, by rw [hE, map_erase], K, by omega, ?_⟩
 rw [← h4]
 have e2 : ordR q (lows l q) (K + 1) S = grp q (leftL l q S)[i] :: ordR q (lows l q) K (placeL S (grp q (leftL l q S)[i])) := by
  conv => lhs; unfold ordR
  rw [hf]
 rw [e2, List.append_assoc]
 rfl
theorem GPos.done {S : Int → Bool} {ox : List (List Int)} (h : GPos l q S [] ox) : ox = orderG l q := by
 obtain ⟨_, h2, K, _, h4⟩ := h
 have hl : leftL l q S = [] := by
  cases hl : leftL l q S with
  | nil => rfl
  | cons a b => rw [hl] at h2; cases h2
 have : ordR q (lows l q) K S = [] := by
  cases K with
  | zero => rfl
  | succ K =>
   unfold ordR
   rw [left_find, hl]
   rfl
 rw [this, List.append_nil] at h4
 exact h4
theorem GPos.rng (hi : isC n l = true) (hp : pingB l q = true) {S : Int → Bool} {vx ox : List (List Int)} (h : GPos l q S vx ox) : ∀ x ∈ vx, x ≠ [] ∧ x.length ≤ 2 ∧ ∀ f ∈ x, 1 ≤ f ∧ f ≤ 63 := by
 intro x hx
 rw [h.left] at hx
 obtain ⟨f, hf, rfl⟩ := List.mem_map.1 hx
 have hfl : f ∈ l := by
  unfold leftL at hf
  exact (lows_mem.1 (List.mem_filter.1 hf).1).1
 have hr := (isC_faces hi).2.2.1 f hfl
 refine ⟨by unfold grp; split <;> simp, by unfold grp; split <;> simp, fun y hy => ?_⟩
 rcases grp_mem.1 hy with rfl | ⟨hz, rfl⟩
 ·omega
 ·rcases high_cases q f with ⟨h3, _⟩ | ⟨p, hpq, h3, h4⟩
  ·exact absurd h3 hz
  ·have := ((ping_P hi hp).mem p hpq).2.1
   rw [h4] at this
   omega
end

end Go.Proofs.YtniikppojffiaaaGreat.K
end

section
/- Groups in memory: what stands in the loop. -/
namespace Go.Proofs.YtniikppojffiaaaGreat.K
open Go.RowKit Go.Shelf Go.Proofs.YtniikppojffiaaaGreatW.PrintWords Go.Proofs.YtniikppojffiaaaGreatW.PrintLast Go.Proofs.YtniikppojffiaaaGreatW.PrintMore
set_option linter.unusedVariables false
set_option linter.unusedSimpArgs false

abbrev TVV : TypeId := 50
section
variable {ops : Array Oper} {rest : List Oper} {o : Oper} {a : Act} {Q : Exit → Act → World → Prop}
/-- 'append' of one group to a row of the call's own. -/
theorem append_grp {W : World} (base : Nat) (hgd : o.guard = none) (s x : Operand)
  (ho : o.op = .call { callee := .builtin .append, args := #[s, x], argTypes := #[TVV, TVV] })
  (v : Value) (vs : List RowT) (p : RowT) (hs : a.eval s = v) (hx : a.eval x = .slice (some ⟨W.heap.size, 0, none⟩) 1 1)
  (HO : Kr.R TV W base (fun _ => True) v vs) (hbase : base ≤ W.heap.size) (hl : vs.length ≤ 1000000000)
  (h : ∀ A' c' w1, Kr.R TV w1 base (fun _ => True) (.slice A' (vs.length + 1) c') (vs ++ [p]) → Below base W w1 → W.grownBy w1 v.ownBlock → wpList Tryz.prog ops Q rest (a.put o.dst (.slice A' (vs.length + 1) c')) w1) :
  wpList Tryz.prog ops Q (o :: rest) a (W.alloc (.cells #[p.v] TV)) := by
 refine Kd.R_append Kr (w0 := W) base hgd s x TVV TV (.slice none 0 0) 24 ho Tryz.underlying50 infoV rfl (by decide) (by omega) v vs p [p.v] (fun _ => True) (fun _ => False) hs hx rfl (fun _ hk => hk.elim) (fun _ _ => trivial) HO (Below.refl _ _) hbase (by omega) ?_
 intro v1 w1 hR hB hg _
 obtain ⟨A', c', e⟩ := Kd.R_slice hR
 rw [List.length_append] at e
 subst e
 exact h A' c' w1 hR hB hg
end
theorem GIn.over {base : Nat} {ok : Nat → Prop} {v : Value} {vs : List RowT} {w w1 : World} {r : RowT} (h : GIn w r) (hR : Kr.R TV w base ok v vs) (hg : w.grownBy w1 v.ownBlock) : GIn w1 r :=
 h.same fun k cs hk => hg.block k (Array.getElem?_eq_some_iff.1 hk).1 (fun e => by
  obtain ⟨cells, hc⟩ := Kd.R_typed hR k e.symm
  rw [hc] at hk
  injection hk with hk
  injection hk with _ hk
  exact absurd hk (by decide))
theorem GIn.lit (w : World) (xs : List Int) : GIn (w.alloc (.cells (xs.map (Value.int .i64)).toArray TI)) ⟨some ⟨w.heap.size, 0, none⟩, xs.length, xs⟩ := ⟨_, rfl, rfl, blk_new w _⟩
theorem SetM.nocells {w : World} {b m : Nat} {S : Int → Bool} (h : SetM w b m S) {k : Nat} {cs : Array Value} {t : TypeId} {fr : Nat × Nat} (hk : w.heap[k]? = some (.cells cs t fr)) : k ≠ b := by
 intro e
 subst e
 obtain ⟨D, ⟨es, clock, hb, _⟩, _⟩ := h
 rw [hb] at hk
 injection hk with hk
 cases hk
/-- What stands in the loop over the groups. -/
structure GSt (W0 : World) (N2 Bd b : Nat) (A5 : Option Addr) (c5 : Nat) (vs : List RowT) (A6 : Option Addr) (c6 : Nat) (outs : List RowT) (M : Nat) (S : Int → Bool) (w : World) : Prop where
 left : Kr.R TV w W0.heap.size (fun k => k < N2) (.slice A5 vs.length c5) vs
 out : Kr.R TV w N2 (fun _ => True) (.slice A6 outs.length c6) outs
 box : w.heap[Bd]? = some (.cells #[.map (some b)] 67 (0, 0))
 map : SetM w b M S
 gin : ∀ r ∈ vs ++ outs, GIn w r
 grew : Grew W0 w
 size : N2 ≤ w.heap.size
 low : W0.heap.size ≤ b ∧ b < N2 ∧ Bd < N2
section
variable {W0 : World} {N2 Bd b : Nat} {A5 : Option Addr} {c5 : Nat} {vs : List RowT} {A6 : Option Addr} {c6 : Nat} {outs : List RowT} {M : Nat} {S : Int → Bool} {w w' : World}
theorem GSt.later (h : GSt W0 N2 Bd b A5 c5 vs A6 c6 outs M S w) (hg : Grew w w') : GSt W0 N2 Bd b A5 c5 vs A6 c6 outs M S w' :=
 ⟨Kd.R_below h.left hg, Kd.R_below h.out hg, blk_below h.box hg, h.map.later hg, fun r hr => (h.gin r hr).later hg, Grew.trans h.grew hg, Nat.le_trans h.size hg.size, h.low⟩
theorem GSt.store (h : GSt W0 N2 Bd b A5 c5 vs A6 c6 outs M S w) {S' : Int → Bool} (hS : SetM w' b (M + 1) S') (hg : w.grownBy w' (some b)) : GSt W0 N2 Bd b A5 c5 vs A6 c6 outs (M + 1) S' w' := by
 have hlow := h.low
 refine ⟨?_, ?_, ?_, hS, fun r hr => (h.gin r hr).same fun k cs hk => ?_, pw_below_grown h.grew _ h.grew.size hg (fun k hk => by cases hk; omega), Nat.le_trans h.size hg.size, h.low⟩
 ·refine Kd.R_mono (Kd.R_grown (Kd.R_bound h.left) hg fun k hk e => ?_) fun k hk => hk.1
  obtain ⟨_, _, _, q, _, cells, hc⟩ := hk
  injection e with e
  exact h.map.nocells hc e
 ·refine Kd.R_mono (Kd.R_grown (Kd.R_bound h.out) hg fun k hk e => ?_) fun k hk => hk.1
  obtain ⟨_, _, _, q, _, cells, hc⟩ := hk
  injection e with e
  exact h.map.nocells hc e
 ·rw [hg.block Bd (Array.getElem?_eq_some_iff.1 h.box).1 (fun e => by injection e with e; exact h.map.nocells h.box e)]
  exact h.box
 ·exact hg.block k (Array.getElem?_eq_some_iff.1 hk).1 (fun e => by injection e with e; exact h.map.nocells hk e)
theorem GSt.append (h : GSt W0 N2 Bd b A5 c5 vs A6 c6 outs M S w) {r : RowT} (hr : r ∈ vs) {A7 : Option Addr} {c7 : Nat} (hR : Kr.R TV w' N2 (fun _ => True) (.slice A7 (outs.length + 1) c7) (outs ++ [r])) (hB : Below N2 w w') (hg : w.grownBy w' (Value.slice A6 outs.length c6).ownBlock) : GSt W0 N2 Bd b A5 c5 vs A7 c7 (outs ++ [r]) M S w' := by
 have hlow := h.low
 refine ⟨Kd.R_step h.left (fun k hk _ => hB.block k hk), by rw [List.length_append]; exact hR, ?_, h.map.same (hB.block b hlow.2.1), fun x hx => ?_, Below.trans h.grew (hB.mono (by omega)), Nat.le_trans h.size hB.size, h.low⟩
 ·rw [hB.block Bd hlow.2.2]
  exact h.box
 ·refine (h.gin x ?_).over h.out hg
  rcases List.mem_append.1 hx with hx | hx
  ·exact List.mem_append_left _ hx
  ·rcases List.mem_append.1 hx with hx | hx
   ·exact List.mem_append_right _ hx
   ·rw [List.mem_singleton.1 hx]
    exact List.mem_append_left _ hr
theorem GSt.delete {G i : Nat} (h : GSt W0 N2 Bd b (some ⟨G, 0, none⟩) c5 vs A6 c6 outs M S w) (hR : Kr.R TV w' W0.heap.size (fun _ => True) (.slice (some ⟨G, 0, none⟩) (vs.eraseIdx i).length c5) (vs.eraseIdx i)) (hg : w.grownBy w' (some G)) : GSt W0 N2 Bd b (some ⟨G, 0, none⟩) c5 (vs.eraseIdx i) A6 c6 outs M S w' := by
 have hlow := h.low
 have hGN : G < N2 := h.left.1 G (by simp [Value.ownBlock])
 have hGb : W0.heap.size ≤ G := Kd.R_base h.left G (by simp [Value.ownBlock])
 obtain ⟨cells, hc⟩ := Kd.R_typed h.left G (by simp [Value.ownBlock])
 refine ⟨Kd.R_of_own (h1 := RowT.one) (Kd.own_of_R hR) (fun k hk => by simp [Value.ownBlock] at hk; omega), ?_, ?_, ?_, fun x hx => ?_, pw_below_grown h.grew _ h.grew.size hg (fun k hk => by cases hk; omega), Nat.le_trans h.size hg.size, h.low⟩
 ·refine Kd.R_mono (Kd.R_grown (Kd.R_bound h.out) hg fun k hk e => ?_) fun k hk => hk.1
  injection e with e
  have := hk.2.1
  omega
 ·rw [hg.block Bd (Array.getElem?_eq_some_iff.1 h.box).1 (fun e => by
   injection e with e
   have hb := h.box
   rw [e, hc] at hb
   injection hb with hb
   injection hb with _ hb
   exact absurd hb (by decide))]
  exact h.box
 ·exact h.map.same (hg.block b h.map.lt (fun e => by injection e with e; exact h.map.nocells hc e.symm))
 ·refine (h.gin x ?_).grown hc hg
  rcases List.mem_append.1 hx with hx | hx
  ·exact List.mem_append_left _ (List.mem_of_mem_eraseIdx hx)
  ·exact List.mem_append_right _ hx
end

end Go.Proofs.YtniikppojffiaaaGreat.K
end

section
/- groups of the program. -/
namespace Go.Proofs.YtniikppojffiaaaGreat.K
open Go.RowKit Go.Shelf Go.Proofs.YtniikppojffiaaaGreat.Q Go.Proofs.YtniikppojffiaaaGreatW.PrintWords Go.Proofs.YtniikppojffiaaaGreatW.PrintLast Go.Proofs.YtniikppojffiaaaGreatW.PrintMore
set_option linter.unusedVariables false
set_option linter.unusedSimpArgs false

theorem tiv_ne : ∀ t, t ∈ TI :: Ki.E → t ≠ TV := by
 intro t ht
 rcases List.mem_cons.1 ht with h | h
 ·rw [h]; decide
 ·exact absurd h (List.not_mem_nil)
def prL (p : PairT) : List Int := [p.f0, p.f1]
theorem SortV_none (A : Option Addr) (c : Nat) (fv : Value) (w : World) : Calls Tryz.prog 39 #[.slice A 0 c, fv] w fun e w' => e = .returned (.tuple #[]) ∧ w' = w :=
 AnyF.slices_SortFunc_none { SortV with } A c fv w
theorem SortAny {base : Nat} (A5 : Option Addr) (c5 : Nat) (vs : List RowT) (w : World) (hR : Kr.R TV w base (fun _ => True) (.slice A5 vs.length c5) vs) (hin : ∀ r ∈ vs, GIn w r ∧ r.xs ≠ [] ∧ r.xs.length ≤ 2) (hl : vs.length ≤ 1000000000) :
  Calls Tryz.prog 39 #[.slice A5 vs.length c5, .func (.func 40) #[] #[]] w fun e w' =>
   e = .returned (.tuple #[]) ∧ ∃ vs', vs'.Perm vs ∧ vs'.Pairwise (fun a b => ¬ fst0 b < fst0 a) ∧ Kr.R TV w' base (fun _ => True) (.slice A5 vs'.length c5) vs' ∧ w.grownBy w' (Value.slice A5 vs.length c5).ownBlock := by
 rcases Nat.eq_zero_or_pos vs.length with h0 | h0
 ·have e : vs = [] := List.length_eq_zero_iff.1 h0
  subst e
  refine (SortV_none A5 c5 _ w).mono ?_
  rintro e w' ⟨rfl, rfl⟩
  exact ⟨rfl, [], List.Perm.refl _, List.Pairwise.nil, hR, World.grownBy.refl _ _⟩
 ·obtain ⟨G, cap, e, _⟩ := Kd.R_form hR h0
  injection e with e1 _ e3
  subst e1 e3
  refine (SortV_calls vs w hR hin (fun e => by rw [e] at h0; exact absurd h0 (by simp)) hl).mono ?_
  rintro e w' ⟨rfl, vs', hp, hs, hR', hg⟩
  refine ⟨rfl, vs', hp, hs, by rw [hp.length_eq]; exact hR', ?_⟩
  have : (Value.slice (some ⟨G, 0, none⟩) vs.length c5).ownBlock = some G := by simp [Value.ownBlock]
  rw [this]
  exact hg
theorem idx_caseR {p : RowT → Bool} (l : List RowT) : (idx p l = -1 ∧ ∀ x ∈ l, p x = false) ∨ ∃ i : Nat, idx p l = i ∧ ∃ hi : i < l.length, p l[i] = true ∧ ∀ j (hj : j < i), p (l[j]'(by omega)) = false := by
 unfold idx
 cases hf : l.findIdx? p with
 | none =>
  rw [List.findIdx?_eq_none_iff] at hf
  exact .inl ⟨rfl, fun x hx => by simpa using hf x hx⟩
 | some i =>
  rw [List.findIdx?_eq_some_iff_getElem] at hf
  obtain ⟨hi, hp, hn⟩ := hf
  exact .inr ⟨i, rfl, hi, hp, fun j hj => by have := hn j hj; simpa using this⟩
theorem map_eraseR : ∀ (vs : List RowT) (i : Nat), (vs.map RowT.xs).eraseIdx i = (vs.eraseIdx i).map RowT.xs
 | [], i => by simp
 | x :: vs, 0 => rfl
 | x :: vs, i + 1 => by simp [map_eraseR vs i]
theorem ord_len2 (q : List PairT) (L : List Int) : ∀ (k : Nat) (S : Int → Bool), ∀ x ∈ ordR q L k S, x.length ≤ 2
 | 0, S, x, h => by simp [ordR] at h
 | k + 1, S, x, h => by
  unfold ordR at h
  split at h
  ·cases h
  ·rename_i f _
   rcases List.mem_cons.1 h with rfl | h
   ·unfold grp; split <;> simp
   ·exact ord_len2 q L k _ x h
set_option maxRecDepth 100000 in
set_option maxHeartbeats 16000000 in
theorem groups_calls {n : Int} {l : List Int} (hi : isC n l = true) (A : Option Addr) (c : Nat) (A2 : Option Addr) (c2 : Nat) (q : List PairT) (w : World) (hk : Kx w A c l) (hq : Kq.C w A2 q.length q) (hc2 : q.length ≤ c2) (hp : pingB l q = true) (hac : acycB q = true) :
  Calls Tryz.prog 27 #[.agg #[I n, .slice A l.length c], .slice A2 q.length c2] w fun e w' => ∃ (A' : Option Addr) (c' : Nat) (vs : List RowT), e = .returned (.slice A' vs.length c') ∧ Kr.R TV w' w.heap.size (fun _ => True) (.slice A' vs.length c') vs ∧ (∀ r ∈ vs, GIn w' r ∧ r.xs.length ≤ 2) ∧ vs.map RowT.xs = orderG l q ∧ Grew w w' := by
 have hlq : q.length ≤ 63 := (ping_good hi hp).len
 have hll : l.length ≤ 63 := (isC_faces hi).2.2.2
 obtain ⟨W1, hW1⟩ : ∃ W1, W1 = w.alloc (.cells #[I n, .slice A l.length c] 30) := ⟨_, rfl⟩
 have hB : CB W1 w.heap.size n (.slice A l.length c) := by rw [hW1]; exact blk_new w _
 have hG1 : Grew w W1 := by rw [hW1]; exact below_alloc (Grew.refl w) _
 have HQ := Aside0.mk (Kd.C_below hq hG1)
 have HCR := Aside0.mk (fun (W : World) (h : Grew W1 W) => critical_calls n A c l A2 c2 q W (hk.later (Grew.trans hG1 h)) (by omega) (Kd.C_below hq (Grew.trans hG1 h)) hc2)
 have HB := Aside0.mk hB
 have HG1 := Aside0.mk hG1
 have HE1 := Aside0.mk hW1
 have HI := Aside0.mk hi
 have HP := Aside0.mk hp
 have HAC := Aside0.mk hac
 have HCL : Aside0 ((critL l q).length ≤ 63) := ⟨Nat.le_trans (List.length_filter_le _ _) hll⟩
 clear hq hk hB hG1 hW1 hi hp hac hc2
 go_enter Tryz.func27, Tryz.ntmps27
 go_wp2_with fail
 rw [← HE1.out]
 go_loopg [5, 8, 17] q.length (fun gg s5 _ s17 wr => ∃ (i : Nat) (A5 : Option Addr) (c5 : Nat) (vs : List RowT), i ≤ q.length ∧ q.length - i ≤ gg ∧ s17 = .int .i64 i ∧ s5 = .slice A5 vs.length c5 ∧ vs.length ≤ i ∧ Aside0 (Kr.R TV wr W1.heap.size (fun _ => True) (.slice A5 vs.length c5) vs) ∧ Aside0 (∀ r ∈ vs, GIn wr r) ∧ Aside0 (vs.map RowT.xs = (q.take i).map prL) ∧ Aside0 (Grew W1 wr))
 case atStart => exact ⟨0, none, 0, [], Nat.zero_le _, by omega, rfl, rfl, Nat.le_refl _, ⟨Kd.R_nil _ _ _ _ _⟩, ⟨fun r h => by cases h⟩, ⟨by simp⟩, ⟨Grew.refl W1⟩⟩
 case round =>
  obtain ⟨i, A5, c5, vs, hil, hgg, rfl, rfl, hvl, HR5, HGI, HX, HGr⟩ := hrel
  by_cases hlt : i < q.length
  ·have hltz : (i : Int) < (q.length : Int) := by omega
   obtain ⟨ad, e0, hx0, hx1⟩ := Kq_read (Kd.C_below HQ.out HGr.out) i hlt rfl
   cases e0
   have HX2 : Aside0 ((q.take (i + 1)).map prL = vs.map RowT.xs ++ [prL q[i]]) := ⟨by rw [List.take_succ_eq_append_getElem hlt, List.map_append, HX.out]; rfl⟩
   generalize q[i] = p at hx0 hx1 HX2
   obtain ⟨W2, hW2⟩ : ∃ W2, W2 = (wr.alloc (.cells #[I p.f0, I p.f1] 46)).alloc (.cells #[I p.f0, I p.f1] TI) := ⟨_, rfl⟩
   obtain ⟨N1, hN1⟩ : ∃ N1, N1 = wr.heap.size + 1 := ⟨_, rfl⟩
   have hs2 : W2.heap.size = N1 + 1 := by rw [hW2, World.size_alloc, World.size_alloc, hN1]
   have hg2 : Grew wr W2 := by rw [hW2]; exact below_alloc (below_alloc (Grew.refl wr) _) _
   have hgl : GIn W2 ⟨some ⟨N1, 0, none⟩, 2, [p.f0, p.f1]⟩ := by
    have := GIn.lit (wr.alloc (.cells #[I p.f0, I p.f1] 46)) [p.f0, p.f1]
    rw [World.size_alloc, ← hN1] at this
    rw [hW2]
    exact this
   have HR6 := Aside0.mk (Kd.R_below HR5.out hg2)
   have HGI2 : Aside0 (∀ r ∈ vs ++ [⟨some ⟨N1, 0, none⟩, 2, [p.f0, p.f1]⟩], GIn W2 r) := ⟨fun r hr => by
    rcases List.mem_append.1 hr with hr | hr
    ·exact (HGI.out r hr).later hg2
    ·rw [List.mem_singleton.1 hr]; exact hgl⟩
   have HG2 := Aside0.mk (Grew.trans HGr.out hg2)
   have HS2 := Aside0.mk hs2
   have HE2 := Aside0.mk hW2
   have HN1 := Aside0.mk hN1
   have HSZ : Aside0 (W1.heap.size ≤ W2.heap.size) := ⟨HG2.out.size⟩
   clear hW2 hN1 hs2 hg2 hgl
   go_wp2_with (at_builtin; rw [← HE2.out, ← HN1.out]; refine append_grp W1.heap.size rfl (.tmp 21) (.tmp 27) rfl _ vs ⟨some ⟨N1, 0, none⟩, 2, [p.f0, p.f1]⟩ rfl (by rw [HS2.out]; rfl) HR6.out HSZ.out (by omega) ?_; intro A7 c7 w7 hR7 hB7 hg7; have HR7 := Aside0.mk hR7; have HG7 := Aside0.mk (Below.trans HG2.out hB7); have HGI7 := Aside0.mk (fun r hr => (HGI2.out r hr).over HR6.out hg7); clear hR7 hB7 hg7)
   go_roundg (q.length - (i + 1))
   case measure => omega
   case rel => exact ⟨i + 1, A7, c7, vs ++ [⟨some ⟨N1, 0, none⟩, 2, [p.f0, p.f1]⟩], by omega, Nat.le_refl _, by go_num, by rw [List.length_append]; rfl, by rw [List.length_append, List.length_singleton]; omega, ⟨by rw [List.length_append]; exact HR7.out⟩, HGI7, ⟨by rw [HX2.out, List.map_append]; rfl⟩, HG7⟩
  ·have hltz : ¬ (i : Int) < (q.length : Int) := by omega
   have HX1 : Aside0 (vs.map RowT.xs = q.map prL) := ⟨by rw [HX.out, List.take_of_length_le (by omega)]⟩
   have hv63 : vs.length ≤ 63 := by omega
   have HB2 := Aside0.mk (blk_below HB.out HGr.out)
   have k0 : wr.cell? ⟨w.heap.size, 0, none⟩ = some (I n) := blk_cell HB2.out 0
   have k1 : wr.cell? ⟨w.heap.size, 1, none⟩ = some (.slice A l.length c) := blk_cell HB2.out 1
   clear hvl hgg hil hlt
   go_wp2_with fail
   refine (HCR.out _ HGr.out).mono ?_
   rintro e w3 ⟨v3, rfl, hR3, hG3⟩
   obtain ⟨A3, c3, rfl, hc3, hC3⟩ := Kd.R_reads hR3
   have HR3 := Aside0.mk hR3
   have HR5 := Aside0.mk (Kd.R_below HR5.out hG3)
   have HGI3 := Aside0.mk (fun r hr => (HGI.out r hr).later hG3)
   have HG3 := Aside0.mk (Grew.trans HGr.out hG3)
   obtain ⟨cs, hcs⟩ : ∃ cs, cs = critL l q := ⟨_, rfl⟩
   have HCS := Aside0.mk hcs
   have hcl : cs.length ≤ 63 := by rw [hcs]; exact HCL.out
   rw [← hcs] at HR3
   obtain ⟨NW, hNW⟩ : ∃ NW, NW = wr.heap.size := ⟨_, rfl⟩
   rw [← hNW] at HR3
   have hcs2 : cs.length = (critL l q).length := by rw [hcs]
   rw [← hcs2]
   clear hR3 hG3 hc3 hC3 k0 k1 hcs hNW hcs2
   go_wp2_with fail
   go_loopg [5, 10, 34] cs.length (fun gg s5 _ s34 wq => ∃ (j : Nat) (A5 : Option Addr) (c5 : Nat) (vs : List RowT), j ≤ cs.length ∧ cs.length - j ≤ gg ∧ s34 = .int .i64 j ∧ s5 = .slice A5 vs.length c5 ∧ vs.length ≤ 63 + j ∧ Aside0 (Kr.R TV wq W1.heap.size (fun _ => True) (.slice A5 vs.length c5) vs) ∧ Aside0 (Ki.R TI wq NW (fun _ => True) (.slice A3 cs.length c3) cs) ∧ Aside0 (∀ r ∈ vs, GIn wq r) ∧ Aside0 (vs.map RowT.xs = q.map prL ++ (cs.take j).map fun f => [f]) ∧ Aside0 (Grew W1 wq))
   case atStart => exact ⟨0, A5, c5, vs, Nat.zero_le _, by omega, rfl, rfl, by omega, HR5, HR3, HGI3, ⟨by rw [HX1.out]; simp⟩, HG3⟩
   case round =>
    obtain ⟨j, A5, c5, vs, hjl, hgg, rfl, rfl, hvl, HR5, HRC, HGI, HX, HGr⟩ := hrel
    by_cases hjt : j < cs.length
    ·have hjtz : (j : Int) < (cs.length : Int) := by omega
     obtain ⟨ad, e0, hx⟩ := Kd.at_int (Kd.R_reads' HRC.out).2.2 (j : Int) (by omega) (by omega)
     cases e0
     rw [Int.toNat_natCast, rd_nat cs j hjt] at hx
     have HX2 : Aside0 (q.map prL ++ (cs.take (j + 1)).map (fun f => [f]) = vs.map RowT.xs ++ [[cs[j]]]) := ⟨by rw [List.take_succ_eq_append_getElem hjt, List.map_append, HX.out, List.append_assoc]; rfl⟩
     generalize cs[j] = f at hx HX2
     obtain ⟨W2, hW2⟩ : ∃ W2, W2 = wr.alloc (.cells #[I f] 2) := ⟨_, rfl⟩
     obtain ⟨N1, hN1⟩ : ∃ N1, N1 = wr.heap.size := ⟨_, rfl⟩
     have hs2 : W2.heap.size = N1 + 1 := by rw [hW2, World.size_alloc, hN1]
     have hg2 : Grew wr W2 := by rw [hW2]; exact below_alloc (Grew.refl wr) _
     have hgl : GIn W2 ⟨some ⟨N1, 0, none⟩, 1, [f]⟩ := by
      have := GIn.lit wr [f]
      rw [← hN1] at this
      rw [hW2]
      exact this
     have HR6 := Aside0.mk (Kd.R_below HR5.out hg2)
     have HRC6 := Aside0.mk (Kd.R_below HRC.out hg2)
     have HGI2 : Aside0 (∀ r ∈ vs ++ [⟨some ⟨N1, 0, none⟩, 1, [f]⟩], GIn W2 r) := ⟨fun r hr => by
      rcases List.mem_append.1 hr with hr | hr
      ·exact (HGI.out r hr).later hg2
      ·rw [List.mem_singleton.1 hr]; exact hgl⟩
     have HG2 := Aside0.mk (Grew.trans HGr.out hg2)
     have HS2 := Aside0.mk hs2
     have HE2 := Aside0.mk hW2
     have HN1 := Aside0.mk hN1
     have HSZ : Aside0 (W1.heap.size ≤ W2.heap.size) := ⟨HG2.out.size⟩
     clear hW2 hN1 hs2 hg2 hgl
     go_wp2_with (at_builtin; rw [← HE2.out, ← HN1.out]; refine append_grp W1.heap.size rfl (.tmp 38) (.tmp 41) rfl _ vs ⟨some ⟨N1, 0, none⟩, 1, [f]⟩ rfl (by rw [HS2.out]; rfl) HR6.out HSZ.out (by omega) ?_; intro A7 c7 w7 hR7 hB7 hg7; have HR7 := Aside0.mk hR7; have HG7 := Aside0.mk (Below.trans HG2.out hB7); have HGI7 := Aside0.mk (fun r hr => (HGI2.out r hr).over HR6.out hg7); have HRC7 := Aside0.mk (Kd.R_over HRC6.out HR6.out tiv_ne hg7); clear hR7 hB7 hg7)
     go_roundg (cs.length - (j + 1))
     case measure => omega
     case rel => exact ⟨j + 1, A7, c7, vs ++ [⟨some ⟨N1, 0, none⟩, 1, [f]⟩], by omega, Nat.le_refl _, by go_num, by rw [List.length_append]; rfl, by rw [List.length_append, List.length_singleton]; omega, ⟨by rw [List.length_append]; exact HR7.out⟩, HRC7, HGI7, ⟨by rw [HX2.out, List.map_append]; rfl⟩, HG7⟩
    ·have hjtz : ¬ (j : Int) < (cs.length : Int) := by omega
     have HX3 : Aside0 (vs.map RowT.xs = q.map prL ++ (critL l q).map fun f => [f]) := ⟨by rw [HX.out, List.take_of_length_le (by omega), HCS.out]⟩
     have hxx : ∀ x ∈ q.map prL ++ (critL l q).map (fun f => [f]), x ≠ [] ∧ x.length ≤ 2 := by
      intro x hx
      rcases List.mem_append.1 hx with hx | hx
      ·obtain ⟨p, _, rfl⟩ := List.mem_map.1 hx
       simp [prL]
      ·obtain ⟨f, _, rfl⟩ := List.mem_map.1 hx
       simp
     have hvx : ∀ r ∈ vs, GIn wr r ∧ r.xs ≠ [] ∧ r.xs.length ≤ 2 := fun r hr => ⟨HGI.out r hr, hxx r.xs (by rw [← HX3.out]; exact List.mem_map.2 ⟨r, hr, rfl⟩)⟩
     have HSO := Aside0.mk (SortAny A5 c5 vs wr HR5.out hvx (by omega))
     have hvl2 : vs.length ≤ 126 := by omega
     clear hxx hvx hvl hjl hgg
     go_wp2_with fail
     refine HSO.out.mono ?_
     rintro e w4 ⟨rfl, vs4, hperm, hpw, hR4, hg4⟩
     have hle4 : vs4.length ≤ 126 := by rw [hperm.length_eq]; exact hvl2
     have hXG : vs4.map RowT.xs = (lows l q).map (grp q) := by
      refine groups_sorted HI.out HP.out _ ?_ ?_
      ·have := hperm.map RowT.xs
       rw [HX3.out] at this
       exact this
      ·rw [List.pairwise_map]
       exact hpw.imp fun {a b} h => by unfold fst0 at h; omega
     have HGP : Aside0 (GPos l q (fun _ => false) (vs4.map RowT.xs) (([] : List RowT).map RowT.xs)) := ⟨by rw [hXG]; exact GPos.start HI.out⟩
     have hlen4 : vs.length = vs4.length := hperm.length_eq.symm
     rw [hlen4]
     have hG4 : Grew W1 w4 := pw_below_grown HGr.out _ HGr.out.size hg4 (fun k hk => Kd.R_base HR5.out k hk)
     have hgi4 : ∀ r ∈ vs4, GIn w4 r := fun r hr => (HGI.out r (hperm.mem_iff.1 hr)).over HR5.out hg4
     obtain ⟨W5, hW5⟩ : ∃ W5, W5 = (w4.alloc (.map #[] 0)).alloc (.cells #[.map (some w4.heap.size)] 67) := ⟨_, rfl⟩
     have hs5 : W5.heap.size = w4.heap.size + 2 := by rw [hW5, World.size_alloc, World.size_alloc]
     have hg5 : Grew w4 W5 := by rw [hW5]; exact below_alloc (below_alloc (Grew.refl _) _) _
     have hS5 : SetM W5 w4.heap.size 0 (fun _ => false) := by rw [hW5]; exact (SetM_made w4).later (below_alloc (Grew.refl _) _)
     have hb5 : W5.heap[w4.heap.size + 1]? = some (.cells #[.map (some w4.heap.size)] 67 (0, 0)) := by
      have := blk_new (w4.alloc (.map #[] 0)) (.cells #[.map (some w4.heap.size)] 67)
      rw [World.size_alloc] at this
      rw [hW5]
      exact this
     have HST : Aside0 (GSt W1 (w4.heap.size + 2) (w4.heap.size + 1) w4.heap.size A5 c5 vs4 none 0 [] 0 (fun _ => false) W5) :=
      ⟨⟨Kd.R_mono (Kd.R_bound (Kd.R_below hR4 hg5)) (fun k hk => by have := hk.2.2.1; omega), Kd.R_nil _ _ _ _ _, hb5, hS5, fun r hr => (hgi4 r (by simpa using hr)).later hg5, Grew.trans hG4 hg5, by omega, hG4.size, by omega, by omega⟩⟩
     have HE5 := Aside0.mk hW5
     have hmm := @run_makeMap Tryz.prog
     clear hperm hpw hR4 hg4 hXG hlen4 hG4 hgi4 hW5 hs5 hg5 hS5 hb5
     go_wp2_with fail
     rw [← HE5.out]
     go_loopg [5, 6, 12, 14] vs4.length (fun gg s5 s6 _ _ wq => ∃ (A5 : Option Addr) (c5 : Nat) (vs : List RowT) (A6 : Option Addr) (c6 : Nat) (outs : List RowT) (M : Nat) (S : Int → Bool), vs.length ≤ gg ∧ s5 = .slice A5 vs.length c5 ∧ s6 = .slice A6 outs.length c6 ∧ M + 2 * vs.length ≤ 1000 ∧ outs.length + vs.length ≤ 1000 ∧ Aside0 (GSt W1 (w4.heap.size + 2) (w4.heap.size + 1) w4.heap.size A5 c5 vs A6 c6 outs M S wq) ∧ Aside0 (GPos l q S (vs.map RowT.xs) (outs.map RowT.xs)))
     case atStart => exact ⟨A5, c5, vs4, none, 0, [], 0, fun _ => false, Nat.le_refl _, rfl, rfl, by omega, by simp; omega, HST, HGP⟩
     case round =>
      obtain ⟨A5, c5, vs, A6, c6, outs, M, S, hgg, rfl, rfl, hM, hO, HST, HGP⟩ := hrel
      by_cases hne : vs.length = 0
      ·have hv0 : vs = [] := List.length_eq_zero_iff.1 hne
       have HOX : Aside0 (outs.map RowT.xs = orderG l q) := ⟨by have := HGP.out; rw [hv0] at this; exact this.done⟩
       have hnz : ¬ ((vs.length : Int) > 0) := by omega
       have HGO := Aside0.mk (fun r (hr : r ∈ outs) => HST.out.gin r (List.mem_append_right _ hr))
       have HRO := Aside0.mk HST.out.out
       have HGW := Aside0.mk (Grew.trans HG1.out HST.out.grew)
       have HLOW := Aside0.mk HST.out.low
       clear hv0 hgg hM hO
       go_wp2_with fail
       go_ret
       refine ⟨A6, c6, outs, rfl, Kd.R_lower HRO.out (by have := HLOW.out; have := HG1.out.size; omega), fun r hr => ⟨HGO.out r hr, ?_⟩, HOX.out, HGW.out⟩
       exact ord_len2 q (lows l q) 64 (fun _ => false) r.xs (by
        show r.xs ∈ orderG l q
        rw [← HOX.out]
        exact List.mem_map.2 ⟨r, hr, rfl⟩)
      ·have hnz : (vs.length : Int) > 0 := by omega
       obtain ⟨G, cap, eG, _⟩ := Kd.R_form HST.out.left (by omega)
       injection eG with e1 _ e3
       subst e1 e3
       have hrng := HGP.out.rng HI.out HP.out
       have hrx : ∀ r ∈ vs, r.xs ≠ [] ∧ r.xs.length ≤ 2 ∧ ∀ f ∈ r.xs, 1 ≤ f ∧ f ≤ 63 := fun r hr => hrng r.xs (List.mem_map.2 ⟨r, hr, rfl⟩)
       obtain ⟨i, he, hil, hpi, hni⟩ : ∃ i : Nat, idx (fun r => rdyG S r.xs) vs = i ∧ ∃ hi : i < vs.length, rdyG S vs[i].xs = true ∧ ∀ j (hj : j < i), rdyG S (vs[j]'(by omega)).xs = false := by
        rcases idx_caseR (p := fun r => rdyG S r.xs) vs with ⟨_, hall⟩ | h
        ·obtain ⟨x, hx, hx2⟩ := HGP.out.ready HI.out HP.out HAC.out (by
          intro h0
          have : vs.length = 0 := by simpa using congrArg List.length h0
          exact hne this)
         obtain ⟨r, hr, rfl⟩ := List.mem_map.1 hx
         rw [hall r hr] at hx2
         cases hx2
        ·exact h
       have HNX : Aside0 (GPos l q (placeL S vs[i].xs) ((vs.eraseIdx i).map RowT.xs) ((outs ++ [vs[i]]).map RowT.xs)) := ⟨by
        have := HGP.out.step HI.out HP.out (i := i) (by simpa using hil) (by simpa using hpi) (fun j hj => by simpa using hni j hj)
        rw [List.getElem_map] at this
        rw [List.map_append, show (vs.eraseIdx i).map RowT.xs = (vs.map RowT.xs).eraseIdx i from (map_eraseR vs i).symm]
        exact this⟩
       have HIDX := Aside0.mk (IndexFunc_v (fun r => rdyG S r.xs) (some ⟨G, 0, none⟩) c5 vs 43 #[] #[.pointer (some ⟨w4.heap.size + 1, 0, none⟩)] wr (Kd.R_reads' HST.out.left).2.2 (Kd.R_reads' HST.out.left).2.1 (by omega) (enters_of Tryz.func43 (by kernel_rfl) rfl)
        (fun r hr W hW => by
         have h2 := HST.out.later hW
         have hx := hrx r hr
         obtain ⟨k, ek, ec, _⟩ := h2.gin r (List.mem_append_left _ hr)
         have hC := (h2.gin r (List.mem_append_left _ hr)).C (by omega)
         exact Grp1_calls (w4.heap.size + 1) w4.heap.size M S r.A r.c r.xs W (blk_cell h2.box 0) h2.map hC (by omega) hx.2.1 hx.2.2))
       rw [he] at HIDX
       have HHI := Aside0.mk hil
       have HRM := Aside0.mk (List.getElem_mem hil)
       have HRX := Aside0.mk (hrx vs[i] (List.getElem_mem hil))
       obtain ⟨r, hr⟩ : ∃ r, r = vs[i] := ⟨_, rfl⟩
       have HRE : Aside0 (∀ h : i < vs.length, r = vs[i]'h) := ⟨fun _ => hr⟩
       rw [← hr] at HNX HRM HRX
       have hel : (vs.eraseIdx i).length = vs.length - 1 := by rw [List.length_eraseIdx, if_pos hil]
       have HEL := Aside0.mk hel
       have hiz : (i : Int) < (vs.length : Int) := by omega
       have hbx := HST.out.box
       have kb : wr.cell? ⟨w4.heap.size + 1, 0, none⟩ = some (.map (some w4.heap.size)) := blk_cell hbx 0
       clear hbx hrng hrx he hpi hni hr hel hil
       go_wp2_with fail
       refine HIDX.out.mono ?_
       rintro e w6 ⟨rfl, hG6⟩
       have HST6 := Aside0.mk (HST.out.later hG6)
       obtain ⟨ad, e0, hx⟩ := Kr_read (Kd.R_reads' HST6.out.left).2.2 i HHI.out
       cases e0
       rw [← HRE.out HHI.out] at hx
       obtain ⟨kr, ekr, ecr, hkr⟩ := HST6.out.gin r (List.mem_append_left _ HRM.out)
       have hv : r.v = .slice (some ⟨kr, 0, none⟩) r.xs.length r.xs.length := by unfold RowT.v; rw [ekr, ecr]
       rw [hv, Addr.add_lit, Nat.zero_add] at hx
       have hxl := HRX.out.2.1
       have HXR := Aside0.mk HRX.out.2.2
       have HV := Aside0.mk hv
       have HRIN := Aside0.mk (HST6.out.gin r (List.mem_append_left _ HRM.out))
       clear hG6 kb hkr ekr ecr hv
       go_wp2_with fail
       go_loopg [14, 58] r.xs.length (fun gg _ s58 wq => ∃ j : Nat, j ≤ r.xs.length ∧ r.xs.length - j ≤ gg ∧ s58 = .int .i64 j ∧ Aside0 (GSt W1 (w4.heap.size + 2) (w4.heap.size + 1) w4.heap.size (some ⟨G, 0, none⟩) c5 vs A6 c6 outs (M + j) (placeL S (r.xs.take j)) wq))
       case atStart => exact ⟨0, Nat.zero_le _, by omega, rfl, ⟨by rw [List.take_zero]; exact HST6.out⟩⟩
       case round =>
        obtain ⟨j, hjl, hgj, rfl, HSJ⟩ := hrel
        have HGJ := Aside0.mk (HSJ.out.gin r (List.mem_append_left _ HRM.out))
        by_cases hjt : j < r.xs.length
        ·have hjtz : (j : Int) < (r.xs.length : Int) := by omega
         obtain ⟨kj, ekj, _, hkj⟩ := HGJ.out
         have hxj := HXR.out r.xs[j] (List.getElem_mem hjt)
         have hcj : wr.cell? ⟨kj, j, none⟩ = some (.int .i64 r.xs[j]) := by
          have := blk_cell hkj j
          rw [this]
          simp [hjt]
         have hkk : kj = kr := by
          obtain ⟨k3, e3, _⟩ := HRIN.out
          have hv := HV.out
          unfold RowT.v at hv
          rw [ekj] at hv
          injection hv with h1 _ _
          injection h1 with h1
          injection h1
         subst hkk
         have hpl : placeL S (r.xs.take (j + 1)) = upd (placeL S (r.xs.take j)) r.xs[j] true := by rw [List.take_succ_eq_append_getElem hjt, placeL_snoc]
         obtain ⟨w7, hr7, hS7, hg7⟩ := HSJ.out.map.store (by omega) r.xs[j] (wf_face hxj.1 hxj.2) true
         rw [← hpl] at hS7
         have HS7 := Aside0.mk (HSJ.out.store hS7 hg7)
         have kb : wr.cell? ⟨w4.heap.size + 1, 0, none⟩ = some (.map (some w4.heap.size)) := blk_cell HSJ.out.box 0
         generalize r.xs[j] = f at hcj hr7
         clear hkj hS7 hg7 hpl hxj ekj
         go_wp2_with fail
         go_roundg (r.xs.length - (j + 1))
         case measure => omega
         case rel => exact ⟨j + 1, by omega, Nat.le_refl _, by go_num, by rw [Nat.add_assoc] at HS7; exact HS7⟩
        ·have hjtz : ¬ (j : Int) < (r.xs.length : Int) := by omega
         have hje : j = r.xs.length := by omega
         have HS8 : Aside0 (GSt W1 (w4.heap.size + 2) (w4.heap.size + 1) w4.heap.size (some ⟨G, 0, none⟩) c5 vs A6 c6 outs (M + r.xs.length) (placeL S r.xs) wr) := ⟨by
          have := HSJ.out
          rw [hje, List.take_length] at this
          exact this⟩
         obtain ⟨ad, e0, hx⟩ := Kr_read (Kd.R_reads' HS8.out.left).2.2 i HHI.out
         cases e0
         rw [← HRE.out HHI.out, HV.out, Addr.add_lit, Nat.zero_add] at hx
         have HSZ := Aside0.mk HS8.out.size
         have HRO := Aside0.mk HS8.out.out
         clear hje hgj
         go_wp2_with (at_builtin; rw [← HV.out]; refine append_grp (w4.heap.size + 2) rfl (.tmp 65) (.tmp 70) rfl _ outs r rfl rfl HRO.out HSZ.out (by omega) ?_; intro A7 c7 w7 hR7 hB7 hg7; have HS7 := Aside0.mk (HS8.out.append HRM.out hR7 hB7 hg7); clear hR7 hB7 hg7)
         have HDL := Aside0.mk (DelV_calls vs i HHI.out w7 (Kd.R_mono HS7.out.left (fun _ _ => trivial)) (by omega))
         rw [show ((i + 1 : Nat) : Int) = (i : Int) + 1 by omega] at HDL
         have hi200 : (i : Int) ≤ 1000 := by omega
         go_wp2_with fail
         refine HDL.out.mono ?_
         rintro e w8 ⟨rfl, hR8, hg8⟩
         have HS9 := Aside0.mk (HS7.out.delete hR8 hg8)
         clear hR8 hg8
         go_wp2_with fail
         go_roundg (vs.eraseIdx i).length
         case measure => have := HEL.out; omega
         case rel => exact ⟨some ⟨G, 0, none⟩, c5, vs.eraseIdx i, A7, c7, outs ++ [r], M + r.xs.length, placeL S r.xs, Nat.le_refl _, rfl, by rw [List.length_append]; rfl, by have := HEL.out; omega, by rw [List.length_append, List.length_singleton]; have := HEL.out; omega, HS9, HNX⟩

end Go.Proofs.YtniikppojffiaaaGreat.K
end

section
/- Truths by number: a list that reads as a set. -/
namespace Go.Proofs.YtniikppojffiaaaGreat.K
open Go.RowKit Go.Shelf Go.Proofs.YtniikppojffiaaaGreat.Q Go.Proofs.YtniikppojffiaaaGreatW.PrintWords Go.Proofs.YtniikppojffiaaaGreatW.PrintLast Go.Proofs.YtniikppojffiaaaGreatW.PrintMore
set_option linter.unusedVariables false
set_option linter.unusedSimpArgs false

/-- A list of 64 truths reads as the set. -/
structure MetL (met : List Bool) (S : Int → Bool) : Prop where
 len : met.length = 64
 at_ : ∀ x : Int, 0 ≤ x → x < 64 → rdOf false met x = S x
theorem MetL.start : MetL (List.replicate 64 false) (fun _ => false) := ⟨by simp, fun x h0 h1 => by
 obtain ⟨n, rfl⟩ : ∃ n : Nat, x = (n : Int) := ⟨x.toNat, by omega⟩
 have hn : n < 64 := by omega
 unfold rdOf
 rw [Int.toNat_natCast, List.getD_eq_getElem?_getD, List.getElem?_replicate, if_pos hn]
 rfl⟩
theorem MetL.set {met : List Bool} {S : Int → Bool} (h : MetL met S) (x : Int) (h0 : 0 ≤ x) (h1 : x < 64) : MetL (met.set x.toNat true) (upd S x true) := ⟨by rw [List.length_set]; exact h.len, fun y y0 y1 => by
 obtain ⟨n, rfl⟩ : ∃ n : Nat, x = (n : Int) := ⟨x.toNat, by omega⟩
 obtain ⟨m, rfl⟩ : ∃ m : Nat, y = (m : Int) := ⟨y.toNat, by omega⟩
 have hl := h.len
 have hy := h.at_ (m : Int) y0 y1
 unfold upd
 by_cases e : m = n
 ·subst e
  have hm : m < met.length := by omega
  rw [if_pos rfl]
  simp [rdOf, hm]
 ·rw [if_neg (by omega), ← hy]
  simp [rdOf, List.getElem?_set_ne (fun e' : n = m => e e'.symm)]⟩
theorem high_good {q : List PairT} (hg : GoodQ q) (a : Int) : highL q a = 0 ∨ (1 ≤ highL q a ∧ highL q a ≤ 63) := by
 rcases high_cases q a with ⟨h1, _⟩ | ⟨p, hp, _, h2⟩
 ·exact .inl h1
 ·have := hg.f1 p hp
  rw [h2] at this
  exact .inr this
end Go.Proofs.YtniikppojffiaaaGreat.K
end

section
/- Written by a program of this session (myprint.py over the kit's print). -/
namespace Go.Proofs.YtniikppojffiaaaGreat.Q
open Go.RowKit Go.Proofs.YtniikppojffiaaaGreatW.PrintWords Go.Proofs.YtniikppojffiaaaGreatW.PrintLast Go.Proofs.YtniikppojffiaaaGreatW.PrintMore
attribute [local go_sem] max2_int min2_int max_two min_two max_three min_three max_four min_four   -- for this text's walks alone
set_option linter.unusedVariables false
set_option linter.unusedSimpArgs false

/-! ### spec_l02High: function 33 -/
def spec_l02High.l0 : Nat → List (S46) → Int → Int → Option (Int)
 | 0, _, _, _ => none
 | k + 1, x0, x1, x5 => if x5 < (x0.length : Int) then (if 0 ≤ x5 then (if ((rd_T46 x0 x5).f0) = x1 then (some ((rd_T46 x0 x5).f1)) else (spec_l02High.l0 k x0 x1 (wrap64 (x5 + 1)))) else (none)) else (some 0)
def spec_l02High.f (k : Nat) (l0 : List (S46)) (a1 : Int) : Option (Int) := spec_l02High.l0 k l0 a1 0
theorem spec_l02High.mono_l : ∀ k, (∀ y0 y1 y2, LeO (spec_l02High.l0 k y0 y1 y2) (spec_l02High.l0 (k + 1) y0 y1 y2))
 | 0 => fun _ _ _ r h => by simp [spec_l02High.l0] at h
 | k + 1 => by
  have ih0 := spec_l02High.mono_l k
  ·intro y0 y1 y2
   unfold spec_l02High.l0
   repeat' first
   | (with_reducible exact ih0 _ _ _)
   | (with_reducible exact LeO.refl _)
   | (with_reducible exact LeO.none _)
   | (with_reducible refine LeO.ite ?_ ?_)
   | (with_reducible refine LeO.bind ?_ (fun _ => ?_))
   | exact ih0 _ _ _
   | exact LeO.none _
   | refine LeO.ite ?_ ?_
   | refine LeO.bind ?_ (fun _ => ?_)
theorem spec_l02High.mono : ∀ a0 a1 k, LeO (spec_l02High.f k a0 a1) (spec_l02High.f (k + 1) a0 a1) := by
 intro a0 a1 k
 have ih0 := spec_l02High.mono_l k
 unfold spec_l02High.f
 repeat' first
   | (with_reducible exact ih0 _ _ _)
   | (with_reducible exact LeO.refl _)
   | (with_reducible exact LeO.none _)
   | (with_reducible refine LeO.ite ?_ ?_)
   | (with_reducible refine LeO.bind ?_ (fun _ => ?_))
   | exact ih0 _ _ _
   | exact LeO.none _
   | refine LeO.ite ?_ ?_
   | refine LeO.bind ?_ (fun _ => ?_)
set_option maxHeartbeats 8000000 in
set_option maxRecDepth 100000 in
theorem spec_l02High.calls (k : Nat) (A0 : Option Addr) (c0 : Nat) (l0 : List (S46)) (a1 : Int) (r : Int) (w : World) (hr0 : Kd.C k46 w A0 l0.length l0) (hc0 : l0.length ≤ c0) (h : spec_l02High.f k l0 a1 = some r) :
  Calls Tryz.prog 33 #[.slice A0 l0.length c0, .int .i64 a1] w fun e w' => e = .returned (.int .i64 r) ∧ Drawn0 w w' := by
 have HR0 := Aside0.mk hr0
 have HC0 := Aside0.mk hc0
 clear hr0 hc0
 have H : (spec_l02High.l0 k l0 a1 0) = some r := h
 clear h
 have H' := Aside0.mk H
 clear H
 go_enter Tryz.func33, Tryz.ntmps33
 go_wp2
 go_loopg [5] k (fun kq v5 w' => ∃ (x5_1 : Int), v5 = .int .i64 x5_1 ∧ Aside0 (spec_l02High.l0 kq l0 a1 x5_1 = some r) ∧ Aside0 (kq ≤ k) ∧ Drawn0 w w')
 case atStart => exact ⟨(0), (by first | rfl | (simp; done) | (simp [*]; done)), H', ⟨Nat.le_refl _⟩, by repeat (first | exact Drawn0.refl _ | apply Drawn0.step)⟩
 case round =>
  clear H'
  try clear p2
  obtain ⟨x5_1, rfl, HA, HK1, ⟨m1, rfl⟩⟩ := hrel
  cases gk with
  | zero => exact absurd HA.out (by simp [spec_l02High.l0])
  | succ k1 =>
   have H := HA.out
   clear HA
   simp only [spec_l02High.l0] at H
   by_cases c3 : x5_1 < (l0.length : Int)
   ·rw [if_pos c3] at H
    have c3b0 : decide (x5_1 < (l0.length : Int)) = true := decide_eq_true c3
    clear c3
    by_cases c4 : 0 ≤ x5_1
    ·rw [if_pos c4] at H
     have c4b0 : decide (0 ≤ x5_1) = true := decide_eq_true c4
     clear c4
     by_cases c5 : ((rd_T46 l0 x5_1).f0) = a1
     ·rw [if_pos c5] at H
      have c5b0 : (((rd_T46 l0 x5_1).f0) == a1) = true := beq_iff_eq.mpr c5
      have c5b1 : (((rd_T46 l0 x5_1).f0) != a1) = false := bne_eq_false_iff_eq.mpr c5
      clear c5
      obtain rfl := Option.some.inj H
      have p149 : 0 ≤ (x5_1 : Int) := of_decide_eq_true (by first | (with_reducible assumption) | assumption)
      have q149 : x5_1 < (l0.length : Int) := of_decide_eq_true (by first | (with_reducible assumption) | assumption)
      obtain ⟨ad149, e149, hx149_0, hx149_1⟩ := at_T46 HR0.out x5_1 p149 q149
      cases e149
      replace p149 := eq_true p149
      replace q149 := eq_true q149
      have p150 : 0 ≤ (x5_1 : Int) := of_decide_eq_true (by first | (with_reducible assumption) | assumption)
      have q150 : x5_1 < (l0.length : Int) := of_decide_eq_true (by first | (with_reducible assumption) | assumption)
      obtain ⟨ad150, e150, hx150_0, hx150_1⟩ := at_T46 HR0.out x5_1 p150 q150
      obtain rfl : ad149 = ad150 := (by injection e150)
      replace p150 := eq_true p150
      replace q150 := eq_true q150
      go_wp2
      go_ret
      exact ⟨by first | rfl | (simp; done) | (simp [*]; done), by repeat (first | exact Drawn0.refl _ | apply Drawn0.step)⟩
     ·rw [if_neg c5] at H
      have c5b0 : (((rd_T46 l0 x5_1).f0) == a1) = false := beq_eq_false_iff_ne.mpr c5
      have c5b1 : (((rd_T46 l0 x5_1).f0) != a1) = true := bne_iff_ne.mpr c5
      have H' := Aside0.mk H
      clear H
      have p149 : 0 ≤ (x5_1 : Int) := of_decide_eq_true (by first | (with_reducible assumption) | assumption)
      have q149 : x5_1 < (l0.length : Int) := of_decide_eq_true (by first | (with_reducible assumption) | assumption)
      obtain ⟨ad149, e149, hx149_0, hx149_1⟩ := at_T46 HR0.out x5_1 p149 q149
      cases e149
      replace p149 := eq_true p149
      replace q149 := eq_true q149
      go_wp2
      go_roundg k1
      case measure => have := HK1.out; omega
      case rel => exact ⟨(wrap64 (x5_1 + 1)), (by first | rfl | (simp; done) | (simp [*]; done)), H', ⟨by have := HK1.out; omega⟩, by repeat (first | exact Drawn0.refl _ | apply Drawn0.step)⟩
    ·rw [if_neg c4] at H
     exact absurd H (by simp)
   ·rw [if_neg c3] at H
    have c3b0 : decide (x5_1 < (l0.length : Int)) = false := decide_eq_false c3
    clear c3
    obtain rfl := Option.some.inj H
    go_wp2
    go_ret
    exact ⟨by first | rfl | (simp; done) | (simp [*]; done), by repeat (first | exact Drawn0.refl _ | apply Drawn0.step)⟩

end Go.Proofs.YtniikppojffiaaaGreat.Q
end

section
/- The high face of a pair, plain. -/
namespace Go.Proofs.YtniikppojffiaaaGreat.K
open Go.RowKit Go.Shelf Go.Proofs.YtniikppojffiaaaGreat.Q Go.Proofs.YtniikppojffiaaaGreatW.PrintWords Go.Proofs.YtniikppojffiaaaGreatW.PrintLast Go.Proofs.YtniikppojffiaaaGreatW.PrintMore
set_option linter.unusedVariables false
set_option linter.unusedSimpArgs false

theorem specHigh_loop (q : List PairT) (hq : q.length ≤ 4000) (a : Int) : ∀ (e i k : Nat), q.length - i = e → i ≤ q.length → e < k → spec_l02High.l0 k q a (i : Int) = some (highL (q.drop i) a) := by
 intro e
 induction e with
 | zero =>
  intro i k he hi hk
  obtain ⟨k, rfl⟩ : ∃ m, k = m + 1 := ⟨k - 1, by omega⟩
  obtain rfl : i = q.length := by omega
  simp only [spec_l02High.l0]
  rw [if_neg (by omega), List.drop_eq_nil_of_le (by omega)]
  rfl
 | succ e ih =>
  intro i k he hi hk
  obtain ⟨k, rfl⟩ : ∃ m, k = m + 1 := ⟨k - 1, by omega⟩
  have hil : i < q.length := by omega
  simp only [spec_l02High.l0]
  rw [if_pos (by omega), if_pos (by omega), rdP q i hil, w64 ((i : Int) + 1) (by omega) (by omega), nat_succ, ih (i + 1) k (by omega) (by omega) (by omega), List.drop_eq_getElem_cons hil, highL]
  split <;> rfl
theorem specHigh_is (q : List PairT) (hq : q.length ≤ 4000) (a : Int) (k : Nat) (hk : 4001 ≤ k) : spec_l02High.f k q a = some (highL q a) := by
 unfold spec_l02High.f
 have := specHigh_loop q hq a q.length 0 k (by omega) (by omega) (by omega)
 rw [show ((0 : Nat) : Int) = 0 from rfl, List.drop_zero] at this
 exact this
end Go.Proofs.YtniikppojffiaaaGreat.K
end
