/- The row of the law FnExactCriticalValues: for every input the law answers true, and the arguments read as before. No conditions. -/
import Derived.Test.YtniikppojffiaaaJCva4
import Derived.Below
import Derived.Deep.Draws
import Derived.Deep.AppendLies
import Derived.Maps.AppendAt
import Derived.OwnWalk
import Derived.Laws.BytesArg
import Derived.Laws.MakeOwn
import Derived.Laws.OwnMore
import Derived.Deep.OwnRows
import Derived.Tactics
import Derived.Lib.ConvBytes
import Derived.Laws.Slices
import Derived.WalkKit
import Derived.KernelRfl
import Derived.RowKit3
import Derived.Deep.LoopGhost
import Derived.Deep.QuietTactic
import Derived.BigQuiet
import Derived.WideLaws
import Derived.Deep.DeepCutAuto
import Derived.Deep.CutBlock
import Derived.Deep.RegionHeld3
import Derived.Laws.Rows
import Derived.Lib.AppendStr
import Derived.ArgAppend
import Derived.Laws.IdiomCopy
import Derived.RowKit
import Derived.OrdersHeld
import Derived.Laws.BitsLemmas
import Derived.Test.YtniikppojffiaaaProg
import Derived.Shelf.Abstract
import Derived.Laws.StructEq
import Derived.RangeFuncBox
import Derived.RangeFuncLeaves
import Derived.OwnWalkIn
import Derived.TacticsInMore
import Derived.LoopNIn
import Derived.LoopIn
import Derived.LoopN
import Derived.Lib.SliceRun
import Derived.ChangeKeysEq
import Derived.Maps.OwnSet
import Derived.Lib.SlicesCompact
import Derived.Test.YtniikppojffiaaaChecked
import Derived.Shelf.SortM.SortNone
import Derived.Shelf.SortM.Plain
import Derived.Shelf.SlicesG.CompactI
import Derived.Lib.SortBridge
import Derived.Lib.RowBridge
import Derived.Lib.Small
import Derived.JoinedOf
import Derived.Test.YtniikppojffiaaaRows
import Derived.ProofKit
import Derived.OpenShut
import Derived.ShutString
import Derived.ChangeOld
import Derived.SizedLaws
import Derived.Lib.SmallJoins
section
/- The faces above a face, the reference's. -/
namespace Go.Proofs.Ytniikppojffiaaa.K
open Go.RowKit Go.Shelf Go.Proofs.Ytniikppojffiaaa.Q Go.Proofs.YtniikppojffiaaaW.PrintWords Go.Proofs.YtniikppojffiaaaW.PrintLast Go.Proofs.YtniikppojffiaaaW.PrintMore
set_option linter.unusedVariables false
set_option linter.unusedSimpArgs false

theorem specAbove_loop (n f : Int) (hf : 1 ≤ f ∧ f ≤ 63) (l : List Int) (hl : l.length ≤ 63) (hr : ∀ x ∈ l, 1 ≤ x ∧ x ≤ 63) : ∀ (d i k : Nat) (acc : List Int), l.length - i = d → i ≤ l.length → d + 8 < k → acc.length ≤ i →
    spec_l01Above.l0 k f acc (i : Int) n l = some (acc ++ (l.drop i).filter (fun x => decide (Go.bits .and .i64 x f = f) && decide (onesI x = onesI f + 1))) := by
  have ho := ones_range f hf.1 hf.2
  intro d
  induction d with
  | zero =>
    intro i k acc hd hi hk ha
    obtain ⟨k, rfl⟩ : ∃ m, k = m + 1 := ⟨k - 1, by omega⟩
    obtain rfl : i = l.length := by omega
    simp only [spec_l01Above.l0]
    rw [if_neg (by omega)]
    simp
  | succ d ih =>
    intro i k acc hd hi hk ha
    obtain ⟨k, rfl⟩ : ∃ m, k = m + 1 := ⟨k - 1, by omega⟩
    simp only [spec_l01Above.l0]
    have hil : i < l.length := by omega
    have hx := hr _ (List.getElem_mem hil)
    have hin := fun acc' (h : acc'.length ≤ i + 1) => ih (i + 1) k acc' (by omega) (by omega) (by omega) h
    rw [if_pos (by omega), if_pos (by omega), rd_nat l i hil, w64 ((i : Int) + 1) (by omega) (by omega), nat_succ, List.drop_eq_getElem_cons hil, List.filter_cons]
    by_cases h : Go.bits .and .i64 l[i] f = f
    · rw [if_pos h, specOnes_is l[i] (by omega) (by omega) k (by omega), specOnes_is f (by omega) (by omega) k (by omega)]
      simp only [Option.bind_some]
      rw [w64 (onesI f + 1) (by omega) (by omega)]
      by_cases h2 : onesI l[i] = onesI f + 1
      · rw [if_pos h2]
        simp only [h, h2, decide_true, Bool.and_self, if_true]
        rw [if_pos (show acc.length < 17592186044416 by omega), hin _ (by simp; omega), List.append_assoc]
        rfl
      · rw [if_neg h2]
        simp only [h, h2, decide_true, decide_false, Bool.and_false, Bool.false_eq_true, if_false]
        exact hin _ (by omega)
    · rw [if_neg h]
      simp only [h, decide_false, Bool.false_and, Bool.false_eq_true, if_false]
      exact hin _ (by omega)
def aboveL (l : List Int) (f : Int) : List Int := l.filter (fun x => decide (Go.bits .and .i64 x f = f) && decide (onesI x = onesI f + 1))
theorem specAbove_is (n f : Int) (hf : 1 ≤ f ∧ f ≤ 63) (l : List Int) (hl : l.length ≤ 63) (hr : ∀ x ∈ l, 1 ≤ x ∧ x ≤ 63) (k : Nat) (hk : 72 ≤ k) : spec_l01Above.f k n l f = some (aboveL l f) := by
  have := specAbove_loop n f hf l hl hr l.length 0 k [] (by omega) (by omega) (by omega) (by simp)
  rw [show ((0 : Nat) : Int) = 0 from rfl, List.nil_append, List.drop_zero] at this
  exact this

end Go.Proofs.Ytniikppojffiaaa.K
end

section
/- complexCode and always. -/
namespace Go.Proofs.Ytniikppojffiaaa.K
open Go.RowKit Go.Shelf Go.Proofs.YtniikppojffiaaaW.PrintWords Go.Proofs.YtniikppojffiaaaW.PrintLast Go.Proofs.YtniikppojffiaaaW.PrintMore
set_option linter.unusedVariables false
set_option linter.unusedSimpArgs false

/-- The code of a complex and of a range. -/
def codeOf (n : Int) (l : List Int) (b : Bool) : Int := if isC n l then (if b then 0 else 2) else 1
theorem codeOf_zero {n : Int} {l : List Int} {b : Bool} (h : codeOf n l b = 0) : isC n l = true ∧ b = true := by
  unfold codeOf at h
  cases hi : isC n l <;> cases b <;> simp [hi] at h ⊢

set_option maxHeartbeats 1000000 in
theorem complexCode_calls (b : Bool) (n : Int) (A : Option Addr) (c : Nat) (l : List Int) (g : Nat) (first caps : Array Value) (w : World) (hk : Kx w A c l) (eg : EntersG g)
    (ha : isC n l = true → Answers w g (first ++ caps) (.bool b)) :
    Calls Try.prog 62 #[.agg #[I n, .slice A l.length c], .func (.func g) first caps] w fun e w' => e = .returned (I (codeOf n l b)) ∧ Grew w w' := by
  have hg : Grew w (w.alloc (.cells #[I n, .slice A l.length c] 30)) := below_alloc (Grew.refl w) _
  have H := Aside0.mk (IsComplex_calls n A c l _ (hk.later hg).r hk.c hk.b)
  have HA := Aside0.mk ha
  have HG := Aside0.mk hg
  clear hk ha hg
  obtain ⟨i, hi⟩ : ∃ i, i = isC n l := ⟨_, rfl⟩
  rw [← hi] at H
  cases i with
  | false =>
    have HV : Aside0 (codeOf n l b = 1) := ⟨by simp [codeOf, ← hi]⟩
    clear hi
    go_enter Try.func62, Try.ntmps62
    go_wp2_with fail
    refine H.out.mono ?_
    rintro e w1 ⟨rfl, hG1⟩
    go_wp2_with fail
    go_ret
    exact ⟨by rw [HV.out]; rfl, Grew.trans HG.out hG1⟩
  | true =>
    have HA2 := Aside0.mk (HA.out hi.symm)
    have HI := Aside0.mk hi
    clear hi HA
    cases b with
    | false =>
      have HV : Aside0 (codeOf n l false = 2) := ⟨by simp [codeOf, ← HI.out]⟩
      go_enter Try.func62, Try.ntmps62
      go_wp2_with fail
      refine H.out.mono ?_
      rintro e w1 ⟨rfl, hG1⟩
      have HG1 := Aside0.mk (Grew.trans HG.out hG1)
      have hcall := HA2.out w1 HG1.out
      clear hG1
      go_wp2_with fail
      refine hcall.mono ?_
      rintro e w2 ⟨rfl, hG2⟩
      clear hcall
      go_wp2_with fail
      go_ret
      exact ⟨by rw [HV.out]; rfl, Grew.trans HG1.out hG2⟩
    | true =>
      have HV : Aside0 (codeOf n l true = 0) := ⟨by simp [codeOf, ← HI.out]⟩
      go_enter Try.func62, Try.ntmps62
      go_wp2_with fail
      refine H.out.mono ?_
      rintro e w1 ⟨rfl, hG1⟩
      have HG1 := Aside0.mk (Grew.trans HG.out hG1)
      have hcall := HA2.out w1 HG1.out
      clear hG1
      go_wp2_with fail
      refine hcall.mono ?_
      rintro e w2 ⟨rfl, hG2⟩
      clear hcall
      go_wp2_with fail
      go_ret
      exact ⟨by rw [HV.out]; rfl, Grew.trans HG1.out hG2⟩

end Go.Proofs.Ytniikppojffiaaa.K
end

section
/- The reference's pairings come to what the program's come to. -/
namespace Go.Proofs.Ytniikppojffiaaa.K
open Go.RowKit Go.Shelf Go.Proofs.Ytniikppojffiaaa.Q Go.Proofs.YtniikppojffiaaaW.PrintWords Go.Proofs.YtniikppojffiaaaW.PrintLast Go.Proofs.YtniikppojffiaaaW.PrintMore
set_option linter.unusedVariables false
set_option linter.unusedSimpArgs false

theorem rdP (q : List PairT) (i : Nat) (h : i < q.length) : rd_T53 q (i : Int) = q[i] := by simp [rd_T53, h]
theorem specPair_is {n : Int} {l : List Int} (hi : isC n l = true) (x y : Int) (k : Nat) (hk : l.length + 8 < k) : spec_l02Pair.f k n l x y = some (pairK l ⟨x, y⟩) := by
 obtain ⟨hn, hs, hr, h63⟩ := isC_faces hi
 have hh : ∀ f, hasB l f = decide (f ∈ l) := fun f => has_asc l f (by omega) hs
 unfold spec_l02Pair.f pairK
 rw [specHas_is n x l (by omega) k (by omega), ← hh x]
 simp only [Option.bind_some]
 cases h1 : hasB l x with
 | false => simp
 | true =>
  rw [if_pos rfl, specHas_is n y l (by omega) k (by omega), ← hh y]
  simp only [Option.bind_some]
  cases h2 : hasB l y with
  | false => simp
  | true =>
   have hx := has_mem hi h1
   have hy := has_mem hi h2
   rw [if_pos rfl, inB_is x y (by omega) (by omega)]
   by_cases h3 : Go.bits .and .i64 x y = x
   ·rw [if_pos h3, specOnes_is y (by omega) (by omega) k (by omega), specOnes_is x (by omega) (by omega) k (by omega)]
    simp only [Option.bind_some]
    have := ones_le x
    have hw : wrap64 (onesI x + 1) = onesI x + 1 := by unfold wrap64; omega
    rw [hw, decide_eq_true h3]
    rfl
   ·rw [if_neg h3, decide_eq_false h3]
    rfl
theorem specLess_is (a b c d : Int) : spec_l02Less.f a b c d = some (decide (cmp2 a b c d < 0)) := by
 unfold spec_l02Less.f cmp2 cmp1
 by_cases h1 : a < c
 ·simp [h1]
 ·by_cases h2 : a = c
  ·subst h2
   by_cases h3 : b < d
   ·simp [h3]
   ·by_cases h4 : d < b <;> simp [h3, h4]
  ·have h3 : c < a := by omega
   simp [h1, h2, h3]
/-- Two pairs share a number. -/
def clash (p r : PairT) : Bool := p.f0 == r.f0 || p.f0 == r.f1 || p.f1 == r.f0 || p.f1 == r.f1
theorem seen_clash (q : List PairT) (i : Nat) (p : PairT) : (!seenB q i p.f0 && !seenB q i p.f1) = (q.take i).all fun r => !clash p r := by
 unfold seenB
 generalize q.take i = L
 induction L with
 | nil => rfl
 | cons r L ih =>
  rw [List.any_cons, List.any_cons, List.all_cons, ← ih]
  unfold clash
  have e1 : (r.f0 == p.f0) = (p.f0 == r.f0) := BEq.comm
  have e2 : (r.f1 == p.f0) = (p.f0 == r.f1) := BEq.comm
  have e3 : (r.f0 == p.f1) = (p.f1 == r.f0) := BEq.comm
  have e4 : (r.f1 == p.f1) = (p.f1 == r.f1) := BEq.comm
  rw [e1, e2, e3, e4]
  generalize L.any (fun r => r.f0 == p.f0 || r.f1 == p.f0) = a
  generalize L.any (fun r => r.f0 == p.f1 || r.f1 == p.f1) = b
  cases (p.f0 == r.f0) <;> cases (p.f0 == r.f1) <;> cases (p.f1 == r.f0) <;> cases (p.f1 == r.f1) <;> cases a <;> cases b <;> rfl
theorem specIs02_l1 (n : Int) (l : List Int) (q : List PairT) (hq : q.length ≤ 2097152) (i : Nat) (hi : i < q.length) : ∀ (e j k : Nat), i - j = e → j ≤ i → e < k →
  spec_l02Is.l1 k q (i : Int) (j : Int) n l = if ((q.take i).drop j).all (fun r => !clash q[i] r) then spec_l02Is.l0 (k - (e + 1)) q ((i + 1 : Nat) : Int) n l else some false := by
 intro e
 induction e with
 | zero =>
  intro j k he hj hk
  obtain ⟨k, rfl⟩ : ∃ m, k = m + 1 := ⟨k - 1, by omega⟩
  obtain rfl : j = i := by omega
  simp only [spec_l02Is.l1]
  rw [if_neg (by omega), w64 ((j : Int) + 1) (by omega) (by omega), nat_succ, List.drop_eq_nil_of_le (by rw [List.length_take]; omega)]
  simp
 | succ e ih =>
  intro j k he hj hk
  obtain ⟨k, rfl⟩ : ∃ m, k = m + 1 := ⟨k - 1, by omega⟩
  have hji : j < i := by omega
  have hjl : j < (q.take i).length := by rw [List.length_take]; omega
  simp only [spec_l02Is.l1]
  rw [if_pos (by omega), if_pos (by omega), if_pos (by omega), if_pos (by omega), if_pos (by omega), rdP q i hi, rdP q j (by omega), w64 ((j : Int) + 1) (by omega) (by omega), nat_succ, ih (j + 1) k (by omega) (by omega) (by omega), List.drop_eq_getElem_cons hjl, List.getElem_take, List.all_cons]
  have hkk : k + 1 - (e + 1 + 1) = k - (e + 1) := by omega
  rw [hkk]
  unfold clash
  by_cases h1 : q[i].f0 = q[j].f0
  ·simp [h1]
  ·by_cases h2 : q[i].f0 = q[j].f1
   ·simp [h1, h2]
   ·by_cases h3 : q[i].f1 = q[j].f0
    ·simp [h1, h2, h3]
    ·by_cases h4 : q[i].f1 = q[j].f1
     ·simp [h1, h2, h3, h4]
     ·have e1 : (q[i].f0 == q[j].f0) = false := by simpa using h1
      have e2 : (q[i].f0 == q[j].f1) = false := by simpa using h2
      have e3 : (q[i].f1 == q[j].f0) = false := by simpa using h3
      have e4 : (q[i].f1 == q[j].f1) = false := by simpa using h4
      rw [if_neg h1, if_neg h2, if_neg h3, if_neg h4, e1, e2, e3, e4]
      rfl
theorem specIs02_l0 {n : Int} {l : List Int} (hC : isC n l = true) (q : List PairT) (hq : q.length ≤ 2097152) : ∀ (e i k : Nat), q.length - i = e → i ≤ q.length → e * (q.length + 5) + l.length + 12 < k →
  spec_l02Is.l0 k q (i : Int) n l = some (((List.range q.length).drop i).all (okAt l q)) := by
 intro e
 induction e with
 | zero =>
  intro i k he hi hk
  obtain ⟨k, rfl⟩ : ∃ m, k = m + 1 := ⟨k - 1, by omega⟩
  obtain rfl : i = q.length := by omega
  simp only [spec_l02Is.l0]
  rw [if_neg (by omega), List.drop_eq_nil_of_le (by simp)]
  rfl
 | succ e ih =>
  intro i k he hi hk
  rw [Nat.succ_mul] at hk
  generalize hM : e * (q.length + 5) = M at hk ih
  obtain ⟨k, rfl⟩ : ∃ m, k = m + 1 := ⟨k - 1, by omega⟩
  have hil : i < q.length := by omega
  have hrl : i < (List.range q.length).length := by rw [List.length_range]; exact hil
  rw [List.drop_eq_getElem_cons hrl, List.getElem_range, List.all_cons, okAt_eq l q i hil]
  have hsc := seen_clash q i q[i]
  have hfin : ∀ k', e * (q.length + 5) + l.length + 12 < k' → spec_l02Is.l0 k' q ((i + 1 : Nat) : Int) n l = some (((List.range q.length).drop (i + 1)).all (okAt l q)) := fun k' hk' => ih (i + 1) k' (by omega) (by omega) (by omega)
  simp only [spec_l02Is.l0]
  rw [if_pos (by omega), if_pos (by omega), rdP q i hil, specPair_is hC _ _ k (by omega)]
  simp only [Option.bind_some]
  cases hp : pairK l q[i] with
  | false =>
   rw [if_neg (by simp)]
   obtain ⟨k, rfl⟩ : ∃ m, k = m + 1 := ⟨k - 1, by omega⟩
   simp only [spec_l02Is.j1]
   simp
  | true =>
   rw [if_pos rfl]
   have hrest : ∀ k' : Nat, M + q.length + l.length + 14 < k' → spec_l02Is.l1 k' q (i : Int) 0 n l = some ((!seenB q i q[i].f0 && !seenB q i q[i].f1) && ((List.range q.length).drop (i + 1)).all (okAt l q)) := fun k' hk' => by
    have h1 := specIs02_l1 n l q hq i hil i 0 k' (by omega) (by omega) (by omega)
    rw [show ((0 : Nat) : Int) = 0 from rfl, List.drop_zero, ← hsc] at h1
    rw [h1]
    cases hs : (!seenB q i q[i].f0 && !seenB q i q[i].f1) with
    | false => simp
    | true => rw [if_pos rfl, hfin _ (by omega)]; simp
   by_cases h0 : i = 0
   ·subst h0
    rw [if_neg (by omega)]
    obtain ⟨k, rfl⟩ : ∃ m, k = m + 1 := ⟨k - 1, by omega⟩
    simp only [spec_l02Is.j1]
    have h9 := hrest k (by omega)
    rw [show ((0 : Nat) : Int) = 0 from rfl] at h9
    rw [if_neg (by simp), show ((0 : Nat) : Int) = 0 from rfl, h9]
    simp
   ·have hw : wrap64 ((i : Int) - 1) = ((i - 1 : Nat) : Int) := by rw [w64 _ (by omega) (by omega)]; omega
    rw [if_pos (by omega), hw, if_pos (by omega), if_pos (by omega), rdP q (i - 1) (by omega), specLess_is]
    simp only [Option.bind_some]
    obtain ⟨k, rfl⟩ : ∃ m, k = m + 1 := ⟨k - 1, by omega⟩
    have hgd : q.getD (i - 1) z53 = q[i - 1]'(by omega) := by simp [show i - 1 < q.length by omega]
    have hi0 : (i == 0) = false := by simpa using h0
    rw [hgd, hi0]
    simp only [spec_l02Is.j1]
    cases hc : decide (cmp2 (q[i - 1]'(by omega)).f0 (q[i - 1]'(by omega)).f1 q[i].f0 q[i].f1 < 0) with
    | false => simp
    | true =>
     rw [if_neg (by simp), hrest k (by omega)]
     simp
def pgK (l : List Int) (q : List PairT) : Nat := q.length * (q.length + 5) + l.length + 13
theorem specIs02_is {n : Int} {l : List Int} (hC : isC n l = true) (q : List PairT) (hq : q.length ≤ 2097152) (k : Nat) (hk : pgK l q ≤ k) : spec_l02Is.f k n l q = some (pingB l q) := by
 unfold spec_l02Is.f
 have := specIs02_l0 hC q hq q.length 0 k (by omega) (by omega) (by unfold pgK at hk; omega)
 rw [show ((0 : Nat) : Int) = 0 from rfl, List.drop_zero] at this
 exact this
end Go.Proofs.Ytniikppojffiaaa.K
end

section
/- The reference's falling pairs come to what the program's come to. -/
namespace Go.Proofs.Ytniikppojffiaaa.K
open Go.RowKit Go.Shelf Go.Proofs.Ytniikppojffiaaa.Q Go.Proofs.YtniikppojffiaaaW.PrintWords Go.Proofs.YtniikppojffiaaaW.PrintLast Go.Proofs.YtniikppojffiaaaW.PrintMore
set_option linter.unusedVariables false
set_option linter.unusedSimpArgs false

theorem specAt_loop (n x : Int) (l f : List Int) (hl : l.length ≤ 63) (hf : f.length = l.length) : ∀ (e i k : Nat), l.length - i = e → i ≤ l.length → e < k →
  spec_l04At.l0 k f x (i : Int) n l = some (atV (l.drop i) (f.drop i) x) := by
 intro e
 induction e with
 | zero =>
  intro i k he hi hk
  obtain ⟨k, rfl⟩ : ∃ m, k = m + 1 := ⟨k - 1, by omega⟩
  obtain rfl : i = l.length := by omega
  simp only [spec_l04At.l0]
  rw [if_neg (by omega), List.drop_eq_nil_of_le (by omega)]
  simp [atV]
 | succ e ih =>
  intro i k he hi hk
  obtain ⟨k, rfl⟩ : ∃ m, k = m + 1 := ⟨k - 1, by omega⟩
  have hil : i < l.length := by omega
  have hif : i < f.length := by omega
  simp only [spec_l04At.l0]
  rw [if_pos (by omega), if_pos (by omega), if_pos (by omega), rd_nat l i hil, rd_nat f i hif, w64 ((i : Int) + 1) (by omega) (by omega), nat_succ, ih (i + 1) k (by omega) (by omega) (by omega), List.drop_eq_getElem_cons hil, List.drop_eq_getElem_cons hif, atV]
  split <;> rfl
theorem specAt_is (n x : Int) (l f : List Int) (hl : l.length ≤ 63) (hf : f.length = l.length) (k : Nat) (hk : 64 ≤ k) : spec_l04At.f k n l f x = some (atV l f x) := by
 unfold spec_l04At.f
 have := specAt_loop n x l f hl hf l.length 0 k (by omega) (by omega) (by omega)
 rw [show ((0 : Nat) : Int) = 0 from rfl, List.drop_zero, List.drop_zero] at this
 exact this
theorem pgK_le {l : List Int} (hl : l.length ≤ 63) {q : List PairT} (hq : q.length ≤ 4100) : pgK l q ≤ 17000000 := by
 unfold pgK
 have h1 : q.length * (q.length + 5) ≤ 4100 * 4105 := Nat.mul_le_mul hq (by omega)
 omega
theorem specWith_last {n : Int} {l : List Int} (hC : isC n l = true) (B : Nat) (hB : ∀ q : List PairT, q.length ≤ 4100 → pgK l q ≤ B) (q : List PairT) (hq : q.length ≤ 4099) (x y : Int) (hlt : ∀ p ∈ q, ¬ cmp2 x y p.f0 p.f1 < 0) (k : Nat) (hk : B < k) :
  spec_l02With.f k n l q x y = some (q ++ [⟨x, y⟩], pingB l (q ++ [⟨x, y⟩])) := by
 obtain ⟨k, rfl⟩ : ∃ m, k = m + 1 := ⟨k - 1, by omega⟩
 have h63 := (isC_faces hC).2.2.2
 have hp : (q ++ [(⟨x, y⟩ : PairT)]).length ≤ 4100 := by simp; omega
 have hI := specIs02_is hC (q ++ [⟨x, y⟩]) (by omega) k (Nat.le_trans (hB _ hp) (by omega))
 have hT : q.take (q.length : Int).toNat = q := by simp
 have hD : q.drop (q.length : Int).toNat = [] := by simp
 unfold spec_l02With.f
 simp only [spec_l02With.l0]
 by_cases h0 : q.length = 0
 ·rw [if_neg (by omega), hT, hD]
  simp only [Option.bind_some, List.append_nil, List.nil_append]
  rw [if_pos (by omega), if_pos (by omega), if_pos (by simp), if_pos (by simp; omega), if_pos (by simp; omega), hI]
  rfl
 ·have hw : Aside0 (wrap64 ((q.length : Int) - 1) = ((q.length - 1 : Nat) : Int)) := ⟨by rw [w64 _ (by omega) (by omega)]; omega⟩
  have hlast := hlt _ (List.getElem_mem (show q.length - 1 < q.length by omega))
  rw [if_pos (by omega), hw.out, if_pos (by omega), if_pos (by omega), rdP q (q.length - 1) (by omega), specLess_is, hT, hD]
  simp only [Option.bind_some, List.append_nil, List.nil_append]
  rw [decide_eq_false hlast, if_neg (by simp), if_pos (by omega), if_pos (by omega), if_pos (by simp), if_pos (by simp; omega), if_pos (by simp; omega), hI]
  rfl
theorem above_eq {n : Int} {l : List Int} (hi : isC n l = true) {a : Int} (ha : a ∈ l) : aboveL l a = l.filter fun b => pairK l ⟨a, b⟩ := by
 obtain ⟨hn, hs, hr, h63⟩ := isC_faces hi
 unfold aboveL
 apply List.filter_congr
 intro b hb
 have hra := hr a ha
 have hrb := hr b hb
 unfold pairK
 rw [mem_has hi ha, mem_has hi hb, inB_is a b (by omega) (by omega), and_comm' a b (by omega) (by omega)]
 rfl
theorem pairs_asc {n : Int} {l : List Int} (hi : isC n l = true) : l.Pairwise (· < ·) := (isC_faces hi).2.1
theorem cmp2_ge {x y : Int} {p : PairT} (h : p.f0 < x ∨ p.f0 = x ∧ p.f1 < y) : ¬ cmp2 x y p.f0 p.f1 < 0 := by
 unfold cmp2 cmp1
 rcases h with h | ⟨h, h2⟩
 all_goals (repeat' split)
 all_goals omega
def pick (l f : List Int) (a : Int) (ab : List Int) : List Int := ab.filter fun b => fallP l f ⟨a, b⟩
theorem specPairs_l1 {n : Int} {l f : List Int} (hC : isC n l = true) (B : Nat) (hB : ∀ q : List PairT, q.length ≤ 4100 → pgK l q ≤ B) (hf : f.length = l.length) (i : Nat) (hi : i < l.length) (ab : List Int) (hab : ab.Pairwise (· < ·)) (ha63 : ab.length ≤ 63) : ∀ (e j k c : Nat) (out : List PairT) (g : Bool), ab.length - j = e → j ≤ ab.length → B + e + 100 < k → out.length + e ≤ 4099 → c + e ≤ 100 →
  (∀ p ∈ out, p.f0 < l[i] ∨ p.f0 = l[i] ∧ ∀ b ∈ ab.drop j, p.f1 < b) →
  spec_l04Pairs.l1 k f out g (i : Int) ab (c : Int) (j : Int) n l = spec_l04Pairs.l2 (k - (e + 1)) f (out ++ (pick l f l[i] (ab.drop j)).map fun b => ⟨l[i], b⟩) g (i : Int) ((c + (pick l f l[i] (ab.drop j)).length : Nat) : Int) (bords l[i]) 0 0 n l := by
 obtain ⟨hn, hs, hr, h63⟩ := isC_faces hC
 have hrx := hr _ (List.getElem_mem hi)
 have hA := atV_get l f hs hf i hi (by omega)
 intro e
 induction e with
 | zero =>
  intro j k c out g he hj hk ho hc hout
  obtain ⟨k, rfl⟩ : ∃ m, k = m + 1 := ⟨k - 1, by omega⟩
  obtain rfl : j = ab.length := by omega
  simp only [spec_l04Pairs.l1]
  rw [if_neg (by omega), if_pos (by omega), if_pos (by omega), rd_nat l i hi, specBelow_is l[i] (by omega) (by omega) k (by omega), List.drop_eq_nil_of_le (by omega)]
  simp [pick]
 | succ e ih =>
  intro j k c out g he hj hk ho hc hout
  obtain ⟨k, rfl⟩ : ∃ m, k = m + 1 := ⟨k - 1, by omega⟩
  have hjl : j < ab.length := by omega
  have hkk : k + 1 - (e + 1 + 1) = k - (e + 1) := by omega
  have hd := List.drop_eq_getElem_cons hjl
  have HWj : Aside0 (wrap64 ((j : Int) + 1) = ((j + 1 : Nat) : Int)) := ⟨by rw [w64 _ (by omega) (by omega)]; omega⟩
  have HWc : Aside0 (wrap64 ((c : Int) + 1) = ((c + 1 : Nat) : Int)) := ⟨by rw [w64 _ (by omega) (by omega)]; omega⟩
  simp only [spec_l04Pairs.l1]
  rw [if_pos (by omega), if_pos (by omega), if_pos (by omega), if_pos (by omega), rd_nat ab j hjl, specAt_is n ab[j] l f h63 hf k (by omega), rd_nat f i (by omega), HWj.out, HWc.out]
  simp only [Option.bind_some]
  rw [hd] at hout
  have hpk : fallP l f ⟨l[i], ab[j]⟩ = decide (f[i]'(by omega) ≥ atV l f ab[j]) := by
   unfold fallP
   rw [hA]
   by_cases h : f[i]'(by omega) < atV l f ab[j]
   ·rw [decide_eq_true h, decide_eq_false (by omega)]; rfl
   ·rw [decide_eq_false h, decide_eq_true (by omega)]; rfl
  rw [hkk, hd]
  unfold pick
  rw [List.filter_cons, hpk]
  by_cases h : f[i]'(by omega) ≥ atV l f ab[j]
  ·rw [if_pos h, if_pos (by omega), rd_nat l i hi, specWith_last hC B hB out (by omega) l[i] ab[j] (fun p hp => cmp2_ge (by
    rcases hout p hp with h | ⟨h, h2⟩
    ·exact Or.inl h
    ·exact Or.inr ⟨h, h2 _ List.mem_cons_self⟩)) k (by omega)]
   simp only [Option.bind_some]
   rw [decide_eq_true h, if_pos rfl, ih (j + 1) k (c + 1) (out ++ [(⟨l[i], ab[j]⟩ : PairT)]) g (by omega) (by omega) (by omega) (by simp; omega) (by omega) (fun p hp => by
    rcases List.mem_append.1 hp with hp | hp
    ·rcases hout p hp with h | ⟨h, h2⟩
     ·exact Or.inl h
     ·exact Or.inr ⟨h, fun b hb => h2 b (List.mem_cons_of_mem _ hb)⟩
    ·rw [List.mem_singleton.1 hp]
     refine Or.inr ⟨rfl, fun b hb => ?_⟩
     have := hab.sublist (List.drop_sublist j ab)
     rw [hd, List.pairwise_cons] at this
     exact this.1 b hb)]
   unfold pick
   simp only [List.map_cons, List.append_assoc, List.length_cons, List.singleton_append]
   rw [show c + 1 + ((ab.drop (j + 1)).filter fun b => fallP l f ⟨l[i], b⟩).length = c + (((ab.drop (j + 1)).filter fun b => fallP l f ⟨l[i], b⟩).length + 1) by omega]
  ·rw [if_neg h, decide_eq_false h, if_neg (by simp), ih (j + 1) k c out g (by omega) (by omega) (by omega) (by omega) (by omega) (fun p hp => by
     rcases hout p hp with h | ⟨h, h2⟩
     ·exact Or.inl h
     ·exact Or.inr ⟨h, fun b hb => h2 b (List.mem_cons_of_mem _ hb)⟩)]
   rfl
def below_ (l f : List Int) (a : Int) (bl : List Int) : List Int := bl.filter fun b => fallP l f ⟨b, a⟩
theorem specPairs_l2 {n : Int} {l f : List Int} (hC : isC n l = true) (hf : f.length = l.length) (i : Nat) (hi : i < l.length) (bl : List Int) (hb : bl.length ≤ 6) (out : List PairT) (g : Bool) (c : Nat) : ∀ (e j k m : Nat), bl.length - j = e → j ≤ bl.length → e + 100 < k → m + e ≤ 100 →
  spec_l04Pairs.l2 k f out g (i : Int) (c : Int) bl (m : Int) (j : Int) n l = spec_l04Pairs.l0 (k - (e + 1)) f out (g && (decide (c < 2) && decide (m + (below_ l f l[i] (bl.drop j)).length < 2))) ((i + 1 : Nat) : Int) n l := by
 obtain ⟨hn, hs, hr, h63⟩ := isC_faces hC
 have hA := atV_get l f hs hf i hi (by omega)
 intro e
 induction e with
 | zero =>
  intro j k m he hj hk hm
  obtain ⟨k, rfl⟩ : ∃ q, k = q + 1 := ⟨k - 1, by omega⟩
  obtain rfl : j = bl.length := by omega
  simp only [spec_l04Pairs.l2]
  rw [if_neg (by omega), w64 ((i : Int) + 1) (by omega) (by omega), nat_succ, List.drop_eq_nil_of_le (by omega)]
  have e1 : decide ((m : Int) < 2) = decide (m + (below_ l f l[i] []).length < 2) := by
   have e0 : (below_ l f l[i] []).length = 0 := rfl
   rw [e0, Nat.add_zero]
   by_cases h : m < 2
   ·rw [decide_eq_true h, decide_eq_true (by omega)]
   ·rw [decide_eq_false h, decide_eq_false (by omega)]
  rw [e1]
  cases g with
  | false => simp
  | true =>
   rw [if_pos rfl]
   by_cases h : c < 2
   ·rw [if_pos (by omega), decide_eq_true h]
    simp
   ·rw [if_neg (by omega), decide_eq_false h]
    simp
 | succ e ih =>
  intro j k m he hj hk hm
  obtain ⟨k, rfl⟩ : ∃ q, k = q + 1 := ⟨k - 1, by omega⟩
  have hjl : j < bl.length := by omega
  have hkk : k + 1 - (e + 1 + 1) = k - (e + 1) := by omega
  have hd := List.drop_eq_getElem_cons hjl
  have HWj : Aside0 (wrap64 ((j : Int) + 1) = ((j + 1 : Nat) : Int)) := ⟨by rw [w64 _ (by omega) (by omega)]; omega⟩
  have HWm : Aside0 (wrap64 ((m : Int) + 1) = ((m + 1 : Nat) : Int)) := ⟨by rw [w64 _ (by omega) (by omega)]; omega⟩
  simp only [spec_l04Pairs.l2]
  rw [if_pos (by omega), if_pos (by omega), rd_nat bl j hjl, specAt_is n bl[j] l f h63 hf k (by omega), rd_nat f i (by omega), HWj.out, HWm.out]
  simp only [Option.bind_some]
  rw [if_pos (by omega), if_pos (by omega)]
  have hpk : fallP l f ⟨bl[j], l[i]⟩ = decide (atV l f bl[j] ≥ f[i]'(by omega)) := by
   unfold fallP
   rw [hA]
   by_cases h : atV l f bl[j] < f[i]'(by omega)
   ·rw [decide_eq_true h, decide_eq_false (by omega)]; rfl
   ·rw [decide_eq_false h, decide_eq_true (by omega)]; rfl
  rw [hkk, hd]
  unfold below_
  rw [List.filter_cons, hpk]
  by_cases h : atV l f bl[j] ≥ f[i]'(by omega)
  ·rw [if_pos h, decide_eq_true h, if_pos rfl, ih (j + 1) k (m + 1) (by omega) (by omega) (by omega) (by omega)]
   unfold below_
   rw [List.length_cons, show m + 1 + ((bl.drop (j + 1)).filter fun b => fallP l f ⟨b, l[i]⟩).length = m + (((bl.drop (j + 1)).filter fun b => fallP l f ⟨b, l[i]⟩).length + 1) by omega]
  ·rw [if_neg h, decide_eq_false h, if_neg (by simp), ih (j + 1) k m (by omega) (by omega) (by omega) (by omega)]
   rfl
def goodAt4 (l f : List Int) (a : Int) : Bool := decide ((upC l f a).length < 2) && decide ((loC l f a).length < 2)
theorem specPairs_l0 {n : Int} {l f : List Int} (hC : isC n l = true) (B : Nat) (hB : ∀ q : List PairT, q.length ≤ 4100 → pgK l q ≤ B) (hf : f.length = l.length) : ∀ (e i k : Nat) (out : List PairT) (g : Bool), l.length - i = e → i ≤ l.length → B + e * 80 + 300 < k → out.length ≤ i * 63 → (∀ p ∈ out, ∀ a ∈ l.drop i, p.f0 < a) →
  spec_l04Pairs.l0 k f out g (i : Int) n l = some (out ++ (l.drop i).flatMap (fun a => (upC l f a).map fun b => ⟨a, b⟩), g && (l.drop i).all (goodAt4 l f)) := by
 obtain ⟨hn, hs, hr, h63⟩ := isC_faces hC
 intro e
 induction e with
 | zero =>
  intro i k out g he hi hk ho hout
  obtain ⟨k, rfl⟩ : ∃ m, k = m + 1 := ⟨k - 1, by omega⟩
  obtain rfl : i = l.length := by omega
  simp only [spec_l04Pairs.l0]
  rw [if_neg (by omega), List.drop_eq_nil_of_le (by omega)]
  simp
 | succ e ih =>
  intro i k out g he hi hk ho hout
  obtain ⟨k, rfl⟩ : ∃ m, k = m + 1 := ⟨k - 1, by omega⟩
  have hil : i < l.length := by omega
  have hd := List.drop_eq_getElem_cons hil
  have hm := List.getElem_mem hil
  have hrx := hr _ hm
  have habs : (aboveL l l[i]).Pairwise (· < ·) := by unfold aboveL; exact hs.filter _
  have habl : (aboveL l l[i]).length ≤ 63 := by have := List.length_filter_le (fun x => decide (Go.bits .and .i64 x l[i] = l[i]) && decide (onesI x = onesI l[i] + 1)) l; unfold aboveL; omega
  simp only [spec_l04Pairs.l0]
  rw [if_pos (by omega), if_pos (by omega), rd_nat l i hil, specAbove_is n l[i] ⟨by omega, by omega⟩ l h63 (fun x hx => by have := hr x hx; omega) k (by omega)]
  simp only [Option.bind_some]
  have hpu : pick l f l[i] (aboveL l l[i]) = upC l f l[i] := by unfold pick upC; rw [above_eq hC hm]
  have hpl : (upC l f l[i]).length ≤ (aboveL l l[i]).length := by rw [← hpu]; exact List.length_filter_le _ _
  have h1 := specPairs_l1 hC B hB hf i hil (aboveL l l[i]) habs habl (aboveL l l[i]).length 0 k 0 out g (by omega) (by omega) (by omega) (by omega) (by omega) (fun p hp => Or.inl (hout p hp _ (by rw [hd]; exact List.mem_cons_self)))
  rw [show ((0 : Nat) : Int) = 0 from rfl, List.drop_zero, hpu, Nat.zero_add] at h1
  rw [h1]
  have h2 := specPairs_l2 hC hf i hil (bords l[i]) (bords_length _) (out ++ (upC l f l[i]).map fun b => ⟨l[i], b⟩) g (upC l f l[i]).length (bords l[i]).length 0 (k - ((aboveL l l[i]).length + 1)) 0 (by omega) (by omega) (by have := bords_length l[i]; omega) (by have := bords_length l[i]; omega)
  rw [show ((0 : Nat) : Int) = 0 from rfl, List.drop_zero, Nat.zero_add] at h2
  rw [h2, ih (i + 1) _ _ _ (by omega) (by omega) (by have := bords_length l[i]; omega) (by rw [List.length_append, List.length_map]; omega) (fun p hp a ha => by
   rcases List.mem_append.1 hp with hp | hp
   ·exact hout p hp a (by rw [hd]; exact List.mem_cons_of_mem _ ha)
   ·obtain ⟨b, hb, rfl⟩ := List.mem_map.1 hp
    have := hs.sublist (List.drop_sublist i l)
    rw [hd, List.pairwise_cons] at this
    exact this.1 a ha), hd, List.flatMap_cons, List.all_cons, List.append_assoc]
  have hg : goodAt4 l f l[i] = (decide ((upC l f l[i]).length < 2) && decide ((below_ l f l[i] (bords l[i])).length < 2)) := rfl
  rw [hg, Bool.and_assoc]
theorem closedB {n : Int} {l : List Int} (hC : isC n l = true) : ∀ a ∈ l, ∀ x ∈ bords a, x ∈ l := fun a ha x hx => closed_mem hC a ha x hx
theorem hasD {n : Int} {l : List Int} (hC : isC n l = true) (x : Int) : hasB l x = decide (x ∈ l) := has_asc l x (by have := (isC_faces hC).2.2.2; omega) (isC_faces hC).2.1
theorem range63 {n : Int} {l : List Int} (hC : isC n l = true) : ∀ x ∈ l, 1 ≤ x ∧ x ≤ 63 := fun x hx => ⟨((isC_faces hC).2.2.1 x hx).1, ((isC_faces hC).2.2.1 x hx).2.2⟩
theorem specPairs_is {n : Int} {l f : List Int} (hC : isC n l = true) (hf : f.length = l.length) (k : Nat) (hk : 17010000 ≤ k) : spec_l04Pairs.f k n l f = some (fallL l f, morseB l f) := by
 have h63 := (isC_faces hC).2.2.2
 have := specPairs_l0 hC 17000000 (fun q hq => pgK_le h63 hq) hf l.length 0 k [] true (by omega) (by omega) (by omega) (by simp) (by simp)
 rw [show ((0 : Nat) : Int) = 0 from rfl, List.drop_zero, List.nil_append, Bool.true_and, ← fall_flat] at this
 unfold spec_l04Pairs.f
 rw [this, morse_good f (pairs_asc hC) (hasD hC) (range63 hC) (closedB hC)]
 rfl

end Go.Proofs.Ytniikppojffiaaa.K
end

section
/- Contracts of the library's functions that take a function value, over pairs. -/
namespace Go.Proofs.Ytniikppojffiaaa.K
open Go.RowKit Go.Shelf Go.Proofs.Ytniikppojffiaaa.Q Go.Proofs.YtniikppojffiaaaW.PrintWords Go.Proofs.YtniikppojffiaaaW.PrintLast Go.Proofs.YtniikppojffiaaaW.PrintMore
set_option linter.unusedVariables false
set_option linter.unusedSimpArgs false

set_option maxHeartbeats 2000000 in
theorem IndexFunc_pair (p : PairT → Bool) (A : Option Addr) (c : Nat) (l : List PairT) (g : Nat) (first caps : Array Value) (w : World)
  (hr : Kq.C w A l.length l) (hc : l.length ≤ c) (hbig : l.length ≤ 9223372036854775807) (eg : EntersG g)
  (hp : ∀ x, x ∈ l → Answers w g (first.push (.agg #[I x.f0, I x.f1]) ++ caps) (.bool (p x))) :
  Calls Try.prog 151 #[.slice A l.length c, .func (.func g) first caps] w fun e w' => e = .returned (I (idx p l)) ∧ Grew w w' := by
 have HR := Aside0.mk hr
 have HC := Aside0.mk hc
 have HP := Aside0.mk hp
 clear hr hc hp
 go_enter Try.func151, Try.ntmps151
 go_wp2
 go_loopg [5, 8] l.length (fun gg _ s8 wr => ∃ kk : Nat, kk ≤ l.length ∧ l.length - kk ≤ gg ∧ s8 = .int .i64 kk ∧ Aside0 (Grew w wr) ∧ Aside0 (∀ j (h : j < l.length), j < kk → p l[j] = false))
 case atStart => exact ⟨0, Nat.zero_le _, by omega, rfl, ⟨Below.refl _ w⟩, ⟨fun j _ hj => absurd hj (Nat.not_lt_zero _)⟩⟩
 case round =>
  obtain ⟨kk, hkk, hg, rfl, BW, A0⟩ := hrel
  by_cases hlt : kk < l.length
  ·have hltz : (kk : Int) < (l.length : Int) := by omega
   obtain ⟨ad, e0, hx, hx1⟩ := Kq_read (Kd.C_below HR.out BW.out) kk hlt rfl
   cases e0
   have hcall := HP.out l[kk] (by simp) wr BW.out
   generalize hy : l[kk] = y at hx hx1 hcall
   have B := Aside0.mk hy
   clear hy
   cases hq : p y with
   | true =>
    rw [hq] at hcall
    go_wp2_with fail
    refine hcall.mono ?_
    rintro e w' ⟨rfl, hb'⟩
    clear hcall
    go_wp2_with fail
    go_ret
    refine ⟨?_, Grew.trans BW.out hb'⟩
    rw [idx_hit p l kk hlt (by rw [B.out]; exact hq) (fun j hj => A0.out j (by omega) hj)]
    rfl
   | false =>
    rw [hq] at hcall
    go_wp2_with fail
    refine hcall.mono ?_
    rintro e w' ⟨rfl, hb'⟩
    clear hcall
    go_wp2_with fail
    go_roundg (l.length - (kk + 1))
    case measure => omega
    case rel =>
     refine ⟨kk + 1, by omega, by omega, by go_num, ⟨Grew.trans BW.out hb'⟩, ⟨fun j h hj => ?_⟩⟩
     by_cases e : j = kk
     ·subst e
      rw [B.out]; exact hq
     ·exact A0.out j h (by omega)
  ·have hltz : ¬ (kk : Int) < (l.length : Int) := by omega
   have e : kk = l.length := by omega
   have H := idx_miss p l (fun j hj => A0.out j hj (by omega))
   have HM := Aside0.mk H
   clear H e
   go_wp2
   go_ret
   exact ⟨by rw [HM.out]; rfl, BW.out⟩

set_option maxHeartbeats 2000000 in
theorem ContainsFunc_pair (p : PairT → Bool) (A : Option Addr) (c : Nat) (l : List PairT) (g : Nat) (first caps : Array Value) (w : World)
  (hr : Kq.C w A l.length l) (hc : l.length ≤ c) (hbig : l.length ≤ 9223372036854775807) (eg : EntersG g)
  (hp : ∀ x, x ∈ l → Answers w g (first.push (.agg #[I x.f0, I x.f1]) ++ caps) (.bool (p x))) :
  Calls Try.prog 115 #[.slice A l.length c, .func (.func g) first caps] w fun e w' => e = .returned (.bool (l.any p)) ∧ Grew w w' := by
 rw [← idx_nonneg]
 have H := Aside0.mk (IndexFunc_pair p A c l g first caps w hr hc hbig eg hp)
 clear hr hc hbig hp
 go_enter Try.func115, Try.ntmps115
 go_wp2_with fail
 refine H.out.mono ?_
 rintro e w' ⟨rfl, hb'⟩
 go_wp2_with fail
 go_ret
 exact ⟨by rfl, hb'⟩


end Go.Proofs.Ytniikppojffiaaa.K
end

section
/- slices.Clone and slices.DeleteFunc over rows of numbers of the call's own. -/
namespace Go.Proofs.Ytniikppojffiaaa.K
open Go.RowKit Go.Shelf Go.Proofs.YtniikppojffiaaaW.PrintWords Go.Proofs.YtniikppojffiaaaW.PrintLast Go.Proofs.YtniikppojffiaaaW.PrintMore
set_option linter.unusedVariables false
set_option linter.unusedSimpArgs false

theorem below_setCells {base : Nat} {w : World} {G : Nat} (hb : base ≤ G) : ∀ (vs : List Value) (i : Nat) (W : World), Below base w W → Below base w (W.setCells G i vs)
 | [], _, _, h => h
 | v :: r, i, W, h => below_setCells hb r (i + 1) _ (Below.setCell h hb v)
theorem Ri.clear {base : Nat} {ok : Nat → Prop} {G n c : Nat} : ∀ (m i : Nat) (W : World) (xs : List Int), Ki.R 2 W base ok (.slice (some ⟨G, 0, none⟩) n c) xs →
  ∃ ys : List Int, ys.take i = xs.take i ∧ ys.length = xs.length ∧ Ki.R 2 (W.setCells G i (List.replicate m (I 0))) base ok (.slice (some ⟨G, 0, none⟩) n c) ys
 | 0, i, W, xs, h => ⟨xs, rfl, rfl, h⟩
 | m + 1, i, W, xs, h => by
  have h1 := Kd.R_putn h (i : Int) 0
  rw [Int.toNat_natCast] at h1
  obtain ⟨ys, e1, e2, e3⟩ := Ri.clear m (i + 1) _ _ h1
  refine ⟨ys, ?_, by rw [e2, List.length_set], e3⟩
  have := congrArg (List.take i) e1
  rw [List.take_take, List.take_take, List.take_set, List.set_eq_of_length_le (by simp; omega)] at this
  simpa [Nat.min_eq_left (Nat.le_succ i)] using this

theorem del_keep (q : Int → Bool) (l xs : List Int) (i j : Nat) (hij : i < j) (hj : j < l.length) (hx : xs.length = l.length) (h1 : xs.take i = (l.take j).filter q) (h2 : xs.drop j = l.drop j) (hp : q l[j] = true) :
  (xs.set i l[j]).take (i + 1) = (l.take (j + 1)).filter q ∧ (xs.set i l[j]).drop (j + 1) = l.drop (j + 1) := by
 constructor
 ·rw [List.take_succ_eq_append_getElem hj, List.filter_append, ← h1, List.take_set, List.take_succ_eq_append_getElem (show i < xs.length by omega), List.set_append_right _ _ (by simp; omega)]
  simp [hp]
  have : i - min i xs.length = 0 := by omega
  rw [this]
  rfl
 ·rw [List.drop_set_of_lt (by omega)]
  have := congrArg (List.drop 1) h2
  simpa using this
theorem del_skip (q : Int → Bool) (l xs : List Int) (i j : Nat) (hj : j < l.length) (h1 : xs.take i = (l.take j).filter q) (h2 : xs.drop j = l.drop j) (hp : q l[j] = false) :
  xs.take i = (l.take (j + 1)).filter q ∧ xs.drop (j + 1) = l.drop (j + 1) := by
 constructor
 ·rw [List.take_succ_eq_append_getElem hj, List.filter_append, ← h1]
  simp [hp]
 ·have := congrArg (List.drop 1) h2
  simpa using this
theorem del_get (l xs : List Int) (j : Nat) (hj : j < l.length) (hx : xs.length = l.length) (h2 : xs.drop j = l.drop j) : xs[j]'(by omega) = l[j] := by
 rw [List.drop_eq_getElem_cons hj, List.drop_eq_getElem_cons (show j < xs.length by omega)] at h2
 injection h2
theorem idx_some {p : Int → Bool} {l : List Int} (h : idx p l ≠ -1) : ∃ i : Nat, idx p l = i ∧ ∃ hi : i < l.length, p l[i] = true ∧ ∀ j (hj : j < i), p (l[j]'(by omega)) = false := by
 unfold idx at h ⊢
 cases hf : l.findIdx? p with
 | none => rw [hf] at h; exact absurd rfl h
 | some i =>
  rw [List.findIdx?_eq_some_iff_getElem] at hf
  obtain ⟨hi, hp, hn⟩ := hf
  exact ⟨i, rfl, hi, hp, fun j hj => by have := hn j hj; simpa using this⟩
theorem idx_none {p : Int → Bool} {l : List Int} (h : idx p l = -1) : l.filter (fun x => !p x) = l := by
 unfold idx at h
 cases hf : l.findIdx? p with
 | some i => rw [hf] at h; have : ((i : Int)) = -1 := h; omega
 | none =>
  rw [List.findIdx?_eq_none_iff] at hf
  rw [List.filter_eq_self]
  intro x hx
  simp [hf x hx]
theorem del_start {p : Int → Bool} {l : List Int} {i : Nat} (hi : i < l.length) (hp : p l[i] = true) (hn : ∀ j (hj : j < i), p (l[j]'(by omega)) = false) : l.take i = (l.take (i + 1)).filter (fun x => !p x) := by
 rw [List.take_succ_eq_append_getElem hi, List.filter_append]
 have : (l.take i).filter (fun x => !p x) = l.take i := by
  rw [List.filter_eq_self]
  intro x hx
  obtain ⟨j, hj, rfl⟩ := List.mem_iff_getElem.1 hx
  rw [List.length_take] at hj
  rw [List.getElem_take, hn j (by omega)]
  rfl
 rw [this]
 simp [hp]

set_option maxRecDepth 100000 in
set_option maxHeartbeats 4000000 in
theorem DeleteFunc_calls (p : Int → Bool) (base : Nat) (v : Value) (l : List Int) (g : Nat) (first caps : Array Value) (w : World) (hbase : base ≤ w.heap.size) (hR : Ki.R 2 w base (fun _ => True) v l) (hbig : l.length ≤ 1000000000) (eg : EntersG g)
  (hp : ∀ x, x ∈ l → ∀ W, Below base w W → Calls Try.prog g (first.push (I x) ++ caps) W fun e w' => e = .returned (.bool (p x)) ∧ Grew W w') :
  Calls Try.prog 112 #[v, .func (.func g) first caps] w fun e w' => ∃ v', e = .returned v' ∧ Ki.R 2 w' base (fun _ => True) v' (l.filter fun x => !p x) ∧ Below base w w' := by
 obtain ⟨A, c, hv, hc, hC⟩ := Kd.R_reads hR
 subst hv
 have H := Aside0.mk (IndexFunc_int p A c l g first caps w hC hc (by omega) eg (fun x hx W hW => hp x hx W (hW.mono hbase)))
 have HR := Aside0.mk hR
 have HP := Aside0.mk hp
 have HC := Aside0.mk hc
 clear hR hp hC hc
 by_cases hi : idx p l = -1
 ·have HV := Aside0.mk (idx_none hi)
  rw [hi] at H
  rw [HV.out]
  go_enter Try.func112, Try.ntmps112
  go_wp2_with fail
  refine H.out.mono ?_
  rintro e w1 ⟨rfl, hG1⟩
  go_wp2_with fail
  go_ret
  exact ⟨_, rfl, Kd.R_below HR.out hG1, hG1.mono hbase⟩
 ·obtain ⟨i0, he, hi0, hp0, hn0⟩ := idx_some hi
  rw [he] at H hi
  have HS := Aside0.mk (del_start hi0 hp0 hn0)
  clear hn0 hp0 he
  go_enter Try.func112, Try.ntmps112
  go_wp2_with fail
  refine H.out.mono ?_
  rintro e w1 ⟨rfl, hG1⟩
  have HR1 := Aside0.mk (Kd.R_below HR.out hG1)
  have HG1 : Aside0 (Below base w w1) := ⟨hG1.mono hbase⟩
  clear hG1 H HR
  obtain ⟨G, cc, eo, gb, gl, _⟩ := Kd.R_form HR1.out (by omega)
  injection eo with ea en ec
  subst ea ec
  clear en
  go_wp2_with fail
  go_loopg [5, 6] l.length (fun gg s5 s6 wr => ∃ (i j : Nat) (xs : List Int), s5 = .int .i64 i ∧ s6 = .int .i64 j ∧ i < j ∧ j ≤ l.length ∧ l.length - j ≤ gg ∧ xs.length = l.length ∧
   Aside0 (xs.take i = (l.take j).filter (fun x => !p x)) ∧ Aside0 (xs.drop j = l.drop j) ∧ Aside0 (Ki.R 2 wr base (fun _ => True) (.slice (some ⟨G, 0, none⟩) l.length c) xs) ∧ Aside0 (Below base w wr))
  case atStart => exact ⟨i0, i0 + 1, l, rfl, by go_num, by omega, by omega, by omega, rfl, HS, ⟨rfl⟩, HR1, HG1⟩
  case round =>
   obtain ⟨i, j, xs, rfl, rfl, hij, hj, hg, hxl, HT, HD, HRr, HGr⟩ := hrel
   by_cases hlt : j < l.length
   ·have hltz : (j : Int) < (l.length : Int) := by omega
    obtain ⟨hx, _⟩ := Kd.R_celln 0 HRr.out (j : Int) (by omega) (by omega)
    obtain ⟨hy, hf⟩ := Kd.R_celln 0 HRr.out (i : Int) (by omega) (by omega)
    have hrd : rdOf 0 xs (j : Int) = l[j] := by rw [← del_get l xs j hlt hxl HD.out]; simp [rdOf, show j < xs.length by omega]
    rw [hrd, Int.toNat_natCast] at hx
    rw [Int.toNat_natCast] at hy hf
    have hcall := HP.out l[j] (List.getElem_mem hlt) wr HGr.out
    have HK := Aside0.mk (fun h => del_keep (fun x => !p x) l xs i j hij hlt hxl HT.out HD.out h)
    have HS2 := Aside0.mk (fun h => del_skip (fun x => !p x) l xs i j hlt HT.out HD.out h)
    clear hrd
    generalize l[j] = y at hx hcall HK HS2
    cases hq : p y with
    | false =>
     rw [hq] at hcall
     have HK2 := Aside0.mk (HK.out (by simp [hq]))
     clear HK HS2
     go_wp2_with fail
     refine hcall.mono ?_
     rintro e w2 ⟨rfl, hG2⟩
     have HR2 := Aside0.mk (Kd.R_below HRr.out hG2)
     have HG2 := Aside0.mk (Below.trans HGr.out (hG2.mono (Nat.le_trans hbase HGr.out.size)))
     obtain ⟨hy, hf⟩ := Kd.R_celln 0 HR2.out (i : Int) (by omega) (by omega)
     rw [Int.toNat_natCast] at hy hf
     have HW := Aside0.mk (Kd.R_putn HR2.out (i : Int) y)
     clear hcall hx hG2
     go_wp2_with fail
     go_roundg (l.length - (j + 1))
     case measure => omega
     case rel => exact ⟨i + 1, j + 1, xs.set i y, by go_num, by go_num, by omega, by omega, by omega, by rw [List.length_set]; exact hxl, ⟨HK2.out.1⟩, ⟨HK2.out.2⟩, HW, ⟨Below.setCell HG2.out gb _⟩⟩
    | true =>
     rw [hq] at hcall
     have HK2 := Aside0.mk (HS2.out (by simp [hq]))
     clear HK HS2
     go_wp2_with fail
     refine hcall.mono ?_
     rintro e w2 ⟨rfl, hG2⟩
     have HR2 := Aside0.mk (Kd.R_below HRr.out hG2)
     have HG2 := Aside0.mk (Below.trans HGr.out (hG2.mono (Nat.le_trans hbase HGr.out.size)))
     clear hcall hx hy hf hG2
     go_wp2_with fail
     go_roundg (l.length - (j + 1))
     case measure => omega
     case rel => exact ⟨i, j + 1, xs, rfl, by go_num, by omega, by omega, by omega, hxl, ⟨HK2.out.1⟩, ⟨HK2.out.2⟩, HR2, HG2⟩
   ·obtain rfl : j = l.length := by omega
    have hltz : ¬ (l.length : Int) < (l.length : Int) := by omega
    have HT2 : Aside0 (xs.take i = l.filter (fun x => !p x)) := ⟨by have := HT.out; rwa [List.take_length] at this⟩
    clear HT HD
    have hcl : ∀ ty, (Builtin.clear_ #[22] ty #[.slice (some ⟨G, i, none⟩) (l.length - i) (c - i)]).run Try.prog wr = .ok (.tuple #[]) (wr.setCells G i (List.replicate (l.length - i) (I 0))) :=
     fun ty => Lib.run_clear_slice wr _ _ ty _ Try.underlying22 (fun w => by kernel_rfl) rfl rfl G i _ _ (by omega) (fun t ht => by
      obtain ⟨h1, h2⟩ := Kd.R_celln 0 HRr.out ((i + t : Nat) : Int) (by omega) (by omega)
      rw [Int.toNat_natCast] at h1
      rw [h1]; rfl) (fun t ht => by
      obtain ⟨h1, h2⟩ := Kd.R_celln 0 HRr.out ((i + t : Nat) : Int) (by omega) (by omega)
      rw [Int.toNat_natCast] at h2
      exact h2)
    have hic : i < c := by have := HC.out; omega
    go_wp2_with fail
    go_ret
    obtain ⟨ys, h1, h2, h3⟩ := Ri.clear (l.length - i) i wr xs HRr.out
    refine ⟨_, rfl, ?_, below_setCells gb _ _ _ HGr.out⟩
    have h4 := Kd.R_take h3 (m := i) (by omega)
    rw [h1, HT2.out] at h4
    exact h4

end Go.Proofs.Ytniikppojffiaaa.K
end

section
/- slices.Clone over rows of numbers. -/
namespace Go.Proofs.Ytniikppojffiaaa.K
open Go.RowKit Go.Shelf Go.Proofs.YtniikppojffiaaaW.PrintWords Go.Proofs.YtniikppojffiaaaW.PrintLast Go.Proofs.YtniikppojffiaaaW.PrintMore
set_option linter.unusedVariables false
set_option linter.unusedSimpArgs false

section
variable {ops : Array Oper} {rest : List Oper} {o : Oper} {a : Act} {Q : Exit → Act → World → Prop}
/-- 'append' of a row of numbers to a row of the call's own. -/
theorem append_ints {W : World} (base : Nat) (hgd : o.guard = none) (s x : Operand)
    (ho : o.op = .call { callee := .builtin .append, args := #[s, x], argTypes := #[22, 22] })
    (v : Value) (xs ys : List Int) (A : Option Addr) (c : Nat) (hs : a.eval s = v) (hx : a.eval x = .slice A ys.length c)
    (HO : Ki.R 2 W base (fun _ => True) v xs) (HR : Ki.C W A ys.length ys) (hbase : base ≤ W.heap.size) (hl : xs.length + ys.length ≤ 1000000000000)
    (h : ∀ A' c' w1, Ki.R 2 w1 base (fun _ => True) (.slice A' (xs.length + ys.length) c') (xs ++ ys) → Below base W w1 → W.grownBy w1 v.ownBlock → wpList Try.prog ops Q rest (a.put o.dst (.slice A' (xs.length + ys.length) c')) w1) :
    wpList Try.prog ops Q (o :: rest) a W := by
  refine Kd.R_append_rows Ki (w0 := W) base hgd s x 22 2 (.int .i64 0) 8 ho Try.underlying22 infoI rfl (by decide) (by omega) v xs ys A ys.length c (fun _ => True) (fun _ => False) hs hx HO HR (fun _ _ h => h) (fun _ h => h.elim) (fun _ _ => trivial) (Below.refl _ _) hbase (by omega) ?_
  intro v1 w1 hR hB hg _
  obtain ⟨A', c', e⟩ := Kd.R_slice hR
  rw [List.length_append] at e
  subst e
  exact h A' c' w1 hR hB hg
end
theorem Ri.empty (w : World) (base : Nat) (hb : base ≤ w.heap.size) : Ki.R 2 (w.alloc (.cells #[] 2)) base (fun _ => True) (.slice (some ⟨w.heap.size, 0, none⟩) 0 0) [] := by
  have := own_lit w base 2 .i64 [] hb (by simp)
  exact ⟨fun _ _ => trivial, [], this, Reps.none _ _⟩

end Go.Proofs.Ytniikppojffiaaa.K
end

section
/- slices.Clone over rows of numbers. -/
namespace Go.Proofs.Ytniikppojffiaaa.K
open Go.RowKit Go.Shelf Go.Proofs.YtniikppojffiaaaW.PrintWords Go.Proofs.YtniikppojffiaaaW.PrintLast Go.Proofs.YtniikppojffiaaaW.PrintMore
set_option linter.unusedVariables false
set_option linter.unusedSimpArgs false

set_option maxHeartbeats 2000000 in
theorem Clone_calls (A : Option Addr) (c : Nat) (l : List Int) (w : World) (hr : Ki.C w A l.length l) (hc : l.length ≤ c) (hl : l.length ≤ 1000000000) :
    Calls Try.prog 113 #[.slice A l.length c] w fun e w' => ∃ v, e = .returned v ∧ Ki.R 2 w' w.heap.size (fun _ => True) v l ∧ Grew w w' := by
  have hq : ∀ (w : World) (a : Option Addr) (n c n' c' : Nat), (binOp .eql 22 (.slice a n c) (.slice none n' c')).run Try.prog w = .ok (.bool a.isNone) w := fun w a n c n' c' => Lib.run_eql_slice_nil w _ _ a n c n' c' Try.underlying22
  cases A with
  | none =>
    have h0 : l.length = 0 := by
      rcases Nat.eq_zero_or_pos l.length with h | h
      · exact h
      · obtain ⟨a, ha, _⟩ := hr.2.2 h
        cases ha
    have HL : Aside0 (l = []) := ⟨List.length_eq_zero_iff.1 h0⟩
    clear hr
    go_enter Try.func113, Try.ntmps113
    go_wp2_with fail
    go_ret
    exact ⟨_, rfl, by rw [HL.out]; exact Kd.R_nil _ _ _ _ _, Grew.refl w⟩
  | some ad =>
    have HR := Aside0.mk hr
    have HG : Aside0 (Grew w (w.alloc (.cells #[] 2))) := ⟨below_alloc (Grew.refl w) _⟩
    clear hr
    go_enter Try.func113, Try.ntmps113
    go_wp2_with (at_builtin; refine append_ints w.heap.size rfl (.tmp 5) (.tmp 6) rfl _ [] l (some ad) c rfl rfl (Ri.empty w _ (Nat.le_refl _)) (Kd.C_below HR.out HG.out) HG.out.size (by simp; omega) ?_; intro A3 c3 w3 hR3 hB3 hg3; have HR3 := Aside0.mk hR3; have HG3 : Aside0 (Below w.heap.size w w3) := ⟨Below.trans HG.out hB3⟩; clear hR3 hB3 hg3)
    go_ret
    refine ⟨_, rfl, ?_, HG3.out⟩
    have := HR3.out
    rw [List.length_nil, Nat.zero_add, List.nil_append] at this
    exact this

end Go.Proofs.Ytniikppojffiaaa.K
end

section
/- The critical faces. -/
namespace Go.Proofs.Ytniikppojffiaaa.K
open Go.RowKit Go.Shelf Go.Proofs.Ytniikppojffiaaa.Q Go.Proofs.YtniikppojffiaaaW.PrintWords Go.Proofs.YtniikppojffiaaaW.PrintLast Go.Proofs.YtniikppojffiaaaW.PrintMore
set_option linter.unusedVariables false
set_option linter.unusedSimpArgs false

set_option maxHeartbeats 1000000 in
theorem crit11_calls (x : PairT) (f : Int) (B : Nat) (w : World) (hb : w.cell? ⟨B, 0, none⟩ = some (I f)) :
  Calls Try.prog 116 #[.agg #[I x.f0, I x.f1], .pointer (some ⟨B, 0, none⟩)] w fun e w' => e = .returned (.bool (x.f0 == f || x.f1 == f)) ∧ Grew w w' := by
 have hlt := World.block_lt_of_cell? w _ hb
 have hg := Aside0.mk (below_alloc (Grew.refl w) (.cells #[I x.f0, I x.f1] 53))
 by_cases h : x.f0 = f
 ·have HV : Aside0 ((x.f0 == f || x.f1 == f) = true) := ⟨by simp [h]⟩
  have h2 : (x.f0 == f) = true := by simp [h]
  rw [HV.out]
  clear h
  go_enter Try.func116, Try.ntmps116
  go_wp2_with fail
  go_ret
  exact ⟨rfl, hg.out⟩
 ·have HV : Aside0 ((x.f0 == f || x.f1 == f) = (x.f1 == f)) := ⟨by simp [h]⟩
  have h2 : (x.f0 == f) = false := by simp [h]
  rw [HV.out]
  go_enter Try.func116, Try.ntmps116
  go_wp2_with fail
  go_ret
  exact ⟨rfl, hg.out⟩
/-- A face is in a pair; the critical faces. -/
def inPair (q : List PairT) (f : Int) : Bool := q.any fun x => x.f0 == f || x.f1 == f
def critL (l : List Int) (q : List PairT) : List Int := l.filter fun f => !inPair q f
set_option maxHeartbeats 1000000 in
theorem crit1_calls (f : Int) (B : Nat) (A2 : Option Addr) (c2 : Nat) (q : List PairT) (w : World) (hb : w.cell? ⟨B, 0, none⟩ = some (.slice A2 q.length c2)) (hq : Kq.C w A2 q.length q) (hc2 : q.length ≤ c2) :
  Calls Try.prog 114 #[I f, .pointer (some ⟨B, 0, none⟩)] w fun e w' => e = .returned (.bool (inPair q f)) ∧ Grew w w' := by
 have hg : Grew w (w.alloc (.cells #[I f] 2)) := below_alloc (Below.refl _ _) _
 have hlt := World.block_lt_of_cell? w _ hb
 have H := Aside0.mk (ContainsFunc_pair (fun x => x.f0 == f || x.f1 == f) A2 c2 q 116 #[] #[.pointer (some ⟨w.heap.size, 0, none⟩)] (w.alloc (.cells #[I f] 2))
  (Kd.C_below hq hg) hc2 hq.2.1 (enters_of Try.func116 (by kernel_rfl) rfl) (fun x hx W hW => crit11_calls x f w.heap.size W (blk_cell (blk_below (blk_new w _) hW) 0)))
 have HI : Aside0 (inPair q f = q.any (fun x => x.f0 == f || x.f1 == f)) := ⟨rfl⟩
 rw [HI.out]
 generalize q.any (fun x => x.f0 == f || x.f1 == f) = r at H ⊢
 have k1 : (w.alloc (.cells #[I f] 2)).cell? ⟨B, 0, none⟩ = some (.slice A2 q.length c2) := (Below.cell hg (p := ⟨B, 0, none⟩) hlt).trans hb
 clear hq HI
 go_enter Try.func114, Try.ntmps114
 go_wp2_with fail
 refine H.out.mono ?_
 rintro e w' ⟨rfl, hb'⟩
 have HG := Aside0.mk (Grew.trans hg hb')
 clear hb' hg
 go_wp2_with fail
 go_ret
 exact ⟨rfl, HG.out⟩
set_option maxHeartbeats 2000000 in
theorem critical_calls (n : Int) (A : Option Addr) (c : Nat) (l : List Int) (A2 : Option Addr) (c2 : Nat) (q : List PairT) (w : World) (hk : Kx w A c l) (hl : l.length ≤ 1000000000) (hq : Kq.C w A2 q.length q) (hc2 : q.length ≤ c2) :
  Calls Try.prog 69 #[.agg #[I n, .slice A l.length c], .slice A2 q.length c2] w fun e w' => ∃ v, e = .returned v ∧ Ki.R 2 w' w.heap.size (fun _ => True) v (critL l q) ∧ Grew w w' := by
 obtain ⟨W, hW⟩ : ∃ W, W = (w.alloc (.cells #[I n, .slice A l.length c] 30)).alloc (.cells #[.slice A2 q.length c2] 32) := ⟨_, rfl⟩
 have hB : CB W w.heap.size n (.slice A l.length c) := by rw [hW]; exact blk_alloc (blk_new w _) _
 have hL : W.heap[w.heap.size + 1]? = some (.cells #[.slice A2 q.length c2] 32 (0, 0)) := by
  rw [hW]
  have := blk_new (w.alloc (.cells #[I n, .slice A l.length c] 30)) (.cells #[.slice A2 q.length c2] 32)
  rwa [World.size_alloc] at this
 have hg : Grew w W := by rw [hW]; exact below_alloc (below_alloc (Grew.refl w) _) _
 have hz : W.heap.size = w.heap.size + 2 := by rw [hW]; simp
 have H := Aside0.mk (Clone_calls A c l W (hk.later hg).r hk.c hl)
 have k1 := hB.c1
 have HK := Aside0.mk hk
 have HQ := Aside0.mk hq
 have HC2 := Aside0.mk hc2
 have HG := Aside0.mk hg
 have HL := Aside0.mk hL
 have HZ := Aside0.mk hz
 clear hk hg hB hq hc2 hL hz
 subst hW
 go_enter Try.func69, Try.ntmps69
 go_wp2_with fail
 refine H.out.mono ?_
 rintro e w1 ⟨v, rfl, hR, hG1⟩
 rw [HZ.out] at hR
 have HL1 := Aside0.mk (blk_below HL.out hG1)
 have hs2 : w.heap.size + 2 ≤ w1.heap.size := by have := hG1.size; rw [HZ.out] at this; exact this
 have HGw := Aside0.mk (Grew.trans HG.out hG1)
 have HG1 := Aside0.mk hG1
 clear k1 hG1
 have H2 := Aside0.mk (DeleteFunc_calls (inPair q) (w.heap.size + 2) v l 114 #[] #[.pointer (some ⟨w.heap.size + 1, 0, none⟩)] w1 hs2 hR hl (enters_of Try.func114 (by kernel_rfl) rfl)
  (fun x hx W hW => by
   have hb := hW.block (w.heap.size + 1) (by omega)
   have hL2 : W.heap[w.heap.size + 1]? = some (.cells #[.slice A2 q.length c2] 32 (0, 0)) := hb.trans HL1.out
   exact crit1_calls x (w.heap.size + 1) A2 c2 q W (blk_cell hL2 0) (Kd.C_below HQ.out (Below.trans HGw.out (hW.mono (by omega)))) HC2.out))
 clear hR
 go_wp2_with fail
 refine H2.out.mono ?_
 rintro e w2 ⟨v2, rfl, hR2, hG2⟩
 go_wp2_with fail
 go_ret
 exact ⟨_, rfl, Kd.R_lower hR2 (by omega), Below.trans HGw.out (hG2.mono (by omega))⟩

end Go.Proofs.Ytniikppojffiaaa.K
end

section
/- The reference's critical faces and their numbers come to what the program's come to. -/
namespace Go.Proofs.Ytniikppojffiaaa.K
open Go.RowKit Go.Shelf Go.Proofs.Ytniikppojffiaaa.Q Go.Proofs.YtniikppojffiaaaW.PrintWords Go.Proofs.YtniikppojffiaaaW.PrintLast Go.Proofs.YtniikppojffiaaaW.PrintMore
set_option linter.unusedVariables false
set_option linter.unusedSimpArgs false

theorem inPair_cons (p : PairT) (q : List PairT) (f : Int) : inPair (p :: q) f = ((p.f0 == f || p.f1 == f) || inPair q f) := by simp [inPair]
theorem specCrit_l1 (n : Int) (l : List Int) (hl : l.length ≤ 63) (q : List PairT) (hq : q.length ≤ 2097152) (acc : List Int) (i : Nat) (hi : i < l.length) (ha : acc.length ≤ i) : ∀ (e j k : Nat) (b : Bool), q.length - j = e → j ≤ q.length → e < k →
  spec_l02Critical.l1 k q acc (i : Int) b (j : Int) n l = spec_l02Critical.l0 (k - (e + 1)) q (if b && !inPair (q.drop j) l[i] then acc ++ [l[i]] else acc) ((i + 1 : Nat) : Int) n l := by
 intro e
 induction e with
 | zero =>
  intro j k b he hj hk
  obtain ⟨k, rfl⟩ : ∃ m, k = m + 1 := ⟨k - 1, by omega⟩
  obtain rfl : j = q.length := by omega
  simp only [spec_l02Critical.l1]
  rw [if_neg (by omega), w64 ((i : Int) + 1) (by omega) (by omega), nat_succ, List.drop_eq_nil_of_le (by omega), rd_nat l i hi]
  cases b with
  | false => simp
  | true =>
   rw [if_pos rfl, if_pos (by omega), if_pos (by omega), if_pos (by omega)]
   simp [inPair]
 | succ e ih =>
  intro j k b he hj hk
  obtain ⟨k, rfl⟩ : ∃ m, k = m + 1 := ⟨k - 1, by omega⟩
  have hjl : j < q.length := by omega
  have hkk : k + 1 - (e + 1 + 1) = k - (e + 1) := by omega
  simp only [spec_l02Critical.l1]
  rw [if_pos (by omega), w64 ((j : Int) + 1) (by omega) (by omega), nat_succ, hkk, List.drop_eq_getElem_cons hjl, inPair_cons]
  cases b with
  | false =>
   rw [if_neg (by simp), ih (j + 1) k false (by omega) (by omega) (by omega)]
   simp
  | true =>
   rw [if_pos rfl, if_pos (by omega), if_pos (by omega), if_pos (by omega), rdP q j hjl, rd_nat l i hi]
   by_cases h1 : q[j].f0 = l[i]
   ·rw [if_pos h1, ih (j + 1) k false (by omega) (by omega) (by omega)]
    simp [h1]
   ·have e1 : (q[j].f0 == l[i]) = false := by simpa using h1
    rw [if_neg h1, ih (j + 1) k _ (by omega) (by omega) (by omega), e1]
    by_cases h2 : q[j].f1 = l[i]
    ·simp [h2]
    ·have e2 : (q[j].f1 == l[i]) = false := by simpa using h2
     have e3 : (q[j].f1 != l[i]) = true := by simpa using h2
     rw [e2, e3]
     simp
theorem critL_cons (x : Int) (l : List Int) (q : List PairT) : critL (x :: l) q = if !inPair q x then x :: critL l q else critL l q := by
 unfold critL
 rw [List.filter_cons]
theorem specCrit_l0 (n : Int) (l : List Int) (hl : l.length ≤ 63) (q : List PairT) (hq : q.length ≤ 2097152) : ∀ (e i k : Nat) (acc : List Int), l.length - i = e → i ≤ l.length → e * (q.length + 3) + 2 < k → acc.length ≤ i →
  spec_l02Critical.l0 k q acc (i : Int) n l = some (acc ++ critL (l.drop i) q) := by
 intro e
 induction e with
 | zero =>
  intro i k acc he hi hk ha
  obtain ⟨k, rfl⟩ : ∃ m, k = m + 1 := ⟨k - 1, by omega⟩
  obtain rfl : i = l.length := by omega
  simp only [spec_l02Critical.l0]
  rw [if_neg (by omega), List.drop_eq_nil_of_le (by omega)]
  simp [critL]
 | succ e ih =>
  intro i k acc he hi hk ha
  rw [Nat.succ_mul] at hk
  generalize hM : e * (q.length + 3) = M at hk ih
  obtain ⟨k, rfl⟩ : ∃ m, k = m + 1 := ⟨k - 1, by omega⟩
  have hil : i < l.length := by omega
  have h1 := specCrit_l1 n l hl q hq acc i hil ha q.length 0 k true (by omega) (by omega) (by omega)
  rw [show ((0 : Nat) : Int) = 0 from rfl, List.drop_zero, Bool.true_and] at h1
  simp only [spec_l02Critical.l0]
  rw [if_pos (by omega), h1, List.drop_eq_getElem_cons hil, critL_cons]
  split
  ·rw [ih (i + 1) _ _ (by omega) (by omega) (by omega) (by simp; omega), List.append_assoc]
   rfl
  ·rw [ih (i + 1) _ _ (by omega) (by omega) (by omega) (by omega)]
theorem specCrit_is (n : Int) (l : List Int) (hl : l.length ≤ 63) (q : List PairT) (hq : q.length ≤ 2097152) (k : Nat) (hk : 63 * (q.length + 3) + 3 ≤ k) : spec_l02Critical.f k n l q = some (critL l q) := by
 unfold spec_l02Critical.f
 have hm : l.length * (q.length + 3) ≤ 63 * (q.length + 3) := Nat.mul_le_mul_right _ hl
 have := specCrit_l0 n l hl q hq l.length 0 k [] (by omega) (by omega) (by omega) (by simp)
 rw [show ((0 : Nat) : Int) = 0 from rfl, List.drop_zero, List.nil_append] at this
 exact this
end Go.Proofs.Ytniikppojffiaaa.K
end

section
/- isPair. -/
namespace Go.Proofs.Ytniikppojffiaaa.K
open Go.RowKit Go.Shelf Go.Proofs.Ytniikppojffiaaa.Q Go.Proofs.YtniikppojffiaaaW.PrintWords Go.Proofs.YtniikppojffiaaaW.PrintLast Go.Proofs.YtniikppojffiaaaW.PrintMore
set_option linter.unusedVariables false
set_option linter.unusedSimpArgs false

theorem isPair_is {n : Int} {l : List Int} (hi : isC n l = true) (x y : Int) : impl_Complex_isPair.f (l.length + 1) n l x y = some (pairK l ⟨x, y⟩) := by
  obtain ⟨hn, hs, hr, h63⟩ := isC_faces hi
  have hh : ∀ f, impl_Complex_has.f (l.length + 1) n l f = some (hasB l f) := fun f => by unfold impl_Complex_has.f; rw [bs_is l f (by omega)]; rfl
  have hI : impl_isIn.f x y = some (inB x y) := rfl
  unfold impl_Complex_isPair.f pairK
  rw [hh x]
  simp only [Option.bind_some]
  cases h1 : hasB l x with
  | false => simp
  | true =>
    rw [if_pos rfl, hh y]
    simp only [Option.bind_some]
    cases h2 : hasB l y with
    | false => simp
    | true =>
      rw [if_pos rfl, hI]
      simp only [Option.bind_some]
      cases h3 : inB x y with
      | false => simp
      | true =>
        have hx := has_mem hi h1
        have hy := has_mem hi h2
        rw [if_pos rfl, size_is y (by omega) (by omega), size_is x (by omega) (by omega)]
        simp only [Option.bind_some]
        have := ones_le x
        have hw : wrap64 (onesI x + 1) = onesI x + 1 := by unfold wrap64; omega
        rw [hw]
        simp only [Bool.true_and]
        rfl
end Go.Proofs.Ytniikppojffiaaa.K
end

section
/- Written by a program of this session (myprint.py over the kit's print). -/
namespace Go.Proofs.Ytniikppojffiaaa.Q
open Go.RowKit Go.Proofs.YtniikppojffiaaaW.PrintWords Go.Proofs.YtniikppojffiaaaW.PrintLast Go.Proofs.YtniikppojffiaaaW.PrintMore
attribute [local go_sem] max2_int min2_int max_two min_two max_three min_three max_four min_four   -- for this text's walks alone
set_option linter.unusedVariables false
set_option linter.unusedSimpArgs false

/-! ### impl_Complex_pairs: function 84 -/
mutual
def impl_Complex_pairs.l0 : Nat → List (S53) → List Int → Int → Int → Int → List Int → Option ((List (S53)))
 | 0, _, _, _, _, _, _ => none
 | k + 1, x3, x10, x11, x12, x622000, x622001 => if x12 < x11 then (if 0 ≤ x12 then (if x12 < (x10.length : Int) then (impl_Complex_pairs.l1 k x3 (rd x10 x12) x10 x11 x12 x622001 (x622001.length : Int) 0 x622000 x622001) else (none)) else (none)) else (some x3)
def impl_Complex_pairs.l1 : Nat → List (S53) → Int → List Int → Int → Int → List Int → Int → Int → Int → List Int → Option ((List (S53)))
 | 0, _, _, _, _, _, _, _, _, _, _ => none
 | k + 1, x3, x5, x10, x11, x12, x17, x18, x19, x622000, x622001 => if x19 < x18 then (if 0 ≤ x19 then (if x19 < (x17.length : Int) then ((impl_Complex_isPair.f k x622000 x622001 x5 (rd x17 x19)).bind fun t625 => (if t625 = true then (if x3.length < 8796093022208 then (impl_Complex_pairs.l1 k (x3 ++ [(⟨x5, rd x17 x19⟩ : S53)]) x5 x10 x11 x12 x17 x18 (wrap64 (x19 + 1)) x622000 x622001) else (none)) else (impl_Complex_pairs.l1 k x3 x5 x10 x11 x12 x17 x18 (wrap64 (x19 + 1)) x622000 x622001))) else (none)) else (none)) else (impl_Complex_pairs.l0 k x3 x10 x11 (wrap64 (x12 + 1)) x622000 x622001)
end
def impl_Complex_pairs.f (k : Nat) (a0_0 : Int) (l0_1 : List Int) : Option ((List (S53))) := impl_Complex_pairs.l0 k ([] : List (S53)) l0_1 (l0_1.length : Int) 0 a0_0 l0_1
theorem impl_Complex_pairs.mono_l : ∀ k, (∀ y0 y1 y2 y3 y4 y5, LeO (impl_Complex_pairs.l0 k y0 y1 y2 y3 y4 y5) (impl_Complex_pairs.l0 (k + 1) y0 y1 y2 y3 y4 y5)) ∧ (∀ y0 y1 y2 y3 y4 y5 y6 y7 y8 y9, LeO (impl_Complex_pairs.l1 k y0 y1 y2 y3 y4 y5 y6 y7 y8 y9) (impl_Complex_pairs.l1 (k + 1) y0 y1 y2 y3 y4 y5 y6 y7 y8 y9))
 | 0 => ⟨fun _ _ _ _ _ _ r h => by simp [impl_Complex_pairs.l0] at h, fun _ _ _ _ _ _ _ _ _ _ r h => by simp [impl_Complex_pairs.l1] at h⟩
 | k + 1 => by
  obtain ⟨ih0, ih1⟩ := impl_Complex_pairs.mono_l k
  refine ⟨?_, ?_⟩
  ·intro y0 y1 y2 y3 y4 y5
   unfold impl_Complex_pairs.l0
   repeat' first
   | (with_reducible exact ih0 _ _ _ _ _ _)
   | (with_reducible exact ih1 _ _ _ _ _ _ _ _ _ _)
   | (with_reducible exact impl_Complex_isPair.mono _ _ _ _ _)
   | (with_reducible exact LeO.refl _)
   | (with_reducible exact LeO.none _)
   | (with_reducible refine LeO.ite ?_ ?_)
   | (with_reducible refine LeO.bind ?_ (fun _ => ?_))
   | exact ih0 _ _ _ _ _ _
   | exact ih1 _ _ _ _ _ _ _ _ _ _
   | exact impl_Complex_isPair.mono _ _ _ _ _
   | exact LeO.none _
   | refine LeO.ite ?_ ?_
   | refine LeO.bind ?_ (fun _ => ?_)
  ·intro y0 y1 y2 y3 y4 y5 y6 y7 y8 y9
   unfold impl_Complex_pairs.l1
   repeat' first
   | (with_reducible exact ih0 _ _ _ _ _ _)
   | (with_reducible exact ih1 _ _ _ _ _ _ _ _ _ _)
   | (with_reducible exact impl_Complex_isPair.mono _ _ _ _ _)
   | (with_reducible exact LeO.refl _)
   | (with_reducible exact LeO.none _)
   | (with_reducible refine LeO.ite ?_ ?_)
   | (with_reducible refine LeO.bind ?_ (fun _ => ?_))
   | exact ih0 _ _ _ _ _ _
   | exact ih1 _ _ _ _ _ _ _ _ _ _
   | exact impl_Complex_isPair.mono _ _ _ _ _
   | exact LeO.none _
   | refine LeO.ite ?_ ?_
   | refine LeO.bind ?_ (fun _ => ?_)
theorem impl_Complex_pairs.mono : ∀ a0 a1 k, LeO (impl_Complex_pairs.f k a0 a1) (impl_Complex_pairs.f (k + 1) a0 a1) := by
 intro a0 a1 k
 obtain ⟨ih0, ih1⟩ := impl_Complex_pairs.mono_l k
 unfold impl_Complex_pairs.f
 repeat' first
   | (with_reducible exact ih0 _ _ _ _ _ _)
   | (with_reducible exact ih1 _ _ _ _ _ _ _ _ _ _)
   | (with_reducible exact impl_Complex_isPair.mono _ _ _ _ _)
   | (with_reducible exact LeO.refl _)
   | (with_reducible exact LeO.none _)
   | (with_reducible refine LeO.ite ?_ ?_)
   | (with_reducible refine LeO.bind ?_ (fun _ => ?_))
   | exact ih0 _ _ _ _ _ _
   | exact ih1 _ _ _ _ _ _ _ _ _ _
   | exact impl_Complex_isPair.mono _ _ _ _ _
   | exact LeO.none _
   | refine LeO.ite ?_ ?_
   | refine LeO.bind ?_ (fun _ => ?_)
set_option maxHeartbeats 8000000 in
set_option maxRecDepth 100000 in
theorem impl_Complex_pairs.calls (k : Nat) (a0_0 : Int) (A0_1 : Option Addr) (c0_1 : Nat) (l0_1 : List Int) (r : List (S53)) (w : World) (hr0_1 : Kd.C (Kd.int .i64) w A0_1 l0_1.length l0_1) (hc0_1 : l0_1.length ≤ c0_1) (h : impl_Complex_pairs.f k a0_0 l0_1 = some r) :
  Calls Try.prog 84 #[.agg #[.int .i64 a0_0, .slice A0_1 l0_1.length c0_1]] w fun e w' => ∃ v0_ : Value, e = .returned (v0_) ∧ Kd.R k53 53 w' w.heap.size (fun _ => True) v0_ r ∧ Below w.heap.size w w' := by
 have hu30 := Try.underlying30
 have hu53 := Try.underlying53
 have HR0_1 := Aside0.mk hr0_1
 have HC0_1 := Aside0.mk hc0_1
 clear hr0_1 hc0_1
 have HB := Aside0.mk (Below.refl w.heap.size w)
 have H : (impl_Complex_pairs.l0 k ([] : List (S53)) l0_1 (l0_1.length : Int) 0 a0_0 l0_1) = some r := h
 clear h
 have H' := Aside0.mk H
 clear H
 go_enter Try.func84, Try.ntmps84
 go_wp2_with (first | ((with_reducible refine gate_dst (N := 1) rfl ?_); refine box_event ?hg (N := 1) ?hd (cs := #[.int .i64 a0_0, .slice A0_1 l0_1.length c0_1]) (t := 30) ?hr ?_; (case hd => rfl); (case hg => rfl); (case hr => first | (go_simp; done) | (go_simp; rfl)); intro gb621 hg w2 hbox hb; have n0_ := Aside0.mk (below_step (by repeat (first | (with_reducible first | exact HB.out | apply below_alloc | apply pw_below_drewN | apply below_drew1) | exact HB.out)) hb); have n1_ := Aside0.mk (hbox); have n2_ := Aside0.mk ((by rw [hg]; exact (below_size (by repeat (first | (with_reducible first | exact HB.out | apply below_alloc | apply pw_below_drewN | apply below_drew1) | exact HB.out))) : w.heap.size ≤ gb621)); have n3_ := Aside0.mk ((by rw [hg]; exact (below_size (by repeat (first | (with_reducible first | exact HB.out | apply below_alloc | apply pw_below_drewN | apply below_drew1) | exact HB.out))) : w.heap.size ≤ gb621)); clear HB; have HB := n0_; have BK621 := n1_; have GW621 := n2_; have GE621 := n3_; clear n0_ n1_ n2_ n3_; clear hb hbox hg; have hcz3_0 : w2.cell? ⟨gb621, 0, none⟩ = some (.int .i64 a0_0) := (blk_cell BK621.out 0).trans rfl; have hcz3_1 : w2.cell? ⟨gb621, 1, none⟩ = some (.slice A0_1 l0_1.length c0_1) := (blk_cell BK621.out 1).trans rfl; have hfz3_0 := blk_frozen BK621.out 0; have hfz3_1 := blk_frozen BK621.out 1))
 go_loopg [3, 12] k (fun kq v3 v12 w' => ∃ (x3_1 : List (S53)) (x12_1 : Int), v12 = .int .i64 x12_1 ∧ Aside0 (impl_Complex_pairs.l0 kq x3_1 l0_1 (l0_1.length : Int) x12_1 a0_0 l0_1 = some r) ∧ Aside0 (kq ≤ k) ∧ Aside0 (Kd.R k53 53 w' w.heap.size (fun _ => True) v3 x3_1) ∧ Aside0 (w'.heap[gb621]? = some (.cells #[.int .i64 a0_0, (.slice A0_1 l0_1.length c0_1)] 30 (0, 0))) ∧ Aside0 (Below w.heap.size w w'))
 case atStart => exact ⟨(([] : List (S53))), (0), (by first | rfl | (simp; done) | (simp [*]; done)), H', ⟨Nat.le_refl _⟩, ⟨by first | exact Kd.R_nil _ _ _ _ _ | exact Kd.N_nil _ _ _ _ _ | exact Kd.V_nil _ _ _ _ _ | exact Kd.Q_nil _ _ _ _ _ | exact Kd.S_nil _ _ _ _ _⟩, ⟨by (with_reducible repeat (first | refine blk_drewN ?_ _ | refine blk_drew ?_ | refine blk_alloc ?_ _)); exact BK621.out⟩, ⟨by repeat (first | (with_reducible first | exact HB.out | apply below_alloc | apply pw_below_drewN | apply below_drew1 | refine below_set ?_ GE621.out) | exact HB.out)⟩⟩
 case round =>
  clear H'
  try clear p2
  try clear hcz3_0
  try clear hcz3_1
  try clear hfz3_0
  try clear hfz3_1
  obtain ⟨x3_1, x12_1, rfl, HA, HK1, HO_3, BK621, HB⟩ := hrel
  cases gk with
  | zero => exact absurd HA.out (by simp [impl_Complex_pairs.l0])
  | succ k1 =>
   have H := HA.out
   clear HA
   simp only [impl_Complex_pairs.l0] at H
   by_cases c4 : x12_1 < (l0_1.length : Int)
   ·rw [if_pos c4] at H
    have c4b0 : decide (x12_1 < (l0_1.length : Int)) = true := decide_eq_true c4
    clear c4
    by_cases c5 : 0 ≤ x12_1
    ·rw [if_pos c5] at H
     have c5b0 : decide (0 ≤ x12_1) = true := decide_eq_true c5
     clear c5
     by_cases c6 : x12_1 < (l0_1.length : Int)
     ·rw [if_pos c6] at H
      have c6b0 : decide (x12_1 < (l0_1.length : Int)) = true := decide_eq_true c6
      clear c6
      have H' := Aside0.mk H
      clear H
      have p622 : 0 ≤ (x12_1 : Int) := of_decide_eq_true (by first | (with_reducible assumption) | assumption)
      have q622 : x12_1 < (l0_1.length : Int) := of_decide_eq_true (by first | (with_reducible assumption) | assumption)
      obtain ⟨ad622, e622, hx622_0⟩ := Kd.at_int HR0_1.out x12_1 p622 q622
      cases e622
      replace hx622_0 := (HB.out.cell (World.block_lt_of_cell? w _ hx622_0)).trans hx622_0
      replace p622 := eq_true p622
      replace q622 := eq_true q622
      have hcz7_0 : wr.cell? ⟨gb621, 0, none⟩ = some (.int .i64 a0_0) := (blk_cell BK621.out 0).trans rfl
      have hcz7_1 : wr.cell? ⟨gb621, 1, none⟩ = some (.slice (some ad622) l0_1.length c0_1) := (blk_cell BK621.out 1).trans rfl
      have hfz7_0 := blk_frozen BK621.out 0
      have hfz7_1 := blk_frozen BK621.out 1
      go_wp2
      go_loopg [3, 19] k1 (fun kq v3 v19 w' => ∃ (x3_2 : List (S53)) (x19_2 : Int), v19 = .int .i64 x19_2 ∧ Aside0 (impl_Complex_pairs.l1 kq x3_2 (rd l0_1 x12_1) l0_1 (l0_1.length : Int) x12_1 l0_1 (l0_1.length : Int) x19_2 a0_0 l0_1 = some r) ∧ Aside0 (kq ≤ k1) ∧ Aside0 (Kd.R k53 53 w' w.heap.size (fun _ => True) v3 x3_2) ∧ Aside0 (w'.heap[gb621]? = some (.cells #[.int .i64 a0_0, (.slice (some ad622) l0_1.length c0_1)] 30 (0, 0))) ∧ Aside0 (Below w.heap.size w w'))
      case atStart => exact ⟨(x3_1), (0), (by first | rfl | (simp; done) | (simp [*]; done)), H', ⟨Nat.le_refl _⟩, ⟨by (with_reducible repeat (first | apply Kd.R_alloc | apply Kd.R_drewN | apply Kd.R_drew)); exact HO_3.out⟩, ⟨by (with_reducible repeat (first | refine blk_drewN ?_ _ | refine blk_drew ?_ | refine blk_alloc ?_ _)); exact BK621.out⟩, ⟨by repeat (first | (with_reducible first | exact HB.out | apply below_alloc | apply pw_below_drewN | apply below_drew1 | refine below_set ?_ GE621.out) | exact HB.out)⟩⟩
      case round =>
       clear H'
       try clear p2
       try clear c4
       try clear c4b0
       try clear c5
       try clear c5b0
       try clear c6
       try clear c6b0
       try clear p6
       try clear q6
       try clear hx6
       try clear hcz3_0
       try clear hcz3_1
       try clear hcz7_0
       try clear hcz7_1
       try clear hfz3_0
       try clear hfz3_1
       try clear hfz7_0
       try clear hfz7_1
       try clear hx622_0
       try clear p2
       try clear p622
       try clear q622
       obtain ⟨x3_2, x19_2, rfl, HA, HK2, HO_3, BK621, HB⟩ := hrel
       cases gk with
       | zero => exact absurd HA.out (by simp [impl_Complex_pairs.l1])
       | succ k2 =>
        have H := HA.out
        clear HA
        simp only [impl_Complex_pairs.l1] at H
        by_cases c8 : x19_2 < (l0_1.length : Int)
        ·rw [if_pos c8] at H
         have c8b0 : decide (x19_2 < (l0_1.length : Int)) = true := decide_eq_true c8
         clear c8
         by_cases c9 : 0 ≤ x19_2
         ·rw [if_pos c9] at H
          have c9b0 : decide (0 ≤ x19_2) = true := decide_eq_true c9
          clear c9
          by_cases c10 : x19_2 < (l0_1.length : Int)
          ·rw [if_pos c10] at H
           have c10b0 : decide (x19_2 < (l0_1.length : Int)) = true := decide_eq_true c10
           clear c10
           replace H := Option.bind_eq_some_iff.mp H
           obtain ⟨t625, A110, H⟩ := H
           replace H : (if t625 = true then (if x3_2.length < 8796093022208 then (impl_Complex_pairs.l1 k2 (x3_2 ++ [(⟨(rd l0_1 x12_1), rd l0_1 x19_2⟩ : S53)]) (rd l0_1 x12_1) l0_1 (l0_1.length : Int) x12_1 l0_1 (l0_1.length : Int) (wrap64 (x19_2 + 1)) a0_0 l0_1) else (none)) else (impl_Complex_pairs.l1 k2 x3_2 (rd l0_1 x12_1) l0_1 (l0_1.length : Int) x12_1 l0_1 (l0_1.length : Int) (wrap64 (x19_2 + 1)) a0_0 l0_1)) = some r := H
           have A11 := Aside0.mk A110
           clear A110
           by_cases c12 : t625 = true
           ·subst c12
            have H1 : (if x3_2.length < 8796093022208 then (impl_Complex_pairs.l1 k2 (x3_2 ++ [(⟨(rd l0_1 x12_1), rd l0_1 x19_2⟩ : S53)]) (rd l0_1 x12_1) l0_1 (l0_1.length : Int) x12_1 l0_1 (l0_1.length : Int) (wrap64 (x19_2 + 1)) a0_0 l0_1) else (none)) = some r := by rw [if_pos rfl] at H; exact H
            clear H
            have H := H1
            clear H1
            by_cases c13 : x3_2.length < 8796093022208
            ·rw [if_pos c13] at H
             have LMc13 := Aside0.mk c13
             clear c13
             obtain ⟨y626, hy626⟩ : ∃ y_ : List (S53), y_ = (x3_2 ++ [(⟨(rd l0_1 x12_1), rd l0_1 x19_2⟩ : S53)]) := ⟨_, rfl⟩
             replace H : (impl_Complex_pairs.l1 k2 y626 (rd l0_1 x12_1) l0_1 (l0_1.length : Int) x12_1 l0_1 (l0_1.length : Int) (wrap64 (x19_2 + 1)) a0_0 l0_1) = some r := by first | (rw [hy626]; with_reducible exact H) | (have H2_ := (Option.bind_some _ _).symm.trans H; rw [hy626]; with_reducible exact H2_) | (have H2_ := (Option.bind_some _ _).symm.trans H; with_reducible exact H2_) | with_reducible exact H | (rw [hy626]; exact H) | exact H
             have Ny626 := Aside0.mk hy626
             clear hy626
             have H' := Aside0.mk H
             clear H
             have p623 : 0 ≤ (x19_2 : Int) := of_decide_eq_true (by first | (with_reducible assumption) | assumption)
             have q623 : x19_2 < (l0_1.length : Int) := of_decide_eq_true (by first | (with_reducible assumption) | assumption)
             obtain ⟨ad623, e623, hx623_0⟩ := Kd.at_int HR0_1.out x19_2 p623 q623
             obtain rfl : ad622 = ad623 := (by injection e623)
             replace hx623_0 := (HB.out.cell (World.block_lt_of_cell? w _ hx623_0)).trans hx623_0
             replace p623 := eq_true p623
             replace q623 := eq_true q623
             go_wp2_with (first | ((with_reducible refine gate_dst (N := 8) rfl ?_); refine box_event ?hg (N := 8) ?hd (cs := #[.int .i64 0, .int .i64 0]) (t := 53) ?hr ?_; (case hd => rfl); (case hg => rfl); (case hr => first | (go_simp; done) | (go_simp; rfl)); intro gb624 hg w14 hbox hb; have n0_ := Aside0.mk (Kd.R_below (Kd.R_elderB (by (with_reducible repeat (first | apply Kd.R_alloc | apply Kd.R_drewN | apply Kd.R_drew)); exact HO_3.out) gb624 (Nat.le_of_eq hg.symm)) hb); have n1_ := Aside0.mk (blk_below (g := gb621) (o := .cells #[.int .i64 a0_0, .slice (some ad622) l0_1.length c0_1] 30 (0, 0)) (by (with_reducible repeat (first | refine blk_drewN ?_ _ | refine blk_drew ?_ | refine blk_alloc ?_ _)); exact BK621.out) hb); have n2_ := Aside0.mk (below_step (by repeat (first | (with_reducible first | exact HB.out | apply below_alloc | apply pw_below_drewN | apply below_drew1 | refine below_set ?_ GE621.out) | exact HB.out)) hb); have n3_ := Aside0.mk (hbox); have n4_ := Aside0.mk ((by rw [hg]; exact (below_size (by repeat (first | (with_reducible first | exact HB.out | apply below_alloc | apply pw_below_drewN | apply below_drew1 | refine below_set ?_ GE621.out) | exact HB.out))) : w.heap.size ≤ gb624)); have n5_ := Aside0.mk ((by rw [hg]; exact (below_size (by repeat (first | (with_reducible first | exact HB.out | apply below_alloc | apply pw_below_drewN | apply below_drew1 | refine below_set ?_ GE621.out) | exact HB.out))) : w.heap.size ≤ gb624)); have n6_ := Aside0.mk ((by rw [hg]; exact Nat.ne_of_lt (blk_lt (g := gb621) (o := .cells #[.int .i64 a0_0, .slice (some ad622) l0_1.length c0_1] 30 (0, 0)) (by (with_reducible repeat (first | refine blk_drewN ?_ _ | refine blk_drew ?_ | refine blk_alloc ?_ _)); exact BK621.out)) : gb621 ≠ gb624)); have n7_ := Aside0.mk ((by rw [hg]; exact Nat.ne_of_gt (blk_lt (g := gb621) (o := .cells #[.int .i64 a0_0, .slice (some ad622) l0_1.length c0_1] 30 (0, 0)) (by (with_reducible repeat (first | refine blk_drewN ?_ _ | refine blk_drew ?_ | refine blk_alloc ?_ _)); exact BK621.out)) : gb624 ≠ gb621)); clear HO_3; clear BK621; clear HB; have HO_3 := n0_; have BK621 := n1_; have HB := n2_; have BK624 := n3_; have GW624 := n4_; have GE624 := n5_; have NB621_624 := n6_; have NB624_621 := n7_; clear n0_ n1_ n2_ n3_ n4_ n5_ n6_ n7_; clear hb hbox hg; have hnb15 := NB624_621.out; have hnc15 := NB621_624.out; have hcz16_0 : w14.cell? ⟨gb624, 0, none⟩ = some (.int .i64 0) := (blk_cell BK624.out 0).trans rfl; have hcz16_1 : w14.cell? ⟨gb624, 1, none⟩ = some (.int .i64 0) := (blk_cell BK624.out 1).trans rfl; have hfz16_0 := blk_frozen BK624.out 0; have hfz16_1 := blk_frozen BK624.out 1; have hcz17_0 : w14.cell? ⟨gb621, 0, none⟩ = some (.int .i64 a0_0) := (blk_cell BK621.out 0).trans rfl; have hcz17_1 : w14.cell? ⟨gb621, 1, none⟩ = some (.slice (some ad622) l0_1.length c0_1) := (blk_cell BK621.out 1).trans rfl; have hfz17_0 := blk_frozen BK621.out 0; have hfz17_1 := blk_frozen BK621.out 1) | ((with_reducible refine gate_callee (f := 88) rfl ?_); refine goesL_ (some 28) rfl rfl Try.func88 (by kernel_rfl) rfl #[.agg #[.int .i64 a0_0, .slice (some ad622) l0_1.length c0_1], .agg #[.int .i64 (rd l0_1 x12_1), .int .i64 (rd l0_1 x19_2)]] rfl (by (try simp only [List.map_toArray, List.map_cons, List.map_nil]); first | done | rfl | (simp only [List.length_drop, List.length_take]; rfl)) ?_; (with_reducible refine (impl_Complex_isPair.calls k2 a0_0 _ _ l0_1 (rd l0_1 x12_1) (rd l0_1 x19_2) true _ ?side1 ?side2 A11.out).mono ?_); (case side1 => exact Kd.C_below HR0_1.out (by repeat (first | (with_reducible first | exact HB.out | apply below_alloc | apply pw_below_drewN | apply below_drew1 | refine below_set ?_ GE621.out | refine below_set ?_ GE624.out) | exact HB.out))); (case side2 => exact HC0_1.out); rintro e w18 ⟨rfl, hb⟩; refine ⟨_, rfl, ?_⟩; have n0_ := Aside0.mk (Kd.R_below (by (with_reducible repeat (first | apply Kd.R_alloc | apply Kd.R_drewN | apply Kd.R_drew)); exact (Kd.R_mono (Kd.R_far (p := ⟨gb624, 1, none⟩) (Kd.R_far (p := ⟨gb624, 0, none⟩) (Kd.R_mono HO_3.out (fun k_ hk => (⟨hk, hk.2⟩ : _ ∧ k_ ≠ gb624))) (fun _ hk => hk.2) (.int .i64 (rd l0_1 x12_1))) (fun _ hk => hk.2) (.int .i64 (rd l0_1 x19_2))) (fun _ h_ => h_.1))) hb); have n1_ := Aside0.mk (blk_below (g := gb621) (o := .cells #[.int .i64 a0_0, .slice (some ad622) l0_1.length c0_1] 30 (0, 0)) (by (with_reducible repeat (first | refine blk_drewN ?_ _ | refine blk_drew ?_ | refine blk_alloc ?_ _)); refine blk_far ?_ NB621_624.out _; (with_reducible repeat (first | refine blk_drewN ?_ _ | refine blk_drew ?_ | refine blk_alloc ?_ _)); refine blk_far ?_ NB621_624.out _; (with_reducible repeat (first | refine blk_drewN ?_ _ | refine blk_drew ?_ | refine blk_alloc ?_ _)); exact BK621.out) hb); have n2_ := Aside0.mk (blk_below (g := gb624) (o := .cells #[.int .i64 (rd l0_1 x12_1), .int .i64 (rd l0_1 x19_2)] 53 (0, 0)) (by (with_reducible repeat (first | refine blk_drewN ?_ _ | refine blk_drew ?_ | refine blk_alloc ?_ _)); refine blk_put (cs := #[.int .i64 (rd l0_1 x12_1), .int .i64 0]) ?_ 1 _ rfl; (with_reducible repeat (first | refine blk_drewN ?_ _ | refine blk_drew ?_ | refine blk_alloc ?_ _)); refine blk_put (cs := #[.int .i64 0, .int .i64 0]) ?_ 0 _ rfl; (with_reducible repeat (first | refine blk_drewN ?_ _ | refine blk_drew ?_ | refine blk_alloc ?_ _)); exact BK624.out) hb); have n3_ := Aside0.mk (below_step (by repeat (first | (with_reducible first | exact HB.out | apply below_alloc | apply pw_below_drewN | apply below_drew1 | refine below_set ?_ GE621.out | refine below_set ?_ GE624.out) | exact HB.out)) hb); clear HO_3; clear BK621; clear BK624; clear HB; have HO_3 := n0_; have BK621 := n1_; have BK624 := n2_; have HB := n3_; clear n0_ n1_ n2_ n3_; (try clear hb); (try clear hb2); (try clear hk); (try clear hi); have hcz19_0 : w18.cell? ⟨gb624, 0, none⟩ = some (.int .i64 (rd l0_1 x12_1)) := (blk_cell BK624.out 0).trans rfl; have hcz19_1 : w18.cell? ⟨gb624, 1, none⟩ = some (.int .i64 (rd l0_1 x19_2)) := (blk_cell BK624.out 1).trans rfl; have hfz19_0 := blk_frozen BK624.out 0; have hfz19_1 := blk_frozen BK624.out 1) | ((with_reducible refine gate_builtin (b := .append) (xs := #[.tmp 29, .tmp 31]) rfl ?_); at_builtin; refine Kd.R_append k53 (w0 := w) w.heap.size rfl (.tmp 29) (.tmp 31) 32 53 (.agg #[(.int .i64 0), (.int .i64 0)]) 16 rfl Try.underlying32 info53 rfl (by decide) (by omega) u3 x3_2 (⟨(rd l0_1 x12_1), rd l0_1 x19_2⟩ : S53) [.int .i64 (rd l0_1 x12_1), .int .i64 (rd l0_1 x19_2)] (fun k_ => k_ ≠ gb624) (fun _ => False) rfl rfl ?aP (fun _ hk => hk.elim) ?aF ?aO ?aB ?aS ?aL ?_; (case aP => exact k53_mkM _ _ _ (⟨(rd l0_1 x12_1), rd l0_1 x19_2⟩ : S53)); (case aB => exact (by repeat (first | (with_reducible first | exact HB.out | apply below_alloc | apply pw_below_drewN | apply below_drew1 | refine below_set ?_ GE621.out | refine below_set ?_ GE624.out) | exact HB.out))); (case aF => exact (fun k_ hk => Kd.freshB (g := gb624) (o := .cells #[.int .i64 (rd l0_1 x12_1), .int .i64 (rd l0_1 x19_2)] 53 (0, 0)) (by (with_reducible repeat (first | refine blk_drewN ?_ _ | refine blk_drew ?_ | refine blk_alloc ?_ _)); exact BK624.out) k_ hk)); (case aO => exact (by (with_reducible repeat (first | apply Kd.R_alloc | apply Kd.R_drewN | apply Kd.R_drew)); exact Kd.R_mono HO_3.out (fun _ hk => hk.2))); (case aS => exact (below_size (by repeat (first | (with_reducible first | exact HB.out | apply below_alloc | apply pw_below_drewN | apply below_drew1 | refine below_set ?_ GE621.out | refine below_set ?_ GE624.out) | exact HB.out)))); (case aL => have := LMc13.out; omega); intro v627 w20 ho hb hg hat; rw [← Ny626.out] at ho; have n0_ := Aside0.mk (blk_grown (g := gb621) (o := .cells #[.int .i64 a0_0, .slice (some ad622) l0_1.length c0_1] 30 (0, 0)) (by (with_reducible repeat (first | refine blk_drewN ?_ _ | refine blk_drew ?_ | refine blk_alloc ?_ _)); exact BK621.out) hg (Kd.R_ne HO_3.out BK621.out (by decide))); have n1_ := Aside0.mk (blk_grown (g := gb624) (o := .cells #[.int .i64 (rd l0_1 x12_1), .int .i64 (rd l0_1 x19_2)] 53 (0, 0)) (by (with_reducible repeat (first | refine blk_drewN ?_ _ | refine blk_drew ?_ | refine blk_alloc ?_ _)); exact BK624.out) hg (Kd.R_away HO_3.out (fun _ hk => hk.2))); have n2_ := Aside0.mk (hb); have n3_ := Aside0.mk (ho); clear BK621; clear BK624; clear HB; clear HO_3; have BK621 := n0_; have BK624 := n1_; have HB := n2_; have HO628 := n3_; clear n0_ n1_ n2_ n3_; clear ho hb hg hat))
             go_roundg k2
             case measure => have := HK1.out; have := HK2.out; omega
             case rel => exact ⟨(y626), (wrap64 (x19_2 + 1)), (by first | rfl | (simp; done) | (simp [*]; done)), H', ⟨by have := HK1.out; have := HK2.out; omega⟩, ⟨by (with_reducible repeat (first | apply Kd.R_alloc | apply Kd.R_drewN | apply Kd.R_drew)); exact Kd.R_mono HO628.out (fun _ hk => trivial)⟩, ⟨by (with_reducible repeat (first | refine blk_drewN ?_ _ | refine blk_drew ?_ | refine blk_alloc ?_ _)); exact BK621.out⟩, ⟨by repeat (first | (with_reducible first | exact HB.out | apply below_alloc | apply pw_below_drewN | apply below_drew1 | refine below_set ?_ GE621.out | refine below_set ?_ GE624.out) | exact HB.out)⟩⟩
            ·rw [if_neg c13] at H
             exact absurd H (by simp)
           ·replace c12 := Bool.eq_false_iff.mpr c12
            subst c12
            have H1 : (impl_Complex_pairs.l1 k2 x3_2 (rd l0_1 x12_1) l0_1 (l0_1.length : Int) x12_1 l0_1 (l0_1.length : Int) (wrap64 (x19_2 + 1)) a0_0 l0_1) = some r := by rw [if_neg (show ¬ (false = true) by decide)] at H; exact H
            clear H
            have H := H1
            clear H1
            have H' := Aside0.mk H
            clear H
            have p623 : 0 ≤ (x19_2 : Int) := of_decide_eq_true (by first | (with_reducible assumption) | assumption)
            have q623 : x19_2 < (l0_1.length : Int) := of_decide_eq_true (by first | (with_reducible assumption) | assumption)
            obtain ⟨ad623, e623, hx623_0⟩ := Kd.at_int HR0_1.out x19_2 p623 q623
            obtain rfl : ad622 = ad623 := (by injection e623)
            replace hx623_0 := (HB.out.cell (World.block_lt_of_cell? w _ hx623_0)).trans hx623_0
            replace p623 := eq_true p623
            replace q623 := eq_true q623
            go_wp2_with (first | ((with_reducible refine gate_dst (N := 8) rfl ?_); refine box_event ?hg (N := 8) ?hd (cs := #[.int .i64 0, .int .i64 0]) (t := 53) ?hr ?_; (case hd => rfl); (case hg => rfl); (case hr => first | (go_simp; done) | (go_simp; rfl)); intro gb624 hg w21 hbox hb; have n0_ := Aside0.mk (Kd.R_below (Kd.R_elderB (by (with_reducible repeat (first | apply Kd.R_alloc | apply Kd.R_drewN | apply Kd.R_drew)); exact HO_3.out) gb624 (Nat.le_of_eq hg.symm)) hb); have n1_ := Aside0.mk (blk_below (g := gb621) (o := .cells #[.int .i64 a0_0, .slice (some ad622) l0_1.length c0_1] 30 (0, 0)) (by (with_reducible repeat (first | refine blk_drewN ?_ _ | refine blk_drew ?_ | refine blk_alloc ?_ _)); exact BK621.out) hb); have n2_ := Aside0.mk (below_step (by repeat (first | (with_reducible first | exact HB.out | apply below_alloc | apply pw_below_drewN | apply below_drew1 | refine below_set ?_ GE621.out) | exact HB.out)) hb); have n3_ := Aside0.mk (hbox); have n4_ := Aside0.mk ((by rw [hg]; exact (below_size (by repeat (first | (with_reducible first | exact HB.out | apply below_alloc | apply pw_below_drewN | apply below_drew1 | refine below_set ?_ GE621.out) | exact HB.out))) : w.heap.size ≤ gb624)); have n5_ := Aside0.mk ((by rw [hg]; exact (below_size (by repeat (first | (with_reducible first | exact HB.out | apply below_alloc | apply pw_below_drewN | apply below_drew1 | refine below_set ?_ GE621.out) | exact HB.out))) : w.heap.size ≤ gb624)); have n6_ := Aside0.mk ((by rw [hg]; exact Nat.ne_of_lt (blk_lt (g := gb621) (o := .cells #[.int .i64 a0_0, .slice (some ad622) l0_1.length c0_1] 30 (0, 0)) (by (with_reducible repeat (first | refine blk_drewN ?_ _ | refine blk_drew ?_ | refine blk_alloc ?_ _)); exact BK621.out)) : gb621 ≠ gb624)); have n7_ := Aside0.mk ((by rw [hg]; exact Nat.ne_of_gt (blk_lt (g := gb621) (o := .cells #[.int .i64 a0_0, .slice (some ad622) l0_1.length c0_1] 30 (0, 0)) (by (with_reducible repeat (first | refine blk_drewN ?_ _ | refine blk_drew ?_ | refine blk_alloc ?_ _)); exact BK621.out)) : gb624 ≠ gb621)); clear HO_3; clear BK621; clear HB; have HO_3 := n0_; have BK621 := n1_; have HB := n2_; have BK624 := n3_; have GW624 := n4_; have GE624 := n5_; have NB621_624 := n6_; have NB624_621 := n7_; clear n0_ n1_ n2_ n3_ n4_ n5_ n6_ n7_; clear hb hbox hg; have hnb22 := NB624_621.out; have hnc22 := NB621_624.out; have hcz23_0 : w21.cell? ⟨gb624, 0, none⟩ = some (.int .i64 0) := (blk_cell BK624.out 0).trans rfl; have hcz23_1 : w21.cell? ⟨gb624, 1, none⟩ = some (.int .i64 0) := (blk_cell BK624.out 1).trans rfl; have hfz23_0 := blk_frozen BK624.out 0; have hfz23_1 := blk_frozen BK624.out 1; have hcz24_0 : w21.cell? ⟨gb621, 0, none⟩ = some (.int .i64 a0_0) := (blk_cell BK621.out 0).trans rfl; have hcz24_1 : w21.cell? ⟨gb621, 1, none⟩ = some (.slice (some ad622) l0_1.length c0_1) := (blk_cell BK621.out 1).trans rfl; have hfz24_0 := blk_frozen BK621.out 0; have hfz24_1 := blk_frozen BK621.out 1) | ((with_reducible refine gate_callee (f := 88) rfl ?_); refine goesL_ (some 28) rfl rfl Try.func88 (by kernel_rfl) rfl #[.agg #[.int .i64 a0_0, .slice (some ad622) l0_1.length c0_1], .agg #[.int .i64 (rd l0_1 x12_1), .int .i64 (rd l0_1 x19_2)]] rfl (by (try simp only [List.map_toArray, List.map_cons, List.map_nil]); first | done | rfl | (simp only [List.length_drop, List.length_take]; rfl)) ?_; (with_reducible refine (impl_Complex_isPair.calls k2 a0_0 _ _ l0_1 (rd l0_1 x12_1) (rd l0_1 x19_2) false _ ?side1 ?side2 A11.out).mono ?_); (case side1 => exact Kd.C_below HR0_1.out (by repeat (first | (with_reducible first | exact HB.out | apply below_alloc | apply pw_below_drewN | apply below_drew1 | refine below_set ?_ GE621.out | refine below_set ?_ GE624.out) | exact HB.out))); (case side2 => exact HC0_1.out); rintro e w25 ⟨rfl, hb⟩; refine ⟨_, rfl, ?_⟩; have n0_ := Aside0.mk (Kd.R_below (by (with_reducible repeat (first | apply Kd.R_alloc | apply Kd.R_drewN | apply Kd.R_drew)); exact (Kd.R_mono (Kd.R_far (p := ⟨gb624, 1, none⟩) (Kd.R_far (p := ⟨gb624, 0, none⟩) (Kd.R_mono HO_3.out (fun k_ hk => (⟨hk, hk.2⟩ : _ ∧ k_ ≠ gb624))) (fun _ hk => hk.2) (.int .i64 (rd l0_1 x12_1))) (fun _ hk => hk.2) (.int .i64 (rd l0_1 x19_2))) (fun _ h_ => h_.1))) hb); have n1_ := Aside0.mk (blk_below (g := gb621) (o := .cells #[.int .i64 a0_0, .slice (some ad622) l0_1.length c0_1] 30 (0, 0)) (by (with_reducible repeat (first | refine blk_drewN ?_ _ | refine blk_drew ?_ | refine blk_alloc ?_ _)); refine blk_far ?_ NB621_624.out _; (with_reducible repeat (first | refine blk_drewN ?_ _ | refine blk_drew ?_ | refine blk_alloc ?_ _)); refine blk_far ?_ NB621_624.out _; (with_reducible repeat (first | refine blk_drewN ?_ _ | refine blk_drew ?_ | refine blk_alloc ?_ _)); exact BK621.out) hb); have n2_ := Aside0.mk (blk_below (g := gb624) (o := .cells #[.int .i64 (rd l0_1 x12_1), .int .i64 (rd l0_1 x19_2)] 53 (0, 0)) (by (with_reducible repeat (first | refine blk_drewN ?_ _ | refine blk_drew ?_ | refine blk_alloc ?_ _)); refine blk_put (cs := #[.int .i64 (rd l0_1 x12_1), .int .i64 0]) ?_ 1 _ rfl; (with_reducible repeat (first | refine blk_drewN ?_ _ | refine blk_drew ?_ | refine blk_alloc ?_ _)); refine blk_put (cs := #[.int .i64 0, .int .i64 0]) ?_ 0 _ rfl; (with_reducible repeat (first | refine blk_drewN ?_ _ | refine blk_drew ?_ | refine blk_alloc ?_ _)); exact BK624.out) hb); have n3_ := Aside0.mk (below_step (by repeat (first | (with_reducible first | exact HB.out | apply below_alloc | apply pw_below_drewN | apply below_drew1 | refine below_set ?_ GE621.out | refine below_set ?_ GE624.out) | exact HB.out)) hb); clear HO_3; clear BK621; clear BK624; clear HB; have HO_3 := n0_; have BK621 := n1_; have BK624 := n2_; have HB := n3_; clear n0_ n1_ n2_ n3_; (try clear hb); (try clear hb2); (try clear hk); (try clear hi)))
            go_roundg k2
            case measure => have := HK1.out; have := HK2.out; omega
            case rel => exact ⟨(x3_2), (wrap64 (x19_2 + 1)), (by first | rfl | (simp; done) | (simp [*]; done)), H', ⟨by have := HK1.out; have := HK2.out; omega⟩, ⟨by (with_reducible repeat (first | apply Kd.R_alloc | apply Kd.R_drewN | apply Kd.R_drew)); exact Kd.R_mono HO_3.out (fun _ hk => trivial)⟩, ⟨by (with_reducible repeat (first | refine blk_drewN ?_ _ | refine blk_drew ?_ | refine blk_alloc ?_ _)); exact BK621.out⟩, ⟨by repeat (first | (with_reducible first | exact HB.out | apply below_alloc | apply pw_below_drewN | apply below_drew1 | refine below_set ?_ GE621.out | refine below_set ?_ GE624.out) | exact HB.out)⟩⟩
          ·rw [if_neg c10] at H
           exact absurd H (by simp)
         ·rw [if_neg c9] at H
          exact absurd H (by simp)
        ·rw [if_neg c8] at H
         have c8b0 : decide (x19_2 < (l0_1.length : Int)) = false := decide_eq_false c8
         clear c8
         have H' := Aside0.mk H
         clear H
         go_wp2
         go_roundg k2
         case measure => have := HK1.out; have := HK2.out; omega
         case rel => exact ⟨(x3_2), (wrap64 (x12_1 + 1)), (by first | rfl | (simp; done) | (simp [*]; done)), H', ⟨by have := HK1.out; have := HK2.out; omega⟩, ⟨by (with_reducible repeat (first | apply Kd.R_alloc | apply Kd.R_drewN | apply Kd.R_drew)); exact HO_3.out⟩, ⟨by (with_reducible repeat (first | refine blk_drewN ?_ _ | refine blk_drew ?_ | refine blk_alloc ?_ _)); exact BK621.out⟩, ⟨by repeat (first | (with_reducible first | exact HB.out | apply below_alloc | apply pw_below_drewN | apply below_drew1 | refine below_set ?_ GE621.out) | exact HB.out)⟩⟩
     ·rw [if_neg c6] at H
      exact absurd H (by simp)
    ·rw [if_neg c5] at H
     exact absurd H (by simp)
   ·rw [if_neg c4] at H
    have c4b0 : decide (x12_1 < (l0_1.length : Int)) = false := decide_eq_false c4
    clear c4
    obtain rfl := Option.some.inj H
    go_wp2
    go_ret
    exact ⟨_, by first | rfl | (simp [errW_none, errW_some] <;> rfl) | (simp [*, errW_none, errW_some] <;> rfl), by (with_reducible repeat (first | apply Kd.R_alloc | apply Kd.R_drewN | apply Kd.R_drew)); exact HO_3.out, by repeat (first | (with_reducible first | exact HB.out | apply below_alloc | apply pw_below_drewN | apply below_drew1 | refine below_set ?_ GE621.out) | exact HB.out)⟩

/-! ### impl_isValue: function 163 -/
def impl_isValue.f (a0 : Int) : Option (Bool) := (impl_within.f a0 (-1000) 1000).bind fun t629 => (some t629)
set_option maxHeartbeats 8000000 in
set_option maxRecDepth 100000 in
theorem impl_isValue.calls (a0 : Int) (r : Bool) (w : World) (h : impl_isValue.f a0 = some r) :
  Calls Try.prog 163 #[.int .i64 a0] w fun e w' => e = .returned (.bool r) ∧ Drawn0 w w' := by
 have H : ((impl_within.f a0 (-1000) 1000).bind fun t629 => (some t629)) = some r := h
 clear h
 replace H := Option.bind_eq_some_iff.mp H
 obtain ⟨t629, A20, H⟩ := H
 replace H : (some t629) = some r := H
 have A2 := Aside0.mk A20
 clear A20
 obtain rfl := Option.some.inj H
 go_enter Try.func163, Try.ntmps163
 go_wp2_with (first | ((with_reducible refine gate_callee (f := 144) rfl ?_); refine goesL_ (some 4) rfl rfl Try.func144 (by kernel_rfl) rfl #[.int .i64 a0, .int .i64 (-1000), .int .i64 1000] rfl (by (try simp only [List.map_toArray, List.map_cons, List.map_nil]); first | done | rfl | (simp only [List.length_drop, List.length_take]; rfl)) ?_; (with_reducible refine (impl_within.calls a0 (-1000) 1000 t629 _ A2.out).mono ?_); rintro e w' ⟨rfl, ⟨nd, rfl⟩⟩; refine ⟨_, rfl, ?_⟩))
 go_ret
 exact ⟨by first | rfl | (simp; done) | (simp [*]; done), by repeat (first | exact Drawn0.refl _ | apply Drawn0.step)⟩

end Go.Proofs.Ytniikppojffiaaa.Q
end

section
/- The reference's answers about Morse functions; all pairs of a complex. -/
namespace Go.Proofs.Ytniikppojffiaaa.K
open Go.RowKit Go.Shelf Go.Proofs.Ytniikppojffiaaa.Q Go.Proofs.YtniikppojffiaaaW.PrintWords Go.Proofs.YtniikppojffiaaaW.PrintLast Go.Proofs.YtniikppojffiaaaW.PrintMore
set_option linter.unusedVariables false
set_option linter.unusedSimpArgs false

theorem specIs04_loop (f : List Int) (hf : f.length ≤ 2097152) : ∀ (e i k : Nat), f.length - i = e → i ≤ f.length → e < k →
  spec_l04Is.l0 k f (i : Int) = some ((f.drop i).all isVal) := by
 intro e
 induction e with
 | zero =>
  intro i k he hi hk
  obtain ⟨k, rfl⟩ : ∃ m, k = m + 1 := ⟨k - 1, by omega⟩
  obtain rfl : i = f.length := by omega
  simp only [spec_l04Is.l0]
  rw [if_neg (by omega), List.drop_eq_nil_of_le (by omega)]
  rfl
 | succ e ih =>
  intro i k he hi hk
  obtain ⟨k, rfl⟩ : ∃ m, k = m + 1 := ⟨k - 1, by omega⟩
  have hil : i < f.length := by omega
  simp only [spec_l04Is.l0]
  rw [if_pos (by omega), if_pos (by omega), rd_nat f i hil, specIn_is, w64 ((i : Int) + 1) (by omega) (by omega), nat_succ, ih (i + 1) k (by omega) (by omega) (by omega), List.drop_eq_getElem_cons hil, List.all_cons]
  simp only [Option.bind_some]
  show (if isVal f[i] = true then _ else _) = _
  cases isVal f[i] <;> simp
theorem specIs04_is (n : Int) (l f : List Int) (hf : f.length ≤ 2097152) (k : Nat) (hk : f.length < k) : spec_l04Is.f k n l f = some (funB l f) := by
 unfold spec_l04Is.f funB
 have := specIs04_loop f hf f.length 0 k (by omega) (by omega) hk
 rw [show ((0 : Nat) : Int) = 0 from rfl, List.drop_zero] at this
 by_cases h : f.length = l.length
 ·rw [if_pos (by omega), this]
  simp [h]
 ·rw [if_neg (by omega)]
  simp [h]
theorem specCode04_loop (n : Int) (l : List Int) (fs : List (List Int)) (h2 : fs.length ≤ 2) (hf : ∀ f ∈ fs, f.length ≤ 2097152) : ∀ (e i k : Nat), fs.length - i = e → i ≤ fs.length → 2097152 + e + 1 < k →
  spec_l04Code.l0 k fs (i : Int) n l = some (if (fs.drop i).all (funB l) then 0 else 2) := by
 intro e
 induction e with
 | zero =>
  intro i k he hi hk
  obtain ⟨k, rfl⟩ : ∃ m, k = m + 1 := ⟨k - 1, by omega⟩
  obtain rfl : i = fs.length := by omega
  simp only [spec_l04Code.l0]
  rw [if_neg (by omega), List.drop_eq_nil_of_le (by omega)]
  rfl
 | succ e ih =>
  intro i k he hi hk
  obtain ⟨k, rfl⟩ : ∃ m, k = m + 1 := ⟨k - 1, by omega⟩
  have hil : i < fs.length := by omega
  have hrd : rd_L3 fs (i : Int) = fs[i] := by simp [rd_L3, hil]
  have hm := hf _ (List.getElem_mem hil)
  simp only [spec_l04Code.l0]
  rw [if_pos (by omega), if_pos (by omega), hrd, specIs04_is n l fs[i] hm k (by omega), w64 ((i : Int) + 1) (by omega) (by omega), nat_succ, ih (i + 1) k (by omega) (by omega) (by omega), List.drop_eq_getElem_cons hil, List.all_cons]
  simp only [Option.bind_some]
  cases funB l fs[i] <;> simp
theorem specCode04_is (n : Int) (l : List Int) (fs : List (List Int)) (h2 : fs.length ≤ 2) (hl : l.length ≤ 2097152) (hf : ∀ f ∈ fs, f.length ≤ 2097152) (k : Nat) (hk : isK l + 2097160 ≤ k) : spec_l04Code.f k n l fs = some (codeOf n l (fs.all (funB l))) := by
 unfold spec_l04Code.f codeOf
 rw [specIs_is n l hl k (by omega)]
 simp only [Option.bind_some]
 have := specCode04_loop n l fs h2 hf fs.length 0 k (by omega) (by omega) (by omega)
 rw [show ((0 : Nat) : Int) = 0 from rfl, List.drop_zero] at this
 rw [this]
 cases isC n l <;> cases (fs.all (funB l)) <;> rfl
def fK (l : List Int) : Nat := isK l + 20000000
theorem funB_len {l f : List Int} (h : funB l f = true) : f.length = l.length := by
 unfold funB at h
 simp only [Bool.and_eq_true, beq_iff_eq] at h
 exact h.1
theorem funB_val {l f : List Int} (h : funB l f = true) : ∀ x ∈ f, -1000 ≤ x ∧ x ≤ 1000 := by
 unfold funB at h
 simp only [Bool.and_eq_true, List.all_eq_true] at h
 intro x hx
 have := h.2 x hx
 unfold isVal at this
 exact of_decide_eq_true this
/-- The code of Morse functions. -/
def mcode (n : Int) (l : List Int) (b m : Bool) : Int := if codeOf n l b = 0 then (if m then 0 else 5) else codeOf n l b
theorem mcode_zero {n : Int} {l : List Int} {b m : Bool} (h : mcode n l b m = 0) : isC n l = true ∧ b = true ∧ m = true := by
 unfold mcode at h
 by_cases hz : codeOf n l b = 0
 ·rw [if_pos hz] at h
  obtain ⟨h1, h2⟩ := codeOf_zero hz
  cases m
  ·exact absurd h (by decide)
  ·exact ⟨h1, h2, rfl⟩
 ·rw [if_neg hz] at h
  exact absurd h hz
theorem specPairing4_is (n : Int) (l f : List Int) (hl : l.length ≤ 2097152) (hf : f.length ≤ 2097152) (k : Nat) (hk : fK l ≤ k) : spec_PairingOfFunction.f k n l f = some ((if mcode n l (funB l f) (morseB l f) = 0 then fallL l f else []), mcode n l (funB l f) (morseB l f)) := by
 unfold fK at hk
 unfold spec_PairingOfFunction.f mcode
 rw [specCode04_is n l [f] (by simp) hl (by simpa using hf) k (by omega)]
 simp only [Option.bind_some, List.all_cons, List.all_nil, Bool.and_true]
 by_cases hz : codeOf n l (funB l f) = 0
 ·obtain ⟨hi, hb⟩ := codeOf_zero hz
  rw [if_pos hz, if_pos hz, specPairs_is hi (funB_len hb) k (by omega)]
  simp only [Option.bind_some]
  cases morseB l f <;> simp
 ·rw [if_neg hz, if_neg hz, if_neg hz]
theorem fall_len {n : Int} {l f : List Int} (hi : isC n l = true) : (fallL l f).length ≤ 3969 := by
 have h63 := (isC_faces hi).2.2.2
 have : ∀ L : List Int, (L.flatMap fun a => (upC l f a).map fun b => (⟨a, b⟩ : PairT)).length ≤ L.length * 63 := by
  intro L
  induction L with
  | nil => simp
  | cons a L ih =>
   have h1 : (upC l f a).length ≤ l.length := by
    unfold upC
    exact Nat.le_trans (List.length_filter_le _ _) (List.length_filter_le _ _)
   rw [List.flatMap_cons, List.length_append, List.length_map, List.length_cons]
   omega
 rw [fall_flat]
 have := this l
 omega
theorem isPair_le {n a b : Int} {l : List Int} {r : Bool} {m : Nat} (h : impl_Complex_isPair.f m n l a b = some r) : ∀ d, impl_Complex_isPair.f (m + d) n l a b = some r
 | 0 => h
 | d + 1 => impl_Complex_isPair.mono _ _ _ _ _ _ (isPair_le h d)
theorem pairs_l1 {n : Int} {l : List Int} (hi : isC n l = true) (a i : Int) (xs : List Int) : ∀ (e j k : Nat) (out : List PairT), l.length - j = e → j ≤ l.length → e + 100 < k → out.length + e ≤ 100000 →
  impl_Complex_pairs.l1 k out a xs (xs.length : Int) i l (l.length : Int) (j : Int) n l = impl_Complex_pairs.l0 (k - (e + 1)) (out ++ ((l.drop j).filter fun b => pairK l ⟨a, b⟩).map fun b => ⟨a, b⟩) xs (xs.length : Int) (wrap64 (i + 1)) n l := by
 have h63 := (isC_faces hi).2.2.2
 intro e
 induction e with
 | zero =>
  intro j k out he hj hk ho
  obtain ⟨k, rfl⟩ : ∃ m, k = m + 1 := ⟨k - 1, by omega⟩
  obtain rfl : j = l.length := by omega
  simp only [impl_Complex_pairs.l1]
  rw [if_neg (by omega), List.drop_eq_nil_of_le (by omega)]
  simp
 | succ e ih =>
  intro j k out he hj hk ho
  obtain ⟨k, rfl⟩ : ∃ m, k = m + 1 := ⟨k - 1, by omega⟩
  have hjl : j < l.length := by omega
  have hkk : k + 1 - (e + 1 + 1) = k - (e + 1) := by omega
  have HWj : Aside0 (wrap64 ((j : Int) + 1) = ((j + 1 : Nat) : Int)) := ⟨by rw [w64 _ (by omega) (by omega)]; omega⟩
  have HF : Aside0 (impl_Complex_isPair.f k n l a l[j] = some (pairK l ⟨a, l[j]⟩)) := ⟨by
   have := isPair_le (isPair_is hi a l[j]) (k - (l.length + 1))
   rwa [show l.length + 1 + (k - (l.length + 1)) = k by omega] at this⟩
  simp only [impl_Complex_pairs.l1]
  rw [if_pos (by omega), if_pos (by omega), if_pos (by omega), rd_nat l j hjl, HWj.out, HF.out, hkk, List.drop_eq_getElem_cons hjl, List.filter_cons]
  simp only [Option.bind_some]
  cases hb : pairK l ⟨a, l[j]⟩ with
  | true =>
   rw [if_pos rfl, if_pos (by omega), ih (j + 1) k _ (by omega) (by omega) (by omega) (by simp; omega), if_pos rfl, List.map_cons, List.append_assoc]
   rfl
  | false =>
   rw [if_neg (by simp), ih (j + 1) k _ (by omega) (by omega) (by omega) (by omega), if_neg (by simp)]
theorem pairs_l0 {n : Int} {l : List Int} (hi : isC n l = true) : ∀ (e i k : Nat) (out : List PairT), l.length - i = e → i ≤ l.length → e * 65 + 200 < k → out.length ≤ i * 63 →
  impl_Complex_pairs.l0 k out l (l.length : Int) (i : Int) n l = some (out ++ (l.drop i).flatMap fun a => (l.filter fun b => pairK l ⟨a, b⟩).map fun b => ⟨a, b⟩) := by
 have h63 := (isC_faces hi).2.2.2
 intro e
 induction e with
 | zero =>
  intro i k out he hj hk ho
  obtain ⟨k, rfl⟩ : ∃ m, k = m + 1 := ⟨k - 1, by omega⟩
  obtain rfl : i = l.length := by omega
  simp only [impl_Complex_pairs.l0]
  rw [if_neg (by omega), List.drop_eq_nil_of_le (by omega)]
  simp
 | succ e ih =>
  intro i k out he hj hk ho
  obtain ⟨k, rfl⟩ : ∃ m, k = m + 1 := ⟨k - 1, by omega⟩
  have hil : i < l.length := by omega
  have HWi : Aside0 (wrap64 ((i : Int) + 1) = ((i + 1 : Nat) : Int)) := ⟨by rw [w64 _ (by omega) (by omega)]; omega⟩
  have h1 := pairs_l1 hi l[i] (i : Int) l l.length 0 k out (by omega) (by omega) (by omega) (by omega)
  rw [show ((0 : Nat) : Int) = 0 from rfl, List.drop_zero, HWi.out] at h1
  have hfl := List.length_filter_le (fun b => pairK l ⟨l[i], b⟩) l
  simp only [impl_Complex_pairs.l0]
  rw [if_pos (by omega), if_pos (by omega), if_pos (by omega), rd_nat l i hil, h1, ih (i + 1) _ _ (by omega) (by omega) (by omega) (by rw [List.length_append, List.length_map]; omega), List.drop_eq_getElem_cons hil, List.flatMap_cons, List.append_assoc]
theorem pairs_is {n : Int} {l : List Int} (hi : isC n l = true) (k : Nat) (hk : 5000 ≤ k) : impl_Complex_pairs.f k n l = some (pairsL l) := by
 have h63 := (isC_faces hi).2.2.2
 unfold impl_Complex_pairs.f pairsL
 have := pairs_l0 hi l.length 0 k [] (by omega) (by omega) (by omega) (by simp)
 rw [show ((0 : Nat) : Int) = 0 from rfl, List.drop_zero, List.nil_append] at this
 exact this

end Go.Proofs.Ytniikppojffiaaa.K
end

section
/- Sets of numbers as maps from numbers to bools that the call makes. -/
namespace Go.Proofs.Ytniikppojffiaaa.K
open Go.RowKit Go.Shelf Go.Proofs.YtniikppojffiaaaW.PrintWords Go.Proofs.YtniikppojffiaaaW.PrintLast Go.Proofs.YtniikppojffiaaaW.PrintMore
open Go.Maps (Keyed IsMap)
set_option linter.unusedVariables false
set_option linter.unusedSimpArgs false

abbrev TMap : TypeId := 76
theorem keyLaw : Keyed Try.prog 2 := Go.Maps.int_keyed Try.underlying2
theorem zeroBool (w : World) : (zeroValue 4).run Try.prog w = .ok (.bool false) w := by kernel_rfl
/-- How the set changes where x is stored. -/
def upd (S : Int → Bool) (x : Int) (v : Bool) : Int → Bool := fun y => if y = x then v else S y

/-- Block b is a map of at most n entries that reads as the set S. -/
def SetM (w : World) (b n : Nat) (S : Int → Bool) : Prop :=
 ∃ D : DataW Unit, w.ownsMap Try.prog 2 (plainElem Try.prog 4) b n D ∧ IsMap D ∧ ∀ x, (Lit.int .i64 x).wf = true → D.atKey (.int .i64 x) (.lit (.bool false)) = .lit (.bool (S x))
theorem SetM_made (w : World) : SetM (w.alloc (.map #[] 0)) w.heap.size 0 (fun _ => false) := ⟨.map [], World.ownsMap_made _ _ _ _, Go.Maps.isMap_empty, fun x _ => rfl⟩
theorem SetM.lt {w : World} {b n : Nat} {S : Int → Bool} (h : SetM w b n S) : b < w.heap.size := by
 obtain ⟨D, ho, _⟩ := h
 exact ho.lt
theorem SetM.same {w w' : World} {b n : Nat} {S : Int → Bool} (h : SetM w b n S) (he : w'.heap[b]? = w.heap[b]?) : SetM w' b n S := by
 obtain ⟨D, ⟨es, clock, hb, F, hs, hD⟩, h2, h3⟩ := h
 exact ⟨D, ⟨es, clock, he.trans hb, F, hs, hD⟩, h2, h3⟩
theorem SetM.kept {w w' : World} {b n : Nat} {S : Int → Bool} {T : Nat → Prop} (h : SetM w b n S) (hk : Kept w w' T) (hb : ¬ T b) : SetM w' b n S := h.same (hk.2 b h.lt hb)
theorem SetM.later {w w' : World} {b n : Nat} {S : Int → Bool} (h : SetM w b n S) (hg : Grew w w') : SetM w' b n S := h.kept (Kept.of_below hg (fun _ => False)) (fun h => h)
theorem SetM.mono {w : World} {b n m : Nat} {S : Int → Bool} (h : SetM w b n S) (hn : n ≤ m) : SetM w b m S := by
 obtain ⟨D, ho, h2⟩ := h
 exact ⟨D, ho.mono hn, h2⟩
theorem SetM.cong {w : World} {b n : Nat} {S S' : Int → Bool} (h : SetM w b n S) (hs : ∀ x, (Lit.int .i64 x).wf = true → S x = S' x) : SetM w b n S' := by
 obtain ⟨D, ho, h2, h3⟩ := h
 exact ⟨D, ho, h2, fun x hx => by rw [h3 x hx, hs x hx]⟩
theorem boolElem_inv {H : Type} {P : Program} {e : TypeId} (he : P.underlying e = some .bool) {v : Value} {b : Bool} {ps : List MemPlace} (h : plainElem (H := H) P e v = some (.lit (.bool b), ps)) : v = .bool b := by
 unfold plainElem at h
 rw [he] at h
 cases v <;> simp at h
 rw [h.1]
theorem SetM.look {w : World} {b n : Nat} {S : Int → Bool} (h : SetM w b n S) (x : Int) (hx : (Lit.int .i64 x).wf = true) :
  (Instr.lookup TMap (.map (some b)) (I x) false).run Try.prog w = .ok (.bool (S x)) w := by
 obtain ⟨D, ho, _, h3⟩ := h
 obtain ⟨v, ps, hrun, hv⟩ := ho.lookup keyLaw Try.underlying76 (zeroBool w) (plainElem_bool Try.underlying4 false) (Go.Maps.keyOf_int_mk Try.underlying2 hx)
 rw [h3 x hx] at hv
 rw [hrun, boolElem_inv Try.underlying4 hv]
theorem SetM.store {w : World} {b n : Nat} {S : Int → Bool} (h : SetM w b n S) (hn : n < 1000000000) (x : Int) (hx : (Lit.int .i64 x).wf = true) (v : Bool) :
  ∃ w', (Instr.mapUpdate TMap (.map (some b)) (I x) (.bool v)).run Try.prog w = .ok () w' ∧ SetM w' b (n + 1) (upd S x v) ∧ w.grownBy w' (some b) := by
 obtain ⟨D, ho, hm, h3⟩ := h
 obtain ⟨w', hrun, ho', hg⟩ := ho.update keyLaw Try.underlying76 (by unfold maxLen; omega) (Go.Maps.keyOf_int_mk Try.underlying2 hx) (plainElem_bool Try.underlying4 v)
 refine ⟨w', hrun, ⟨_, ho', hm.put _ _, fun y hy => ?_⟩, hg⟩
 by_cases e : y = x
 ·subst e
  rw [Go.Maps.atKey_put_same hm (by simp [WideAt.IsKeyLit])]
  simp [upd]
 ·rw [Go.Maps.atKey_put_other (by simpa using e), h3 y hy]
  simp [upd, e]

section
variable {ops : Array Oper} {rest : List Oper} {o : Oper} {a : Act} {Q : Exit → Act → World → Prop}
end

end Go.Proofs.Ytniikppojffiaaa.K
end

section
/- Numbers at numbers as maps that the call makes. -/
namespace Go.Proofs.Ytniikppojffiaaa.K
open Go.RowKit Go.Shelf Go.Proofs.YtniikppojffiaaaW.PrintWords Go.Proofs.YtniikppojffiaaaW.PrintLast Go.Proofs.YtniikppojffiaaaW.PrintMore
open Go.Maps (Keyed IsMap)
set_option linter.unusedVariables false
set_option linter.unusedSimpArgs false

abbrev TMapI : TypeId := 97
theorem zeroInt (w : World) : (zeroValue 2).run Try.prog w = .ok (.int .i64 0) w := by kernel_rfl
/-- How the numbers change where v is stored at x. -/
def updI (S : Int → Int) (x v : Int) : Int → Int := fun y => if y = x then v else S y
/-- Block b is a map of at most n entries that reads as S. -/
def IntM (w : World) (b n : Nat) (S : Int → Int) : Prop :=
 ∃ D : DataW Unit, w.ownsMap Try.prog 2 (plainElem Try.prog 2) b n D ∧ IsMap D ∧ ∀ x, (Lit.int .i64 x).wf = true → D.atKey (.int .i64 x) (.lit (.int .i64 0)) = .lit (.int .i64 (S x))
theorem IntM_made (w : World) : IntM (w.alloc (.map #[] 0)) w.heap.size 0 (fun _ => 0) := ⟨.map [], World.ownsMap_made _ _ _ _, Go.Maps.isMap_empty, fun x _ => rfl⟩
theorem IntM.lt {w : World} {b n : Nat} {S : Int → Int} (h : IntM w b n S) : b < w.heap.size := by
 obtain ⟨D, ho, _⟩ := h
 exact ho.lt
theorem IntM.same {w w' : World} {b n : Nat} {S : Int → Int} (h : IntM w b n S) (he : w'.heap[b]? = w.heap[b]?) : IntM w' b n S := by
 obtain ⟨D, ⟨es, clock, hb, F, hs, hD⟩, h2, h3⟩ := h
 exact ⟨D, ⟨es, clock, he.trans hb, F, hs, hD⟩, h2, h3⟩
theorem IntM.kept {w w' : World} {b n : Nat} {S : Int → Int} {T : Nat → Prop} (h : IntM w b n S) (hk : Kept w w' T) (hb : ¬ T b) : IntM w' b n S := h.same (hk.2 b h.lt hb)
theorem IntM.later {w w' : World} {b n : Nat} {S : Int → Int} (h : IntM w b n S) (hg : Grew w w') : IntM w' b n S := h.kept (Kept.of_below hg (fun _ => False)) (fun h => h)
theorem IntM.cong {w : World} {b n : Nat} {S S' : Int → Int} (h : IntM w b n S) (hs : ∀ x, (Lit.int .i64 x).wf = true → S x = S' x) : IntM w b n S' := by
 obtain ⟨D, ho, h2, h3⟩ := h
 exact ⟨D, ho, h2, fun x hx => by rw [h3 x hx, hs x hx]⟩
theorem intElem_inv {H : Type} {P : Program} {e : TypeId} (he : P.underlying e = some (.int .i64)) {v : Value} {b : Int} {ps : List MemPlace} (h : plainElem (H := H) P e v = some (.lit (.int .i64 b), ps)) : v = .int .i64 b := by
 obtain ⟨c, rfl, hc, _⟩ := plainElem_int_inv he h
 injection hc with h1 h2
 injection h1 with h1
 injection h1 with h1 h3
 rw [h3]
theorem IntM.look {w : World} {b n : Nat} {S : Int → Int} (h : IntM w b n S) (x : Int) (hx : (Lit.int .i64 x).wf = true) :
  (Instr.lookup TMapI (.map (some b)) (I x) false).run Try.prog w = .ok (I (S x)) w := by
 obtain ⟨D, ho, _, h3⟩ := h
 obtain ⟨v, ps, hrun, hv⟩ := ho.lookup keyLaw Try.underlying97 (zeroInt w) (plainElem_int Try.underlying2 (a := 0) (by decide)) (Go.Maps.keyOf_int_mk Try.underlying2 hx)
 rw [h3 x hx] at hv
 rw [hrun, intElem_inv Try.underlying2 hv]
theorem IntM.store {w : World} {b n : Nat} {S : Int → Int} (h : IntM w b n S) (hn : n < 1000000000) (x : Int) (hx : (Lit.int .i64 x).wf = true) (v : Int) (hv : (Lit.int .i64 v).wf = true) :
  ∃ w', (Instr.mapUpdate TMapI (.map (some b)) (I x) (I v)).run Try.prog w = .ok () w' ∧ IntM w' b (n + 1) (updI S x v) ∧ w.grownBy w' (some b) := by
 obtain ⟨D, ho, hm, h3⟩ := h
 obtain ⟨w', hrun, ho', hg⟩ := ho.update keyLaw Try.underlying97 (by unfold maxLen; omega) (Go.Maps.keyOf_int_mk Try.underlying2 hx) (plainElem_int Try.underlying2 hv)
 refine ⟨w', hrun, ⟨_, ho', hm.put _ _, fun y hy => ?_⟩, hg⟩
 by_cases e : y = x
 ·subst e
  rw [Go.Maps.atKey_put_same hm (by simp [WideAt.IsKeyLit])]
  simp [updI]
 ·rw [Go.Maps.atKey_put_other (by simpa using e), h3 y hy]
  simp [updI, e]

section
variable {ops : Array Oper} {rest : List Oper} {o : Oper} {a : Act} {Q : Exit → Act → World → Prop}
end

end Go.Proofs.Ytniikppojffiaaa.K
end

section
/- slices.DeleteFunc over rows of pairs of the call's own. -/
namespace Go.Proofs.Ytniikppojffiaaa.K
open Go.RowKit Go.Shelf Go.Proofs.Ytniikppojffiaaa.Q Go.Proofs.YtniikppojffiaaaW.PrintWords Go.Proofs.YtniikppojffiaaaW.PrintLast Go.Proofs.YtniikppojffiaaaW.PrintMore
set_option linter.unusedVariables false
set_option linter.unusedSimpArgs false

theorem zeroCells_two (n : Nat) : (Builtin.zeroCells #[I 0, I 0] n).toList = List.replicate (2 * n) (I 0) := by
 unfold Builtin.zeroCells
 apply List.ext_getElem
 ·simp; omega
 ·intro i h1 h2
  simp only [Array.getElem_toList, Array.getElem_ofFn, List.getElem_replicate]
  have : i % 2 = 0 ∨ i % 2 = 1 := by omega
  rcases this with h | h <;> simp [h]
theorem run_clear_pairs (w : World) (ty : TypeId) (b o n c : Nat) (hn : 0 < n)
  (hc : ∀ j, j < 2 * n → (w.cell? ⟨b, o + j, none⟩).isSome = true) (hf : ∀ j, j < 2 * n → w.frozen? ⟨b, o + j, none⟩ = false) :
  (Builtin.clear_ #[32] ty #[.slice (some ⟨b, o, none⟩) n c]).run Try.prog w = .ok (.tuple #[]) (w.setCells b o (List.replicate (2 * n) (I 0))) := by
 have hv : ∀ w, (zeroValue 53).run Try.prog w = .ok (.agg #[I 0, I 0]) w := fun w => by kernel_rfl
 have hz : (Value.agg #[I 0, I 0]).cells = #[I 0, I 0] := by simp [Value.cells]
 have hst := run_storeCells_cells (P := Try.prog) b o (List.replicate (2 * n) (I 0)) 0 w (by simpa using hc) (by simpa using hf) (by intro v hv'; rw [List.eq_of_mem_replicate hv']; rfl)
 simp only [Nat.add_zero] at hst
 have hzc := zeroCells_two n
 obtain ⟨m, rfl⟩ : ∃ m, n = m + 1 := ⟨n - 1, by omega⟩
 simp [Builtin.clear_, run_underlying Try.underlying32, hv, hz, hzc, hst]
theorem Rq.clear {base : Nat} {ok : Nat → Prop} {G n c : Nat} : ∀ (m i : Nat) (W : World) (xs : List PairT), i + m ≤ xs.length → Kq.R 53 W base ok (.slice (some ⟨G, 0, none⟩) n c) xs →
  ∃ ys : List PairT, ys.take i = xs.take i ∧ ys.length = xs.length ∧ Kq.R 53 (W.setCells G (i * 2) (List.replicate (2 * m) (I 0))) base ok (.slice (some ⟨G, 0, none⟩) n c) ys
 | 0, i, W, xs, hl, h => ⟨xs, rfl, rfl, h⟩
 | m + 1, i, W, xs, hl, h => by
  have h1 := Kq_put0 h i (by omega) 0
  have h2 := Kq_put1 h1 i (by rw [List.length_set]; omega) 0
  rw [List.set_set] at h2
  obtain ⟨ys, e1, e2, e3⟩ := Rq.clear m (i + 1) _ _ (by rw [List.length_set]; omega) h2
  refine ⟨ys, ?_, by rw [e2, List.length_set], ?_⟩
  ·have := congrArg (List.take i) e1
   rw [List.take_take, List.take_take, List.take_set, List.set_eq_of_length_le (by simp; omega)] at this
   simpa [Nat.min_eq_left (Nat.le_succ i)] using this
  ·rw [Nat.succ_mul] at e3
   exact e3
theorem del_keepP (q : PairT → Bool) (l xs : List PairT) (i j : Nat) (hij : i < j) (hj : j < l.length) (hx : xs.length = l.length) (h1 : xs.take i = (l.take j).filter q) (h2 : xs.drop j = l.drop j) (hp : q l[j] = true) :
  (xs.set i l[j]).take (i + 1) = (l.take (j + 1)).filter q ∧ (xs.set i l[j]).drop (j + 1) = l.drop (j + 1) := by
 constructor
 ·rw [List.take_succ_eq_append_getElem hj, List.filter_append, ← h1, List.take_set, List.take_succ_eq_append_getElem (show i < xs.length by omega), List.set_append_right _ _ (by simp; omega)]
  simp [hp]
  have : i - min i xs.length = 0 := by omega
  rw [this]
  rfl
 ·rw [List.drop_set_of_lt (by omega)]
  have := congrArg (List.drop 1) h2
  simpa using this
theorem del_skipP (q : PairT → Bool) (l xs : List PairT) (i j : Nat) (hj : j < l.length) (h1 : xs.take i = (l.take j).filter q) (h2 : xs.drop j = l.drop j) (hp : q l[j] = false) :
  xs.take i = (l.take (j + 1)).filter q ∧ xs.drop (j + 1) = l.drop (j + 1) := by
 constructor
 ·rw [List.take_succ_eq_append_getElem hj, List.filter_append, ← h1]
  simp [hp]
 ·have := congrArg (List.drop 1) h2
  simpa using this
theorem del_getP (l xs : List PairT) (j : Nat) (hj : j < l.length) (hx : xs.length = l.length) (h2 : xs.drop j = l.drop j) : xs[j]'(by omega) = l[j] := by
 rw [List.drop_eq_getElem_cons hj, List.drop_eq_getElem_cons (show j < xs.length by omega)] at h2
 injection h2
theorem idx_someP {p : PairT → Bool} {l : List PairT} (h : idx p l ≠ -1) : ∃ i : Nat, idx p l = i ∧ ∃ hi : i < l.length, p l[i] = true ∧ ∀ j (hj : j < i), p (l[j]'(by omega)) = false := by
 unfold idx at h ⊢
 cases hf : l.findIdx? p with
 | none => rw [hf] at h; exact absurd rfl h
 | some i =>
  rw [List.findIdx?_eq_some_iff_getElem] at hf
  obtain ⟨hi, hp, hn⟩ := hf
  exact ⟨i, rfl, hi, hp, fun j hj => by have := hn j hj; simpa using this⟩
theorem idx_noneP {p : PairT → Bool} {l : List PairT} (h : idx p l = -1) : l.filter (fun x => !p x) = l := by
 unfold idx at h
 cases hf : l.findIdx? p with
 | some i => rw [hf] at h; have : ((i : Int)) = -1 := h; omega
 | none =>
  rw [List.findIdx?_eq_none_iff] at hf
  rw [List.filter_eq_self]
  intro x hx
  simp [hf x hx]
theorem del_startP {p : PairT → Bool} {l : List PairT} {i : Nat} (hi : i < l.length) (hp : p l[i] = true) (hn : ∀ j (hj : j < i), p (l[j]'(by omega)) = false) : l.take i = (l.take (i + 1)).filter (fun x => !p x) := by
 rw [List.take_succ_eq_append_getElem hi, List.filter_append]
 have : (l.take i).filter (fun x => !p x) = l.take i := by
  rw [List.filter_eq_self]
  intro x hx
  obtain ⟨j, hj, rfl⟩ := List.mem_iff_getElem.1 hx
  rw [List.length_take] at hj
  rw [List.getElem_take, hn j (by omega)]
  rfl
 rw [this]
 simp [hp]

set_option maxRecDepth 100000 in
set_option maxHeartbeats 4000000 in
theorem DeleteFunc_pair (p : PairT → Bool) (base : Nat) (v : Value) (l : List PairT) (g : Nat) (first caps : Array Value) (w : World) (hbase : base ≤ w.heap.size) (hR : Kq.R 53 w base (fun _ => True) v l) (hbig : l.length ≤ 1000000000) (eg : EntersG g)
  (hp : ∀ x, x ∈ l → ∀ W, Below base w W → Calls Try.prog g (first.push (.agg #[I x.f0, I x.f1]) ++ caps) W fun e w' => e = .returned (.bool (p x)) ∧ Grew W w') :
  Calls Try.prog 138 #[v, .func (.func g) first caps] w fun e w' => ∃ v', e = .returned v' ∧ Kq.R 53 w' base (fun _ => True) v' (l.filter fun x => !p x) ∧ Below base w w' := by
 obtain ⟨A, c, hv, hc, hC⟩ := Kd.R_reads hR
 subst hv
 have H := Aside0.mk (IndexFunc_pair p A c l g first caps w hC hc (by omega) eg (fun x hx W hW => hp x hx W (hW.mono hbase)))
 have HR := Aside0.mk hR
 have HP := Aside0.mk hp
 have HC := Aside0.mk hc
 clear hR hp hC hc
 by_cases hi : idx p l = -1
 ·have HV := Aside0.mk (idx_noneP hi)
  rw [hi] at H
  rw [HV.out]
  go_enter Try.func138, Try.ntmps138
  go_wp2_with fail
  refine H.out.mono ?_
  rintro e w1 ⟨rfl, hG1⟩
  go_wp2_with fail
  go_ret
  exact ⟨_, rfl, Kd.R_below HR.out hG1, hG1.mono hbase⟩
 ·obtain ⟨i0, he, hi0, hp0, hn0⟩ := idx_someP hi
  rw [he] at H hi
  have HS := Aside0.mk (del_startP hi0 hp0 hn0)
  clear hn0 hp0 he
  go_enter Try.func138, Try.ntmps138
  go_wp2_with fail
  refine H.out.mono ?_
  rintro e w1 ⟨rfl, hG1⟩
  have HR1 := Aside0.mk (Kd.R_below HR.out hG1)
  have HG1 : Aside0 (Below base w w1) := ⟨hG1.mono hbase⟩
  clear hG1 H HR
  obtain ⟨G, cc, eo, gb, gl, _⟩ := Kd.R_form HR1.out (by omega)
  injection eo with ea en ec
  subst ea ec
  clear en
  go_wp2_with fail
  go_loopg [5, 6] l.length (fun gg s5 s6 wr => ∃ (i j : Nat) (xs : List PairT), s5 = .int .i64 i ∧ s6 = .int .i64 j ∧ i < j ∧ j ≤ l.length ∧ l.length - j ≤ gg ∧ xs.length = l.length ∧
   Aside0 (xs.take i = (l.take j).filter (fun x => !p x)) ∧ Aside0 (xs.drop j = l.drop j) ∧ Aside0 (Kq.R 53 wr base (fun _ => True) (.slice (some ⟨G, 0, none⟩) l.length c) xs) ∧ Aside0 (Below base w wr))
  case atStart => exact ⟨i0, i0 + 1, l, rfl, by go_num, by omega, by omega, by omega, rfl, HS, ⟨rfl⟩, HR1, HG1⟩
  case round =>
   obtain ⟨i, j, xs, rfl, rfl, hij, hj, hg, hxl, HT, HD, HRr, HGr⟩ := hrel
   by_cases hlt : j < l.length
   ·have hltz : (j : Int) < (l.length : Int) := by omega
    obtain ⟨hx, hx1, _, _⟩ := Kq_cells HRr.out j (by omega)
    have hrd : xs[j]'(by omega) = l[j] := del_getP l xs j hlt hxl HD.out
    rw [hrd] at hx hx1
    have hcall := HP.out l[j] (List.getElem_mem hlt)
    have HK := Aside0.mk (fun h => del_keepP (fun x => !p x) l xs i j hij hlt hxl HT.out HD.out h)
    have HS2 := Aside0.mk (fun h => del_skipP (fun x => !p x) l xs i j hlt HT.out HD.out h)
    clear hrd
    generalize l[j] = y at hx hx1 hcall HK HS2
    have HCL := Aside0.mk (fun W (h : Grew wr W) => hcall W (Below.trans HGr.out (h.mono (Nat.le_trans hbase HGr.out.size))))
    clear hcall
    cases hq : p y with
    | false =>
     rw [hq] at HCL
     have HK2 := Aside0.mk (HK.out (by simp [hq]))
     clear HK HS2
     go_wp2_with fail
     refine (HCL.out _ (below_alloc (Grew.refl wr) _)).mono ?_
     rintro e w2 ⟨rfl, hG2⟩
     have HP2 := Aside0.mk (blk_below (blk_new wr (.cells #[I y.f0, I y.f1] 53)) hG2)
     have b0 := blk_cell HP2.out 0
     have b1 := blk_cell HP2.out 1
     replace hG2 := Grew.trans (below_alloc (Grew.refl wr) (.cells #[I y.f0, I y.f1] 53)) hG2
     have HR2 := Aside0.mk (Kd.R_below HRr.out hG2)
     have HG2 := Aside0.mk (Below.trans HGr.out (hG2.mono (Nat.le_trans hbase HGr.out.size)))
     obtain ⟨hy, hy1, hf, hf1⟩ := Kq_cells HR2.out i (by omega)
     have HW := Aside0.mk (Kq_put1 (Kq_put0 HR2.out i (by omega) y.f0) i (by rw [List.length_set]; omega) y.f1)
     rw [List.set_set] at HW
     clear HCL hx hx1 hG2
     go_wp2_with fail
     go_roundg (l.length - (j + 1))
     case measure => omega
     case rel => exact ⟨i + 1, j + 1, xs.set i y, by go_num, by go_num, by omega, by omega, by omega, by rw [List.length_set]; exact hxl, ⟨HK2.out.1⟩, ⟨HK2.out.2⟩, ⟨by have := HW.out; simpa using this⟩, ⟨Below.setCell (Below.setCell HG2.out gb _) gb _⟩⟩
    | true =>
     rw [hq] at HCL
     have HK2 := Aside0.mk (HS2.out (by simp [hq]))
     clear HK HS2
     go_wp2_with fail
     refine (HCL.out _ (below_alloc (Grew.refl wr) _)).mono ?_
     rintro e w2 ⟨rfl, hG2⟩
     have HP2 := Aside0.mk (blk_below (blk_new wr (.cells #[I y.f0, I y.f1] 53)) hG2)
     have b0 := blk_cell HP2.out 0
     have b1 := blk_cell HP2.out 1
     replace hG2 := Grew.trans (below_alloc (Grew.refl wr) (.cells #[I y.f0, I y.f1] 53)) hG2
     have HR2 := Aside0.mk (Kd.R_below HRr.out hG2)
     have HG2 := Aside0.mk (Below.trans HGr.out (hG2.mono (Nat.le_trans hbase HGr.out.size)))
     clear HCL hx hx1 hG2
     go_wp2_with fail
     go_roundg (l.length - (j + 1))
     case measure => omega
     case rel => exact ⟨i, j + 1, xs, rfl, by go_num, by omega, by omega, by omega, hxl, ⟨HK2.out.1⟩, ⟨HK2.out.2⟩, HR2, HG2⟩
   ·obtain rfl : j = l.length := by omega
    have hltz : ¬ (l.length : Int) < (l.length : Int) := by omega
    have HT2 : Aside0 (xs.take i = l.filter (fun x => !p x)) := ⟨by have := HT.out; rwa [List.take_length] at this⟩
    clear HT HD
    have hcl : ∀ ty, (Builtin.clear_ #[32] ty #[.slice (some ⟨G, i * 2, none⟩) (l.length - i) (c - i)]).run Try.prog wr = .ok (.tuple #[]) (wr.setCells G (i * 2) (List.replicate (2 * (l.length - i)) (I 0))) :=
     fun ty => run_clear_pairs wr ty G (i * 2) _ _ (by omega) (fun t ht => by
      obtain ⟨h1, h2, _, _⟩ := Kq_cells HRr.out (i + t / 2) (by omega)
      rcases Nat.mod_two_eq_zero_or_one t with h | h
      ·rw [show i * 2 + t = (i + t / 2) * 2 by omega, h1]; rfl
      ·rw [show i * 2 + t = (i + t / 2) * 2 + 1 by omega, h2]; rfl) (fun t ht => by
      obtain ⟨_, _, h1, h2⟩ := Kq_cells HRr.out (i + t / 2) (by omega)
      rcases Nat.mod_two_eq_zero_or_one t with h | h
      ·rw [show i * 2 + t = (i + t / 2) * 2 by omega, h1]
      ·rw [show i * 2 + t = (i + t / 2) * 2 + 1 by omega, h2])
    have hic : i < c := by have := HC.out; omega
    go_wp2_with fail
    go_ret
    obtain ⟨ys, h1, h2, h3⟩ := Rq.clear (l.length - i) i wr xs (by omega) HRr.out
    refine ⟨_, rfl, ?_, below_setCells gb _ _ _ HGr.out⟩
    have h4 := Kd.R_take h3 (m := i) (by omega)
    rw [h1, HT2.out] at h4
    exact h4


end Go.Proofs.Ytniikppojffiaaa.K
end

section
/- The values of a function by faces; the falling pairs. -/
namespace Go.Proofs.Ytniikppojffiaaa.K
open Go.RowKit Go.Shelf Go.Proofs.Ytniikppojffiaaa.Q Go.Proofs.YtniikppojffiaaaW.PrintWords Go.Proofs.YtniikppojffiaaaW.PrintLast Go.Proofs.YtniikppojffiaaaW.PrintMore
set_option linter.unusedVariables false
set_option linter.unusedSimpArgs false

/-- What the map holds behind i rounds. -/
def valI (l f : List Int) : Nat → Int → Int
 | 0 => fun _ => 0
 | i + 1 => updI (valI l f i) (l.getD i 0) (f.getD i 0)
theorem atV_app : ∀ (a b : List Int) (x0 y0 x : Int), b.length = a.length → x0 ∉ a → atV (a ++ [x0]) (b ++ [y0]) x = if x = x0 then y0 else atV a b x
 | [], [], x0, y0, x, _, _ => by
  simp only [List.nil_append, atV]
  by_cases h : x0 = x
  ·rw [if_pos h, if_pos h.symm]
  ·rw [if_neg h, if_neg (fun e => h e.symm)]
 | [], _ :: _, _, _, _, h, _ => by simp at h
 | _ :: _, [], _, _, _, h, _ => by simp at h
 | a :: xs, b :: ys, x0, y0, x, h, hn => by
  have hl : ys.length = xs.length := by simpa using h
  have hne : x0 ≠ a := fun e => hn (by rw [e]; exact List.mem_cons_self)
  have hn2 : x0 ∉ xs := fun e => hn (List.mem_cons_of_mem _ e)
  simp only [List.cons_append, atV]
  rw [atV_app xs ys x0 y0 x hl hn2]
  by_cases h1 : a = x
  ·rw [if_pos h1, if_pos h1, if_neg (fun e => hne (by rw [h1, ← e]))]
  ·rw [if_neg h1, if_neg h1]
theorem val_take (l f : List Int) (hs : l.Pairwise (· < ·)) (hl : f.length = l.length) : ∀ i, i ≤ l.length → ∀ x, valI l f i x = atV (l.take i) (f.take i) x
 | 0, _, x => by simp [valI, atV]
 | i + 1, h, x => by
  have hif : i < f.length := by omega
  rw [List.take_succ_eq_append_getElem (show i < l.length by omega), List.take_succ_eq_append_getElem hif, atV_app _ _ _ _ _ (by simp [hl]) (fun hm => by
   obtain ⟨j, hj, e⟩ := List.mem_iff_getElem.1 hm
   rw [List.length_take] at hj
   rw [List.getElem_take] at e
   have := List.pairwise_iff_getElem.1 hs j i (by omega) (by omega) (by omega)
   omega), ← val_take l f hs hl i (by omega) x]
  show (if x = l.getD i 0 then f.getD i 0 else valI l f i x) = _
  have e1 : l.getD i 0 = l[i] := by simp [show i < l.length by omega]
  have e2 : f.getD i 0 = f[i] := by simp [hif]
  rw [e1, e2]
theorem val_all (l f : List Int) (hs : l.Pairwise (· < ·)) (hl : f.length = l.length) (x : Int) : valI l f l.length x = atV l f x := by
 rw [val_take l f hs hl _ (Nat.le_refl _) x, List.take_length, ← hl, List.take_length]
set_option maxRecDepth 100000 in
set_option maxHeartbeats 4000000 in
theorem values_calls {n : Int} (A : Option Addr) (c : Nat) {l : List Int} (hi : isC n l = true) (A2 : Option Addr) (c2 : Nat) {f : List Int} (hf : funB l f = true) (w : World) (hk : Kx w A c l) (hr : Ki.C w A2 f.length f) (hc2 : f.length ≤ c2) :
  Calls Try.prog 98 #[.agg #[I n, .slice A l.length c], .slice A2 f.length c2] w fun e w' => ∃ b, e = .returned (.map (some b)) ∧ w.heap.size ≤ b ∧ (∃ m, IntM w' b m (atV l f)) ∧ Grew w w' := by
 obtain ⟨hn, hs, hrg, h63⟩ := isC_faces hi
 have hl := funB_len hf
 have hv := funB_val hf
 obtain ⟨W0, hW0⟩ : ∃ W0, W0 = (w.alloc (.cells #[I n, .slice A l.length c] 30)).alloc (.map #[] 0) := ⟨_, rfl⟩
 have hB : CB W0 w.heap.size n (.slice A l.length c) := by rw [hW0]; exact blk_alloc (blk_new w _) _
 have hS : IntM W0 (w.heap.size + 1) 0 (fun _ => 0) := by
  rw [hW0]
  have := IntM_made (w.alloc (.cells #[I n, .slice A l.length c] 30))
  rwa [World.size_alloc] at this
 have hg : Grew w W0 := by rw [hW0]; exact below_alloc (below_alloc (Grew.refl w) _) _
 have HK := Aside0.mk hk
 have HQ := Aside0.mk hr
 have HC2 := Aside0.mk hc2
 have HB := Aside0.mk hB
 have HS := Aside0.mk hS
 have HG := Aside0.mk hg
 have HL := Aside0.mk hl
 have HV := Aside0.mk hv
 have HAV := Aside0.mk (fun x => val_all l f hs hl x)
 have HRG := Aside0.mk hrg
 have hc := hk.c
 have k1 := hB.c1
 have hmm := @run_makeMap Try.prog
 have hlc : l.length ≤ 63 := h63
 clear hk hr hc2 hi hB hS hg hv hrg hs hf hl
 subst hW0
 go_enter Try.func98, Try.ntmps98
 go_wp2_with fail
 go_loopg [6, 7, 12] l.length (fun gg _ _ s12 wr => ∃ i : Nat, i ≤ l.length ∧ l.length - i ≤ gg ∧ s12 = .int .i64 i ∧ Aside0 (IntM wr (w.heap.size + 1) i (valI l f i)) ∧ Aside0 (Grew w wr))
 case atStart => exact ⟨0, Nat.zero_le _, by omega, rfl, HS, HG⟩
 case round =>
  obtain ⟨i, hi1, hgg, rfl, HSr, HGr⟩ := hrel
  by_cases hlt : i < l.length
  ·have hltz : (i : Int) < (l.length : Int) := by omega
   have hif : i < f.length := by have := HL.out; omega
   have hifz : (i : Int) < (f.length : Int) := by omega
   obtain ⟨ad, e0, hx⟩ := Kd.at_int (Kd.C_below HK.out.r HGr.out) (i : Int) (by omega) (by omega)
   obtain ⟨ad2, e2, hy⟩ := Kd.at_int (Kd.C_below HQ.out HGr.out) (i : Int) (by omega) (by omega)
   cases e0
   cases e2
   have hrd : rd l (i : Int) = l[i] := by simp [rd, hlt]
   have hrd2 : rd f (i : Int) = f[i] := by simp [rd, hif]
   rw [hrd, Int.toNat_natCast] at hx
   rw [hrd2, Int.toNat_natCast] at hy
   have HVS : Aside0 (valI l f (i + 1) = updI (valI l f i) l[i] f[i]) := ⟨by
    show updI (valI l f i) (l.getD i 0) (f.getD i 0) = _
    simp [hlt, hif]⟩
   have HR1 := HRG.out _ (List.getElem_mem hlt)
   have HR2 := HV.out _ (List.getElem_mem hif)
   have HW1 := Aside0.mk (wf_face HR1.1 HR1.2.2)
   have HW2 : Aside0 ((Lit.int .i64 f[i]).wf = true) := ⟨WalkArith.wf_i64 (by omega)⟩
   clear hrd hrd2 HR1 HR2
   generalize l[i] = x at hx HVS HW1
   generalize f[i] = y at hy HVS HW2
   generalize valI l f i = S at HSr HVS
   obtain ⟨w5, hr5, hS5, hg5⟩ := HSr.out.store (by omega) x HW1.out y HW2.out
   have HS5 := Aside0.mk hS5
   have hbs := HSr.out.lt
   have HG5 := Aside0.mk (pw_below_grown HGr.out _ (HGr.out.size) hg5 (fun k hk => by cases hk; omega))
   clear hS5 hg5 hbs
   go_wp2_with fail
   go_roundg (l.length - (i + 1))
   case measure => omega
   case rel => exact ⟨i + 1, by omega, by omega, by go_num, ⟨by rw [HVS.out]; exact HS5.out⟩, HG5⟩
  ·have hltz : ¬ (i : Int) < (l.length : Int) := by omega
   obtain rfl : i = l.length := by omega
   go_wp2_with fail
   go_ret
   exact ⟨_, rfl, by omega, ⟨_, HSr.out.cong (fun x _ => HAV.out x)⟩, HGr.out⟩

set_option maxHeartbeats 2000000 in
theorem falling1_calls (p : PairT) {Bm b m : Nat} {S : Int → Int} (w : World) (hb : w.cell? ⟨Bm, 0, none⟩ = some (.map (some b))) (hS : IntM w b m S) (h0 : 1 ≤ p.f0 ∧ p.f0 ≤ 63) (h1 : 1 ≤ p.f1 ∧ p.f1 ≤ 63) :
  Calls Try.prog 139 #[.agg #[I p.f0, I p.f1], .pointer (some ⟨Bm, 0, none⟩)] w fun e w' => e = .returned (.bool (decide (S p.f0 < S p.f1))) ∧ Grew w w' := by
 have hg : Grew w (w.alloc (.cells #[I p.f0, I p.f1] 53)) := below_alloc (Grew.refl w) _
 have HG := Aside0.mk hg
 have hS1 := hS.later hg
 have hl0 := hS1.look p.f0 (wf_face h0.1 h0.2)
 have hl1 := hS1.look p.f1 (wf_face h1.1 h1.2)
 have hlt := World.block_lt_of_cell? w _ hb
 have hb1 : (w.alloc (.cells #[I p.f0, I p.f1] 53)).cell? ⟨Bm, 0, none⟩ = some (.map (some b)) := (Below.cell hg (p := ⟨Bm, 0, none⟩) hlt).trans hb
 clear hS hS1 h0 h1 hg hb
 generalize S p.f0 = x at hl0 ⊢
 generalize S p.f1 = y at hl1 ⊢
 go_enter Try.func139, Try.ntmps139
 go_wp2_with fail
 go_ret
 exact ⟨rfl, HG.out⟩
set_option maxHeartbeats 2000000 in
theorem pairs_calls {n : Int} (A : Option Addr) (c : Nat) {l : List Int} (hi : isC n l = true) (w : World) (hk : Kx w A c l) :
  Calls Try.prog 84 #[.agg #[I n, .slice A l.length c]] w fun e w' => ∃ v, e = .returned v ∧ Kq.R 53 w' w.heap.size (fun _ => True) v (pairsL l) ∧ Grew w w' :=
 impl_Complex_pairs.calls 5000 n A c l (pairsL l) w hk.r hk.c (pairs_is hi 5000 (Nat.le_refl _))
theorem pairs_len {n : Int} {l : List Int} (hi : isC n l = true) : (pairsL l).length ≤ 3969 := by
 have h63 := (isC_faces hi).2.2.2
 have : ∀ L : List Int, (L.flatMap fun a => (l.filter fun b => pairK l ⟨a, b⟩).map fun b => (⟨a, b⟩ : PairT)).length ≤ L.length * 63 := by
  intro L
  induction L with
  | nil => simp
  | cons a L ih =>
   have h1 : (l.filter fun b => pairK l ⟨a, b⟩).length ≤ l.length := List.length_filter_le _ _
   rw [List.flatMap_cons, List.length_append, List.length_map, List.length_cons]
   omega
 have := this l
 unfold pairsL
 omega
set_option maxHeartbeats 2000000 in
theorem falling_calls {n : Int} (A : Option Addr) (c : Nat) {l : List Int} (hi : isC n l = true) (A2 : Option Addr) (c2 : Nat) {f : List Int} (hf : funB l f = true) (w : World) (hk : Kx w A c l) (hr : Ki.C w A2 f.length f) (hc2 : f.length ≤ c2) :
  Calls Try.prog 94 #[.agg #[I n, .slice A l.length c], .slice A2 f.length c2] w fun e w' => ∃ v, e = .returned v ∧ Kq.R 53 w' w.heap.size (fun _ => True) v (fallL l f) ∧ Grew w w' := by
 have hB : CB (w.alloc (.cells #[I n, .slice A l.length c] 30)) w.heap.size n (.slice A l.length c) := blk_new w _
 have hg : Grew w (w.alloc (.cells #[I n, .slice A l.length c] 30)) := below_alloc (Grew.refl w) _
 have k0 := hB.c0
 have k1 := hB.c1
 have HV := Aside0.mk (values_calls A c hi A2 c2 hf _ (hk.later hg) (Kd.C_below hr hg) hc2)
 have HK := Aside0.mk hk
 have HB := Aside0.mk hB
 have HG := Aside0.mk hg
 have HI := Aside0.mk hi
 clear hk hr hc2 hB hg hi
 go_enter Try.func94, Try.ntmps94
 go_wp2_with fail
 refine HV.out.mono ?_
 rintro e w1 ⟨b, rfl, hb0, ⟨m, hS⟩, hG1⟩
 have hb1 : b < w1.heap.size := hS.lt
 have hX := blk_new w1 (.cells #[.map (some b)] 97)
 have hgx : Grew w1 (w1.alloc (.cells #[.map (some b)] 97)) := below_alloc (Grew.refl w1) _
 have HX := Aside0.mk hX
 have hB2 : CB (w1.alloc (.cells #[.map (some b)] 97)) w.heap.size n (.slice A l.length c) := blk_below (blk_below HB.out hG1) hgx
 have HG2 := Aside0.mk (Grew.trans (Grew.trans HG.out hG1) hgx)
 have HS2 := Aside0.mk (hS.later hgx)
 have HP := Aside0.mk (pairs_calls A c HI.out _ (HK.out.later HG2.out))
 have hsz : (w1.alloc (.cells #[.map (some b)] 97)).heap.size = w1.heap.size + 1 := World.size_alloc _ _
 have HZ := Aside0.mk hsz
 have HB1 := Aside0.mk hb1
 clear k0 k1 hS hX hgx hG1 hb0 hb1 hsz
 have k0 := hB2.c0
 have k1 := hB2.c1
 go_wp2_with fail
 refine HP.out.mono ?_
 rintro e w3 ⟨v, rfl, hR, hG3⟩
 have hs3 := hG3.size
 have H := Aside0.mk (DeleteFunc_pair (fun p => decide (atV l f p.f0 < atV l f p.f1)) _ v (pairsL l) 139 #[] #[.pointer (some ⟨w1.heap.size, 0, none⟩)] w3 hs3 hR (Nat.le_trans (pairs_len HI.out) (by decide)) (enters_of Try.func139 (by kernel_rfl) rfl)
  (fun x hx W hW => by
   have hW2 := Grew.trans (hG3.mono (Nat.le_refl _)) (Grew.refl w3)
   have hk2 := Below.trans hG3 hW
   have hb := hk2.block w1.heap.size (by rw [HZ.out]; omega)
   have hbm := hk2.block b (by rw [HZ.out]; have := HB1.out; omega)
   have hm := mem_pairs.1 hx
   have hr0 := range63 HI.out _ hm.1
   have hr1 := range63 HI.out _ hm.2.1
   exact falling1_calls x W (blk_cell (hb.trans HX.out) 0) (HS2.out.same hbm) hr0 hr1))
 clear hR hs3
 have HG3 := Aside0.mk (Grew.trans HG2.out hG3)
 have HG3b := Aside0.mk hG3
 clear hG3 k0 k1
 go_wp2_with fail
 refine H.out.mono ?_
 rintro e w4 ⟨v4, rfl, hR4, hG4⟩
 go_wp2_with fail
 go_ret
 exact ⟨_, rfl, Kd.R_lower hR4 (by rw [HZ.out]; have := HG2.out.size; rw [HZ.out] at this; omega), Below.trans HG3.out (hG4.mono HG2.out.size)⟩

end Go.Proofs.Ytniikppojffiaaa.K
end

section
/- isMorse. -/
namespace Go.Proofs.Ytniikppojffiaaa.K
open Go.RowKit Go.Shelf Go.Proofs.Ytniikppojffiaaa.Q Go.Proofs.YtniikppojffiaaaW.PrintWords Go.Proofs.YtniikppojffiaaaW.PrintLast Go.Proofs.YtniikppojffiaaaW.PrintMore
set_option linter.unusedVariables false
set_option linter.unusedSimpArgs false

def lowS (q : List PairT) (i : Nat) (x : Int) : Bool := (q.take i).any fun r => r.f0 == x
def highS (q : List PairT) (i : Nat) (x : Int) : Bool := (q.take i).any fun r => r.f1 == x
theorem lowS_succ (q : List PairT) (i : Nat) (hi : i < q.length) (x : Int) : upd (lowS q i) q[i].f0 true x = lowS q (i + 1) x := by
 unfold lowS upd
 rw [List.take_succ_eq_append_getElem hi, List.any_append]
 by_cases h : x = q[i].f0
 ·simp [h]
 ·have : (q[i].f0 == x) = false := by simpa using fun e => h e.symm
  simp [h, this]
theorem highS_succ (q : List PairT) (i : Nat) (hi : i < q.length) (x : Int) : upd (highS q i) q[i].f1 true x = highS q (i + 1) x := by
 unfold highS upd
 rw [List.take_succ_eq_append_getElem hi, List.any_append]
 by_cases h : x = q[i].f1
 ·simp [h]
 ·have : (q[i].f1 == x) = false := by simpa using fun e => h e.symm
  simp [h, this]
theorem okM_eq (q : List PairT) (i : Nat) (p : PairT) : okM q i p = (!lowS q i p.f0 && !highS q i p.f1) := rfl
theorem morseQ_false {q : List PairT} {i : Nat} (hi : i < q.length) (h : okM q i q[i] = false) : morseQ q = false := by
 unfold morseQ
 rw [List.all_eq_false]
 refine ⟨i, List.mem_range.2 hi, ?_⟩
 have : q.getD i z53 = q[i] := by simp [hi]
 rw [this]
 simp [h]
theorem morseQ_true {q : List PairT} (h : ∀ i (hi : i < q.length), okM q i q[i] = true) : morseQ q = true := by
 unfold morseQ
 rw [List.all_eq_true]
 intro i hi
 have hi := List.mem_range.1 hi
 have : q.getD i z53 = q[i] := by simp [hi]
 rw [this]
 exact h i hi
set_option maxRecDepth 100000 in
set_option maxHeartbeats 8000000 in
theorem isMorse_calls {n : Int} (A : Option Addr) (c : Nat) {l : List Int} (hi : isC n l = true) (A2 : Option Addr) (c2 : Nat) {f : List Int} (hf : funB l f = true) (w : World) (hk : Kx w A c l) (hr : Ki.C w A2 f.length f) (hc2 : f.length ≤ c2) :
  Calls Try.prog 92 #[.agg #[I n, .slice A l.length c], .slice A2 f.length c2] w fun e w' => e = .returned (.bool (morseB l f)) ∧ Grew w w' := by
 obtain ⟨W0, hW0⟩ : ∃ W0, W0 = ((w.alloc (.cells #[I n, .slice A l.length c] 30)).alloc (.map #[] 0)).alloc (.map #[] 0) := ⟨_, rfl⟩
 have hB : CB W0 w.heap.size n (.slice A l.length c) := by rw [hW0]; exact blk_alloc (blk_alloc (blk_new w _) _) _
 have hSL : SetM W0 (w.heap.size + 1) 0 (fun _ => false) := by
  rw [hW0]
  have := (SetM_made (w.alloc (.cells #[I n, .slice A l.length c] 30))).later (below_alloc (Grew.refl _) (.map #[] 0))
  rwa [World.size_alloc] at this
 have hSH : SetM W0 (w.heap.size + 2) 0 (fun _ => false) := by
  rw [hW0]
  have := SetM_made ((w.alloc (.cells #[I n, .slice A l.length c] 30)).alloc (.map #[] 0))
  rwa [World.size_alloc, World.size_alloc] at this
 have hg : Grew w W0 := by rw [hW0]; exact below_alloc (below_alloc (below_alloc (Grew.refl w) _) _) _
 have hz : W0.heap.size = w.heap.size + 3 := by rw [hW0]; simp
 have HF := Aside0.mk (falling_calls A c hi A2 c2 hf W0 (hk.later hg) (Kd.C_below hr hg) hc2)
 have HLEN := Aside0.mk (fall_len (f := f) hi)
 have HMM : Aside0 (∀ x ∈ fallL l f, (1 ≤ x.f0 ∧ x.f0 ≤ 63) ∧ (1 ≤ x.f1 ∧ x.f1 ≤ 63)) := ⟨fun x hx => by
  have hm := (mem_fall.1 hx).1
  exact ⟨range63 hi _ hm.1, range63 hi _ hm.2.1⟩⟩
 have HSL := Aside0.mk hSL
 have HSH := Aside0.mk hSH
 have HG := Aside0.mk hg
 have HZ := Aside0.mk hz
 have HD : Aside0 (morseB l f = morseQ (fallL l f)) := ⟨rfl⟩
 rw [HD.out]
 have k0 := hB.c0
 have k1 := hB.c1
 have hmm := @run_makeMap Try.prog
 clear hk hr hc2 hi hB hSL hSH hg hz HD
 generalize fallL l f = q at HF HLEN HMM ⊢
 clear hf
 subst hW0
 go_enter Try.func92, Try.ntmps92
 go_wp2_with fail
 refine HF.out.mono ?_
 rintro e w1 ⟨v, rfl, hR, hG1⟩
 obtain ⟨A3, c3, hv, hc3, hC⟩ := Kd.R_reads hR
 subst hv
 have HC := Aside0.mk (Kd.C_kept_own (S := fun k => k = w.heap.size + 1 ∨ k = w.heap.size + 2) (Kd.R_mono (Kd.R_bound hR) (fun k hk => hk.2.1)) (fun k hk h => by rw [HZ.out] at hk; omega))
 have HSL1 := Aside0.mk (HSL.out.later hG1)
 have HSH1 := Aside0.mk (HSH.out.later hG1)
 have HG1 := Aside0.mk (Grew.trans HG.out hG1)
 have HC3 := Aside0.mk hc3
 have hl2 : q.length ≤ 3969 := HLEN.out
 have hs1 : w.heap.size + 3 ≤ w1.heap.size := by have := hG1.size; rw [HZ.out] at this; exact this
 have HS1 := Aside0.mk hs1
 clear hR hG1 hC hc3 k0 k1 hs1
 go_wp2_with fail
 go_loopg [8, 15] q.length (fun gg _ s15 wr => ∃ i : Nat, i ≤ q.length ∧ q.length - i ≤ gg ∧ s15 = .int .i64 i ∧ Aside0 (SetM wr (w.heap.size + 1) i (lowS q i)) ∧ Aside0 (SetM wr (w.heap.size + 2) i (highS q i)) ∧ Aside0 (Grew w wr) ∧ Aside0 (Kept w1 wr (fun k => k = w.heap.size + 1 ∨ k = w.heap.size + 2)) ∧ Aside0 (∀ j (hj : j < q.length), j < i → okM q j q[j] = true))
 case atStart => exact ⟨0, Nat.zero_le _, by omega, rfl, ⟨HSL1.out.cong (fun x _ => by simp [lowS])⟩, ⟨HSH1.out.cong (fun x _ => by simp [highS])⟩, HG1, ⟨Kept.refl _ _⟩, ⟨fun j _ hj => absurd hj (Nat.not_lt_zero _)⟩⟩
 case round =>
  obtain ⟨i, hi1, hgg, rfl, HSLr, HSHr, HGr, HKr, HO⟩ := hrel
  by_cases hlt : i < q.length
  ·have hltz : (i : Int) < (q.length : Int) := by omega
   obtain ⟨ad, e0, hx0, hx1⟩ := Kq_read (HC.out wr HKr.out) i hlt rfl
   cases e0
   have HOK := Aside0.mk (okM_eq q i q[i])
   have HLS := Aside0.mk (lowS_succ q i hlt)
   have HHS := Aside0.mk (highS_succ q i hlt)
   have HPB : Aside0 (okM q i q[i] = false → morseQ q = false) := ⟨fun h => morseQ_false hlt h⟩
   have HPS : Aside0 (okM q i q[i] = true → ∀ j (hj : j < q.length), j < i + 1 → okM q j q[j] = true) := ⟨fun h j hj hj2 => by
    rcases Nat.lt_or_ge j i with h1 | h1
    ·exact HO.out j hj h1
    ·obtain rfl : j = i := by omega
     exact h⟩
   have HM := Aside0.mk (HMM.out _ (List.getElem_mem hlt))
   generalize q[i] = p at hx0 hx1 HOK HLS HHS HM HPB HPS
   have HW0 := Aside0.mk (wf_face HM.out.1.1 HM.out.1.2)
   have HW1 := Aside0.mk (wf_face HM.out.2.1 HM.out.2.2)
   obtain ⟨W1, hW1⟩ : ∃ W1, W1 = wr.alloc (.cells #[I p.f0, I p.f1] 53) := ⟨_, rfl⟩
   have HP1 : Aside0 (W1.heap[wr.heap.size]? = some (.cells #[I p.f0, I p.f1] 53 (0, 0))) := ⟨by rw [hW1]; exact blk_new wr _⟩
   have hG1 : Grew wr W1 := by rw [hW1]; exact below_alloc (Grew.refl wr) _
   have HSL2 := Aside0.mk (HSLr.out.later hG1)
   have HSH2 := Aside0.mk (HSHr.out.later hG1)
   have HGw := Aside0.mk (Grew.trans HGr.out hG1)
   have HKw := Aside0.mk (Kept.below HKr.out hG1)
   have hb1 := HSLr.out.lt
   have hb2 := HSHr.out.lt
   have hz1 : W1.heap.size = wr.heap.size + 1 := by rw [hW1]; simp
   have HZ1 := Aside0.mk hz1
   have HE1 := Aside0.mk hW1
   clear hG1 hW1 hz1
   cases hbl : lowS q i p.f0 with
   | true =>
    have hL0 := HSL2.out.look p.f0 HW0.out
    rw [hbl, HE1.out] at hL0
    have HPF := Aside0.mk (HPB.out (by rw [HOK.out, hbl]; rfl))
    have HGe := HGw.out
    rw [HE1.out] at HGe
    have HGE := Aside0.mk HGe
    clear HPB HPS HOK hbl HGe
    go_wp2_with fail
    go_ret
    exact ⟨by rw [HPF.out]; rfl, HGE.out⟩
   | false =>
    have hL0 := HSL2.out.look p.f0 HW0.out
    rw [hbl, HE1.out] at hL0
    have HL0 := Aside0.mk hbl
    clear hbl
    cases hbh : highS q i p.f1 with
    | true =>
     have hL1 := HSH2.out.look p.f1 HW1.out
     rw [hbh, HE1.out] at hL1
     have HPF := Aside0.mk (HPB.out (by rw [HOK.out, hbh]; simp))
     have HGe := HGw.out
     rw [HE1.out] at HGe
     have HGE := Aside0.mk HGe
     clear HPB HPS HOK hbh HGe
     go_wp2_with fail
     go_ret
     exact ⟨by rw [HPF.out]; rfl, HGE.out⟩
    | false =>
     have hL1 := HSH2.out.look p.f1 HW1.out
     rw [hbh, HE1.out] at hL1
     have HOK2 := Aside0.mk (HPS.out (by rw [HOK.out, HL0.out, hbh]; rfl))
     clear HPB HPS HOK hbh
     obtain ⟨w5, hr5, hS5, hg5⟩ := SetM.store (w := W1.drew) (HSL2.out.same rfl) (by omega) p.f0 HW0.out true
     have HP5 := Aside0.mk (blk_grown (blk_drew HP1.out) hg5 (by simp; omega))
     have hSH5 : SetM w5 (w.heap.size + 2) i (highS q i) := SetM.kept (w := W1.drew) (T := fun k => k = w.heap.size + 1) (HSH2.out.same rfl) (Kept.of_grown hg5 (Kept.refl _ _) (fun k hk => by cases hk; exact Or.inl rfl)) (by omega)
     obtain ⟨w6, hr6, hS6, hg6⟩ := SetM.store hSH5 (by omega) p.f1 HW1.out true
     have HP6 := Aside0.mk (blk_grown HP5.out hg6 (by simp; omega))
     have HSL6 : Aside0 (SetM w6 (w.heap.size + 1) (i + 1) (upd (lowS q i) p.f0 true)) := ⟨SetM.kept (T := fun k => k = w.heap.size + 2) hS5 (Kept.of_grown hg6 (Kept.refl _ _) (fun k hk => by cases hk; exact Or.inl rfl)) (by omega)⟩
     have HSH6 := Aside0.mk hS6
     have HK6 := Aside0.mk (Kept.of_grown hg6 (Kept.of_grown hg5 (Kept.drew HKw.out) (fun k hk => by cases hk; exact Or.inl (Or.inl rfl))) (fun k hk => by cases hk; exact Or.inl (Or.inr rfl)))
     have hzl := HGw.out.size
     have HG6 := Aside0.mk (pw_below_grown (pw_below_grown (below_drew HGw.out) _ (by simp; omega) hg5 (fun k hk => by cases hk; omega)) _ (by have := hg5.size; simp at this; omega) hg6 (fun k hk => by cases hk; omega))
     clear hS5 hS6 hg5 hg6 hzl hSH5
     go_wp2_with fail
     rw [← HE1.out]
     clear hL0 hL1
     refine start_ (n := 8) (S := fun w' => w'.cell? ⟨wr.heap.size, 0, none⟩ = some (I p.f0) ∧ w'.cell? ⟨wr.heap.size, 1, none⟩ = some (I p.f1)) (ds := []) (ar 0 8) (by kernel_rfl) rfl rfl ⟨blk_cell (blk_drew HP1.out) 0, blk_cell (blk_drew HP1.out) 1⟩ (fun hHeld => ?_)
     refine pure_ (i := 0) (N := some 29) (v := ?_) (a' := ?_) (ar 1 7) rfl rfl (by kernel_rfl) (fun _ _ _ h => h) (Or.inl ⟨by rfl, ?_⟩) ?_ ?_; rotate_left; (intro w'; go_simp; with_reducible rfl); rotate_left; · simp only [nm_]; rfl
     refine pure_ (i := 1) (N := some 30) (v := ?_) (a' := ?_) (ar 2 6) rfl rfl (by kernel_rfl) (fun _ _ _ h => h) (Or.inl ⟨by rfl, ?_⟩) ?_ ?_; rotate_left; (intro w'; go_simp; with_reducible rfl); rotate_left; · simp only [nm_]; rfl
     refine pure_ (i := 3) (N := some 32) (v := ?_) (a' := ?_) #[U,U,O,U,O,O,O,O] rfl rfl (by kernel_rfl) (fun _ _ _ h => h) (Or.inl ⟨by rfl, ?_⟩) ?_ ?_; rotate_left; (intro w'; go_simp; with_reducible rfl); rotate_left; · simp only [nm_]; rfl
     refine pure_ (i := 4) (N := some 33) (v := ?_) (a' := ?_) #[U,U,O,U,U,O,O,O] rfl rfl (by kernel_rfl) (fun _ _ _ h => h) (Or.inl ⟨by rfl, ?_⟩) ?_ ?_; rotate_left; (intro w'; go_simp; with_reducible rfl); rotate_left; · simp only [nm_]; rfl
     refine take_ (i := 2) (N := some 31) (v := ?_) (a' := ?_) (ar 5 3) rfl rfl (by kernel_rfl) (fun _ _ _ h => h) (Or.inl ⟨by rfl, ?_⟩) hHeld ?_ ?_
     rotate_left; · rintro w' ⟨s0, s1⟩; go_simp; with_reducible rfl
     rotate_left; · simp only [nm_]; rfl
     refine take_ (i := 5) (N := some 34) (v := ?_) (a' := ?_) (ar 6 2) rfl rfl (by kernel_rfl) (fun _ _ _ h => h) (Or.inl ⟨by rfl, ?_⟩) hHeld ?_ ?_
     rotate_left; · rintro w' ⟨s0, s1⟩; go_simp; with_reducible rfl
     rotate_left; · simp only [nm_]; rfl
     refine one_ (i := 6) (N := none) (ar 7 1) rfl rfl (by kernel_rfl) (by decide) (fun K hK => ?_)
     refine skip_ (w1 := w5) (by rfl) rfl ?_ ?_
     ·simp only [execOp]
      go_simp
     refine hK.out _ _ ⟨blk_cell HP5.out 0, blk_cell HP5.out 1⟩ (fun hHeld => ?_)
     clear hK K
     refine one_ (i := 7) (N := none) (ar 8 0) rfl rfl (by kernel_rfl) (by decide) (fun K hK => ?_)
     refine skip_ (w1 := w6) (by rfl) rfl ?_ ?_
     ·simp only [execOp]
      go_simp
     refine hK.out _ _ ⟨blk_cell HP6.out 0, blk_cell HP6.out 1⟩ (fun hHeld => ?_)
     clear hK K
     refine done_ (by kernel_rfl) ?_
     go_wp2_with fail
     go_roundg (q.length - (i + 1))
     case measure => omega
     case rel => exact ⟨i + 1, by omega, by omega, by go_num, ⟨HSL6.out.cong (fun x _ => HLS.out x)⟩, ⟨HSH6.out.cong (fun x _ => HHS.out x)⟩, HG6, HK6, HOK2⟩
  ·have hltz : ¬ (i : Int) < (q.length : Int) := by omega
   have HT := Aside0.mk (morseQ_true (fun j hj => HO.out j hj (by omega)))
   go_wp2_with fail
   go_ret
   exact ⟨by rw [HT.out]; rfl, HGr.out⟩

end Go.Proofs.Ytniikppojffiaaa.K
end

section
/- Rows of numbers as elements of a slice: each is the slice, and what it holds. -/
namespace Go.Proofs.Ytniikppojffiaaa.K
open Go.RowKit Go.Shelf Go.Proofs.YtniikppojffiaaaW.PrintWords Go.Proofs.YtniikppojffiaaaW.PrintLast Go.Proofs.YtniikppojffiaaaW.PrintMore
set_option linter.unusedVariables false
/-- A row: its slice, and what it holds. -/
structure RowT where
  A : Option Addr
  c : Nat
  xs : List Int
def RowT.v (r : RowT) : Value := .slice r.A r.xs.length r.c
theorem RowT.one (r : RowT) : r.v.oneCell' = true := rfl
abbrev Kr : Kd RowT := Kd.scalar RowT.v RowT.one
def nilT : RowT := ⟨none, 0, []⟩
/-- What the rows hold lies in memory. -/
def RowsIn (w : World) (vs : List RowT) : Prop := ∀ x ∈ vs, Ki.C w x.A x.xs.length x.xs ∧ x.xs.length ≤ x.c ∧ x.xs.length ≤ 2097152
theorem RowsIn.later {w w' : World} {vs : List RowT} (h : RowsIn w vs) (hg : Grew w w') : RowsIn w' vs := fun x hx => ⟨Kd.C_below (h x hx).1 hg, (h x hx).2⟩
theorem Kr_read {W : World} {A : Option Addr} {vs : List RowT} (h : Kr.C W A vs.length vs) (i : Nat) (hi : i < vs.length) :
    ∃ ad : Addr, A = some ad ∧ W.cell? (ad.add i) = some vs[i].v := by
  obtain ⟨ad, e, hc⟩ := ReadsOf.at_ (Kd.reads_of_C (enc := RowT.v) (d := nilT) (h1 := RowT.one) h) (i : Int) (by omega) (by omega)
  refine ⟨ad, e, ?_⟩
  rw [Int.toNat_natCast] at hc
  rw [hc]
  simp [rdOf, hi]
theorem Kr_of {W : World} {vs : List RowT} (B : Nat) (t : TypeId) (hB : W.heap[B]? = some (.cells (vs.map RowT.v).toArray t (0, 0))) (hn : vs.length ≤ 9223372036854775807) : Kr.C W (some ⟨B, 0, none⟩) vs.length vs := by
  refine Kd.C_of_reads (d := nilT) ⟨rfl, hn, fun h0 => ⟨_, rfl, fun j hj => ?_⟩⟩
  have := blk_cell hB j
  have e : (⟨B, 0, none⟩ : Addr).add j = ⟨B, j, none⟩ := by simp only [Addr.add]; split <;> simp_all
  rw [e, this]
  simp [hj]
end Go.Proofs.Ytniikppojffiaaa.K
end

section
/- Contracts of the library's functions that take a function value, over rows of rows of numbers. -/
namespace Go.Proofs.Ytniikppojffiaaa.K
open Go.RowKit Go.Shelf Go.Proofs.YtniikppojffiaaaW.PrintWords Go.Proofs.YtniikppojffiaaaW.PrintLast Go.Proofs.YtniikppojffiaaaW.PrintMore
set_option linter.unusedVariables false
set_option linter.unusedSimpArgs false

set_option maxHeartbeats 2000000 in
theorem IndexFunc_v (p : RowT → Bool) (A : Option Addr) (c : Nat) (l : List RowT) (g : Nat) (first caps : Array Value) (w : World)
  (hr : Kr.C w A l.length l) (hc : l.length ≤ c) (hbig : l.length ≤ 9223372036854775807) (eg : EntersG g)
  (hp : ∀ x, x ∈ l → Answers w g (first.push x.v ++ caps) (.bool (p x))) :
  Calls Try.prog 181 #[.slice A l.length c, .func (.func g) first caps] w fun e w' => e = .returned (I (idx p l)) ∧ Grew w w' := by
 have HR := Aside0.mk hr
 have HC := Aside0.mk hc
 have HP := Aside0.mk hp
 clear hr hc hp
 go_enter Try.func181, Try.ntmps181
 go_wp2
 go_loopg [5, 8] l.length (fun gg _ s8 wr => ∃ kk : Nat, kk ≤ l.length ∧ l.length - kk ≤ gg ∧ s8 = .int .i64 kk ∧ Aside0 (Grew w wr) ∧ Aside0 (∀ j (h : j < l.length), j < kk → p l[j] = false))
 case atStart => exact ⟨0, Nat.zero_le _, by omega, rfl, ⟨Below.refl _ w⟩, ⟨fun j _ hj => absurd hj (Nat.not_lt_zero _)⟩⟩
 case round =>
  obtain ⟨kk, hkk, hg, rfl, BW, A0⟩ := hrel
  by_cases hlt : kk < l.length
  ·have hltz : (kk : Int) < (l.length : Int) := by omega
   obtain ⟨ad, e0, hx⟩ := Kr_read (Kd.C_below HR.out BW.out) kk hlt
   cases e0
   have hcall := HP.out l[kk] (by simp) wr BW.out
   generalize hy : l[kk] = y at hx hcall
   have B := Aside0.mk hy
   clear hy
   cases hq : p y with
   | true =>
    rw [hq] at hcall
    go_wp2_with fail
    refine hcall.mono ?_
    rintro e w' ⟨rfl, hb'⟩
    clear hcall
    go_wp2_with fail
    go_ret
    refine ⟨?_, Grew.trans BW.out hb'⟩
    rw [idx_hit p l kk hlt (by rw [B.out]; exact hq) (fun j hj => A0.out j (by omega) hj)]
    rfl
   | false =>
    rw [hq] at hcall
    go_wp2_with fail
    refine hcall.mono ?_
    rintro e w' ⟨rfl, hb'⟩
    clear hcall
    go_wp2_with fail
    go_roundg (l.length - (kk + 1))
    case measure => omega
    case rel =>
     refine ⟨kk + 1, by omega, by omega, by go_num, ⟨Grew.trans BW.out hb'⟩, ⟨fun j h hj => ?_⟩⟩
     by_cases e : j = kk
     ·subst e
      rw [B.out]; exact hq
     ·exact A0.out j h (by omega)
  ·have hltz : ¬ (kk : Int) < (l.length : Int) := by omega
   have e : kk = l.length := by omega
   have H := idx_miss p l (fun j hj => A0.out j hj (by omega))
   have HM := Aside0.mk H
   clear H e
   go_wp2
   go_ret
   exact ⟨by rw [HM.out]; rfl, BW.out⟩

set_option maxHeartbeats 2000000 in
theorem ContainsFunc_v (p : RowT → Bool) (A : Option Addr) (c : Nat) (l : List RowT) (g : Nat) (first caps : Array Value) (w : World)
  (hr : Kr.C w A l.length l) (hc : l.length ≤ c) (hbig : l.length ≤ 9223372036854775807) (eg : EntersG g)
  (hp : ∀ x, x ∈ l → Answers w g (first.push x.v ++ caps) (.bool (p x))) :
  Calls Try.prog 161 #[.slice A l.length c, .func (.func g) first caps] w fun e w' => e = .returned (.bool (l.any p)) ∧ Grew w w' := by
 rw [← idx_nonneg]
 have H := Aside0.mk (IndexFunc_v p A c l g first caps w hr hc hbig eg hp)
 clear hr hc hbig hp
 go_enter Try.func161, Try.ntmps161
 go_wp2_with fail
 refine H.out.mono ?_
 rintro e w' ⟨rfl, hb'⟩
 go_wp2_with fail
 go_ret
 exact ⟨by rfl, hb'⟩

set_option maxHeartbeats 1000000 in
theorem areAll1_v (b : Bool) (x : RowT) (B : Nat) (g : Nat) (first caps : Array Value) (w : World)
  (hB : w.cell? ⟨B, 0, none⟩ = some (.func (.func g) first caps)) (eg : EntersG g)
  (hp : Answers w g (first.push x.v ++ caps) (.bool b)) :
  Calls Try.prog 162 #[x.v, .pointer (some ⟨B, 0, none⟩)] w fun e w' => e = .returned (.bool (!b)) ∧ Grew w w' := by
 have HP := Aside0.mk hp
 clear hp
 go_enter Try.func162, Try.ntmps162
 go_wp2_with fail
 refine (HP.out _ (Grew.refl _)).mono ?_
 rintro e w' ⟨rfl, hb'⟩
 cases b <;> go_wp2_with fail
 all_goals go_ret
 all_goals exact ⟨by rfl, hb'⟩

set_option maxHeartbeats 1000000 in
theorem areAll_v (p : RowT → Bool) (A : Option Addr) (c : Nat) (l : List RowT) (g : Nat) (first caps : Array Value) (w : World)
  (hr : Kr.C w A l.length l) (hc : l.length ≤ c) (hbig : l.length ≤ 9223372036854775807) (eg : EntersG g)
  (hp : ∀ x, x ∈ l → Answers w g (first.push x.v ++ caps) (.bool (p x))) :
  Calls Try.prog 136 #[.slice A l.length c, .func (.func g) first caps] w fun e w' => e = .returned (.bool (l.all p)) ∧ Grew w w' := by
 have HR := Aside0.mk hr
 have HC := Aside0.mk hc
 have HP := Aside0.mk hp
 have hg : Grew w (w.alloc (.cells #[.func (.func g) first caps] 93)) := below_alloc (Below.refl _ _) _
 have H := Aside0.mk (ContainsFunc_v (fun x => !p x) A c l 162 #[] #[.pointer (some ⟨w.heap.size, 0, none⟩)] (w.alloc (.cells #[.func (.func g) first caps] 93))
  (Kd.C_below HR.out hg) hc hbig (enters_of Try.func162 (by kernel_rfl) rfl) (fun x hx W hW =>
   areAll1_v (p x) x w.heap.size g first caps W (blk_cell (blk_below (blk_new w _) hW) 0) eg (((HP.out x hx).later hg).later hW)))
 have hall : l.all p = !(l.any fun x => !p x) := by
  rw [List.not_any_eq_all_not]; simp
 rw [hall]
 clear hr hc hp hall
 generalize (l.any fun x => !p x) = b at H ⊢
 go_enter Try.func136, Try.ntmps136
 go_wp2_with fail
 refine H.out.mono ?_
 rintro e w' ⟨rfl, hb'⟩
 have HG := Aside0.mk (Grew.trans hg hb')
 clear hb' hg
 cases b <;> go_wp2_with fail
 all_goals go_ret
 all_goals exact ⟨by rfl, HG.out⟩

end Go.Proofs.Ytniikppojffiaaa.K
end

section
/- Functions on a complex: the code of functions. -/
namespace Go.Proofs.Ytniikppojffiaaa.K
open Go.RowKit Go.Shelf Go.Proofs.Ytniikppojffiaaa.Q Go.Proofs.YtniikppojffiaaaW.PrintWords Go.Proofs.YtniikppojffiaaaW.PrintLast Go.Proofs.YtniikppojffiaaaW.PrintMore
set_option linter.unusedVariables false
set_option linter.unusedSimpArgs false

theorem isValue_calls (x : Int) (w : World) : Calls Try.prog 163 #[I x] w fun e w' => e = .returned (.bool (isVal x)) ∧ Grew w w' :=
 (impl_isValue.calls x (isVal x) w (by unfold impl_isValue.f; rw [within_is]; rfl)).mono fun e w' ⟨he, hd⟩ => ⟨he, hd.below⟩
set_option maxHeartbeats 2000000 in
theorem isFunction_calls (n : Int) (A : Option Addr) (c : Nat) (l : List Int) (A2 : Option Addr) (c2 : Nat) (xs : List Int) (w : World) (hk : Kx w A c l) (hr : Ki.C w A2 xs.length xs) (hc : xs.length ≤ c2) :
  Calls Try.prog 137 #[.agg #[I n, .slice A l.length c], .slice A2 xs.length c2] w fun e w' => e = .returned (.bool (funB l xs)) ∧ Grew w w' := by
 have H := Aside0.mk (fun W (hW : Grew w W) => areAll_int isVal A2 c2 xs 163 #[] #[] W (Kd.C_below hr hW) hc (Kd.C_max hr) (enters_of Try.func163 (by kernel_rfl) rfl)
  (fun x hx W2 hW2 => isValue_calls x W2))
 have hB : CB (w.alloc (.cells #[I n, .slice A l.length c] 30)) w.heap.size n (.slice A l.length c) := blk_new w _
 have HG : Aside0 (Grew w (w.alloc (.cells #[I n, .slice A l.length c] 30))) := ⟨below_alloc (Grew.refl w) _⟩
 have k0 := hB.c0
 have k1 := hB.c1
 clear hk hr hc hB
 by_cases hl : xs.length = l.length
 ·have HV : Aside0 (funB l xs = xs.all isVal) := ⟨by unfold funB; simp [hl]⟩
  rw [HV.out]
  clear HV
  have hlz : (xs.length : Int) = (l.length : Int) := by omega
  generalize xs.all isVal = r at H ⊢
  clear hl
  go_enter Try.func137, Try.ntmps137
  go_wp2_with fail
  refine (H.out _ HG.out).mono ?_
  rintro e w1 ⟨rfl, hG1⟩
  go_wp2_with fail
  go_ret
  exact ⟨rfl, Grew.trans HG.out hG1⟩
 ·have HV : Aside0 (funB l xs = false) := ⟨by unfold funB; simp [hl]⟩
  rw [HV.out]
  clear HV
  have hlz : ¬ (xs.length : Int) = (l.length : Int) := by omega
  go_enter Try.func137, Try.ntmps137
  go_wp2_with fail
  go_ret
  exact ⟨rfl, HG.out⟩
set_option maxHeartbeats 2000000 in
theorem functionCode1_calls (b : Bool) {n : Int} (A : Option Addr) (c : Nat) {l : List Int} (A2 : Option Addr) (c2 : Nat) (vs : List RowT) {Bk Bq Bb : Nat} (w : World) (h0 : CB w Bk n (.slice A l.length c)) (h1 : w.cell? ⟨Bq, 0, none⟩ = some (.slice A2 vs.length c2)) (h2 : w.cell? ⟨Bb, 0, none⟩ = some (.bool b)) (hk : Kx w A c l) (hq : Kr.C w A2 vs.length vs) (hc2 : vs.length ≤ c2) (hv : RowsIn w vs) :
  Calls Try.prog 135 #[.pointer (some ⟨Bb, 0, none⟩), .pointer (some ⟨Bq, 0, none⟩), .pointer (some ⟨Bk, 0, none⟩)] w fun e w' => e = .returned (.bool (b && vs.all fun r => funB l r.xs)) ∧ Grew w w' := by
 have k0 := h0.c0
 have k1 := h0.c1
 have H := Aside0.mk (areAll_v (fun r => funB l r.xs) A2 c2 vs 137 #[.agg #[I n, .slice A l.length c]] #[] w hq hc2 (Kd.C_max hq) (enters_of Try.func137 (by kernel_rfl) rfl)
  (fun r hr W hW => isFunction_calls n A c l r.A r.c r.xs W (hk.later hW) (Kd.C_below (hv r hr).1 hW) (hv r hr).2.1))
 clear hk hq hc2 hv h0
 generalize (vs.all fun r => funB l r.xs) = r at H ⊢
 cases b with
 | false =>
  rw [Bool.false_and]
  go_enter Try.func135, Try.ntmps135
  go_wp2_with fail
  go_ret
  exact ⟨rfl, Grew.refl _⟩
 | true =>
  rw [Bool.true_and]
  go_enter Try.func135, Try.ntmps135
  go_wp2_with fail
  refine H.out.mono ?_
  rintro e w1 ⟨rfl, hG1⟩
  go_wp2_with fail
  go_ret
  exact ⟨rfl, hG1⟩
set_option maxHeartbeats 2000000 in
theorem functionCode_calls (b : Bool) (n : Int) (A : Option Addr) (c : Nat) (l : List Int) (A2 : Option Addr) (c2 : Nat) (vs : List RowT) (w : World) (hk : Kx w A c l) (hq : Kr.C w A2 vs.length vs) (hc2 : vs.length ≤ c2) (hv : RowsIn w vs) :
  Calls Try.prog 91 #[.agg #[I n, .slice A l.length c], .bool b, .slice A2 vs.length c2] w fun e w' => e = .returned (I (codeOf n l (b && vs.all fun r => funB l r.xs))) ∧ Grew w w' := by
 obtain ⟨W, hW⟩ : ∃ W, W = ((w.alloc (.cells #[I n, .slice A l.length c] 30)).alloc (.cells #[.bool b] 4)).alloc (.cells #[.slice A2 vs.length c2] 118) := ⟨_, rfl⟩
 have hB : CB W w.heap.size n (.slice A l.length c) := by rw [hW]; exact blk_alloc (blk_alloc (blk_new w _) _) _
 have hb : W.heap[w.heap.size + 1]? = some (.cells #[.bool b] 4 (0, 0)) := by
  rw [hW]
  have := blk_new (w.alloc (.cells #[I n, .slice A l.length c] 30)) (.cells #[.bool b] 4)
  rw [World.size_alloc] at this
  exact blk_alloc this _
 have hL : W.heap[w.heap.size + 2]? = some (.cells #[.slice A2 vs.length c2] 118 (0, 0)) := by
  rw [hW]
  have := blk_new ((w.alloc (.cells #[I n, .slice A l.length c] 30)).alloc (.cells #[.bool b] 4)) (.cells #[.slice A2 vs.length c2] 118)
  rwa [World.size_alloc, World.size_alloc] at this
 have hg : Grew w W := by rw [hW]; exact below_alloc (below_alloc (below_alloc (Grew.refl w) _) _) _
 have H := Aside0.mk (complexCode_calls (b && vs.all fun r => funB l r.xs) n A c l 135 #[] #[.pointer (some ⟨w.heap.size + 1, 0, none⟩), .pointer (some ⟨w.heap.size + 2, 0, none⟩), .pointer (some ⟨w.heap.size, 0, none⟩)] W (hk.later hg) (enters_of Try.func135 (by kernel_rfl) rfl)
  (fun hi W2 hW2 => by
   have := functionCode1_calls b A c A2 c2 vs W2 (blk_below hB hW2) (blk_cell (blk_below hL hW2) 0) (blk_cell (blk_below hb hW2) 0) (hk.later (Grew.trans hg hW2)) (Kd.C_below hq (Grew.trans hg hW2)) hc2 (hv.later (Grew.trans hg hW2))
   rw [Array.empty_append]
   exact this))
 have k0 := hB.c0
 have k1 := hB.c1
 have HG := Aside0.mk hg
 clear hk hq hc2 hB hL hg hv hb
 generalize codeOf n l (b && vs.all fun r => funB l r.xs) = cc at H ⊢
 subst hW
 go_enter Try.func91, Try.ntmps91
 go_wp2_with fail
 refine H.out.mono ?_
 rintro e w1 ⟨rfl, hG1⟩
 go_wp2_with fail
 go_ret
 exact ⟨rfl, Grew.trans HG.out hG1⟩

end Go.Proofs.Ytniikppojffiaaa.K
end

section
/- The code of Morse functions; IsMorseFunction, PairingOfFunction, IsFlat. -/
namespace Go.Proofs.Ytniikppojffiaaa.K
open Go.RowKit Go.Shelf Go.Proofs.Ytniikppojffiaaa.Q Go.Proofs.YtniikppojffiaaaW.PrintWords Go.Proofs.YtniikppojffiaaaW.PrintLast Go.Proofs.YtniikppojffiaaaW.PrintMore
set_option linter.unusedVariables false
set_option linter.unusedSimpArgs false

set_option maxHeartbeats 2000000 in
theorem morseCode_calls (n : Int) (A : Option Addr) (c : Nat) (l : List Int) (A2 : Option Addr) (c2 : Nat) (vs : List RowT) (w : World) (hk : Kx w A c l) (hq : Kr.C w A2 vs.length vs) (hc2 : vs.length ≤ c2) (hv : RowsIn w vs) :
  Calls Try.prog 93 #[.agg #[I n, .slice A l.length c], .slice A2 vs.length c2] w fun e w' => e = .returned (I (mcode n l (vs.all fun r => funB l r.xs) (vs.all fun r => morseB l r.xs))) ∧ Grew w w' := by
 have hB : CB (w.alloc (.cells #[I n, .slice A l.length c] 30)) w.heap.size n (.slice A l.length c) := blk_new w _
 have hg : Grew w (w.alloc (.cells #[I n, .slice A l.length c] 30)) := below_alloc (Grew.refl w) _
 have HC := Aside0.mk (functionCode_calls true n A c l A2 c2 vs _ (hk.later hg) (Kd.C_below hq hg) hc2 (hv.later hg))
 rw [Bool.true_and] at HC
 have HK := Aside0.mk hk
 have HQ := Aside0.mk hq
 have HC2 := Aside0.mk hc2
 have HV := Aside0.mk hv
 have HB := Aside0.mk hB
 have HG := Aside0.mk hg
 have k0 := hB.c0
 have k1 := hB.c1
 clear hk hq hc2 hB hg hv
 by_cases hz : codeOf n l (vs.all fun r => funB l r.xs) = 0
 ·obtain ⟨hi, hb⟩ := codeOf_zero hz
  have HA : Aside0 (∀ W, Grew w W → Calls Try.prog 136 #[.slice A2 vs.length c2, .func (.func 92) #[.agg #[I n, .slice A l.length c]] #[]] W fun e w' => e = .returned (.bool (vs.all fun r => morseB l r.xs)) ∧ Grew W w') := ⟨fun W hW =>
   areAll_v (fun r => morseB l r.xs) A2 c2 vs 92 #[.agg #[I n, .slice A l.length c]] #[] W (Kd.C_below HQ.out hW) HC2.out (Kd.C_max HQ.out) (enters_of Try.func92 (by kernel_rfl) rfl)
    (fun r hr W2 hW2 => by
     rw [List.all_eq_true] at hb
     exact isMorse_calls A c hi r.A r.c (hb r hr) W2 (HK.out.later (Grew.trans hW hW2)) (Kd.C_below (HV.out r hr).1 (Grew.trans hW hW2)) (HV.out r hr).2.1)⟩
  have HM : Aside0 (mcode n l (vs.all fun r => funB l r.xs) (vs.all fun r => morseB l r.xs) = if (vs.all fun r => morseB l r.xs) then 0 else 5) := ⟨by unfold mcode; rw [if_pos hz]⟩
  rw [HM.out]
  rw [hz] at HC
  clear HM hz hi hb
  generalize (vs.all fun r => morseB l r.xs) = b at HA ⊢
  go_enter Try.func93, Try.ntmps93
  go_wp2_with fail
  refine HC.out.mono ?_
  rintro e w1 ⟨rfl, hG1⟩
  have hB1 := CB.later HB.out hG1
  have HG1 := Aside0.mk (Grew.trans HG.out hG1)
  clear hG1 k0 k1
  have k0 := hB1.c0
  have k1 := hB1.c1
  clear hB1
  go_wp2_with fail
  refine (HA.out _ HG1.out).mono ?_
  rintro e w2 ⟨rfl, hG2⟩
  cases b <;> go_wp2_with fail
  all_goals go_ret
  all_goals exact ⟨by rfl, Grew.trans HG1.out hG2⟩
 ·have HM : Aside0 (mcode n l (vs.all fun r => funB l r.xs) (vs.all fun r => morseB l r.xs) = codeOf n l (vs.all fun r => funB l r.xs)) := ⟨by unfold mcode; rw [if_neg hz]⟩
  rw [HM.out]
  clear HM
  generalize codeOf n l (vs.all fun r => funB l r.xs) = cc at HC hz ⊢
  go_enter Try.func93, Try.ntmps93
  go_wp2_with fail
  refine HC.out.mono ?_
  rintro e w1 ⟨rfl, hG1⟩
  have HG1 := Aside0.mk (Grew.trans HG.out hG1)
  clear hG1 k0 k1
  go_wp2_with fail
  go_ret
  exact ⟨rfl, HG1.out⟩
/-- The world behind a complex's box and a slice of one list. -/
theorem one_row {w : World} {A2 : Option Addr} {c2 : Nat} {xs : List Int} {k : Value} {n : Int} (hx : Ki.C w A2 xs.length xs) (hc2 : xs.length ≤ c2) (hx2 : xs.length ≤ 2097152) :
  (∀ G W, Grew w W → W.heap[G]? = some (.cells #[.slice A2 xs.length c2] 22 (0, 0)) → Kr.C W (some ⟨G, 0, none⟩) [(⟨A2, c2, xs⟩ : RowT)].length [⟨A2, c2, xs⟩] ∧ RowsIn W [(⟨A2, c2, xs⟩ : RowT)]) ∧
  (((w.alloc (.cells #[I n, k] 30)).alloc (.cells #[.slice A2 xs.length c2] 22)).heap[w.heap.size + 1]? = some (.cells #[.slice A2 xs.length c2] 22 (0, 0))) := by
 refine ⟨fun G W hW hG => ⟨Kr_of G 22 hG (by simp), fun r hr => ?_⟩, ?_⟩
 ·rw [List.mem_singleton.1 hr]
  exact ⟨Kd.C_below hx hW, hc2, hx2⟩
 ·have := blk_new (w.alloc (.cells #[I n, k] 30)) (.cells #[.slice A2 xs.length c2] 22)
  rwa [World.size_alloc] at this
/-- The code of one function, behind the boxes. -/
theorem mcode_one (n : Int) (A : Option Addr) (c : Nat) (l : List Int) (A2 : Option Addr) (c2 : Nat) (xs : List Int) (w : World) (hk : Kx w A c l) (hx : Ki.C w A2 xs.length xs) (hc2 : xs.length ≤ c2) (hx2 : xs.length ≤ 2097152) :
  Calls Try.prog 93 #[.agg #[I n, .slice A l.length c], .slice (some ⟨w.heap.size + 1, 0, none⟩) 1 1] ((w.alloc (.cells #[I n, .slice A l.length c] 30)).alloc (.cells #[.slice A2 xs.length c2] 22)) fun e w' => e = .returned (I (mcode n l (funB l xs) (morseB l xs))) ∧ Grew ((w.alloc (.cells #[I n, .slice A l.length c] 30)).alloc (.cells #[.slice A2 xs.length c2] 22)) w' := by
 have HG : Grew w (w.alloc (.cells #[I n, .slice A l.length c] 30)) := below_alloc (Grew.refl w) _
 obtain ⟨h1, h2⟩ := one_row (k := .slice A l.length c) (n := n) hx hc2 hx2
 obtain ⟨h3, h4⟩ := h1 _ _ (below_alloc HG _) h2
 have h := morseCode_calls n A c l _ 1 _ _ (hk.later (below_alloc HG _)) h3 (Nat.le_refl _) h4
 simp only [List.all_cons, List.all_nil, Bool.and_true, List.length_cons, List.length_nil] at h
 exact h
theorem V_in {W : World} {A : Option Addr} {c : Nat} {xs : List Int} (h : Ki.C W A xs.length xs) (hc : xs.length ≤ c) : Kd.V (Kd.int .i64) 2 W W.heap.size (fun k => k < W.heap.size) (.slice A xs.length c) xs := Kd.V_mk hc (Kd.C_F (Kd.heap_int .i64) h)
theorem sPairing4_calls (n : Int) (A : Option Addr) (c : Nat) (l : List Int) (A2 : Option Addr) (c2 : Nat) (xs : List Int) (w : World) (hk : Kx w A c l) (hl : l.length ≤ 2097152) (hx : Ki.C w A2 xs.length xs) (hc2 : xs.length ≤ c2) (hx2 : xs.length ≤ 2097152) :
  Calls Try.prog 51 #[.agg #[I n, .slice A l.length c], .slice A2 xs.length c2] w fun e w' => ∃ v, e = .returned (.tuple #[v, I (mcode n l (funB l xs) (morseB l xs))]) ∧ Kq.R 53 w' w.heap.size (fun _ => True) v (if mcode n l (funB l xs) (morseB l xs) = 0 then fallL l xs else []) ∧ Grew w w' :=
 (spec_PairingOfFunction.calls (fK l) n A c l (fun k => k < w.heap.size) A2 c2 xs _ _ w hk.r hk.c (V_in hx hc2) (specPairing4_is n l xs hl hx2 _ (Nat.le_refl _))).mono fun e w' ⟨v, h1, h2, h3⟩ => ⟨v, h1, Kd.R_mono h2 (fun _ _ => trivial), h3⟩

end Go.Proofs.Ytniikppojffiaaa.K
end

section
/- Critical values, plain: the reference's list is the program's sorted one without doubles. -/
namespace Go.Proofs.Ytniikppojffiaaa.K
open Go.RowKit Go.Shelf Go.Proofs.Ytniikppojffiaaa.Q Go.Proofs.YtniikppojffiaaaW.PrintWords Go.Proofs.YtniikppojffiaaaW.PrintLast Go.Proofs.YtniikppojffiaaaW.PrintMore
set_option linter.unusedVariables false
set_option linter.unusedSimpArgs false

theorem putL_nil (n : Int) : ∀ (L1 : List Int), (∀ x ∈ L1, x < n) → putL L1 n = L1 ++ [n]
 | [], _ => rfl
 | x :: L1, h1 => by
  have hx := h1 x List.mem_cons_self
  simp only [List.cons_append, putL]
  rw [if_neg (by omega), if_neg (by omega), putL_nil n L1 (fun y hy => h1 y (List.mem_cons_of_mem _ hy))]
theorem putL_cons (n a : Int) (L3 : List Int) (ha : n ≤ a) : ∀ (L1 : List Int), (∀ x ∈ L1, x < n) → putL (L1 ++ a :: L3) n = if a = n then L1 ++ a :: L3 else L1 ++ n :: a :: L3
 | [], _ => by
  simp only [List.nil_append, putL]
  by_cases e : a = n
  ·subst e; simp
  ·rw [if_pos (by omega), if_neg e]
 | x :: L1, h1 => by
  have hx := h1 x List.mem_cons_self
  simp only [List.cons_append, putL]
  rw [if_neg (by omega), if_neg (by omega), putL_cons n a L3 ha L1 (fun y hy => h1 y (List.mem_cons_of_mem _ hy))]
  split <;> rfl
theorem asc_split (n : Int) : ∀ (L : List Int), L.Pairwise (· < ·) → ∃ L1 L2, L = L1 ++ L2 ∧ (∀ x ∈ L1, x < n) ∧ (∀ x ∈ L2, n ≤ x)
 | [], _ => ⟨[], [], rfl, by simp, by simp⟩
 | a :: L, h => by
  rw [List.pairwise_cons] at h
  by_cases ha : a < n
  ·obtain ⟨L1, L2, e, h1, h2⟩ := asc_split n L h.2
   refine ⟨a :: L1, L2, by rw [e]; rfl, fun x hx => ?_, h2⟩
   rcases List.mem_cons.1 hx with e | hx
   ·omega
   ·exact h1 x hx
  ·refine ⟨[], a :: L, rfl, by simp, fun x hx => ?_⟩
   rcases List.mem_cons.1 hx with e | hx
   ·omega
   ·have := h.1 x hx; omega
theorem own_is (l : List Int) (hl : l.length ≤ 100000) : spec_l01Own.f l = some l := by
 unfold spec_l01Own.f
 simp only [Option.bind_some, List.nil_append]
 rw [if_pos (by simp; omega)]
/-- The different values, ascending. -/
def valsL (l f : List Int) : List Int := Lib.compact (((critL l (fallL l f)).map (atV l f)).mergeSort fun x y => decide (x ≤ y))
theorem sort_asc (xs : List Int) : (xs.mergeSort fun x y => decide (x ≤ y)).Pairwise (· ≤ ·) := by
 have := List.pairwise_mergeSort (le := fun x y : Int => decide (x ≤ y)) (fun a b c h1 h2 => by simp at *; omega) (fun a b => by simp; omega) xs
 exact this.imp (fun h => of_decide_eq_true h)
theorem compact_asc (xs : List Int) (h : xs.Pairwise (· ≤ ·)) : (Lib.compact xs).Pairwise (· < ·) ∧ ∀ z, z ∈ Lib.compact xs ↔ z ∈ xs := by
 have hg : ∀ i, i < xs.length → xs.toArray[i]! = xs.getD i 0 := fun i hi => by simp [hi]
 have hle : ∀ i j, i ≤ j → j < xs.length → xs.getD i 0 ≤ xs.getD j 0 := fun i j hij hj => by
  rcases Nat.lt_or_eq_of_le hij with h1 | h1
  ·have := List.pairwise_iff_getElem.1 h i j (by omega) hj h1
   simpa [hj, show i < xs.length by omega] using this
  ·subst h1; exact Int.le_refl _
 constructor
 ·unfold Lib.compact Lib.compactUpTo
  rw [List.pairwise_map]
  have hr : ((List.range xs.length).filter (Lib.keeps xs.toArray)).Pairwise fun i j => i < j := List.pairwise_lt_range.filter _
  rw [List.pairwise_iff_getElem] at hr ⊢
  intro a b ha hb hab
  have hlt := hr a b ha hb hab
  have hm := List.mem_filter.1 (List.getElem_mem hb)
  have hm0 := List.mem_filter.1 (List.getElem_mem ha)
  generalize ((List.range xs.length).filter (Lib.keeps xs.toArray))[a] = i at hlt hm0
  generalize ((List.range xs.length).filter (Lib.keeps xs.toArray))[b] = j at hlt hm
  have hj := List.mem_range.1 hm.1
  have hk := hm.2
  unfold Lib.keeps at hk
  have hk := of_decide_eq_true hk
  rw [hg j hj, hg (j - 1) (by omega)] at hk
  rw [hg i (by omega), hg j hj]
  have h1 := hle i (j - 1) (by omega) (by omega)
  have h2 := hle (j - 1) j (by omega) hj
  rcases hk with h0 | h0
  ·omega
  ·omega
 ·intro z
  unfold Lib.compact Lib.compactUpTo
  simp only [List.mem_map, List.mem_filter, List.mem_range]
  constructor
  ·rintro ⟨i, ⟨hi, _⟩, rfl⟩
   rw [hg i hi]
   simp [hi]
  ·intro hz
   have : ∀ m, (∃ j, j < m ∧ j < xs.length ∧ xs.getD j 0 = z) → ∃ j, j < xs.length ∧ xs.getD j 0 = z ∧ ∀ i, i < j → xs.getD i 0 ≠ z := by
    intro m
    induction m with
    | zero => rintro ⟨j, hj, _⟩; omega
    | succ m ih =>
     rintro ⟨j, hj, hjl, e⟩
     by_cases hex : ∃ i, i < j ∧ xs.getD i 0 = z
     ·obtain ⟨i, hi, e2⟩ := hex
      exact ih ⟨i, by omega, by omega, e2⟩
     ·exact ⟨j, hjl, e, fun i hi e2 => hex ⟨i, hi, e2⟩⟩
   obtain ⟨i, hi, e⟩ := List.mem_iff_getElem.1 hz
   obtain ⟨j, hj, e2, hn⟩ := this (i + 1) ⟨i, by omega, hi, by simpa [hi] using e⟩
   refine ⟨j, ⟨hj, ?_⟩, by rw [hg j hj]; exact e2⟩
   unfold Lib.keeps
   rw [hg j hj]
   apply decide_eq_true
   by_cases h0 : j = 0
   ·exact Or.inl h0
   ·right
    rw [hg (j - 1) (by omega), e2]
    exact fun h => hn (j - 1) (by omega) h.symm
theorem vals_put (l f : List Int) : putAll [] ((critL l (fallL l f)).map (atV l f)) = valsL l f := by
 obtain ⟨h1, h2⟩ := compact_asc _ (sort_asc ((critL l (fallL l f)).map (atV l f)))
 refine ascL_ext _ _ (putAll_asc _ _ List.Pairwise.nil) h1 (fun z => ?_)
 unfold valsL
 rw [putAll_mem, h2, List.mem_mergeSort]
 simp
def critVA (n : Int) (l f : List Int) : List Int := if mcode n l (funB l f) (morseB l f) = 0 then valsL l f else []
theorem crit_short {n : Int} {l : List Int} (hi : isC n l = true) (q : List PairT) : (critL l q).length ≤ 63 := by
 have h63 := (isC_faces hi).2.2.2
 have := List.length_filter_le (fun f => !inPair q f) l
 unfold critL
 omega
theorem critVA_len {n : Int} {l f : List Int} : (critVA n l f).length ≤ 63 := by
 unfold critVA
 split
 ·rename_i h
  obtain ⟨hi, hb, hm⟩ := mcode_zero h
  rw [← vals_put]
  have := putAll_length ((critL l (fallL l f)).map (atV l f)) []
  have := crit_short hi (fallL l f)
  simp at *
  omega
 ·simp
end Go.Proofs.Ytniikppojffiaaa.K
end

section
/- The shelf's contract of a function of the library, laid at this program. -/
namespace Go.Proofs.Ytniikppojffiaaa.K
open Go.Shelf
def SortI_ren : Go.Shelf.Ren := {
 f := fun x =>
  match x with
  | 5 => 102
  | 8 => 142
  | 7 => 141
  | 19 => 172
  | 20 => 173
  | 10 => 164
  | 11 => 165
  | 12 => 166
  | 13 => 167
  | 14 => 168
  | 15 => 169
  | 16 => 153
  | 17 => 170
  | 18 => 171
  | 30 => 182
  | 31 => 183
  | 32 => 184
  | 33 => 185
  | 34 => 186
  | 35 => 179
  | 40 => 189
  | n => n,
 t := fun x =>
  match x with
  | 23 => 22
  | 25 => 2
  | 3 => 3
  | 32 => 125
  | 22 => 22
  | 0 => 0
  | 44 => 142
  | 46 => 126
  | 4 => 4
  | 36 => 136
  | 35 => 135
  | 41 => 111
  | 5 => 5
  | 9 => 9
  | 53 => 148
  | 57 => 152
  | 63 => 156
  | 64 => 157
  | n => n,
 g := fun x =>
    x }
theorem SortI : SlLaysM.n5 Try.prog SortI_ren := {
 mixed := by kernel_rfl,
 f5 := ⟨Try.f102.name, by decide, Try.func102.trans (congrArg some (by kernel_rfl))⟩,
 f7 := ⟨Try.f141.name, by decide, Try.func141.trans (congrArg some (by kernel_rfl))⟩,
 f8 := Try.func142.trans (congrArg some (by kernel_rfl)),
 f10 := ⟨Try.f164.name, by decide, Try.func164.trans (congrArg some (by kernel_rfl))⟩,
 f11 := ⟨Try.f165.name, by decide, Try.func165.trans (congrArg some (by kernel_rfl))⟩,
 f12 := ⟨Try.f166.name, by decide, Try.func166.trans (congrArg some (by kernel_rfl))⟩,
 f13 := ⟨Try.f167.name, by decide, Try.func167.trans (congrArg some (by kernel_rfl))⟩,
 f14 := ⟨Try.f168.name, by decide, Try.func168.trans (congrArg some (by kernel_rfl))⟩,
 f15 := ⟨Try.f169.name, by decide, Try.func169.trans (congrArg some (by kernel_rfl))⟩,
 f16 := ⟨Try.f153.name, by decide, Try.func153.trans (congrArg some (by kernel_rfl))⟩,
 f17 := ⟨Try.f170.name, by decide, Try.func170.trans (congrArg some (by kernel_rfl))⟩,
 f18 := ⟨Try.f171.name, by decide, Try.func171.trans (congrArg some (by kernel_rfl))⟩,
 f19 := Try.func172.trans (congrArg some (by kernel_rfl)),
 f20 := Try.func173.trans (congrArg some (by kernel_rfl)),
 f30 := ⟨Try.f182.name, by decide, Try.func182.trans (congrArg some (by kernel_rfl))⟩,
 f31 := Try.func183.trans (congrArg some (by kernel_rfl)),
 f32 := Try.func184.trans (congrArg some (by kernel_rfl)),
 f33 := ⟨Try.f185.name, by decide, Try.func185.trans (congrArg some (by kernel_rfl))⟩,
 f34 := ⟨Try.f186.name, by decide, Try.func186.trans (congrArg some (by kernel_rfl))⟩,
 f35 := ⟨Try.f179.name, by decide, Try.func179.trans (congrArg some (by kernel_rfl))⟩,
 f40 := ⟨Try.f189.name, by decide, Try.func189.trans (congrArg some (by kernel_rfl))⟩,
 t0 := Try.underlying0,
 a0 := Try.isAgg0,
 z0 := Try.sizeOf0,
 v0 := Try.zeroValue0,
 t3 := Try.underlying3,
 a3 := Try.isAgg3,
 z3 := Try.sizeOf3,
 v3 := Try.zeroValue3,
 t4 := Try.underlying4,
 a4 := Try.isAgg4,
 z4 := Try.sizeOf4,
 v4 := Try.zeroValue4,
 t5 := Try.underlying5,
 a5 := Try.isAgg5,
 z5 := Try.sizeOf5,
 v5 := Try.zeroValue5,
 t9 := Try.underlying9,
 a9 := Try.isAgg9,
 z9 := Try.sizeOf9,
 v9 := Try.zeroValue9,
 t22 := Try.underlying22,
 a22 := Try.isAgg22,
 z22 := Try.sizeOf22,
 v22 := Try.zeroValue22,
 t23 := Try.underlying22,
 a23 := Try.isAgg22,
 z23 := Try.sizeOf22,
 v23 := Try.zeroValue22,
 t25 := Try.underlying2,
 a25 := Try.isAgg2,
 z25 := Try.sizeOf2,
 v25 := Try.zeroValue2,
 t32 := Try.underlying125,
 a32 := Try.isAgg125,
 z32 := Try.sizeOf125,
 v32 := Try.zeroValue125,
 t35 := Try.underlying135,
 a35 := Try.isAgg135,
 z35 := Try.sizeOf135,
 v35 := Try.zeroValue135,
 t36 := Try.underlying136,
 a36 := Try.isAgg136,
 z36 := Try.sizeOf136,
 v36 := Try.zeroValue136,
 t41 := Try.underlying111,
 a41 := Try.isAgg111,
 z41 := Try.sizeOf111,
 v41 := Try.zeroValue111,
 t44 := Try.underlying142,
 a44 := Try.isAgg142,
 z44 := Try.sizeOf142,
 v44 := Try.zeroValue142,
 t46 := Try.underlying126,
 a46 := Try.isAgg126,
 z46 := Try.sizeOf126,
 v46 := Try.zeroValue126,
 t53 := Try.underlying148,
 a53 := Try.isAgg148,
 z53 := Try.sizeOf148,
 v53 := Try.zeroValue148,
 t57 := Try.underlying152,
 a57 := Try.isAgg152,
 z57 := Try.sizeOf152,
 v57 := Try.zeroValue152,
 t63 := Try.underlying156,
 a63 := Try.isAgg156,
 z63 := Try.sizeOf156,
 v63 := Try.zeroValue156,
 t64 := Try.underlying157,
 a64 := Try.isAgg157,
 z64 := Try.sizeOf157,
 v64 := Try.zeroValue157 }
end Go.Proofs.Ytniikppojffiaaa.K
end

section
/- The shelf's contract of a function of the library, laid at this program. -/
namespace Go.Proofs.Ytniikppojffiaaa.K
open Go.Shelf
def CompI_ren : Go.Shelf.Ren := {
  f := fun x =>
    match x with
    | 43 => 103
    | n => n,
  t := fun x =>
    match x with
    | 22 => 22
    | 23 => 2
    | 3 => 3
    | 4 => 4
    | 0 => 0
    | n => n,
  g := fun x =>
        x }
theorem CompI : SlLaysN.n43 Try.prog CompI_ren := {
  mixed := by kernel_rfl,
  f43 := ⟨Try.f103.name, by decide, Try.func103.trans (congrArg some (by kernel_rfl))⟩,
  t0 := Try.underlying0,
  a0 := Try.isAgg0,
  z0 := Try.sizeOf0,
  v0 := Try.zeroValue0,
  t3 := Try.underlying3,
  a3 := Try.isAgg3,
  z3 := Try.sizeOf3,
  v3 := Try.zeroValue3,
  t4 := Try.underlying4,
  a4 := Try.isAgg4,
  z4 := Try.sizeOf4,
  v4 := Try.zeroValue4,
  t22 := Try.underlying22,
  a22 := Try.isAgg22,
  z22 := Try.sizeOf22,
  v22 := Try.zeroValue22,
  t23 := Try.underlying2,
  a23 := Try.isAgg2,
  z23 := Try.sizeOf2,
  v23 := Try.zeroValue2,
  i23 := by kernel_rfl }
end Go.Proofs.Ytniikppojffiaaa.K
end

section
/- slices.Sort and slices.Compact over rows of numbers of the call's own. -/
namespace Go.Proofs.Ytniikppojffiaaa.K
open Go.RowKit Go.Shelf Go.Lib Go.Sort Go.Proofs.YtniikppojffiaaaW.PrintWords Go.Proofs.YtniikppojffiaaaW.PrintLast Go.Proofs.YtniikppojffiaaaW.PrintMore
set_option linter.unusedVariables false
set_option linter.unusedSimpArgs false

theorem below_growI (w : World) (os : Array Obj) : Below w.heap.size w (grow w os) := ⟨rfl, rfl, rfl, by simp [grow], fun k hk => heap_grow_old w os hk⟩
theorem Ri.put_all {base : Nat} {ok : Nat → Prop} {G n c : Nat} : ∀ (ys : List Int) (i : Nat) (W : World) (xs : List Int), i + ys.length = xs.length → Ki.R 2 W base ok (.slice (some ⟨G, 0, none⟩) n c) xs →
  Ki.R 2 (W.setCells G i (ys.map (Value.int .i64))) base ok (.slice (some ⟨G, 0, none⟩) n c) (xs.take i ++ ys)
 | [], i, W, xs, hl, h => by
  simp at hl
  rw [hl, List.take_length, List.append_nil]
  exact h
 | y :: r, i, W, xs, hl, h => by
  simp at hl
  have h1 := Kd.R_putn h (i : Int) y
  rw [Int.toNat_natCast] at h1
  have h2 := Ri.put_all r (i + 1) _ _ (by simp; omega) h1
  have e : (xs.set i y).take (i + 1) ++ r = xs.take i ++ y :: r := by
   rw [List.take_succ_eq_append_getElem (by simp; omega), List.take_set, List.set_eq_of_length_le (by simp; omega)]
   simp
  rw [e] at h2
  exact h2
theorem Ri.holds {base : Nat} {ok : Nat → Prop} {G c : Nat} {L : List Int} {w : World} (hR : Ki.R 2 w base ok (.slice (some ⟨G, 0, none⟩) L.length c) L) : Holds (Value.int .i64) w G 0 L.toArray := fun j hj => by
 have h := Kd.R_celln (0 : Int) hR (j : Int) (by omega) (by simpa using hj)
 rw [Int.toNat_natCast] at h
 have hj2 : j < L.length := by simpa using hj
 have e : rdOf (0 : Int) L (j : Int) = L.toArray[j]! := by simp [rdOf, hj2]
 rw [e] at h
 simpa using h
set_option maxHeartbeats 1000000 in
theorem SortI_calls {base : Nat} {ok : Nat → Prop} (v : Value) (L : List Int) (w : World) (hR : Ki.R 2 w base ok v L) (hbase : base ≤ w.heap.size) (hl : L.length ≤ 1000000000) :
  Calls Try.prog 102 #[v] w fun e w' => e = .returned (.tuple #[]) ∧ Ki.R 2 w' base ok v (L.mergeSort fun x y => decide (x ≤ y)) ∧ Below base w w' := by
 by_cases h0 : L.length = 0
 ·obtain ⟨A, c, rfl, hc, _⟩ := Kd.R_reads hR
  obtain rfl : L = [] := List.length_eq_zero_iff.1 h0
  refine (show Calls Try.prog 102 _ _ _ from AnyM.slices_Sort_int_none SortI A c w).mono ?_
  rintro e w' ⟨rfl, rfl⟩
  exact ⟨rfl, by rw [List.mergeSort_nil]; exact hR, Below.mono (Below.refl _ _) hbase⟩
 ·obtain ⟨G, c, rfl, hb, hG, _⟩ := Kd.R_form hR (by omega)
  have hH := Ri.holds hR
  refine (show Calls Try.prog 102 _ _ _ from AnyM.slices_Sort_int SortI G 0 c L w hH hG (by omega)).mono ?_
  rintro e w' ⟨rfl, n, os, rfl⟩
  have hw := Lib.sorted_world (Value.int .i64) w G 0 n L.toArray (L.mergeSort fun x y => decide (x ≤ y)) os hH (by simp)
  have hr := Ri.put_all (L.mergeSort fun x y => decide (x ≤ y)) 0 (w.drewN n) L (by simp) (Kd.R_drewN hR n)
  rw [List.take_zero, List.nil_append] at hr
  refine ⟨rfl, ?_, ?_⟩
  ·rw [hw]
   exact Kd.R_below hr (below_growI _ _)
  ·rw [hw]
   have h1 : Below base w ((w.drewN n).setCells G 0 ((L.mergeSort fun x y => decide (x ≤ y)).map (Value.int .i64))) := below_setCells hb _ _ _ (Below.mono (pw_below_drewN (Below.refl _ _) n) (by omega))
   exact Below.trans h1 (Below.mono (below_growI _ _) (Nat.le_trans (by omega) h1.size))
set_option maxHeartbeats 1000000 in
theorem CompI_calls {base : Nat} {ok : Nat → Prop} (v : Value) (L : List Int) (w : World) (hR : Ki.R 2 w base ok v L) (hbase : base ≤ w.heap.size) (hl : L.length ≤ 1000000000) :
  Calls Try.prog 103 #[v] w fun e w' => ∃ v', e = .returned v' ∧ Ki.R 2 w' base ok v' (Lib.compact L) ∧ Below base w w' := by
 by_cases h0 : L.length = 0
 ·obtain ⟨A, c, rfl, hc, _⟩ := Kd.R_reads hR
  obtain rfl : L = [] := List.length_eq_zero_iff.1 h0
  refine (show Calls Try.prog 103 _ _ _ from AnyG.slices_Compact_int_empty CompI A c w).mono ?_
  rintro e w' ⟨rfl, rfl⟩
  exact ⟨_, rfl, hR, Below.mono (Below.refl _ _) hbase⟩
 ·obtain ⟨A, c, hv, hc, _⟩ := Kd.R_reads hR
  subst hv
  obtain ⟨G, cc, eo, hb, hG, _⟩ := Kd.R_form hR (by omega)
  injection eo with ea en ec
  subst ea
  have hH := Ri.holds hR
  have hcl := Lib.compact_length_le L
  refine (show Calls Try.prog 103 _ _ _ from AnyG.slices_Compact_int CompI G 0 c L w hH (by omega) hc).mono ?_
  rintro e w' ⟨rfl, n, rfl⟩
  have hlen : (Lib.compact L ++ List.replicate (L.length - (Lib.compact L).length) 0).length = L.length := by simp; omega
  have hw := Lib.putRow_eq_setCells (Value.int .i64) w G 0 L.toArray (Lib.compact L ++ List.replicate (L.length - (Lib.compact L).length) 0) n hH (by simpa using hlen)
  have hr := Ri.put_all (Lib.compact L ++ List.replicate (L.length - (Lib.compact L).length) 0) 0 (w.drewN n) L (by rw [hlen]; omega) (Kd.R_drewN hR n)
  rw [List.take_zero, List.nil_append] at hr
  have ht := Kd.R_take hr (m := (Lib.compact L).length) (by omega)
  rw [List.take_left] at ht
  refine ⟨_, rfl, ?_, ?_⟩
  ·rw [hw]
   exact ht
  ·rw [hw]
   exact below_setCells hb _ _ _ (Below.mono (pw_below_drewN (Below.refl _ _) n) (by omega))

end Go.Proofs.Ytniikppojffiaaa.K
end

section
/- CriticalValues: the program's. -/
namespace Go.Proofs.Ytniikppojffiaaa.K
open Go.RowKit Go.Shelf Go.Proofs.Ytniikppojffiaaa.Q Go.Proofs.YtniikppojffiaaaW.PrintWords Go.Proofs.YtniikppojffiaaaW.PrintLast Go.Proofs.YtniikppojffiaaaW.PrintMore
set_option linter.unusedVariables false
set_option linter.unusedSimpArgs false

set_option maxRecDepth 100000 in
set_option maxHeartbeats 8000000 in
theorem CritV_calls (n : Int) (A : Option Addr) (c : Nat) (l : List Int) (A2 : Option Addr) (c2 : Nat) (xs : List Int) (w : World) (hk : Kx w A c l) (hx : Ki.C w A2 xs.length xs) (hc2 : xs.length ≤ c2) (hx2 : xs.length ≤ 2097152) :
  Calls Try.prog 58 #[.agg #[I n, .slice A l.length c], .slice A2 xs.length c2] w fun e w' => ∃ v, e = .returned (.tuple #[v, I (mcode n l (funB l xs) (morseB l xs))]) ∧ Ki.R 2 w' w.heap.size (fun _ => True) v (critVA n l xs) ∧ Grew w w' := by
 have hB : CB (w.alloc (.cells #[I n, .slice A l.length c] 30)) w.heap.size n (.slice A l.length c) := blk_new w _
 have HG : Aside0 (Grew w (w.alloc (.cells #[I n, .slice A l.length c] 30))) := ⟨below_alloc (Grew.refl w) _⟩
 have HC := Aside0.mk (mcode_one n A c l A2 c2 xs w hk hx hc2 hx2)
 have HK := Aside0.mk hk
 have HX := Aside0.mk hx
 have HC2 := Aside0.mk hc2
 have HB := Aside0.mk hB
 have hc := hk.c
 have k0 := hB.c0
 have k1 := hB.c1
 clear hk hx hc2 hB
 by_cases hz : mcode n l (funB l xs) (morseB l xs) = 0
 ·obtain ⟨hi, hb, hm⟩ := mcode_zero hz
  have HV : Aside0 (critVA n l xs = Lib.compact (((critL l (fallL l xs)).map (atV l xs)).mergeSort fun x y => decide (x ≤ y))) := ⟨by unfold critVA; rw [if_pos hz]; rfl⟩
  have HA : Aside0 (∀ W, Grew w W → Calls Try.prog 98 #[.agg #[I n, .slice A l.length c], .slice A2 xs.length c2] W fun e w' => ∃ b, e = .returned (.map (some b)) ∧ W.heap.size ≤ b ∧ (∃ m, IntM w' b m (atV l xs)) ∧ Grew W w') := ⟨fun W hW => values_calls A c hi A2 c2 hb W (HK.out.later hW) (Kd.C_below HX.out hW) HC2.out⟩
  have HFA : Aside0 (∀ W, Grew w W → Calls Try.prog 94 #[.agg #[I n, .slice A l.length c], .slice A2 xs.length c2] W fun e w' => ∃ v, e = .returned v ∧ Kq.R 53 w' W.heap.size (fun _ => True) v (fallL l xs) ∧ Grew W w') := ⟨fun W hW => falling_calls A c hi A2 c2 hb W (HK.out.later hW) (Kd.C_below HX.out hW) HC2.out⟩
  have h63 := (isC_faces hi).2.2.2
  have HCR : Aside0 (∀ A3 c3 W, Grew w W → Kq.C W A3 (fallL l xs).length (fallL l xs) → (fallL l xs).length ≤ c3 → Calls Try.prog 69 #[.agg #[I n, .slice A l.length c], .slice A3 (fallL l xs).length c3] W fun e w' => ∃ v, e = .returned v ∧ Ki.R 2 w' W.heap.size (fun _ => True) v (critL l (fallL l xs)) ∧ Grew W w') := ⟨fun A3 c3 W hW h1 h2 => critical_calls n A c l A3 c3 (fallL l xs) W (HK.out.later hW) (by omega) h1 h2⟩
  have HRG : Aside0 (∀ x ∈ critL l (fallL l xs), 1 ≤ x ∧ x ≤ 63) := ⟨fun x hx => range63 hi x (List.mem_filter.1 hx).1⟩
  have HCL := Aside0.mk (crit_short hi (fallL l xs))
  rw [HV.out, hz]
  rw [hz] at HC
  clear hz hi hb hm HV h63
  generalize critL l (fallL l xs) = cs at HCR HRG HCL ⊢
  generalize fallL l xs = q at HFA HCR
  go_enter Try.func58, Try.ntmps58
  go_wp2_with fail
  refine HC.out.mono ?_
  rintro e w1 ⟨rfl, hG1⟩
  have HB1 := Aside0.mk (CB.later (blk_alloc HB.out _) hG1)
  have HG1 := Aside0.mk (Grew.trans (below_alloc HG.out _) hG1)
  clear hG1 k0 k1
  have k0 := HB1.out.c0
  have k1 := HB1.out.c1
  go_wp2_with fail
  refine (HA.out _ HG1.out).mono ?_
  rintro e w2 ⟨b, rfl, hb, ⟨m, hS⟩, hG2⟩
  have HB2 := Aside0.mk (CB.later HB1.out hG2)
  have HG2 := Aside0.mk (Grew.trans HG1.out hG2)
  have HLK : Aside0 (∀ W, Grew w2 W → ∀ x, 1 ≤ x ∧ x ≤ 63 → (Instr.lookup TMapI (.map (some b)) (I x) false).run Try.prog W = .ok (I (atV l xs x)) W) := ⟨fun W hW x hx => (hS.later hW).look x (wf_face hx.1 hx.2)⟩
  clear hG2 hS hb k0 k1
  have k0 := HB2.out.c0
  have k1 := HB2.out.c1
  have hl0 := World.block_lt_of_cell? w2 _ k0
  go_wp2_with fail
  refine start_ (n := 7) (S := fun w' => w'.cell? ⟨w.heap.size, 0, none⟩ = some (I n) ∧ w'.cell? ⟨w.heap.size, 1, none⟩ = some (.slice A l.length c)) (ds := []) (ar 0 7) (by kernel_rfl) rfl rfl ⟨(Below.cell (w := w2) (below_drew (Grew.refl w2)) (p := ⟨w.heap.size, 0, none⟩) hl0).trans k0, (Below.cell (w := w2) (below_drew (Grew.refl w2)) (p := ⟨w.heap.size, 1, none⟩) hl0).trans k1⟩ (fun hHeld => ?_)
  refine pure_ (i := 2) (N := some 23) (v := ?_) (a' := ?_) #[O,O,U,O,O,O,O] rfl rfl (by kernel_rfl) (fun _ _ _ h => h) (Or.inl ⟨by rfl, ?_⟩) ?_ ?_; rotate_left; (intro w'; go_simp; with_reducible rfl); rotate_left; · simp only [nm_]; rfl
  refine pure_ (i := 6) (N := some 27) (v := ?_) (a' := ?_) #[O,O,U,O,O,O,U] rfl rfl (by kernel_rfl) (fun _ _ _ h => h) (Or.inl ⟨by rfl, ?_⟩) ?_ ?_; rotate_left; (intro w'; go_simp; with_reducible rfl); rotate_left; · simp only [nm_]; rfl
  refine take_ (i := 0) (N := some 21) (v := ?_) (a' := ?_) #[U,O,U,O,O,O,U] rfl rfl (by kernel_rfl) (fun _ _ _ h => h) (Or.inl ⟨by rfl, ?_⟩) hHeld ?_ ?_
  rotate_left; · rintro w' ⟨s0, s1⟩; go_simp; with_reducible rfl
  rotate_left; · simp only [nm_]; rfl
  refine take_ (i := 1) (N := some 22) (v := ?_) (a' := ?_) #[U,U,U,O,O,O,U] rfl rfl (by kernel_rfl) (fun _ _ _ h => h) (Or.inl ⟨by rfl, ?_⟩) hHeld ?_ ?_
  rotate_left; · rintro w' ⟨s0, s1⟩; go_simp; with_reducible rfl
  rotate_left; · simp only [nm_]; rfl
  refine one_ (i := 3) (N := some 24) #[U,U,U,U,O,O,U] rfl rfl (by kernel_rfl) (by decide) (fun K hK => ?_)
  refine goes_ Try.func94 (by kernel_rfl) rfl #[.agg #[I n, .slice A l.length c], .slice A2 xs.length c2] (by rfl) rfl rfl (by simp only [List.map_toArray, List.map_cons, List.map_nil]; rfl) ?_
  with_reducible refine (HFA.out _ (Grew.trans HG2.out (below_drew (Grew.refl w2)))).mono ?_
  rintro e w3 ⟨v3, rfl, hR3, hGa⟩
  refine ⟨_, rfl, ?_⟩
  have HL := Aside0.mk (Grew.trans (below_drew (Grew.refl w2)) hGa)
  obtain ⟨A3, c3, hv3, hc3, hC3⟩ := Kd.R_reads hR3
  subst hv3
  have HR3 := Aside0.mk hC3
  have HC3 := Aside0.mk hc3
  clear hR3 hGa hC3 hc3
  refine hK.out _ _ ⟨(Below.cell (w := w2) HL.out (p := ⟨w.heap.size, 0, none⟩) hl0).trans k0, (Below.cell (w := w2) HL.out (p := ⟨w.heap.size, 1, none⟩) hl0).trans k1⟩ (fun hHeld => ?_)
  clear hK K
  refine norm_ (a' := ?_) ?_ ?_
  rotate_left
  ·show Act.put _ (some 24) _ = _
   simp only [nm_]
   rfl
  refine one_ (i := 4) (N := some 25) #[U,U,U,U,U,O,U] rfl rfl (by kernel_rfl) (by decide) (fun K hK => ?_)
  refine goes_ Try.func69 (by kernel_rfl) rfl #[.agg #[I n, .slice A l.length c], .slice A3 q.length c3] (by rfl) rfl rfl (by simp only [List.map_toArray, List.map_cons, List.map_nil]; rfl) ?_
  with_reducible refine (HCR.out A3 c3 _ (Grew.trans HG2.out HL.out) HR3.out HC3.out).mono ?_
  rintro e w4 ⟨v4, rfl, hR4, hGb⟩
  refine ⟨_, rfl, ?_⟩
  replace HL := Aside0.mk (Grew.trans HL.out hGb)
  obtain ⟨A4, c4, hv4, hc4, hC4⟩ := Kd.R_reads hR4
  subst hv4
  have HR4 := Aside0.mk hC4
  have HC4 := Aside0.mk hc4
  clear hR4 hGb hC4 hc4
  refine hK.out _ _ ⟨(Below.cell (w := w2) HL.out (p := ⟨w.heap.size, 0, none⟩) hl0).trans k0, (Below.cell (w := w2) HL.out (p := ⟨w.heap.size, 1, none⟩) hl0).trans k1⟩ (fun hHeld => ?_)
  clear hK K
  refine norm_ (a' := ?_) ?_ ?_
  rotate_left
  ·show Act.put _ (some 25) _ = _
   simp only [nm_]
   rfl
  refine pure_ (i := 5) (N := some 26) (v := ?_) (a' := ?_) (ar 7 0) rfl rfl (by kernel_rfl) (fun _ _ _ h => h) (Or.inl ⟨by rfl, ?_⟩) ?_ ?_; rotate_left; (intro w'; go_simp; with_reducible rfl); rotate_left; · simp only [nm_]; rfl
  refine done_ (by kernel_rfl) ?_
  have hcl := HC4.out
  have HG4 := Aside0.mk (Grew.trans HG2.out HL.out)
  clear k0 k1 hl0
  go_wp2_with fail
  go_loopg [8, 27] cs.length (fun gg s8 s27 wr => ∃ kk : Nat, kk ≤ cs.length ∧ cs.length - kk ≤ gg ∧ s27 = .int .i64 kk ∧ (∃ A c, s8 = .slice A kk c ∧ Aside0 (Ki.R 2 wr w4.heap.size (fun _ => True) (.slice A kk c) ((cs.take kk).map (atV l xs)))) ∧ Aside0 (Grew w4 wr))
  case atStart => exact ⟨0, Nat.zero_le _, by omega, rfl, ⟨none, 0, rfl, ⟨Kd.R_nil _ _ _ _ _⟩⟩, ⟨Grew.refl w4⟩⟩
  case round =>
   obtain ⟨kk, hkk, hg, rfl, ⟨A5, c5, rfl, HR⟩, HGr⟩ := hrel
   by_cases hlt : kk < cs.length
   ·have hltz : (kk : Int) < (cs.length : Int) := by omega
    obtain ⟨ad, e0, hx⟩ := Kd.at_int (Kd.C_below HR4.out HGr.out) (kk : Int) (by omega) (by omega)
    cases e0
    have hrd : rd cs (kk : Int) = cs[kk] := by simp [rd, hlt]
    rw [hrd, Int.toNat_natCast] at hx
    have hxr := HRG.out _ (List.getElem_mem hlt)
    obtain ⟨y, hy⟩ : ∃ y, y = cs[kk] := ⟨_, rfl⟩
    rw [← hy] at hx hxr
    have HN : Aside0 ((cs.take (kk + 1)).map (atV l xs) = (cs.take kk).map (atV l xs) ++ [atV l xs y]) := ⟨by rw [List.take_succ_eq_append_getElem hlt, List.map_append, hy]; rfl⟩
    have HLk : Aside0 (((cs.take kk).map (atV l xs)).length = kk) := ⟨by simp; omega⟩
    have hlk := HLK.out wr (Grew.trans HL.out HGr.out) y hxr
    have HCS := Aside0.mk HCL.out
    clear hrd hy
    generalize (cs.take kk).map (atV l xs) = L at HR HN HLk
    generalize atV l xs y = z at hlk HN
    have hLk := HLk.out
    subst hLk
    have hcs := HCS.out
    go_wp2_with (at_builtin; refine append_int w4.heap.size rfl (.tmp 31) (.tmp 35) rfl _ L z rfl rfl HR.out HGr.out.size (by omega) ?_; intro A6 c6 w6 hR6 hB6 hg6; have HR6 := Aside0.mk hR6; have HG6 : Aside0 (Below w4.heap.size w4 w6) := ⟨Below.trans HGr.out hB6⟩; clear hR6 hB6 hg6)
    go_roundg (cs.length - (L.length + 1))
    case measure => omega
    case rel => exact ⟨L.length + 1, by omega, by omega, by go_num, ⟨A6, c6, rfl, ⟨by rw [HN.out]; exact HR6.out⟩⟩, HG6⟩
   ·obtain rfl : kk = cs.length := by omega
    have hltz : ¬ (cs.length : Int) < (cs.length : Int) := by omega
    have HT : Aside0 ((cs.take cs.length).map (atV l xs) = cs.map (atV l xs)) := ⟨by rw [List.take_length]⟩
    have HCS := HCL.out
    have hmz : (cs.map (atV l xs)).length ≤ 1000000000 := by simp; omega
    rw [HT.out] at HR
    have HSO := Aside0.mk (SortI_calls _ _ wr HR.out HGr.out.size hmz)
    have hsz : ((cs.map (atV l xs)).mergeSort fun x y => decide (x ≤ y)).length ≤ 1000000000 := by rw [List.length_mergeSort]; exact hmz
    have HSZ := Aside0.mk hsz
    clear HR HT hmz hsz
    obtain ⟨so, hso⟩ : ∃ so, so = ((cs.map (atV l xs)).mergeSort fun x y => decide (x ≤ y)) := ⟨_, rfl⟩
    have HSOE := Aside0.mk hso
    rw [← hso] at HSO HSZ
    clear hso
    go_wp2_with fail
    refine HSO.out.mono ?_
    rintro e w7 ⟨rfl, hR7, hG7⟩
    have HG7 := Aside0.mk (Below.trans HGr.out hG7)
    have HCO := Aside0.mk (CompI_calls _ _ w7 hR7 HG7.out.size HSZ.out)
    clear hR7 hG7
    go_wp2_with fail
    refine HCO.out.mono ?_
    rintro e w8 ⟨v8, rfl, hR8, hG8⟩
    go_wp2_with fail
    go_ret2
    have hR9 := Kd.R_lower hR8 HG4.out.size
    rw [HSOE.out] at hR9
    exact ⟨_, rfl, hR9, Grew.trans HG4.out (Below.trans HG7.out hG8)⟩
 ·have HV : Aside0 (critVA n l xs = []) := ⟨by unfold critVA; rw [if_neg hz]⟩
  rw [HV.out]
  clear HV
  generalize mcode n l (funB l xs) (morseB l xs) = cc at HC hz ⊢
  go_enter Try.func58, Try.ntmps58
  go_wp2_with fail
  refine HC.out.mono ?_
  rintro e w1 ⟨rfl, hG1⟩
  have HG1 := Aside0.mk (Grew.trans (below_alloc HG.out _) hG1)
  clear hG1 k0 k1
  go_wp2_with fail
  go_ret2
  exact ⟨_, rfl, Kd.R_nil _ _ _ _ _, HG1.out⟩

end Go.Proofs.Ytniikppojffiaaa.K
end

section
/- l04Put and CriticalValues, the reference's, by hand. -/
namespace Go.Proofs.Ytniikppojffiaaa.K
open Go.RowKit Go.Shelf Go.Proofs.Ytniikppojffiaaa.Q Go.Proofs.YtniikppojffiaaaW.PrintWords Go.Proofs.YtniikppojffiaaaW.PrintLast Go.Proofs.YtniikppojffiaaaW.PrintMore
set_option linter.unusedVariables false
set_option linter.unusedSimpArgs false

theorem Ri.one (w : World) (base : Nat) (n : Int) (hb : base ≤ w.heap.size) : Ki.R 2 (w.alloc (.cells #[I n] 2)) base (fun _ => True) (.slice (some ⟨w.heap.size, 0, none⟩) 1 1) [n] := by
 have := own_lit w base 2 .i64 [n] hb (by simp)
 exact Kd.R_of_own (enc := Value.int .i64) (h1 := fun _ => rfl) this (fun _ _ => trivial)
set_option maxRecDepth 100000 in
set_option maxHeartbeats 4000000 in
theorem Put_calls {base : Nat} (v : Value) (L1 L2 : List Int) (n : Int) (w : World) (hR : Ki.R 2 w base (fun _ => True) v (L1 ++ L2)) (hbase : base ≤ w.heap.size) (hl : (L1 ++ L2).length ≤ 1000) (h1 : ∀ x ∈ L1, x < n) (h2 : ∀ x ∈ L2, n ≤ x) :
  Calls Try.prog 100 #[v, I n] w fun e w' => ∃ v', e = .returned v' ∧ Ki.R 2 w' base (fun _ => True) v' (putL (L1 ++ L2) n) ∧ Below base w w' := by
 obtain ⟨A, c, hv, hc, hC⟩ := Kd.R_reads hR
 subst hv
 have HR := Aside0.mk hR
 have HC := Aside0.mk hC
 have HL1 := Aside0.mk h1
 have HL2 := Aside0.mk h2
 have HT : Aside0 ((L1 ++ L2).take L1.length = L1) := ⟨List.take_left⟩
 have HD : Aside0 ((L1 ++ L2).drop L1.length = L2) := ⟨List.drop_left⟩
 have HLEN : Aside0 ((L1 ++ L2).length = L1.length + L2.length) := ⟨List.length_append⟩
 have hle : L1.length ≤ (L1 ++ L2).length := by rw [List.length_append]; omega
 have HG : Aside0 ((∀ j, L1.length ≤ j → j < (L1 ++ L2).length → n ≤ rd (L1 ++ L2) (j : Int)) ∧ (∀ j, j < L1.length → rd (L1 ++ L2) (j : Int) < n)) := ⟨fun j hj hj2 => by
   rw [rd_nat _ _ hj2, List.getElem_append_right hj]
   exact h2 _ (List.getElem_mem _), fun j hj => by
   rw [rd_nat _ _ (by omega), List.getElem_append_left hj]
   exact h1 _ (List.getElem_mem _)⟩
 have HPN : Aside0 (L1.length = (L1 ++ L2).length → putL (L1 ++ L2) n = L1 ++ [n] ∧ L2 = []) := ⟨fun h => by
  obtain rfl : L2 = [] := List.length_eq_zero_iff.1 (by rw [List.length_append] at h; omega)
  rw [List.append_nil]
  exact ⟨putL_nil n L1 h1, rfl⟩⟩
 have HPC : Aside0 (L1.length < (L1 ++ L2).length → putL (L1 ++ L2) n = if rd (L1 ++ L2) (L1.length : Int) = n then L1 ++ L2 else L1 ++ n :: L2) := ⟨fun h => by
  obtain ⟨a, L3, rfl⟩ : ∃ a L3, L2 = a :: L3 := by
   cases L2 with
   | nil => simp at h
   | cons a L3 => exact ⟨a, L3, rfl⟩
  have hrd : rd (L1 ++ a :: L3) (L1.length : Int) = a := by rw [rd_nat _ _ h]; simp
  rw [hrd, putL_cons n a L3 (h2 a List.mem_cons_self) L1 h1]⟩
 obtain ⟨L, hL⟩ : ∃ L, L = L1 ++ L2 := ⟨_, rfl⟩
 obtain ⟨k, hk⟩ : ∃ k, k = L1.length := ⟨_, rfl⟩
 rw [← hL] at hc hl HR HC HT HD HLEN hle HG HPN HPC ⊢
 rw [← hk] at HT HD hle HG HPN HPC
 have HK := Aside0.mk hk
 clear hR hC h1 h2 HL1 HL2 hL hk
 go_enter Try.func100, Try.ntmps100
 go_wp2_with fail
 go_loopg [5] L.length (fun gg s5 wr => ∃ j : Nat, k ≤ j ∧ j ≤ L.length ∧ j ≤ gg ∧ s5 = .int .i64 j ∧ wr = w)
 case atStart => exact ⟨L.length, hle, Nat.le_refl _, by omega, rfl, rfl⟩
 case round =>
  obtain ⟨j, hj1, hj2, hgg, rfl, rfl⟩ := hrel
  by_cases hlt : k < j
  ·obtain ⟨m, rfl⟩ : ∃ m, j = m + 1 := ⟨j - 1, by omega⟩
   have HWJ : Aside0 (wrap64 (m : Int) = (m : Int)) := ⟨by unfold wrap64; omega⟩
   have hj0 : 0 ≤ (m : Int) := by omega
   have hjp : (0 : Int) < ((m + 1 : Nat) : Int) := by omega
   have hm1 : ((m + 1 : Nat) : Int) - 1 = (m : Int) := by omega
   have hml : (m : Int) < (L.length : Int) := by omega
   obtain ⟨ad, e0, hx⟩ := Kd.at_int HC.out (m : Int) (by omega) (by omega)
   cases e0
   have hge := HG.out.1 m (by omega) (by omega)
   rw [Int.toNat_natCast] at hx
   generalize rd L (m : Int) = y at hx hge
   have hwj := HWJ.out
   go_wp2_with fail
   go_roundg m
   case measure => omega
   case rel => exact ⟨m, by omega, by omega, by omega, by go_num, rfl⟩
  ·obtain rfl : j = k := by omega
   clear hj1 hlt
   by_cases hkl : j < L.length
   ·have hklz : (j : Int) < (L.length : Int) := by omega
    obtain ⟨ad0, e00, hx0⟩ := Kd.at_int HC.out (j : Int) (by omega) (by omega)
    cases e00
    rw [Int.toNat_natCast] at hx0
    have HP := Aside0.mk (HPC.out hkl)
    generalize rd L (j : Int) = y0 at hx0 HP
    clear HPN HPC
    by_cases hyn : y0 = n
    ·have HP2 : Aside0 (putL L n = L) := ⟨by rw [HP.out, if_pos hyn]⟩
     have HYN := Aside0.mk hyn
     have hynb : (y0 == n) = true := by simpa using hyn
     clear hyn
     rcases Nat.eq_zero_or_pos j with hk0 | hkp
     ·have hj0d : decide (0 < j) = false := decide_eq_false (by omega)
      have HJ0 := Aside0.mk hk0
      clear hk0
      go_wp2_with fail
      go_ret
      exact ⟨_, rfl, by rw [HP2.out]; exact HR.out, Below.refl _ _⟩
     ·obtain ⟨m, HM⟩ : ∃ m, Aside0 (j = m + 1) := ⟨j - 1, ⟨by omega⟩⟩
      have HWJ : Aside0 (wrap64 (m : Int) = (m : Int)) := ⟨by have := HM.out; unfold wrap64; omega⟩
      have hj0 : 0 ≤ (m : Int) := by omega
      have hjpd : decide (0 < j) = true := decide_eq_true hkp
      have hm1 : (j : Int) - 1 = (m : Int) := by have := HM.out; omega
      have hml : (m : Int) < (L.length : Int) := by have := HM.out; omega
      obtain ⟨ad, e0, hx⟩ := Kd.at_int HC.out (m : Int) (by omega) (by have := HM.out; omega)
      cases e0
      have hlo := HG.out.2 m (by have := HM.out; omega)
      rw [Int.toNat_natCast] at hx
      generalize rd L (m : Int) = y at hx hlo
      have hng : ¬ y ≥ n := by omega
      have hng2 : decide (y ≥ n) = false := decide_eq_false hng
      have hng3 : decide (n ≤ y) = false := decide_eq_false hng
      have hwj := HWJ.out
      go_wp2_with fail
      go_ret
      exact ⟨_, rfl, by rw [HP2.out]; exact HR.out, Below.refl _ _⟩
    ·have HP2 : Aside0 (putL L n = L1 ++ n :: L2) := ⟨by rw [HP.out, if_neg hyn]⟩
     have hynb : (y0 == n) = false := by simpa using hyn
     rcases Nat.eq_zero_or_pos j with hk0 | hkp
     ·have hj0d : decide (0 < j) = false := decide_eq_false (by omega)
      have HJ0 := Aside0.mk hk0
      clear hk0
      have HO := Aside0.mk (Ri.one wr base n hbase)
      have HRW := Aside0.mk (Kd.R_alloc HR.out (.cells #[I n] 2))
      have HDC : Aside0 (Ki.C (wr.alloc (.cells #[I n] 2)) (some (ad0.add j)) (L.drop j).length (L.drop j)) := ⟨by have h := Kd.C_drop (Kd.R_reads' HRW.out).2.2 (m := j) (by omega) hc; rw [if_neg (by omega)] at h; simpa [show Ki.sz = 1 from rfl] using h⟩
      have HDL : Aside0 ((L.drop j).length = L.length - j) := ⟨List.length_drop⟩
      have HTL : Aside0 ((L.take j).length = j) := ⟨by rw [List.length_take]; omega⟩
      have HNB : Aside0 ((Value.slice (some ⟨wr.heap.size, 0, none⟩) 1 1).ownBlock ≠ (Value.slice (some ad0) L.length c).ownBlock) := ⟨fun h => absurd (Kd.R_lt HR.out wr.heap.size (h ▸ by simp [Value.ownBlock])) (by omega)⟩
      have HBW := Aside0.mk (Below.mono (below_alloc (Below.refl _ wr) (.cells #[I n] 2)) hbase)
      have hbs : base ≤ (wr.alloc (.cells #[I n] 2)).heap.size := by simp; omega
      go_wp2_with (at_builtin; refine append_ints base rfl (.tmp 36) (.tmp 39) rfl _ [n] (L.drop j) (some (ad0.add j)) (c - j) rfl (by first | (rw [HDL.out]; rfl) | (rw [show (L.drop j).length = 0 by rw [List.length_drop]; omega]; rfl)) HO.out HDC.out hbs (by simp; omega) ?_; intro A3 c3 w3 hR3 hB3 hg3; have HR3 := Aside0.mk hR3; have HB3 := Aside0.mk (Below.trans HBW.out hB3); have HL3 := Aside0.mk (Kd.R_grown1 HRW.out rfl hg3 HNB.out); clear hR3 hB3 hg3)
      have HTK := Aside0.mk (Kd.R_take HL3.out (m := j) (by omega))
      have HOW := Aside0.mk (spec_l01Own.calls (some ad0) c (L.take j) (L.take j) w3 (Kd.R_reads' HTK.out).2.2 (by rw [HTL.out]; omega) (own_is _ (by rw [HTL.out]; omega)))
      rw [HTL.out] at HOW
      refine HOW.out.mono ?_
      rintro e w5 ⟨v5, rfl, hR5, hB5⟩
      have hb3 := HB3.out.size
      have HR5 := Aside0.mk (Kd.R_lower hR5 (Nat.le_trans hbase hb3))
      have HR3b := Aside0.mk (Kd.R_below HR3.out hB5)
      have HB5 := Aside0.mk (Below.trans HB3.out (Below.mono hB5 (Nat.le_trans hbase hb3)))
      have HC3 := Aside0.mk (Kd.R_reads' HR3b.out).2.2
      have hb5 := HB5.out.size
      clear hR5 hB5
      go_wp2_with (at_builtin; refine append_ints base rfl (.tmp 44) (.tmp 45) rfl _ (L.take j) ([n] ++ L.drop j) A3 c3 rfl (by first | (rw [show ([n] ++ L.drop j).length = 1 + (L.length - j) by simp; omega]; rfl) | (rw [show ([n] ++ L.drop j).length = 1 by simp; omega]; rfl)) HR5.out HC3.out (Nat.le_trans hbase hb5) (by simp; omega) ?_; intro A7 c7 w7 hR7 hB7 hg7; have HR7 := Aside0.mk hR7; have HB7 := Aside0.mk (Below.trans HB5.out hB7); clear hR7 hB7 hg7)
      go_ret
      exact ⟨_, rfl, by rw [HP2.out, ← HT.out, ← HD.out]; have := HR7.out; first | (simpa [HTL.out, HDL.out] using this) | (have e0 : L.length - j = 0 := (by omega); simpa [HTL.out, HDL.out, e0] using this), HB7.out⟩
     ·obtain ⟨m, HM⟩ : ∃ m, Aside0 (j = m + 1) := ⟨j - 1, ⟨by omega⟩⟩
      have HWJ : Aside0 (wrap64 (m : Int) = (m : Int)) := ⟨by have := HM.out; unfold wrap64; omega⟩
      have hj0 : 0 ≤ (m : Int) := by omega
      have hjpd : decide (0 < j) = true := decide_eq_true hkp
      have hm1 : (j : Int) - 1 = (m : Int) := by have := HM.out; omega
      have hml : (m : Int) < (L.length : Int) := by have := HM.out; omega
      obtain ⟨ad, e0, hx⟩ := Kd.at_int HC.out (m : Int) (by omega) (by have := HM.out; omega)
      cases e0
      have hlo := HG.out.2 m (by have := HM.out; omega)
      rw [Int.toNat_natCast] at hx
      generalize rd L (m : Int) = y at hx hlo
      have hng : ¬ y ≥ n := by omega
      have hng2 : decide (y ≥ n) = false := decide_eq_false hng
      have hng3 : decide (n ≤ y) = false := decide_eq_false hng
      have hwj := HWJ.out
      have HO := Aside0.mk (Ri.one wr base n hbase)
      have HRW := Aside0.mk (Kd.R_alloc HR.out (.cells #[I n] 2))
      have HDC : Aside0 (Ki.C (wr.alloc (.cells #[I n] 2)) (some (ad0.add j)) (L.drop j).length (L.drop j)) := ⟨by have h := Kd.C_drop (Kd.R_reads' HRW.out).2.2 (m := j) (by omega) hc; rw [if_neg (by omega)] at h; simpa [show Ki.sz = 1 from rfl] using h⟩
      have HDL : Aside0 ((L.drop j).length = L.length - j) := ⟨List.length_drop⟩
      have HTL : Aside0 ((L.take j).length = j) := ⟨by rw [List.length_take]; omega⟩
      have HNB : Aside0 ((Value.slice (some ⟨wr.heap.size, 0, none⟩) 1 1).ownBlock ≠ (Value.slice (some ad0) L.length c).ownBlock) := ⟨fun h => absurd (Kd.R_lt HR.out wr.heap.size (h ▸ by simp [Value.ownBlock])) (by omega)⟩
      have HBW := Aside0.mk (Below.mono (below_alloc (Below.refl _ wr) (.cells #[I n] 2)) hbase)
      have hbs : base ≤ (wr.alloc (.cells #[I n] 2)).heap.size := by simp; omega
      go_wp2_with (at_builtin; refine append_ints base rfl (.tmp 36) (.tmp 39) rfl _ [n] (L.drop j) (some (ad0.add j)) (c - j) rfl (by first | (rw [HDL.out]; rfl) | (rw [show (L.drop j).length = 0 by rw [List.length_drop]; omega]; rfl)) HO.out HDC.out hbs (by simp; omega) ?_; intro A3 c3 w3 hR3 hB3 hg3; have HR3 := Aside0.mk hR3; have HB3 := Aside0.mk (Below.trans HBW.out hB3); have HL3 := Aside0.mk (Kd.R_grown1 HRW.out rfl hg3 HNB.out); clear hR3 hB3 hg3)
      have HTK := Aside0.mk (Kd.R_take HL3.out (m := j) (by omega))
      have HOW := Aside0.mk (spec_l01Own.calls (some ad0) c (L.take j) (L.take j) w3 (Kd.R_reads' HTK.out).2.2 (by rw [HTL.out]; omega) (own_is _ (by rw [HTL.out]; omega)))
      rw [HTL.out] at HOW
      refine HOW.out.mono ?_
      rintro e w5 ⟨v5, rfl, hR5, hB5⟩
      have hb3 := HB3.out.size
      have HR5 := Aside0.mk (Kd.R_lower hR5 (Nat.le_trans hbase hb3))
      have HR3b := Aside0.mk (Kd.R_below HR3.out hB5)
      have HB5 := Aside0.mk (Below.trans HB3.out (Below.mono hB5 (Nat.le_trans hbase hb3)))
      have HC3 := Aside0.mk (Kd.R_reads' HR3b.out).2.2
      have hb5 := HB5.out.size
      clear hR5 hB5
      go_wp2_with (at_builtin; refine append_ints base rfl (.tmp 44) (.tmp 45) rfl _ (L.take j) ([n] ++ L.drop j) A3 c3 rfl (by first | (rw [show ([n] ++ L.drop j).length = 1 + (L.length - j) by simp; omega]; rfl) | (rw [show ([n] ++ L.drop j).length = 1 by simp; omega]; rfl)) HR5.out HC3.out (Nat.le_trans hbase hb5) (by simp; omega) ?_; intro A7 c7 w7 hR7 hB7 hg7; have HR7 := Aside0.mk hR7; have HB7 := Aside0.mk (Below.trans HB5.out hB7); clear hR7 hB7 hg7)
      go_ret
      exact ⟨_, rfl, by rw [HP2.out, ← HT.out, ← HD.out]; have := HR7.out; first | (simpa [HTL.out, HDL.out] using this) | (have e0 : L.length - j = 0 := (by omega); simpa [HTL.out, HDL.out, e0] using this), HB7.out⟩
   ·have hkl2 : ¬ (j : Int) < (L.length : Int) := by omega
    have hkl3 : decide (j < L.length) = false := decide_eq_false hkl
    have HJL : Aside0 (j = L.length) := ⟨by omega⟩
    have HPQ := Aside0.mk (HPN.out HJL.out)
    have HP2 : Aside0 (putL L n = L1 ++ n :: L2) := ⟨by rw [HPQ.out.1, HPQ.out.2]⟩
    clear HPN HPC
    have hcj2 : j ≤ c := by omega
    have hcjz : (j : Int) ≤ (c : Int) := by omega
    by_cases hcj : c = j
    ·obtain rfl : j = c := hcj.symm
     rcases Nat.eq_zero_or_pos j with hk0 | hkp
     ·have hj0d : decide (0 < j) = false := decide_eq_false (by omega)
      have HJ0 := Aside0.mk hk0
      clear hk0
      have HO := Aside0.mk (Ri.one wr base n hbase)
      have HRW := Aside0.mk (Kd.R_alloc HR.out (.cells #[I n] 2))
      have HDC : Aside0 (Ki.C (wr.alloc (.cells #[I n] 2)) A (L.drop j).length (L.drop j)) := ⟨by have h := Kd.C_drop (Kd.R_reads' HRW.out).2.2 (m := j) (by omega) hc; rw [if_pos rfl] at h; exact h⟩
      have HDL : Aside0 ((L.drop j).length = L.length - j) := ⟨List.length_drop⟩
      have HTL : Aside0 ((L.take j).length = j) := ⟨by rw [List.length_take]; omega⟩
      have HNB : Aside0 ((Value.slice (some ⟨wr.heap.size, 0, none⟩) 1 1).ownBlock ≠ (Value.slice A L.length j).ownBlock) := ⟨fun h => absurd (Kd.R_lt HR.out wr.heap.size (h ▸ by simp [Value.ownBlock])) (by omega)⟩
      have HBW := Aside0.mk (Below.mono (below_alloc (Below.refl _ wr) (.cells #[I n] 2)) hbase)
      have hbs : base ≤ (wr.alloc (.cells #[I n] 2)).heap.size := by simp; omega
      go_wp2_with (at_builtin; refine append_ints base rfl (.tmp 36) (.tmp 39) rfl _ [n] (L.drop j) A 0 rfl (by first | (rw [HDL.out]; rfl) | (rw [show (L.drop j).length = 0 by rw [List.length_drop]; omega]; rfl)) HO.out HDC.out hbs (by simp; omega) ?_; intro A3 c3 w3 hR3 hB3 hg3; have HR3 := Aside0.mk hR3; have HB3 := Aside0.mk (Below.trans HBW.out hB3); have HL3 := Aside0.mk (Kd.R_grown1 HRW.out rfl hg3 HNB.out); clear hR3 hB3 hg3)
      have HTK := Aside0.mk (Kd.R_take HL3.out (m := j) (by omega))
      have HOW := Aside0.mk (spec_l01Own.calls A j (L.take j) (L.take j) w3 (Kd.R_reads' HTK.out).2.2 (by rw [HTL.out]; omega) (own_is _ (by rw [HTL.out]; omega)))
      rw [HTL.out] at HOW
      refine HOW.out.mono ?_
      rintro e w5 ⟨v5, rfl, hR5, hB5⟩
      have hb3 := HB3.out.size
      have HR5 := Aside0.mk (Kd.R_lower hR5 (Nat.le_trans hbase hb3))
      have HR3b := Aside0.mk (Kd.R_below HR3.out hB5)
      have HB5 := Aside0.mk (Below.trans HB3.out (Below.mono hB5 (Nat.le_trans hbase hb3)))
      have HC3 := Aside0.mk (Kd.R_reads' HR3b.out).2.2
      have hb5 := HB5.out.size
      clear hR5 hB5
      go_wp2_with (at_builtin; refine append_ints base rfl (.tmp 44) (.tmp 45) rfl _ (L.take j) ([n] ++ L.drop j) A3 c3 rfl (by first | (rw [show ([n] ++ L.drop j).length = 1 + (L.length - j) by simp; omega]; rfl) | (rw [show ([n] ++ L.drop j).length = 1 by simp; omega]; rfl)) HR5.out HC3.out (Nat.le_trans hbase hb5) (by simp; omega) ?_; intro A7 c7 w7 hR7 hB7 hg7; have HR7 := Aside0.mk hR7; have HB7 := Aside0.mk (Below.trans HB5.out hB7); clear hR7 hB7 hg7)
      go_ret
      exact ⟨_, rfl, by rw [HP2.out, ← HT.out, ← HD.out]; have := HR7.out; first | (simpa [HTL.out, HDL.out] using this) | (have e0 : L.length - j = 0 := (by omega); simpa [HTL.out, HDL.out, e0] using this), HB7.out⟩
     ·obtain ⟨m, HM⟩ : ∃ m, Aside0 (j = m + 1) := ⟨j - 1, ⟨by omega⟩⟩
      have HWJ : Aside0 (wrap64 (m : Int) = (m : Int)) := ⟨by have := HM.out; unfold wrap64; omega⟩
      have hj0 : 0 ≤ (m : Int) := by omega
      have hjpd : decide (0 < j) = true := decide_eq_true hkp
      have hm1 : (j : Int) - 1 = (m : Int) := by have := HM.out; omega
      have hml : (m : Int) < (L.length : Int) := by have := HM.out; omega
      obtain ⟨ad, e0, hx⟩ := Kd.at_int HC.out (m : Int) (by omega) (by have := HM.out; omega)
      cases e0
      have hlo := HG.out.2 m (by have := HM.out; omega)
      rw [Int.toNat_natCast] at hx
      generalize rd L (m : Int) = y at hx hlo
      have hng : ¬ y ≥ n := by omega
      have hng2 : decide (y ≥ n) = false := decide_eq_false hng
      have hng3 : decide (n ≤ y) = false := decide_eq_false hng
      have hwj := HWJ.out
      have HO := Aside0.mk (Ri.one wr base n hbase)
      have HRW := Aside0.mk (Kd.R_alloc HR.out (.cells #[I n] 2))
      have HDC : Aside0 (Ki.C (wr.alloc (.cells #[I n] 2)) (some ad) (L.drop j).length (L.drop j)) := ⟨by have h := Kd.C_drop (Kd.R_reads' HRW.out).2.2 (m := j) (by omega) hc; rw [if_pos rfl] at h; exact h⟩
      have HDL : Aside0 ((L.drop j).length = L.length - j) := ⟨List.length_drop⟩
      have HTL : Aside0 ((L.take j).length = j) := ⟨by rw [List.length_take]; omega⟩
      have HNB : Aside0 ((Value.slice (some ⟨wr.heap.size, 0, none⟩) 1 1).ownBlock ≠ (Value.slice (some ad) L.length j).ownBlock) := ⟨fun h => absurd (Kd.R_lt HR.out wr.heap.size (h ▸ by simp [Value.ownBlock])) (by omega)⟩
      have HBW := Aside0.mk (Below.mono (below_alloc (Below.refl _ wr) (.cells #[I n] 2)) hbase)
      have hbs : base ≤ (wr.alloc (.cells #[I n] 2)).heap.size := by simp; omega
      go_wp2_with (at_builtin; refine append_ints base rfl (.tmp 36) (.tmp 39) rfl _ [n] (L.drop j) (some ad) 0 rfl (by first | (rw [HDL.out]; rfl) | (rw [show (L.drop j).length = 0 by rw [List.length_drop]; omega]; rfl)) HO.out HDC.out hbs (by simp; omega) ?_; intro A3 c3 w3 hR3 hB3 hg3; have HR3 := Aside0.mk hR3; have HB3 := Aside0.mk (Below.trans HBW.out hB3); have HL3 := Aside0.mk (Kd.R_grown1 HRW.out rfl hg3 HNB.out); clear hR3 hB3 hg3)
      have HTK := Aside0.mk (Kd.R_take HL3.out (m := j) (by omega))
      have HOW := Aside0.mk (spec_l01Own.calls (some ad) j (L.take j) (L.take j) w3 (Kd.R_reads' HTK.out).2.2 (by rw [HTL.out]; omega) (own_is _ (by rw [HTL.out]; omega)))
      rw [HTL.out] at HOW
      refine HOW.out.mono ?_
      rintro e w5 ⟨v5, rfl, hR5, hB5⟩
      have hb3 := HB3.out.size
      have HR5 := Aside0.mk (Kd.R_lower hR5 (Nat.le_trans hbase hb3))
      have HR3b := Aside0.mk (Kd.R_below HR3.out hB5)
      have HB5 := Aside0.mk (Below.trans HB3.out (Below.mono hB5 (Nat.le_trans hbase hb3)))
      have HC3 := Aside0.mk (Kd.R_reads' HR3b.out).2.2
      have hb5 := HB5.out.size
      clear hR5 hB5
      go_wp2_with (at_builtin; refine append_ints base rfl (.tmp 44) (.tmp 45) rfl _ (L.take j) ([n] ++ L.drop j) A3 c3 rfl (by first | (rw [show ([n] ++ L.drop j).length = 1 + (L.length - j) by simp; omega]; rfl) | (rw [show ([n] ++ L.drop j).length = 1 by simp; omega]; rfl)) HR5.out HC3.out (Nat.le_trans hbase hb5) (by simp; omega) ?_; intro A7 c7 w7 hR7 hB7 hg7; have HR7 := Aside0.mk hR7; have HB7 := Aside0.mk (Below.trans HB5.out hB7); clear hR7 hB7 hg7)
      go_ret
      exact ⟨_, rfl, by rw [HP2.out, ← HT.out, ← HD.out]; have := HR7.out; first | (simpa [HTL.out, HDL.out] using this) | (have e0 : L.length - j = 0 := (by omega); simpa [HTL.out, HDL.out, e0] using this), HB7.out⟩
    ·rcases Nat.eq_zero_or_pos j with hk0 | hkp
     ·have hj0d : decide (0 < j) = false := decide_eq_false (by omega)
      have HJ0 := Aside0.mk hk0
      clear hk0
      cases A with
      | none =>
       have HO := Aside0.mk (Ri.one wr base n hbase)
       have HRW := Aside0.mk (Kd.R_alloc HR.out (.cells #[I n] 2))
       have HDC : Aside0 (Ki.C (wr.alloc (.cells #[I n] 2)) none (L.drop j).length (L.drop j)) := ⟨by have h := Kd.C_drop (Kd.R_reads' HRW.out).2.2 (m := j) (by omega) hc; rw [if_neg (by omega)] at h; simpa [show Ki.sz = 1 from rfl] using h⟩
       have HDL : Aside0 ((L.drop j).length = L.length - j) := ⟨List.length_drop⟩
       have HTL : Aside0 ((L.take j).length = j) := ⟨by rw [List.length_take]; omega⟩
       have HNB : Aside0 ((Value.slice (some ⟨wr.heap.size, 0, none⟩) 1 1).ownBlock ≠ (Value.slice none L.length c).ownBlock) := ⟨fun h => absurd (Kd.R_lt HR.out wr.heap.size (h ▸ by simp [Value.ownBlock])) (by omega)⟩
       have HBW := Aside0.mk (Below.mono (below_alloc (Below.refl _ wr) (.cells #[I n] 2)) hbase)
       have hbs : base ≤ (wr.alloc (.cells #[I n] 2)).heap.size := by simp; omega
       go_wp2_with (at_builtin; refine append_ints base rfl (.tmp 36) (.tmp 39) rfl _ [n] (L.drop j) none (c - j) rfl (by first | (rw [HDL.out]; rfl) | (rw [show (L.drop j).length = 0 by rw [List.length_drop]; omega]; rfl)) HO.out HDC.out hbs (by simp; omega) ?_; intro A3 c3 w3 hR3 hB3 hg3; have HR3 := Aside0.mk hR3; have HB3 := Aside0.mk (Below.trans HBW.out hB3); have HL3 := Aside0.mk (Kd.R_grown1 HRW.out rfl hg3 HNB.out); clear hR3 hB3 hg3)
       have HTK := Aside0.mk (Kd.R_take HL3.out (m := j) (by omega))
       have HOW := Aside0.mk (spec_l01Own.calls none c (L.take j) (L.take j) w3 (Kd.R_reads' HTK.out).2.2 (by rw [HTL.out]; omega) (own_is _ (by rw [HTL.out]; omega)))
       rw [HTL.out] at HOW
       refine HOW.out.mono ?_
       rintro e w5 ⟨v5, rfl, hR5, hB5⟩
       have hb3 := HB3.out.size
       have HR5 := Aside0.mk (Kd.R_lower hR5 (Nat.le_trans hbase hb3))
       have HR3b := Aside0.mk (Kd.R_below HR3.out hB5)
       have HB5 := Aside0.mk (Below.trans HB3.out (Below.mono hB5 (Nat.le_trans hbase hb3)))
       have HC3 := Aside0.mk (Kd.R_reads' HR3b.out).2.2
       have hb5 := HB5.out.size
       clear hR5 hB5
       go_wp2_with (at_builtin; refine append_ints base rfl (.tmp 44) (.tmp 45) rfl _ (L.take j) ([n] ++ L.drop j) A3 c3 rfl (by first | (rw [show ([n] ++ L.drop j).length = 1 + (L.length - j) by simp; omega]; rfl) | (rw [show ([n] ++ L.drop j).length = 1 by simp; omega]; rfl)) HR5.out HC3.out (Nat.le_trans hbase hb5) (by simp; omega) ?_; intro A7 c7 w7 hR7 hB7 hg7; have HR7 := Aside0.mk hR7; have HB7 := Aside0.mk (Below.trans HB5.out hB7); clear hR7 hB7 hg7)
       go_ret
       exact ⟨_, rfl, by rw [HP2.out, ← HT.out, ← HD.out]; have := HR7.out; first | (simpa [HTL.out, HDL.out] using this) | (have e0 : L.length - j = 0 := (by omega); simpa [HTL.out, HDL.out, e0] using this), HB7.out⟩
      | some ad =>
       have HO := Aside0.mk (Ri.one wr base n hbase)
       have HRW := Aside0.mk (Kd.R_alloc HR.out (.cells #[I n] 2))
       have HDC : Aside0 (Ki.C (wr.alloc (.cells #[I n] 2)) (some (ad.add j)) (L.drop j).length (L.drop j)) := ⟨by have h := Kd.C_drop (Kd.R_reads' HRW.out).2.2 (m := j) (by omega) hc; rw [if_neg (by omega)] at h; simpa [show Ki.sz = 1 from rfl] using h⟩
       have HDL : Aside0 ((L.drop j).length = L.length - j) := ⟨List.length_drop⟩
       have HTL : Aside0 ((L.take j).length = j) := ⟨by rw [List.length_take]; omega⟩
       have HNB : Aside0 ((Value.slice (some ⟨wr.heap.size, 0, none⟩) 1 1).ownBlock ≠ (Value.slice (some ad) L.length c).ownBlock) := ⟨fun h => absurd (Kd.R_lt HR.out wr.heap.size (h ▸ by simp [Value.ownBlock])) (by omega)⟩
       have HBW := Aside0.mk (Below.mono (below_alloc (Below.refl _ wr) (.cells #[I n] 2)) hbase)
       have hbs : base ≤ (wr.alloc (.cells #[I n] 2)).heap.size := by simp; omega
       go_wp2_with (at_builtin; refine append_ints base rfl (.tmp 36) (.tmp 39) rfl _ [n] (L.drop j) (some (ad.add j)) (c - j) rfl (by first | (rw [HDL.out]; rfl) | (rw [show (L.drop j).length = 0 by rw [List.length_drop]; omega]; rfl)) HO.out HDC.out hbs (by simp; omega) ?_; intro A3 c3 w3 hR3 hB3 hg3; have HR3 := Aside0.mk hR3; have HB3 := Aside0.mk (Below.trans HBW.out hB3); have HL3 := Aside0.mk (Kd.R_grown1 HRW.out rfl hg3 HNB.out); clear hR3 hB3 hg3)
       have HTK := Aside0.mk (Kd.R_take HL3.out (m := j) (by omega))
       have HOW := Aside0.mk (spec_l01Own.calls (some ad) c (L.take j) (L.take j) w3 (Kd.R_reads' HTK.out).2.2 (by rw [HTL.out]; omega) (own_is _ (by rw [HTL.out]; omega)))
       rw [HTL.out] at HOW
       refine HOW.out.mono ?_
       rintro e w5 ⟨v5, rfl, hR5, hB5⟩
       have hb3 := HB3.out.size
       have HR5 := Aside0.mk (Kd.R_lower hR5 (Nat.le_trans hbase hb3))
       have HR3b := Aside0.mk (Kd.R_below HR3.out hB5)
       have HB5 := Aside0.mk (Below.trans HB3.out (Below.mono hB5 (Nat.le_trans hbase hb3)))
       have HC3 := Aside0.mk (Kd.R_reads' HR3b.out).2.2
       have hb5 := HB5.out.size
       clear hR5 hB5
       go_wp2_with (at_builtin; refine append_ints base rfl (.tmp 44) (.tmp 45) rfl _ (L.take j) ([n] ++ L.drop j) A3 c3 rfl (by first | (rw [show ([n] ++ L.drop j).length = 1 + (L.length - j) by simp; omega]; rfl) | (rw [show ([n] ++ L.drop j).length = 1 by simp; omega]; rfl)) HR5.out HC3.out (Nat.le_trans hbase hb5) (by simp; omega) ?_; intro A7 c7 w7 hR7 hB7 hg7; have HR7 := Aside0.mk hR7; have HB7 := Aside0.mk (Below.trans HB5.out hB7); clear hR7 hB7 hg7)
       go_ret
       exact ⟨_, rfl, by rw [HP2.out, ← HT.out, ← HD.out]; have := HR7.out; first | (simpa [HTL.out, HDL.out] using this) | (have e0 : L.length - j = 0 := (by omega); simpa [HTL.out, HDL.out, e0] using this), HB7.out⟩
     ·obtain ⟨m, HM⟩ : ∃ m, Aside0 (j = m + 1) := ⟨j - 1, ⟨by omega⟩⟩
      have HWJ : Aside0 (wrap64 (m : Int) = (m : Int)) := ⟨by have := HM.out; unfold wrap64; omega⟩
      have hj0 : 0 ≤ (m : Int) := by omega
      have hjpd : decide (0 < j) = true := decide_eq_true hkp
      have hm1 : (j : Int) - 1 = (m : Int) := by have := HM.out; omega
      have hml : (m : Int) < (L.length : Int) := by have := HM.out; omega
      obtain ⟨ad, e0, hx⟩ := Kd.at_int HC.out (m : Int) (by omega) (by have := HM.out; omega)
      cases e0
      have hlo := HG.out.2 m (by have := HM.out; omega)
      rw [Int.toNat_natCast] at hx
      generalize rd L (m : Int) = y at hx hlo
      have hng : ¬ y ≥ n := by omega
      have hng2 : decide (y ≥ n) = false := decide_eq_false hng
      have hng3 : decide (n ≤ y) = false := decide_eq_false hng
      have hwj := HWJ.out
      have HO := Aside0.mk (Ri.one wr base n hbase)
      have HRW := Aside0.mk (Kd.R_alloc HR.out (.cells #[I n] 2))
      have HDC : Aside0 (Ki.C (wr.alloc (.cells #[I n] 2)) (some (ad.add j)) (L.drop j).length (L.drop j)) := ⟨by have h := Kd.C_drop (Kd.R_reads' HRW.out).2.2 (m := j) (by omega) hc; rw [if_neg (by omega)] at h; simpa [show Ki.sz = 1 from rfl] using h⟩
      have HDL : Aside0 ((L.drop j).length = L.length - j) := ⟨List.length_drop⟩
      have HTL : Aside0 ((L.take j).length = j) := ⟨by rw [List.length_take]; omega⟩
      have HNB : Aside0 ((Value.slice (some ⟨wr.heap.size, 0, none⟩) 1 1).ownBlock ≠ (Value.slice (some ad) L.length c).ownBlock) := ⟨fun h => absurd (Kd.R_lt HR.out wr.heap.size (h ▸ by simp [Value.ownBlock])) (by omega)⟩
      have HBW := Aside0.mk (Below.mono (below_alloc (Below.refl _ wr) (.cells #[I n] 2)) hbase)
      have hbs : base ≤ (wr.alloc (.cells #[I n] 2)).heap.size := by simp; omega
      go_wp2_with (at_builtin; refine append_ints base rfl (.tmp 36) (.tmp 39) rfl _ [n] (L.drop j) (some (ad.add j)) (c - j) rfl (by first | (rw [HDL.out]; rfl) | (rw [show (L.drop j).length = 0 by rw [List.length_drop]; omega]; rfl)) HO.out HDC.out hbs (by simp; omega) ?_; intro A3 c3 w3 hR3 hB3 hg3; have HR3 := Aside0.mk hR3; have HB3 := Aside0.mk (Below.trans HBW.out hB3); have HL3 := Aside0.mk (Kd.R_grown1 HRW.out rfl hg3 HNB.out); clear hR3 hB3 hg3)
      have HTK := Aside0.mk (Kd.R_take HL3.out (m := j) (by omega))
      have HOW := Aside0.mk (spec_l01Own.calls (some ad) c (L.take j) (L.take j) w3 (Kd.R_reads' HTK.out).2.2 (by rw [HTL.out]; omega) (own_is _ (by rw [HTL.out]; omega)))
      rw [HTL.out] at HOW
      refine HOW.out.mono ?_
      rintro e w5 ⟨v5, rfl, hR5, hB5⟩
      have hb3 := HB3.out.size
      have HR5 := Aside0.mk (Kd.R_lower hR5 (Nat.le_trans hbase hb3))
      have HR3b := Aside0.mk (Kd.R_below HR3.out hB5)
      have HB5 := Aside0.mk (Below.trans HB3.out (Below.mono hB5 (Nat.le_trans hbase hb3)))
      have HC3 := Aside0.mk (Kd.R_reads' HR3b.out).2.2
      have hb5 := HB5.out.size
      clear hR5 hB5
      go_wp2_with (at_builtin; refine append_ints base rfl (.tmp 44) (.tmp 45) rfl _ (L.take j) ([n] ++ L.drop j) A3 c3 rfl (by first | (rw [show ([n] ++ L.drop j).length = 1 + (L.length - j) by simp; omega]; rfl) | (rw [show ([n] ++ L.drop j).length = 1 by simp; omega]; rfl)) HR5.out HC3.out (Nat.le_trans hbase hb5) (by simp; omega) ?_; intro A7 c7 w7 hR7 hB7 hg7; have HR7 := Aside0.mk hR7; have HB7 := Aside0.mk (Below.trans HB5.out hB7); clear hR7 hB7 hg7)
      go_ret
      exact ⟨_, rfl, by rw [HP2.out, ← HT.out, ← HD.out]; have := HR7.out; first | (simpa [HTL.out, HDL.out] using this) | (have e0 : L.length - j = 0 := (by omega); simpa [HTL.out, HDL.out, e0] using this), HB7.out⟩

end Go.Proofs.Ytniikppojffiaaa.K
end

section
/- CriticalValues: the reference's, by hand. -/
namespace Go.Proofs.Ytniikppojffiaaa.K
open Go.RowKit Go.Shelf Go.Proofs.Ytniikppojffiaaa.Q Go.Proofs.YtniikppojffiaaaW.PrintWords Go.Proofs.YtniikppojffiaaaW.PrintLast Go.Proofs.YtniikppojffiaaaW.PrintMore
set_option linter.unusedVariables false
set_option linter.unusedSimpArgs false

theorem PutA_calls {base : Nat} (v : Value) (L : List Int) (n : Int) (w : World) (hR : Ki.R 2 w base (fun _ => True) v L) (hbase : base ≤ w.heap.size) (hl : L.length ≤ 1000) (ha : L.Pairwise (· < ·)) :
  Calls Try.prog 100 #[v, I n] w fun e w' => ∃ v', e = .returned v' ∧ Ki.R 2 w' base (fun _ => True) v' (putL L n) ∧ Below base w w' := by
 obtain ⟨L1, L2, rfl, h1, h2⟩ := asc_split n L ha
 exact Put_calls v L1 L2 n w hR hbase hl h1 h2
theorem putAll_snoc (xs : List Int) (y : Int) : putAll [] (xs ++ [y]) = putL (putAll [] xs) y := by
 unfold putAll
 rw [List.foldl_append]
 rfl
set_option maxRecDepth 100000 in
set_option maxHeartbeats 8000000 in
theorem sCritV_calls (n : Int) (A : Option Addr) (c : Nat) (l : List Int) (A2 : Option Addr) (c2 : Nat) (xs : List Int) (w : World) (hk : Kx w A c l) (hl2 : l.length ≤ 2097152) (hx : Ki.C w A2 xs.length xs) (hc2 : xs.length ≤ c2) (hx2 : xs.length ≤ 2097152) :
  Calls Try.prog 57 #[.agg #[I n, .slice A l.length c], .slice A2 xs.length c2] w fun e w' => ∃ v, e = .returned (.tuple #[v, I (mcode n l (funB l xs) (morseB l xs))]) ∧ Ki.R 2 w' w.heap.size (fun _ => True) v (critVA n l xs) ∧ Grew w w' := by
 have hB : CB (w.alloc (.cells #[I n, .slice A l.length c] 30)) w.heap.size n (.slice A l.length c) := blk_new w _
 have HG : Aside0 (Grew w (w.alloc (.cells #[I n, .slice A l.length c] 30))) := ⟨below_alloc (Grew.refl w) _⟩
 have HC := Aside0.mk (sPairing4_calls n A c l A2 c2 xs _ (hk.later HG.out) hl2 (Kd.C_below hx HG.out) hc2 hx2)
 have HK := Aside0.mk hk
 have HX := Aside0.mk hx
 have HC2 := Aside0.mk hc2
 have HB := Aside0.mk hB
 have hc := hk.c
 have k0 := hB.c0
 have k1 := hB.c1
 clear hk hx hc2 hB
 by_cases hz : mcode n l (funB l xs) (morseB l xs) = 0
 ·obtain ⟨hi, hb, hm⟩ := mcode_zero hz
  have h63 := (isC_faces hi).2.2.2
  have HV : Aside0 (critVA n l xs = putAll [] ((critL l (fallL l xs)).map (atV l xs))) := ⟨by unfold critVA; rw [if_pos hz, vals_put]⟩
  have hfl := fall_len (f := xs) hi
  have HCR : Aside0 (∀ A3 c3 W, Grew w W → Kq.C W A3 (fallL l xs).length (fallL l xs) → (fallL l xs).length ≤ c3 → Calls Try.prog 67 #[.agg #[I n, .slice A l.length c], .slice A3 (fallL l xs).length c3] W fun e w' => ∃ v, e = .returned v ∧ Ki.R 2 w' W.heap.size (fun _ => True) v (critL l (fallL l xs)) ∧ Grew W w') := ⟨fun A3 c3 W hW h1 h2 => spec_l02Critical.calls (63 * ((fallL l xs).length + 3) + 3) n A c l A3 c3 (fallL l xs) _ W (HK.out.later hW).r HK.out.c h1 h2 (specCrit_is n l h63 _ (by omega) _ (Nat.le_refl _))⟩
  have HAT : Aside0 (∀ y W, Grew w W → Calls Try.prog 101 #[.agg #[I n, .slice A l.length c], .slice A2 xs.length c2, I y] W fun e w' => e = .returned (I (atV l xs y)) ∧ Grew W w') := ⟨fun y W hW => spec_l04At.calls 64 n A c l A2 c2 xs y _ W (HK.out.later hW).r HK.out.c (Kd.C_below HX.out hW) HC2.out (specAt_is n y l xs h63 (funB_len hb) 64 (Nat.le_refl _))⟩
  have HCL := Aside0.mk (crit_short hi (fallL l xs))
  rw [if_pos hz, hz] at HC
  rw [HV.out, hz]
  clear hz hi hb hm HV h63 hfl
  generalize critL l (fallL l xs) = cs at HCR HCL ⊢
  generalize fallL l xs = q at HC HCR
  go_enter Try.func57, Try.ntmps57
  go_wp2_with fail
  refine HC.out.mono ?_
  rintro e w1 ⟨v1, rfl, hR1, hG1⟩
  obtain ⟨A3, c3, hv3, hc3, hC3⟩ := Kd.R_reads hR1
  subst hv3
  have HB1 := Aside0.mk (CB.later HB.out hG1)
  have HG1 := Aside0.mk (Grew.trans HG.out hG1)
  have HR1 := Aside0.mk hC3
  have HC3 := Aside0.mk hc3
  clear hG1 k0 k1 hR1 hc3 hC3
  have k0 := HB1.out.c0
  have k1 := HB1.out.c1
  go_wp2_with fail
  refine (HCR.out A3 c3 w1 HG1.out HR1.out HC3.out).mono ?_
  rintro e w4 ⟨v4, rfl, hR4, hG4⟩
  obtain ⟨A4, c4, hv4, hc4, hC4⟩ := Kd.R_reads hR4
  subst hv4
  have HB4 := Aside0.mk (CB.later HB1.out hG4)
  have HG4 := Aside0.mk (Grew.trans HG1.out hG4)
  have HR4 := Aside0.mk hC4
  have hcl := hc4
  have HE := Aside0.mk (Ri.empty w4 w4.heap.size (Nat.le_refl _))
  have HGE : Aside0 (Grew w4 (w4.alloc (.cells #[] 2))) := ⟨below_alloc (Grew.refl w4) _⟩
  clear hG4 k0 k1 hR4 hc4 hC4
  go_wp2_with fail
  go_loopg [9, 10] cs.length (fun gg s9 s10 wr => ∃ (i : Nat) (v : Value), i ≤ cs.length ∧ cs.length - i ≤ gg ∧ s10 = .int .i64 i ∧ v = s9 ∧ Aside0 (Ki.R 2 wr w4.heap.size (fun _ => True) v (putAll [] ((cs.take i).map (atV l xs)))) ∧ Aside0 (Grew w4 wr))
  case atStart => exact ⟨0, _, Nat.zero_le _, by omega, rfl, rfl, HE, HGE⟩
  case round =>
   obtain ⟨i, v, hi1, hgg, rfl, hv9, HR, HGr⟩ := hrel
   subst hv9
   by_cases hlt : i < cs.length
   ·have hltz : (i : Int) < (cs.length : Int) := by omega
    obtain ⟨ad, e0, hx⟩ := Kd.at_int (Kd.C_below HR4.out HGr.out) (i : Int) (by omega) (by omega)
    cases e0
    have hrd : rd cs (i : Int) = cs[i] := by simp [rd, hlt]
    rw [hrd, Int.toNat_natCast] at hx
    have HN : Aside0 (putAll [] ((cs.take (i + 1)).map (atV l xs)) = putL (putAll [] ((cs.take i).map (atV l xs))) (atV l xs cs[i])) := ⟨by rw [List.take_succ_eq_append_getElem hlt, List.map_append]; exact putAll_snoc _ _⟩
    have HASC := Aside0.mk (putAll_asc ((cs.take i).map (atV l xs)) [] List.Pairwise.nil)
    have HSH : Aside0 ((putAll [] ((cs.take i).map (atV l xs))).length ≤ 1000) := ⟨by
     have := putAll_length ((cs.take i).map (atV l xs)) []
     have := HCL.out
     simp at *
     omega⟩
    clear hrd
    have HYC : Aside0 (∀ W, Grew w4 W → W.cell? (ad.add i) = some (I cs[i])) := ⟨fun W hW => by
     obtain ⟨ad2, e2, h2⟩ := Kd.at_int (Kd.C_below HR4.out hW) (i : Int) (by omega) (by omega)
     cases e2
     rw [show rd cs (i : Int) = cs[i] by simp [rd, hlt], Int.toNat_natCast] at h2
     exact h2⟩
    generalize cs[i] = y at hx HN HYC
    generalize putAll [] ((cs.take i).map (atV l xs)) = L at HR HN HASC HSH
    have HAY := Aside0.mk (HAT.out y)
    generalize atV l xs y = z at HAY HN
    have HBr := Aside0.mk (CB.later HB4.out HGr.out)
    have k0 := HBr.out.c0
    have k1 := HBr.out.c1
    have hl0 := World.block_lt_of_cell? wr _ k0
    have hlx := World.block_lt_of_cell? wr _ hx
    have HXC : Aside0 (∀ W, Grew w4 W → W.cell? (ad.add i) = some (I y)) := ⟨fun W hW => HYC.out W hW⟩
    go_wp2_with fail
    refine start_ (n := 10) (S := fun w' => w'.cell? ⟨w.heap.size, 0, none⟩ = some (I n) ∧ w'.cell? ⟨w.heap.size, 1, none⟩ = some (.slice A l.length c) ∧ w'.cell? (ad.add i) = some (I y)) (ds := []) (ar 0 10) (by kernel_rfl) rfl rfl ⟨(Below.cell (w := wr) (below_drew (Grew.refl wr)) (p := ⟨w.heap.size, 0, none⟩) hl0).trans k0, (Below.cell (w := wr) (below_drew (Grew.refl wr)) (p := ⟨w.heap.size, 1, none⟩) hl0).trans k1, (Below.cell (w := wr) (below_drew (Grew.refl wr)) (p := ad.add i) hlx).trans hx⟩ (fun hHeld => ?_)
    refine pure_ (i := 0) (N := some 30) (v := ?_) (a' := ?_) (ar 1 9) rfl rfl (by kernel_rfl) (fun _ _ _ h => h) (Or.inl ⟨by rfl, ?_⟩) ?_ ?_; rotate_left; (intro w'; go_simp; with_reducible rfl); rotate_left; · simp only [nm_]; rfl
    refine pure_ (i := 2) (N := some 32) (v := ?_) (a' := ?_) #[U,O,U,O,O,O,O,O,O,O] rfl rfl (by kernel_rfl) (fun _ _ _ h => h) (Or.inl ⟨by rfl, ?_⟩) ?_ ?_; rotate_left; (intro w'; go_simp; with_reducible rfl); rotate_left; · simp only [nm_]; rfl
    refine pure_ (i := 3) (N := some 33) (v := ?_) (a' := ?_) #[U,O,U,U,O,O,O,O,O,O] rfl rfl (by kernel_rfl) (fun _ _ _ h => h) (Or.inl ⟨by rfl, ?_⟩) ?_ ?_; rotate_left; (intro w'; go_simp; with_reducible rfl); rotate_left; · simp only [nm_]; rfl
    refine pure_ (i := 4) (N := some 34) (v := ?_) (a' := ?_) #[U,O,U,U,U,O,O,O,O,O] rfl rfl (by kernel_rfl) (fun _ _ _ h => h) (Or.inl ⟨by rfl, ?_⟩) ?_ ?_; rotate_left; (intro w'; go_simp; with_reducible rfl); rotate_left; · simp only [nm_]; rfl
    refine pure_ (i := 5) (N := some 35) (v := ?_) (a' := ?_) #[U,O,U,U,U,U,O,O,O,O] rfl rfl (by kernel_rfl) (fun _ _ _ h => h) (Or.inl ⟨by rfl, ?_⟩) ?_ ?_; rotate_left; (intro w'; go_simp; with_reducible rfl); rotate_left; · simp only [nm_]; rfl
    refine take_ (i := 1) (N := some 31) (v := ?_) (a' := ?_) (ar 6 4) rfl rfl (by kernel_rfl) (fun _ _ _ h => h) (Or.inl ⟨by rfl, ?_⟩) hHeld ?_ ?_
    rotate_left; · rintro w' ⟨s0, s1, s2⟩; go_simp; with_reducible rfl
    rotate_left; · simp only [nm_]; rfl
    refine take_ (i := 6) (N := some 36) (v := ?_) (a' := ?_) (ar 7 3) rfl rfl (by kernel_rfl) (fun _ _ _ h => h) (Or.inl ⟨by rfl, ?_⟩) hHeld ?_ ?_
    rotate_left; · rintro w' ⟨s0, s1, s2⟩; go_simp; with_reducible rfl
    rotate_left; · simp only [nm_]; rfl
    refine one_ (i := 7) (N := some 37) (ar 8 2) rfl rfl (by kernel_rfl) (by decide) (fun K hK => ?_)
    refine goes_ Try.func101 (by kernel_rfl) rfl #[.agg #[I n, .slice A l.length c], .slice A2 xs.length c2, I y] (by rfl) rfl rfl (by simp only [List.map_toArray, List.map_cons, List.map_nil]; rfl) ?_
    with_reducible refine (HAY.out _ (Grew.trans HG4.out (Grew.trans HGr.out (below_drew (Grew.refl wr))))).mono ?_
    rintro e w5 ⟨rfl, hGa⟩
    refine ⟨_, rfl, ?_⟩
    have HL := Aside0.mk (Grew.trans (below_drew (Grew.refl wr)) hGa)
    have HRL := Aside0.mk (Kd.R_below (Kd.R_drewN HR.out 1) hGa)
    clear hGa
    refine hK.out _ _ ⟨(Below.cell (w := wr) HL.out (p := ⟨w.heap.size, 0, none⟩) hl0).trans k0, (Below.cell (w := wr) HL.out (p := ⟨w.heap.size, 1, none⟩) hl0).trans k1, (Below.cell (w := wr) HL.out (p := ad.add i) hlx).trans hx⟩ (fun hHeld => ?_)
    clear hK K
    refine norm_ (a' := ?_) ?_ ?_
    rotate_left
    ·show Act.put _ (some 37) _ = _
     simp only [nm_]
     rfl
    refine one_ (i := 8) (N := some 38) (ar 9 1) rfl rfl (by kernel_rfl) (by decide) (fun K hK => ?_)
    have HPU := Aside0.mk (PutA_calls v L z w5 HRL.out (Nat.le_trans HGr.out.size HL.out.size) HSH.out HASC.out)
    refine goes_ Try.func100 (by kernel_rfl) rfl #[v, I z] (by rfl) rfl rfl (by simp only [List.map_toArray, List.map_cons, List.map_nil]; rfl) ?_
    with_reducible refine (HPU.out).mono ?_
    rintro e w6 ⟨v6, rfl, hR6, hGb⟩
    refine ⟨_, rfl, ?_⟩
    have HR6 := Aside0.mk hR6
    have HG6 := Aside0.mk (Below.trans HGr.out (Below.trans (Below.mono HL.out HGr.out.size) hGb))
    have HH6 : Aside0 (w6.cell? ⟨w.heap.size, 0, none⟩ = some (I n) ∧ w6.cell? ⟨w.heap.size, 1, none⟩ = some (.slice A l.length c) ∧ w6.cell? (ad.add i) = some (I y)) := ⟨(CB.later HB4.out HG6.out).c0, (CB.later HB4.out HG6.out).c1, HXC.out _ HG6.out⟩
    clear hR6 hGb
    refine hK.out _ _ ⟨HH6.out.1, HH6.out.2.1, HH6.out.2.2⟩ (fun hHeld => ?_)
    clear hK K
    refine norm_ (a' := ?_) ?_ ?_
    rotate_left
    ·show Act.put _ (some 38) _ = _
     simp only [nm_]
     rfl
    refine pure_ (i := 9) (N := some 9) (v := ?_) (a' := ?_) (ar 10 0) rfl rfl (by kernel_rfl) (fun _ _ _ h => h) (Or.inl ⟨by rfl, ?_⟩) ?_ ?_; rotate_left; (intro w'; go_simp; with_reducible rfl); rotate_left; · simp only [nm_]; rfl
    refine done_ (by kernel_rfl) ?_
    go_wp2_with fail
    have hcs63 := HCL.out
    have HWI : Aside0 (wrap64 ((i : Int) + 1) = ((i + 1 : Nat) : Int)) := ⟨by unfold wrap64; omega⟩
    go_roundg (cs.length - (i + 1))
    case measure => omega
    case rel => exact ⟨i + 1, _, by omega, by omega, by first | go_num | (rw [HWI.out]), rfl, ⟨by rw [HN.out]; exact HR6.out⟩, HG6⟩
   ·obtain rfl : i = cs.length := by omega
    have hltz : ¬ (cs.length : Int) < (cs.length : Int) := by omega
    have HT : Aside0 ((cs.take cs.length).map (atV l xs) = cs.map (atV l xs)) := ⟨by rw [List.take_length]⟩
    rw [HT.out] at HR
    go_wp2_with fail
    go_ret2
    exact ⟨_, rfl, Kd.R_lower HR.out HG4.out.size, Grew.trans HG4.out HGr.out⟩
 ·have HV : Aside0 (critVA n l xs = []) := ⟨by unfold critVA; rw [if_neg hz]⟩
  rw [HV.out]
  rw [if_neg hz] at HC
  clear HV
  generalize mcode n l (funB l xs) (morseB l xs) = cc at HC hz ⊢
  go_enter Try.func57, Try.ntmps57
  go_wp2_with fail
  refine HC.out.mono ?_
  rintro e w1 ⟨v1, rfl, hR1, hG1⟩
  have HG1 := Aside0.mk (Grew.trans HG.out hG1)
  clear hG1 k0 k1 hR1
  go_wp2_with fail
  go_ret2
  exact ⟨_, rfl, Kd.R_nil _ _ _ _ _, HG1.out⟩

end Go.Proofs.Ytniikppojffiaaa.K
end

section
/- The walk through the law FnExactCriticalValues. -/
namespace Go.Proofs.Ytniikppojffiaaa.K
open Go.RowKit Go.Shelf Go.Proofs.Ytniikppojffiaaa.Q Go.Proofs.YtniikppojffiaaaW.PrintWords Go.Proofs.YtniikppojffiaaaW.PrintLast Go.Proofs.YtniikppojffiaaaW.PrintMore
set_option linter.unusedVariables false
set_option linter.unusedSimpArgs false

set_option maxRecDepth 100000 in
set_option maxHeartbeats 8000000 in
theorem LCriticalValues_i0 (n0 : Int) (A0 : Option Addr) (c0 : Nat) (l0 : List Int) (A1 : Option Addr) (c1 : Nat) (l1 : List Int) (w : World) (hr0 : Ki.C w A0 l0.length l0) (hc0 : l0.length ≤ c0) (hr1 : Ki.C w A1 l1.length l1) (hc1 : l1.length ≤ c1)  (hz : (1048576 : Int) < (l1.length : Int)) :
  Calls Try.prog 16 #[.agg #[I n0, .slice A0 l0.length c0], .slice A1 l1.length c1] w fun e w' => e = .returned (.bool true) ∧ Grew w w' := by
 have hbig0 := hr0.2.1
 have HR0 := Aside0.mk hr0
 have HC0 := Aside0.mk hc0
 clear hr0 hc0
 have hbig1 := hr1.2.1
 have HR1 := Aside0.mk hr1
 have HC1 := Aside0.mk hc1
 clear hr1 hc1
 obtain ⟨W0, hW0⟩ : ∃ W0, W0 = (w.alloc (.cells #[I n0, .slice A0 l0.length c0] 24)) := ⟨_, rfl⟩
 have hb_p0 : (Item.box w.heap.size 24 #[I n0, .slice A0 l0.length c0]).ok W0 := by
  rw [hW0]
  have := blk_new w (.cells #[I n0, .slice A0 l0.length c0] 24)
  exact this
 have HM0 : Aside0 (Mem W0 [.box w.heap.size 24 #[I n0, .slice A0 l0.length c0]]) := ⟨Mem.cons (it := .box w.heap.size 24 #[I n0, .slice A0 l0.length c0]) hb_p0 (Mem.nil _)⟩
 have HG0 : Aside0 (Grew w W0) := ⟨by rw [hW0]; exact below_alloc (Grew.refl w) _⟩
 have hs0 : W0.heap.size = w.heap.size + 1 := by rw [hW0]; simp
 clear hb_p0
 subst hW0
 go_enter Try.func16, Try.ntmps16
 go_wp2_with fail
 go_ret
 exact ⟨rfl, HG0.out⟩

set_option maxRecDepth 100000 in
set_option maxHeartbeats 8000000 in
theorem LCriticalValues_b0 (n0 : Int) (A0 : Option Addr) (c0 : Nat) (l0 : List Int) (A1 : Option Addr) (c1 : Nat) (l1 : List Int) (w : World) (hr0 : Ki.C w A0 l0.length l0) (hc0 : l0.length ≤ c0) (hr1 : Ki.C w A1 l1.length l1) (hc1 : l1.length ≤ c1) (hn1 : ¬ (1048576 : Int) < (l1.length : Int))  (hz : (1048576 : Int) < (l0.length : Int)) :
  Calls Try.prog 16 #[.agg #[I n0, .slice A0 l0.length c0], .slice A1 l1.length c1] w fun e w' => e = .returned (.bool true) ∧ Grew w w' := by
 have hbig0 := hr0.2.1
 have HR0 := Aside0.mk hr0
 have HC0 := Aside0.mk hc0
 clear hr0 hc0
 have hbig1 := hr1.2.1
 have HR1 := Aside0.mk hr1
 have HC1 := Aside0.mk hc1
 clear hr1 hc1
 obtain ⟨W0, hW0⟩ : ∃ W0, W0 = (w.alloc (.cells #[I n0, .slice A0 l0.length c0] 24)) := ⟨_, rfl⟩
 have hb_p0 : (Item.box w.heap.size 24 #[I n0, .slice A0 l0.length c0]).ok W0 := by
  rw [hW0]
  have := blk_new w (.cells #[I n0, .slice A0 l0.length c0] 24)
  exact this
 have HM0 : Aside0 (Mem W0 [.box w.heap.size 24 #[I n0, .slice A0 l0.length c0]]) := ⟨Mem.cons (it := .box w.heap.size 24 #[I n0, .slice A0 l0.length c0]) hb_p0 (Mem.nil _)⟩
 have HG0 : Aside0 (Grew w W0) := ⟨by rw [hW0]; exact below_alloc (Grew.refl w) _⟩
 have hs0 : W0.heap.size = w.heap.size + 1 := by rw [hW0]; simp
 clear hb_p0
 have H0 := Aside0.mk (szC_calls n0 A0 c0 l0 (1048576 : Int) (by omega) W0 (Kd.C_below HR0.out HG0.out) HC0.out)
 rw [if_pos (by omega)] at H0
 have p0_0 : W0.cell? ⟨w.heap.size, 0, none⟩ = some (I n0) := blk_cell HM0.out.head 0
 have p0_1 : W0.cell? ⟨w.heap.size, 1, none⟩ = some (.slice A0 l0.length c0) := blk_cell HM0.out.head 1
 subst hW0
 go_enter Try.func16, Try.ntmps16
 go_wp2_with fail
 refine H0.out.mono ?_
 rintro e w1 ⟨rfl, hG1⟩
 clear p0_0 p0_1
 have HM1 := Aside0.mk (HM0.out.grew hG1)
 have HG1 := Aside0.mk (Grew.trans HG0.out hG1)
 have hs1 := hG1.size
 try simp at hs1
 clear hG1 H0
 go_wp2_with fail
 go_ret
 exact ⟨rfl, HG1.out⟩

set_option maxRecDepth 100000 in
set_option maxHeartbeats 8000000 in
theorem LCriticalValues_main (n0 : Int) (A0 : Option Addr) (c0 : Nat) (l0 : List Int) (A1 : Option Addr) (c1 : Nat) (l1 : List Int) (w : World) (hr0 : Ki.C w A0 l0.length l0) (hc0 : l0.length ≤ c0) (hr1 : Ki.C w A1 l1.length l1) (hc1 : l1.length ≤ c1) (hn1 : ¬ (1048576 : Int) < (l1.length : Int)) (hl0 : ¬ (1048576 : Int) < (l0.length : Int)) :
  Calls Try.prog 16 #[.agg #[I n0, .slice A0 l0.length c0], .slice A1 l1.length c1] w fun e w' => e = .returned (.bool true) ∧ Grew w w' := by
  obtain ⟨r0, r1, HS, HI, hlen0⟩ : ∃ (r0 : List Int) (r1 : Int), Aside0 (∀ W A0 c0 A1 c1, Ki.C W A0 l0.length l0 → l0.length ≤ c0 → Ki.C W A1 l1.length l1 → l1.length ≤ c1 → Calls Try.prog 57 #[.agg #[I n0, .slice A0 l0.length c0], .slice A1 l1.length c1] W fun e w' => ∃ v0, e = .returned (.tuple #[v0, I r1]) ∧ Ki.R 2 w' W.heap.size (fun _ => True) v0 r0 ∧ Grew W w') ∧ Aside0 (∀ W A0 c0 A1 c1, Ki.C W A0 l0.length l0 → l0.length ≤ c0 → Ki.C W A1 l1.length l1 → l1.length ≤ c1 → Calls Try.prog 58 #[.agg #[I n0, .slice A0 l0.length c0], .slice A1 l1.length c1] W fun e w' => ∃ v0, e = .returned (.tuple #[v0, I r1]) ∧ Ki.R 2 w' W.heap.size (fun _ => True) v0 r0 ∧ Grew W w') ∧ r0.length ≤ 1000000 := by
   have hbig0 := hr0.2.1
   have hbig1 := hr1.2.1
   have hS := fun (W : World) (A0 : Option Addr) (c0 : Nat) (A1 : Option Addr) (c1 : Nat) (hr0 : Ki.C W A0 l0.length l0) (hc0 : l0.length ≤ c0) (hr1 : Ki.C W A1 l1.length l1) (hc1 : l1.length ≤ c1) => sCritV_calls n0 A0 c0 l0 A1 c1 l1 W ⟨hr0, hc0, by omega⟩ (by omega) hr1 hc1 (by omega)
   have hI := fun (W : World) (A0 : Option Addr) (c0 : Nat) (A1 : Option Addr) (c1 : Nat) (hr0 : Ki.C W A0 l0.length l0) (hc0 : l0.length ≤ c0) (hr1 : Ki.C W A1 l1.length l1) (hc1 : l1.length ≤ c1) => CritV_calls n0 A0 c0 l0 A1 c1 l1 W ⟨hr0, hc0, by omega⟩ hr1 hc1 (by omega)
   have hlen0 := critVA_len (n := n0) (l := l0) (f := l1)
   exact ⟨(critVA n0 l0 l1), (mcode n0 l0 (funB l0 l1) (morseB l0 l1)), ⟨hS⟩, ⟨hI⟩, Nat.le_trans hlen0 (by decide)⟩
  have hbig0 := hr0.2.1
  have HR0 := Aside0.mk hr0
  have HC0 := Aside0.mk hc0
  clear hr0 hc0
  have hbig1 := hr1.2.1
  have HR1 := Aside0.mk hr1
  have HC1 := Aside0.mk hc1
  clear hr1 hc1
  obtain ⟨W0, hW0⟩ : ∃ W0, W0 = (w.alloc (.cells #[I n0, .slice A0 l0.length c0] 24)) := ⟨_, rfl⟩
  have hb_p0 : (Item.box w.heap.size 24 #[I n0, .slice A0 l0.length c0]).ok W0 := by
   rw [hW0]
   have := blk_new w (.cells #[I n0, .slice A0 l0.length c0] 24)
   exact this
  have HM0 : Aside0 (Mem W0 [.box w.heap.size 24 #[I n0, .slice A0 l0.length c0]]) := ⟨Mem.cons (it := .box w.heap.size 24 #[I n0, .slice A0 l0.length c0]) hb_p0 (Mem.nil _)⟩
  have HG0 : Aside0 (Grew w W0) := ⟨by rw [hW0]; exact below_alloc (Grew.refl w) _⟩
  have hs0 : W0.heap.size = w.heap.size + 1 := by rw [hW0]; simp
  clear hb_p0
  have H0 := Aside0.mk (szC_calls n0 A0 c0 l0 (1048576 : Int) (by omega) W0 (Kd.C_below HR0.out HG0.out) HC0.out)
  rw [if_neg (by omega)] at H0
  have p0_0 : W0.cell? ⟨w.heap.size, 0, none⟩ = some (I n0) := blk_cell HM0.out.head 0
  have p0_1 : W0.cell? ⟨w.heap.size, 1, none⟩ = some (.slice A0 l0.length c0) := blk_cell HM0.out.head 1
  subst hW0
  go_enter Try.func16, Try.ntmps16
  have hneg0 : ¬ (((1048576 : Int) - (l0.length : Int)) < 0) := by omega
  go_wp2_with fail
  refine H0.out.mono ?_
  rintro e w1 ⟨rfl, hG1⟩
  clear p0_0 p0_1
  have HM1 := Aside0.mk (HM0.out.grew hG1)
  have HG1 := Aside0.mk (Grew.trans HG0.out hG1)
  have hs1 := hG1.size
  try simp at hs1
  clear hG1 H0
  have p0_0 : w1.cell? ⟨w.heap.size, 0, none⟩ = some (I n0) := blk_cell HM1.out.head 0
  have p0_1 : w1.cell? ⟨w.heap.size, 1, none⟩ = some (.slice A0 l0.length c0) := blk_cell HM1.out.head 1
  go_wp2_with fail
  clear p0_0 p0_1
  refine (toC_calls n0 A0 c0 l0 w1 (Kd.C_below HR0.out HG1.out) HC0.out (by omega)).mono ?_
  rintro e w2 ⟨AS0, cS0, rfl, hR2, hG2⟩
  have HM2 : Aside0 (Mem w2 [.row w1.heap.size w2.heap.size (.slice AS0 l0.length cS0) l0, .box w.heap.size 24 #[I n0, .slice A0 l0.length c0]]) := ⟨Mem.cons (it := .row w1.heap.size w2.heap.size (.slice AS0 l0.length cS0) l0) (hR2) (HM1.out.grew hG2)⟩
  have HG2 := Aside0.mk (Grew.trans HG1.out hG2)
  have hs2 := hG2.size
  clear hG2 
  go_wp2_with fail
  refine (toI_calls A1 c1 l1 w2 (Kd.C_below HR1.out HG2.out) HC1.out (by omega)).mono ?_
  rintro e w3 ⟨AS1, cS1, rfl, hR3, hG3⟩
  have HM3 : Aside0 (Mem w3 [.row w2.heap.size w3.heap.size (.slice AS1 l1.length cS1) l1, .row w1.heap.size w2.heap.size (.slice AS0 l0.length cS0) l0, .box w.heap.size 24 #[I n0, .slice A0 l0.length c0]]) := ⟨Mem.cons (it := .row w2.heap.size w3.heap.size (.slice AS1 l1.length cS1) l1) (hR3) (HM2.out.grew hG3)⟩
  have HG3 := Aside0.mk (Grew.trans HG2.out hG3)
  have hs3 := hG3.size
  clear hG3 
  go_wp2_with fail
  refine (HS.out w3 AS0 cS0 AS1 cS1 (Row.slice HM3.out.tail.head).2.2 (Row.slice HM3.out.tail.head).2.1 (Row.slice HM3.out.head).2.2 (Row.slice HM3.out.head).2.1).mono ?_
  rintro e w4 ⟨vw0, rfl, hRw0, hG4⟩
  obtain ⟨Aw0, cw0, rfl⟩ := Kd.R_slice hRw0
  have HM4 : Aside0 (Mem w4 [.row w3.heap.size w4.heap.size (.slice Aw0 r0.length cw0) r0, .row w2.heap.size w3.heap.size (.slice AS1 l1.length cS1) l1, .row w1.heap.size w2.heap.size (.slice AS0 l0.length cS0) l0, .box w.heap.size 24 #[I n0, .slice A0 l0.length c0]]) := ⟨Mem.cons (it := .row w3.heap.size w4.heap.size (.slice Aw0 r0.length cw0) r0) (Row.of_R hRw0) (HM3.out.grew hG4)⟩
  have HG4 := Aside0.mk (Grew.trans HG3.out hG4)
  have hs4 := hG4.size
  clear hG4 
  have p0_0 : w4.cell? ⟨w.heap.size, 0, none⟩ = some (I n0) := blk_cell HM4.out.tail.tail.tail.head 0
  have p0_1 : w4.cell? ⟨w.heap.size, 1, none⟩ = some (.slice A0 l0.length c0) := blk_cell HM4.out.tail.tail.tail.head 1
  go_wp2_with fail
  clear p0_0 p0_1
  refine (toC_calls n0 A0 c0 l0 w4 (Kd.C_below HR0.out HG4.out) HC0.out (by omega)).mono ?_
  rintro e w5 ⟨Ax0, cx0, rfl, hR5, hG5⟩
  have HM5 : Aside0 (Mem w5 [.row w4.heap.size w5.heap.size (.slice Ax0 l0.length cx0) l0, .row w3.heap.size w4.heap.size (.slice Aw0 r0.length cw0) r0, .row w2.heap.size w3.heap.size (.slice AS1 l1.length cS1) l1, .row w1.heap.size w2.heap.size (.slice AS0 l0.length cS0) l0, .box w.heap.size 24 #[I n0, .slice A0 l0.length c0]]) := ⟨Mem.cons (it := .row w4.heap.size w5.heap.size (.slice Ax0 l0.length cx0) l0) (hR5) (HM4.out.grew hG5)⟩
  have HG5 := Aside0.mk (Grew.trans HG4.out hG5)
  have hs5 := hG5.size
  clear hG5 
  have HM6 : Aside0 (Mem (w5.alloc (.cells #[I n0, .slice Ax0 l0.length cx0] 30)) [.box w5.heap.size 30 #[I n0, .slice Ax0 l0.length cx0], .row w4.heap.size w5.heap.size (.slice Ax0 l0.length cx0) l0, .row w3.heap.size w4.heap.size (.slice Aw0 r0.length cw0) r0, .row w2.heap.size w3.heap.size (.slice AS1 l1.length cS1) l1, .row w1.heap.size w2.heap.size (.slice AS0 l0.length cS0) l0, .box w.heap.size 24 #[I n0, .slice A0 l0.length c0]]) := ⟨Mem.cons (blk_new w5 _) (HM5.out.grew (below_alloc (Grew.refl w5) _))⟩
  have HG6 : Aside0 (Grew w (w5.alloc (.cells #[I n0, .slice Ax0 l0.length cx0] 30))) := ⟨Grew.trans HG5.out (below_alloc (Grew.refl w5) _)⟩
  have hS6 : (w5.alloc (.cells #[I n0, .slice Ax0 l0.length cx0] 30)).heap.size = w5.heap.size + 1 := by simp
  go_wp2_with fail
  generalize (w5.alloc (.cells #[I n0, .slice Ax0 l0.length cx0] 30)) = W6 at HM6 HG6 hS6  ⊢
  refine (toI_calls A1 c1 l1 W6 (Kd.C_below HR1.out HG6.out) HC1.out (by omega)).mono ?_
  rintro e w7 ⟨Ax1, cx1, rfl, hR7, hG7⟩
  have HM7 : Aside0 (Mem w7 [.row W6.heap.size w7.heap.size (.slice Ax1 l1.length cx1) l1, .box w5.heap.size 30 #[I n0, .slice Ax0 l0.length cx0], .row w4.heap.size w5.heap.size (.slice Ax0 l0.length cx0) l0, .row w3.heap.size w4.heap.size (.slice Aw0 r0.length cw0) r0, .row w2.heap.size w3.heap.size (.slice AS1 l1.length cS1) l1, .row w1.heap.size w2.heap.size (.slice AS0 l0.length cS0) l0, .box w.heap.size 24 #[I n0, .slice A0 l0.length c0]]) := ⟨Mem.cons (it := .row W6.heap.size w7.heap.size (.slice Ax1 l1.length cx1) l1) (hR7) (HM6.out.grew hG7)⟩
  have HG7 := Aside0.mk (Grew.trans HG6.out hG7)
  have hs7 := hG7.size
  clear hG7 
  have bx0_0 : w7.cell? ⟨w5.heap.size, 0, none⟩ = some (I n0) := blk_cell HM7.out.tail.head 0
  have bx0_1 : w7.cell? ⟨w5.heap.size, 1, none⟩ = some (.slice Ax0 l0.length cx0) := blk_cell HM7.out.tail.head 1
  go_wp2_with fail
  clear bx0_0 bx0_1
  refine (HI.out w7 Ax0 cx0 Ax1 cx1 (Row.slice HM7.out.tail.tail.head).2.2 (Row.slice HM7.out.tail.tail.head).2.1 (Row.slice HM7.out.head).2.2 (Row.slice HM7.out.head).2.1).mono ?_
  rintro e w8 ⟨vg0, rfl, hRg0, hG8⟩
  obtain ⟨Ag0, cg0, rfl⟩ := Kd.R_slice hRg0
  have HM8 : Aside0 (Mem w8 [.row w7.heap.size w8.heap.size (.slice Ag0 r0.length cg0) r0, .row W6.heap.size w7.heap.size (.slice Ax1 l1.length cx1) l1, .box w5.heap.size 30 #[I n0, .slice Ax0 l0.length cx0], .row w4.heap.size w5.heap.size (.slice Ax0 l0.length cx0) l0, .row w3.heap.size w4.heap.size (.slice Aw0 r0.length cw0) r0, .row w2.heap.size w3.heap.size (.slice AS1 l1.length cS1) l1, .row w1.heap.size w2.heap.size (.slice AS0 l0.length cS0) l0, .box w.heap.size 24 #[I n0, .slice A0 l0.length c0]]) := ⟨Mem.cons (it := .row w7.heap.size w8.heap.size (.slice Ag0 r0.length cg0) r0) (Row.of_R hRg0) (HM7.out.grew hG8)⟩
  have HG8 := Aside0.mk (Grew.trans HG7.out hG8)
  have hs8 := hG8.size
  clear hG8 
  go_wp2_with fail
  refine (eqI_calls r0 Ag0 Aw0 cg0 cw0 _ _ _ _ _ _ w8 HM8.out.head HM8.out.tail.tail.tail.tail.head).mono ?_
  rintro e w9 ⟨rfl, hG9⟩
  have HM9 := Aside0.mk (HM8.out.grew hG9)
  have HG9 := Aside0.mk (Grew.trans HG8.out hG9)
  have hs9 := hG9.size
  clear hG9
  go_wp2_with fail
  have bx0_0 : w9.cell? ⟨w5.heap.size, 0, none⟩ = some (I n0) := blk_cell HM9.out.tail.tail.head 0
  have bx0_1 : w9.cell? ⟨w5.heap.size, 1, none⟩ = some (.slice Ax0 l0.length cx0) := blk_cell HM9.out.tail.tail.head 1
  have p0_0 : w9.cell? ⟨w.heap.size, 0, none⟩ = some (I n0) := blk_cell HM9.out.tail.tail.tail.tail.tail.tail.tail.head 0
  have p0_1 : w9.cell? ⟨w.heap.size, 1, none⟩ = some (.slice A0 l0.length c0) := blk_cell HM9.out.tail.tail.tail.tail.tail.tail.tail.head 1
  have hlx : w5.heap.size < w9.heap.size := World.block_lt_of_cell? w9 _ bx0_0
  have hlp : w.heap.size < w9.heap.size := World.block_lt_of_cell? w9 _ p0_0
  go_region_held3 (fun w' => w'.cell? ⟨w5.heap.size, 0, none⟩ = some (I n0) ∧ w'.cell? ⟨w5.heap.size, 1, none⟩ = some (.slice Ax0 l0.length cx0) ∧ w'.cell? ⟨w.heap.size, 0, none⟩ = some (I n0) ∧ w'.cell? ⟨w.heap.size, 1, none⟩ = some (.slice A0 l0.length c0))
   (first | exact ⟨(HDb.out.cell (p := ⟨w5.heap.size, 0, none⟩) hlx).trans bx0_0, (HDb.out.cell (p := ⟨w5.heap.size, 1, none⟩) hlx).trans bx0_1, (HDb.out.cell (p := ⟨w.heap.size, 0, none⟩) hlp).trans p0_0, (HDb.out.cell (p := ⟨w.heap.size, 1, none⟩) hlp).trans p0_1⟩ | exact ⟨(HDa.out.cell (p := ⟨w5.heap.size, 0, none⟩) hlx).trans bx0_0, (HDa.out.cell (p := ⟨w5.heap.size, 1, none⟩) hlx).trans bx0_1, (HDa.out.cell (p := ⟨w.heap.size, 0, none⟩) hlp).trans p0_0, (HDa.out.cell (p := ⟨w.heap.size, 1, none⟩) hlp).trans p0_1⟩ | go_keep)
   (first
    | (go_at_call 20; refine (toC_calls n0 A0 c0 l0 _ (Kd.C_below HR0.out (Below.trans HG9.out ((Below.refl _ w9).drew))) HC0.out (by omega)).mono ?_; rintro e w10 ⟨Aq0, cq0, rfl, hRa, hGa⟩; have HDa : Aside0 (Grew w9 w10) := ⟨Below.trans ((Below.refl _ w9).drew) hGa⟩; have HRa := Aside0.mk hRa; clear hRa hGa)
    | (go_at_call 23; refine (eqC_calls n0 l0 Ax0 Aq0 cx0 cq0 _ _ _ _ _ _ w10 (HM9.out.grew HDa.out).tail.tail.tail.head HRa.out).mono ?_; rintro e w11 ⟨rfl, hGb⟩; have HDb : Aside0 (Grew w9 w11) := ⟨Grew.trans HDa.out hGb⟩; clear hGb))
  clear bx0_0 bx0_1 p0_0 p0_1
  have hG11 := HDb.out
  clear hlx hlp HDa HDb HRa
  have HM11 := Aside0.mk (HM9.out.grew hG11)
  have HG11 := Aside0.mk (Grew.trans HG9.out hG11)
  have hs11 := hG11.size
  clear hG11
  go_wp2_with fail
  refine (toI_calls A1 c1 l1 w11 (Kd.C_below HR1.out HG11.out) HC1.out (by omega)).mono ?_
  rintro e w12 ⟨Ay1, cy1, rfl, hR12, hG12⟩
  have HM12 : Aside0 (Mem w12 [.row w11.heap.size w12.heap.size (.slice Ay1 l1.length cy1) l1, .row w7.heap.size w8.heap.size (.slice Ag0 r0.length cg0) r0, .row W6.heap.size w7.heap.size (.slice Ax1 l1.length cx1) l1, .box w5.heap.size 30 #[I n0, .slice Ax0 l0.length cx0], .row w4.heap.size w5.heap.size (.slice Ax0 l0.length cx0) l0, .row w3.heap.size w4.heap.size (.slice Aw0 r0.length cw0) r0, .row w2.heap.size w3.heap.size (.slice AS1 l1.length cS1) l1, .row w1.heap.size w2.heap.size (.slice AS0 l0.length cS0) l0, .box w.heap.size 24 #[I n0, .slice A0 l0.length c0]]) := ⟨Mem.cons (it := .row w11.heap.size w12.heap.size (.slice Ay1 l1.length cy1) l1) (hR12) (HM11.out.grew hG12)⟩
  have HG12 := Aside0.mk (Grew.trans HG11.out hG12)
  have hs12 := hG12.size
  clear hG12 
  go_wp2_with fail
  refine (eqI_calls l1 Ax1 Ay1 cx1 cy1 _ _ _ _ _ _ w12 HM12.out.tail.tail.head HM12.out.head).mono ?_
  rintro e w13 ⟨rfl, hG13⟩
  have HM13 := Aside0.mk (HM12.out.grew hG13)
  have HG13 := Aside0.mk (Grew.trans HG12.out hG13)
  have hs13 := hG13.size
  clear hG13
  have bx0_0 : w13.cell? ⟨w5.heap.size, 0, none⟩ = some (I n0) := blk_cell HM13.out.tail.tail.tail.head 0
  have bx0_1 : w13.cell? ⟨w5.heap.size, 1, none⟩ = some (.slice Ax0 l0.length cx0) := blk_cell HM13.out.tail.tail.tail.head 1
  go_wp2_with fail
  clear bx0_0 bx0_1
  refine (markC_calls n0 Ax0 l0.length cx0 l0 1 (by omega) (by omega) _ _ w w13 HG13.out (by omega) HM13.out.tail.tail.tail.tail.head).mono ?_
  rintro e w14 ⟨rfl, hX14, hB14, hK14⟩
  have HM14 : Aside0 (Mem w14 [.row w11.heap.size w12.heap.size (.slice Ay1 l1.length cy1) l1, .row w7.heap.size w8.heap.size (.slice Ag0 r0.length cg0) r0, .row W6.heap.size w7.heap.size (.slice Ax1 l1.length cx1) l1, .box w5.heap.size 30 #[I n0, .slice Ax0 l0.length cx0], .row w3.heap.size w4.heap.size (.slice Aw0 r0.length cw0) r0, .row w2.heap.size w3.heap.size (.slice AS1 l1.length cS1) l1, .row w1.heap.size w2.heap.size (.slice AS0 l0.length cS0) l0, .box w.heap.size 24 #[I n0, .slice A0 l0.length c0]]) := ⟨Mem.kept (Mem.cons (it := .row w11.heap.size w12.heap.size (.slice Ay1 l1.length cy1) l1) HM13.out.head (Mem.cons (it := .row w7.heap.size w8.heap.size (.slice Ag0 r0.length cg0) r0) HM13.out.tail.head (Mem.cons (it := .row W6.heap.size w7.heap.size (.slice Ax1 l1.length cx1) l1) HM13.out.tail.tail.head (Mem.cons (it := .box w5.heap.size 30 #[I n0, .slice Ax0 l0.length cx0]) HM13.out.tail.tail.tail.head (Mem.cons (it := .row w3.heap.size w4.heap.size (.slice Aw0 r0.length cw0) r0) HM13.out.tail.tail.tail.tail.tail.head (Mem.cons (it := .row w2.heap.size w3.heap.size (.slice AS1 l1.length cS1) l1) HM13.out.tail.tail.tail.tail.tail.tail.head (Mem.cons (it := .row w1.heap.size w2.heap.size (.slice AS0 l0.length cS0) l0) HM13.out.tail.tail.tail.tail.tail.tail.tail.head (Mem.cons (it := .box w.heap.size 24 #[I n0, .slice A0 l0.length c0]) HM13.out.tail.tail.tail.tail.tail.tail.tail.tail.head (Mem.nil _))))))))) hK14 (by intro it hit k hk; simp only [List.mem_cons, List.not_mem_nil, or_false] at hit; rcases hit with rfl | rfl | rfl | rfl | rfl | rfl | rfl | rfl <;> (simp only [Item.at_] at hk; omega))⟩
  have HG14 := Aside0.mk hB14
  have hs14 := hK14.1
  clear hX14 hB14 hK14
  go_wp2_with fail
  refine (markI_calls Ax1 l1.length cx1 l1 (1 + (l0.length : Int)) (by omega) (by omega) _ _ w w14 HG14.out (by omega) HM14.out.tail.tail.head).mono ?_
  rintro e w15 ⟨rfl, hX15, hB15, hK15⟩
  have HM15 : Aside0 (Mem w15 [.row w11.heap.size w12.heap.size (.slice Ay1 l1.length cy1) l1, .row w7.heap.size w8.heap.size (.slice Ag0 r0.length cg0) r0, .box w5.heap.size 30 #[I n0, .slice Ax0 l0.length cx0], .row w3.heap.size w4.heap.size (.slice Aw0 r0.length cw0) r0, .row w2.heap.size w3.heap.size (.slice AS1 l1.length cS1) l1, .row w1.heap.size w2.heap.size (.slice AS0 l0.length cS0) l0, .box w.heap.size 24 #[I n0, .slice A0 l0.length c0]]) := ⟨Mem.kept (Mem.cons (it := .row w11.heap.size w12.heap.size (.slice Ay1 l1.length cy1) l1) HM14.out.head (Mem.cons (it := .row w7.heap.size w8.heap.size (.slice Ag0 r0.length cg0) r0) HM14.out.tail.head (Mem.cons (it := .box w5.heap.size 30 #[I n0, .slice Ax0 l0.length cx0]) HM14.out.tail.tail.tail.head (Mem.cons (it := .row w3.heap.size w4.heap.size (.slice Aw0 r0.length cw0) r0) HM14.out.tail.tail.tail.tail.head (Mem.cons (it := .row w2.heap.size w3.heap.size (.slice AS1 l1.length cS1) l1) HM14.out.tail.tail.tail.tail.tail.head (Mem.cons (it := .row w1.heap.size w2.heap.size (.slice AS0 l0.length cS0) l0) HM14.out.tail.tail.tail.tail.tail.tail.head (Mem.cons (it := .box w.heap.size 24 #[I n0, .slice A0 l0.length c0]) HM14.out.tail.tail.tail.tail.tail.tail.tail.head (Mem.nil _)))))))) hK15 (by intro it hit k hk; simp only [List.mem_cons, List.not_mem_nil, or_false] at hit; rcases hit with rfl | rfl | rfl | rfl | rfl | rfl | rfl <;> (simp only [Item.at_] at hk; omega))⟩
  have HG15 := Aside0.mk hB15
  have hs15 := hK15.1
  clear hX15 hB15 hK15
  have hneg : ¬ (((1 + (l0.length : Int)) + (l1.length : Int)) < 0) := by omega
  go_wp2_with fail
  refine (eqI_calls r0 Ag0 Aw0 cg0 cw0 _ _ _ _ _ _ w15 HM15.out.tail.head HM15.out.tail.tail.tail.head).mono ?_
  rintro e w16 ⟨rfl, hG16⟩
  have HM16 := Aside0.mk (HM15.out.grew hG16)
  have HG16 := Aside0.mk (Grew.trans HG15.out hG16)
  have hs16 := hG16.size
  clear hG16
  clear hneg
  go_wp2_with fail
  refine (markI_calls Ag0 r0.length cg0 r0 1 (by omega) (by omega) _ _ w w16 HG16.out (by omega) HM16.out.tail.head).mono ?_
  rintro e w17 ⟨rfl, hX17, hB17, hK17⟩
  have HM17 : Aside0 (Mem w17 [.row w7.heap.size w8.heap.size (.slice Ag0 r0.length cg0) (marks 1 r0.length), .row w11.heap.size w12.heap.size (.slice Ay1 l1.length cy1) l1, .box w5.heap.size 30 #[I n0, .slice Ax0 l0.length cx0], .row w3.heap.size w4.heap.size (.slice Aw0 r0.length cw0) r0, .row w2.heap.size w3.heap.size (.slice AS1 l1.length cS1) l1, .row w1.heap.size w2.heap.size (.slice AS0 l0.length cS0) l0, .box w.heap.size 24 #[I n0, .slice A0 l0.length c0]]) := ⟨Mem.cons (it := .row w7.heap.size w8.heap.size (.slice Ag0 r0.length cg0) (marks 1 r0.length)) hX17 (Mem.kept (Mem.cons (it := .row w11.heap.size w12.heap.size (.slice Ay1 l1.length cy1) l1) HM16.out.head (Mem.cons (it := .box w5.heap.size 30 #[I n0, .slice Ax0 l0.length cx0]) HM16.out.tail.tail.head (Mem.cons (it := .row w3.heap.size w4.heap.size (.slice Aw0 r0.length cw0) r0) HM16.out.tail.tail.tail.head (Mem.cons (it := .row w2.heap.size w3.heap.size (.slice AS1 l1.length cS1) l1) HM16.out.tail.tail.tail.tail.head (Mem.cons (it := .row w1.heap.size w2.heap.size (.slice AS0 l0.length cS0) l0) HM16.out.tail.tail.tail.tail.tail.head (Mem.cons (it := .box w.heap.size 24 #[I n0, .slice A0 l0.length c0]) HM16.out.tail.tail.tail.tail.tail.tail.head (Mem.nil _))))))) hK17 (by intro it hit k hk; simp only [List.mem_cons, List.not_mem_nil, or_false] at hit; rcases hit with rfl | rfl | rfl | rfl | rfl | rfl <;> (simp only [Item.at_] at hk; omega)))⟩
  have HG17 := Aside0.mk hB17
  have hs17 := hK17.1
  clear hX17 hB17 hK17
  have hneg0 : ¬ ((1 + (r0.length : Int)) < 0) := by omega
  go_wp2_with fail
  refine (heldI_calls Ag0 r0.length r0.length cg0 _ _ 1 (by omega) (by omega) w17 HM17.out.head).mono ?_
  rintro e w18 ⟨rfl, hG18⟩
  have HM18 := Aside0.mk (HM17.out.grew hG18)
  have HG18 := Aside0.mk (Grew.trans HG17.out hG18)
  have hs18 := hG18.size
  clear hG18
  have p0_0 : w18.cell? ⟨w.heap.size, 0, none⟩ = some (I n0) := blk_cell HM18.out.tail.tail.tail.tail.tail.tail.head 0
  have p0_1 : w18.cell? ⟨w.heap.size, 1, none⟩ = some (.slice A0 l0.length c0) := blk_cell HM18.out.tail.tail.tail.tail.tail.tail.head 1
  go_wp2_with fail
  clear p0_0 p0_1
  refine (toC_calls n0 A0 c0 l0 w18 (Kd.C_below HR0.out HG18.out) HC0.out (by omega)).mono ?_
  rintro e w19 ⟨Az0, cz0, rfl, hR19, hG19⟩
  have HM19 : Aside0 (Mem w19 [.row w18.heap.size w19.heap.size (.slice Az0 l0.length cz0) l0, .row w7.heap.size w8.heap.size (.slice Ag0 r0.length cg0) (marks 1 r0.length), .row w11.heap.size w12.heap.size (.slice Ay1 l1.length cy1) l1, .box w5.heap.size 30 #[I n0, .slice Ax0 l0.length cx0], .row w3.heap.size w4.heap.size (.slice Aw0 r0.length cw0) r0, .row w2.heap.size w3.heap.size (.slice AS1 l1.length cS1) l1, .row w1.heap.size w2.heap.size (.slice AS0 l0.length cS0) l0, .box w.heap.size 24 #[I n0, .slice A0 l0.length c0]]) := ⟨Mem.cons (it := .row w18.heap.size w19.heap.size (.slice Az0 l0.length cz0) l0) (hR19) (HM18.out.grew hG19)⟩
  have HG19 := Aside0.mk (Grew.trans HG18.out hG19)
  have hs19 := hG19.size
  clear hG19 
  go_wp2_with fail
  refine (toI_calls A1 c1 l1 w19 (Kd.C_below HR1.out HG19.out) HC1.out (by omega)).mono ?_
  rintro e w20 ⟨Az1, cz1, rfl, hR20, hG20⟩
  have HM20 : Aside0 (Mem w20 [.row w19.heap.size w20.heap.size (.slice Az1 l1.length cz1) l1, .row w18.heap.size w19.heap.size (.slice Az0 l0.length cz0) l0, .row w7.heap.size w8.heap.size (.slice Ag0 r0.length cg0) (marks 1 r0.length), .row w11.heap.size w12.heap.size (.slice Ay1 l1.length cy1) l1, .box w5.heap.size 30 #[I n0, .slice Ax0 l0.length cx0], .row w3.heap.size w4.heap.size (.slice Aw0 r0.length cw0) r0, .row w2.heap.size w3.heap.size (.slice AS1 l1.length cS1) l1, .row w1.heap.size w2.heap.size (.slice AS0 l0.length cS0) l0, .box w.heap.size 24 #[I n0, .slice A0 l0.length c0]]) := ⟨Mem.cons (it := .row w19.heap.size w20.heap.size (.slice Az1 l1.length cz1) l1) (hR20) (HM19.out.grew hG20)⟩
  have HG20 := Aside0.mk (Grew.trans HG19.out hG20)
  have hs20 := hG20.size
  clear hG20 
  go_wp2_with fail
  refine (HI.out w20 Az0 cz0 Az1 cz1 (Row.slice HM20.out.tail.head).2.2 (Row.slice HM20.out.tail.head).2.1 (Row.slice HM20.out.head).2.2 (Row.slice HM20.out.head).2.1).mono ?_
  rintro e w21 ⟨vh0, rfl, hRh0, hG21⟩
  obtain ⟨Ah0, ch0, rfl⟩ := Kd.R_slice hRh0
  have HM21 : Aside0 (Mem w21 [.row w20.heap.size w21.heap.size (.slice Ah0 r0.length ch0) r0, .row w19.heap.size w20.heap.size (.slice Az1 l1.length cz1) l1, .row w18.heap.size w19.heap.size (.slice Az0 l0.length cz0) l0, .row w7.heap.size w8.heap.size (.slice Ag0 r0.length cg0) (marks 1 r0.length), .row w11.heap.size w12.heap.size (.slice Ay1 l1.length cy1) l1, .box w5.heap.size 30 #[I n0, .slice Ax0 l0.length cx0], .row w3.heap.size w4.heap.size (.slice Aw0 r0.length cw0) r0, .row w2.heap.size w3.heap.size (.slice AS1 l1.length cS1) l1, .row w1.heap.size w2.heap.size (.slice AS0 l0.length cS0) l0, .box w.heap.size 24 #[I n0, .slice A0 l0.length c0]]) := ⟨Mem.cons (it := .row w20.heap.size w21.heap.size (.slice Ah0 r0.length ch0) r0) (Row.of_R hRh0) (HM20.out.grew hG21)⟩
  have HG21 := Aside0.mk (Grew.trans HG20.out hG21)
  have hs21 := hG21.size
  clear hG21 
  go_wp2_with fail
  refine (eqI_calls r0 Ah0 Aw0 ch0 cw0 _ _ _ _ _ _ w21 HM21.out.head HM21.out.tail.tail.tail.tail.tail.tail.head).mono ?_
  rintro e w22 ⟨rfl, hG22⟩
  have HM22 := Aside0.mk (HM21.out.grew hG22)
  have HG22 := Aside0.mk (Grew.trans HG21.out hG22)
  have hs22 := hG22.size
  clear hG22
  clear hneg0
  have hneg0 : ¬ ((1 + (r0.length : Int)) < 0) := by omega
  go_wp2_with fail
  refine (heldI_calls Ag0 r0.length r0.length cg0 _ _ 1 (by omega) (by omega) w22 HM22.out.tail.tail.tail.head).mono ?_
  rintro e w23 ⟨rfl, hG23⟩
  have HM23 := Aside0.mk (HM22.out.grew hG23)
  have HG23 := Aside0.mk (Grew.trans HG22.out hG23)
  have hs23 := hG23.size
  clear hG23
  go_wp2_with fail
  go_ret
  exact ⟨rfl, HG23.out⟩

theorem LCriticalValues_calls (n0 : Int) (A0 : Option Addr) (c0 : Nat) (l0 : List Int) (A1 : Option Addr) (c1 : Nat) (l1 : List Int) (w : World) (hr0 : Ki.C w A0 l0.length l0) (hc0 : l0.length ≤ c0) (hr1 : Ki.C w A1 l1.length l1) (hc1 : l1.length ≤ c1) :
  Calls Try.prog 16 #[.agg #[I n0, .slice A0 l0.length c0], .slice A1 l1.length c1] w fun e w' => e = .returned (.bool true) ∧ Grew w w' := by
 by_cases hn1 : (1048576 : Int) < (l1.length : Int)
 ·exact LCriticalValues_i0 n0 A0 c0 l0 A1 c1 l1 w hr0 hc0 hr1 hc1  hn1
 by_cases hl0 : (1048576 : Int) < (l0.length : Int)
 ·exact LCriticalValues_b0 n0 A0 c0 l0 A1 c1 l1 w hr0 hc0 hr1 hc1 hn1  hl0
 exact LCriticalValues_main n0 A0 c0 l0 A1 c1 l1 w hr0 hc0 hr1 hc1 hn1 hl0

end Go.Proofs.Ytniikppojffiaaa.K
end

section

namespace Go.Proofs.Ytniikppojffiaaa.fnExactCriticalValues
open Go.ChangeShapes Go.WideShapes Go.ChangeAt Go.RowKit Go.Joins Go.Proofs.Ytniikppojffiaaa.K Go.Proofs.YtniikppojffiaaaW.PrintWords
open Go.ChangeMaps (open_string shut_string)
set_option linter.unusedVariables false
set_option maxRecDepth 100000 in
theorem lifted (os : Os) (started : os.Started) (H : Type) (enc : TypeId × Value → H) :
  ReturnsInHanded {} Try.checked os 16 .any (Rows.fnExactCriticalValuesSpec.pre6 enc Try.prog Try.f16 Rows.fnExactCriticalValuesRow.domain false) (Rows.fnExactCriticalValuesSpec.post enc Try.prog Try.f16 false true false false) := by
 refine returnsInHanded_of_change_sized (C := Try.checked) ownKnob_none started (by kernel_rfl) Try.func16
  (ChangeSpec.witness6 (enc := enc) (C := Try.checked) false ⟨#[], #[.agg #[.int .i64 0, .slice none 0 0], .slice none 0 0], []⟩ 8 (by kernel_rfl) (by kernel_rfl) (by kernel_rfl) (by kernel_rfl)) ?_
 intro W base args ds gs before hval0 hW hcnd hsz0 _
 have hsz : (DataW.weightsEach Try.prog (Try.f16.params.toList ++ Rows.fnExactCriticalValuesSpec.plain.varTypes Try.prog) (ds ++ gs)).all (· ≤ reachBytes) = true := hsz0
 have hval : ∀ (j : Nat) t v, Try.f16.params[j]? = some t → args[j]? = some v → Value.okWide Try.prog W .any base t v := hval0
 have hW' := hW
 obtain ⟨p, q, hA0, hV, rfl, hfz, hnd⟩ := hW
 have hA : DataW.TrodAll enc Try.prog W 0 (fun _ => true) true Try.f16.params.toList args.toList ds p := hA0
 rw [Try.params16] at hA hval hsz
 obtain ⟨v0, vs0, d0, ds0, p0, q0, hargs, rfl, rfl, h0, r0⟩ := trodAll_cons hA
 obtain ⟨v1, vs1, d1, ds1, p1, q1, rfl, rfl, rfl, h1, r1⟩ := trodAll_cons r0
 obtain ⟨rfl, rfl, rfl⟩ := trodAll_nil r1
 obtain rfl : args = #[v0, v1] := by cases args; simp_all
 obtain ⟨rfl, rfl⟩ := trodVars_none hV
 have k0 := h0
 have lt0 : ∀ x ∈ p0, x.block < W.heap.size := by obtain ⟨m, hm⟩ := k0; exact DataW.trod_lt m _ _ _ hm
 obtain ⟨x0, z0, y0_0, y1_0, m0, hv0, hd0, hp0, hy0_0, hy1_0⟩ := open_agg2 Try.underlying24 (by kernel_rfl) (show Try.prog.cellsOf 24 = 2 by kernel_rfl) (hval 0 24 v0 rfl rfl) h0
 obtain ⟨n0, e0_0, _, w0⟩ := DataW.trod_int Try.underlying2 hy0_0
 obtain ⟨A0, c0, l0, e1_0, hc0, hr0, _⟩ := ints_open hy1_0
 simp only [List.cons.injEq, and_true] at e0_0
 subst e0_0 e1_0
 subst hv0
 have k1 := h1
 have lt1 : ∀ x ∈ p1, x.block < W.heap.size := by obtain ⟨m, hm⟩ := k1; exact DataW.trod_lt m _ _ _ hm
 obtain ⟨a1, len1, cap1, hv1⟩ := okWide_slice Try.underlying22 (hval 1 22 v1 rfl rfl)
 obtain ⟨A1, c1, l1, e1, hc1, hr1, _⟩ : ∃ A c l, v1 = .slice A l.length c ∧ l.length ≤ c ∧ Ki.C W A l.length l ∧ ∀ n ∈ l, (Lit.int .i64 n).wf = true := by
  obtain ⟨fuel, hf⟩ := h1
  subst hv1
  exact ints_open hf
 subst e1
 clear hA0 hval0 hsz0 hsz
 refine (K.LCriticalValues_calls n0 A0 c0 l0 A1 c1 l1 W hr0 hc0 hr1 hc1).mono fun e W' ⟨he, bel0⟩ => ?_
 have bel : Below W.heap.size W W' := bel0
 subst he
 exact ⟨_, rfl, _, _, _, [], _, [], hW', trodAll_mk1 (shut_bool Try.underlying4 _), (trodAll_cons_mk (Below.trod laidOut (by kernel_rfl) (of_decide_eq_true (by kernel_rfl)) k0 bel lt0) (trodAll_cons_mk (Below.trod laidOut (by kernel_rfl) (of_decide_eq_true (by kernel_rfl)) k1 bel lt1) trodAll_mk0)), rfl, bel.frame _, fun h => by cases h⟩
set_option maxRecDepth 100000 in
theorem starts : ∃ r, behindMainWord (wordsSigns Try.prog.initOrder.toList) = "cut".toList :: r := by
 have h : Try.prog.initOrder = String.ofList _ := rfl
 rw [h, String.toList_ofList, signs_take 7 _ rfl rfl, signs_take 64 _ rfl rfl, signs_take 3 _ rfl rfl]
 generalize wordsSigns _ = r
 exact ⟨r, by kernel_rfl⟩
set_option maxRecDepth 100000 in
theorem closed : joinedFacts Try.prog 16 Try.f16 Rows.fnExactCriticalValuesSpec Rows.fnExactCriticalValuesRow = true := by
 obtain ⟨r, h⟩ := starts
 unfold joinedFacts
 rw [cut_enter _ r h (by kernel_rfl) (by kernel_rfl) (by kernel_rfl), cut_make _ r h, cut_lifts _ r h]
 exact of_decide_eq_true (by kernel_rfl)
theorem over : Rows.fnExactCriticalValuesRow.holds Try.pinned (OpenSpec.ofChange Rows.fnExactCriticalValuesSpec) :=
 OpenClaim.holds_of_wide 16 Try.f16 rfl rfl rfl rfl rfl rfl rfl ⟨rfl, rfl, rfl, rfl, rfl⟩ rfl rfl rfl rfl rfl (by kernel_rfl) Try.func16 closed
  (of_decide_eq_true (by kernel_rfl)) (by unfold Func.isWrapper; first | (rw [if_pos (by decide +kernel)]; kernel_rfl) | (rw [if_neg (by decide +kernel)]; exact ⟨rfl, rfl⟩))
  (fun os started H enc _ => lifted os started H enc)
theorem proved : Rows.FnExactCriticalValuesSaid := over
#print axioms proved
end Go.Proofs.Ytniikppojffiaaa.fnExactCriticalValues
namespace Go.Proofs.Ytniikppojffiaaa
theorem fnExactCriticalValues_holds : Rows.FnExactCriticalValuesSaid := fnExactCriticalValues.proved
end Go.Proofs.Ytniikppojffiaaa
end
