/- Texts of this work, put together by its pack.py. No conditions. -/
import Derived.Test.YtniikppojffiaaaJFla4
import Derived.Below
import Derived.Deep.Draws
import Derived.Deep.AppendLies
import Derived.Maps.AppendAt
import Derived.OwnWalk
import Derived.Laws.BytesArg
import Derived.Laws.MakeOwn
import Derived.Laws.OwnMore
import Derived.Deep.OwnRows
import Derived.Tactics
import Derived.Lib.ConvBytes
import Derived.Laws.Slices
import Derived.WalkKit
import Derived.KernelRfl
import Derived.RowKit3
import Derived.Deep.LoopGhost
import Derived.Deep.QuietTactic
import Derived.BigQuiet
import Derived.WideLaws
import Derived.Deep.DeepCutAuto
import Derived.Deep.CutBlock
import Derived.Deep.RegionHeld3
import Derived.Laws.Rows
import Derived.Lib.AppendStr
import Derived.ArgAppend
import Derived.Laws.IdiomCopy
import Derived.RowKit
import Derived.OrdersHeld
import Derived.Laws.BitsLemmas
import Derived.Test.YtniikppojffiaaaProg
import Derived.Shelf.Abstract
import Derived.Laws.StructEq
import Derived.LoopN
import Derived.RangeFuncBox
import Derived.RangeFuncLeaves
import Derived.OwnWalkIn
import Derived.TacticsInMore
import Derived.LoopNIn
import Derived.LoopIn
import Derived.Lib.SliceRun
import Derived.ChangeKeysEq
import Derived.Maps.OwnSet
section
/- The reference's falling pairs come to what the program's come to. -/
namespace Go.Proofs.Ytniikppojffiaaa.K
open Go.RowKit Go.Shelf Go.Proofs.Ytniikppojffiaaa.Q Go.Proofs.YtniikppojffiaaaW.PrintWords Go.Proofs.YtniikppojffiaaaW.PrintLast Go.Proofs.YtniikppojffiaaaW.PrintMore
set_option linter.unusedVariables false
set_option linter.unusedSimpArgs false

theorem specAt_loop (n x : Int) (l f : List Int) (hl : l.length ≤ 63) (hf : f.length = l.length) : ∀ (e i k : Nat), l.length - i = e → i ≤ l.length → e < k →
  spec_l04At.l0 k f x (i : Int) n l = some (atV (l.drop i) (f.drop i) x) := by
 intro e
 induction e with
 | zero =>
  intro i k he hi hk
  obtain ⟨k, rfl⟩ : ∃ m, k = m + 1 := ⟨k - 1, by omega⟩
  obtain rfl : i = l.length := by omega
  simp only [spec_l04At.l0]
  rw [if_neg (by omega), List.drop_eq_nil_of_le (by omega)]
  simp [atV]
 | succ e ih =>
  intro i k he hi hk
  obtain ⟨k, rfl⟩ : ∃ m, k = m + 1 := ⟨k - 1, by omega⟩
  have hil : i < l.length := by omega
  have hif : i < f.length := by omega
  simp only [spec_l04At.l0]
  rw [if_pos (by omega), if_pos (by omega), if_pos (by omega), rd_nat l i hil, rd_nat f i hif, w64 ((i : Int) + 1) (by omega) (by omega), nat_succ, ih (i + 1) k (by omega) (by omega) (by omega), List.drop_eq_getElem_cons hil, List.drop_eq_getElem_cons hif, atV]
  split <;> rfl
theorem specAt_is (n x : Int) (l f : List Int) (hl : l.length ≤ 63) (hf : f.length = l.length) (k : Nat) (hk : 64 ≤ k) : spec_l04At.f k n l f x = some (atV l f x) := by
 unfold spec_l04At.f
 have := specAt_loop n x l f hl hf l.length 0 k (by omega) (by omega) (by omega)
 rw [show ((0 : Nat) : Int) = 0 from rfl, List.drop_zero, List.drop_zero] at this
 exact this
theorem pgK_le {l : List Int} (hl : l.length ≤ 63) {q : List PairT} (hq : q.length ≤ 4100) : pgK l q ≤ 17000000 := by
 unfold pgK
 have h1 : q.length * (q.length + 5) ≤ 4100 * 4105 := Nat.mul_le_mul hq (by omega)
 omega
theorem specWith_last {n : Int} {l : List Int} (hC : isC n l = true) (B : Nat) (hB : ∀ q : List PairT, q.length ≤ 4100 → pgK l q ≤ B) (q : List PairT) (hq : q.length ≤ 4099) (x y : Int) (hlt : ∀ p ∈ q, ¬ cmp2 x y p.f0 p.f1 < 0) (k : Nat) (hk : B < k) :
  spec_l02With.f k n l q x y = some (q ++ [⟨x, y⟩], pingB l (q ++ [⟨x, y⟩])) := by
 obtain ⟨k, rfl⟩ : ∃ m, k = m + 1 := ⟨k - 1, by omega⟩
 have h63 := (isC_faces hC).2.2.2
 have hp : (q ++ [(⟨x, y⟩ : PairT)]).length ≤ 4100 := by simp; omega
 have hI := specIs02_is hC (q ++ [⟨x, y⟩]) (by omega) k (Nat.le_trans (hB _ hp) (by omega))
 have hT : q.take (q.length : Int).toNat = q := by simp
 have hD : q.drop (q.length : Int).toNat = [] := by simp
 unfold spec_l02With.f
 simp only [spec_l02With.l0]
 by_cases h0 : q.length = 0
 ·rw [if_neg (by omega), hT, hD]
  simp only [Option.bind_some, List.append_nil, List.nil_append]
  rw [if_pos (by omega), if_pos (by omega), if_pos (by simp), if_pos (by simp; omega), if_pos (by simp; omega), hI]
  rfl
 ·have hw : Aside0 (wrap64 ((q.length : Int) - 1) = ((q.length - 1 : Nat) : Int)) := ⟨by rw [w64 _ (by omega) (by omega)]; omega⟩
  have hlast := hlt _ (List.getElem_mem (show q.length - 1 < q.length by omega))
  rw [if_pos (by omega), hw.out, if_pos (by omega), if_pos (by omega), rdP q (q.length - 1) (by omega), specLess_is, hT, hD]
  simp only [Option.bind_some, List.append_nil, List.nil_append]
  rw [decide_eq_false hlast, if_neg (by simp), if_pos (by omega), if_pos (by omega), if_pos (by simp), if_pos (by simp; omega), if_pos (by simp; omega), hI]
  rfl
theorem above_eq {n : Int} {l : List Int} (hi : isC n l = true) {a : Int} (ha : a ∈ l) : aboveL l a = l.filter fun b => pairK l ⟨a, b⟩ := by
 obtain ⟨hn, hs, hr, h63⟩ := isC_faces hi
 unfold aboveL
 apply List.filter_congr
 intro b hb
 have hra := hr a ha
 have hrb := hr b hb
 unfold pairK
 rw [mem_has hi ha, mem_has hi hb, inB_is a b (by omega) (by omega), and_comm' a b (by omega) (by omega)]
 rfl
theorem pairs_asc {n : Int} {l : List Int} (hi : isC n l = true) : l.Pairwise (· < ·) := (isC_faces hi).2.1
theorem cmp2_ge {x y : Int} {p : PairT} (h : p.f0 < x ∨ p.f0 = x ∧ p.f1 < y) : ¬ cmp2 x y p.f0 p.f1 < 0 := by
 unfold cmp2 cmp1
 rcases h with h | ⟨h, h2⟩
 all_goals (repeat' split)
 all_goals omega
def pick (l f : List Int) (a : Int) (ab : List Int) : List Int := ab.filter fun b => fallP l f ⟨a, b⟩
theorem specPairs_l1 {n : Int} {l f : List Int} (hC : isC n l = true) (B : Nat) (hB : ∀ q : List PairT, q.length ≤ 4100 → pgK l q ≤ B) (hf : f.length = l.length) (i : Nat) (hi : i < l.length) (ab : List Int) (hab : ab.Pairwise (· < ·)) (ha63 : ab.length ≤ 63) : ∀ (e j k c : Nat) (out : List PairT) (g : Bool), ab.length - j = e → j ≤ ab.length → B + e + 100 < k → out.length + e ≤ 4099 → c + e ≤ 100 →
  (∀ p ∈ out, p.f0 < l[i] ∨ p.f0 = l[i] ∧ ∀ b ∈ ab.drop j, p.f1 < b) →
  spec_l04Pairs.l1 k f out g (i : Int) ab (c : Int) (j : Int) n l = spec_l04Pairs.l2 (k - (e + 1)) f (out ++ (pick l f l[i] (ab.drop j)).map fun b => ⟨l[i], b⟩) g (i : Int) ((c + (pick l f l[i] (ab.drop j)).length : Nat) : Int) (bords l[i]) 0 0 n l := by
 obtain ⟨hn, hs, hr, h63⟩ := isC_faces hC
 have hrx := hr _ (List.getElem_mem hi)
 have hA := atV_get l f hs hf i hi (by omega)
 intro e
 induction e with
 | zero =>
  intro j k c out g he hj hk ho hc hout
  obtain ⟨k, rfl⟩ : ∃ m, k = m + 1 := ⟨k - 1, by omega⟩
  obtain rfl : j = ab.length := by omega
  simp only [spec_l04Pairs.l1]
  rw [if_neg (by omega), if_pos (by omega), if_pos (by omega), rd_nat l i hi, specBelow_is l[i] (by omega) (by omega) k (by omega), List.drop_eq_nil_of_le (by omega)]
  simp [pick]
 | succ e ih =>
  intro j k c out g he hj hk ho hc hout
  obtain ⟨k, rfl⟩ : ∃ m, k = m + 1 := ⟨k - 1, by omega⟩
  have hjl : j < ab.length := by omega
  have hkk : k + 1 - (e + 1 + 1) = k - (e + 1) := by omega
  have hd := List.drop_eq_getElem_cons hjl
  have HWj : Aside0 (wrap64 ((j : Int) + 1) = ((j + 1 : Nat) : Int)) := ⟨by rw [w64 _ (by omega) (by omega)]; omega⟩
  have HWc : Aside0 (wrap64 ((c : Int) + 1) = ((c + 1 : Nat) : Int)) := ⟨by rw [w64 _ (by omega) (by omega)]; omega⟩
  simp only [spec_l04Pairs.l1]
  rw [if_pos (by omega), if_pos (by omega), if_pos (by omega), if_pos (by omega), rd_nat ab j hjl, specAt_is n ab[j] l f h63 hf k (by omega), rd_nat f i (by omega), HWj.out, HWc.out]
  simp only [Option.bind_some]
  rw [hd] at hout
  have hpk : fallP l f ⟨l[i], ab[j]⟩ = decide (f[i]'(by omega) ≥ atV l f ab[j]) := by
   unfold fallP
   rw [hA]
   by_cases h : f[i]'(by omega) < atV l f ab[j]
   ·rw [decide_eq_true h, decide_eq_false (by omega)]; rfl
   ·rw [decide_eq_false h, decide_eq_true (by omega)]; rfl
  rw [hkk, hd]
  unfold pick
  rw [List.filter_cons, hpk]
  by_cases h : f[i]'(by omega) ≥ atV l f ab[j]
  ·rw [if_pos h, if_pos (by omega), rd_nat l i hi, specWith_last hC B hB out (by omega) l[i] ab[j] (fun p hp => cmp2_ge (by
    rcases hout p hp with h | ⟨h, h2⟩
    ·exact Or.inl h
    ·exact Or.inr ⟨h, h2 _ List.mem_cons_self⟩)) k (by omega)]
   simp only [Option.bind_some]
   rw [decide_eq_true h, if_pos rfl, ih (j + 1) k (c + 1) (out ++ [(⟨l[i], ab[j]⟩ : PairT)]) g (by omega) (by omega) (by omega) (by simp; omega) (by omega) (fun p hp => by
    rcases List.mem_append.1 hp with hp | hp
    ·rcases hout p hp with h | ⟨h, h2⟩
     ·exact Or.inl h
     ·exact Or.inr ⟨h, fun b hb => h2 b (List.mem_cons_of_mem _ hb)⟩
    ·rw [List.mem_singleton.1 hp]
     refine Or.inr ⟨rfl, fun b hb => ?_⟩
     have := hab.sublist (List.drop_sublist j ab)
     rw [hd, List.pairwise_cons] at this
     exact this.1 b hb)]
   unfold pick
   simp only [List.map_cons, List.append_assoc, List.length_cons, List.singleton_append]
   rw [show c + 1 + ((ab.drop (j + 1)).filter fun b => fallP l f ⟨l[i], b⟩).length = c + (((ab.drop (j + 1)).filter fun b => fallP l f ⟨l[i], b⟩).length + 1) by omega]
  ·rw [if_neg h, decide_eq_false h, if_neg (by simp), ih (j + 1) k c out g (by omega) (by omega) (by omega) (by omega) (by omega) (fun p hp => by
     rcases hout p hp with h | ⟨h, h2⟩
     ·exact Or.inl h
     ·exact Or.inr ⟨h, fun b hb => h2 b (List.mem_cons_of_mem _ hb)⟩)]
   rfl
def below_ (l f : List Int) (a : Int) (bl : List Int) : List Int := bl.filter fun b => fallP l f ⟨b, a⟩
theorem specPairs_l2 {n : Int} {l f : List Int} (hC : isC n l = true) (hf : f.length = l.length) (i : Nat) (hi : i < l.length) (bl : List Int) (hb : bl.length ≤ 6) (out : List PairT) (g : Bool) (c : Nat) : ∀ (e j k m : Nat), bl.length - j = e → j ≤ bl.length → e + 100 < k → m + e ≤ 100 →
  spec_l04Pairs.l2 k f out g (i : Int) (c : Int) bl (m : Int) (j : Int) n l = spec_l04Pairs.l0 (k - (e + 1)) f out (g && (decide (c < 2) && decide (m + (below_ l f l[i] (bl.drop j)).length < 2))) ((i + 1 : Nat) : Int) n l := by
 obtain ⟨hn, hs, hr, h63⟩ := isC_faces hC
 have hA := atV_get l f hs hf i hi (by omega)
 intro e
 induction e with
 | zero =>
  intro j k m he hj hk hm
  obtain ⟨k, rfl⟩ : ∃ q, k = q + 1 := ⟨k - 1, by omega⟩
  obtain rfl : j = bl.length := by omega
  simp only [spec_l04Pairs.l2]
  rw [if_neg (by omega), w64 ((i : Int) + 1) (by omega) (by omega), nat_succ, List.drop_eq_nil_of_le (by omega)]
  have e1 : decide ((m : Int) < 2) = decide (m + (below_ l f l[i] []).length < 2) := by
   have e0 : (below_ l f l[i] []).length = 0 := rfl
   rw [e0, Nat.add_zero]
   by_cases h : m < 2
   ·rw [decide_eq_true h, decide_eq_true (by omega)]
   ·rw [decide_eq_false h, decide_eq_false (by omega)]
  rw [e1]
  cases g with
  | false => simp
  | true =>
   rw [if_pos rfl]
   by_cases h : c < 2
   ·rw [if_pos (by omega), decide_eq_true h]
    simp
   ·rw [if_neg (by omega), decide_eq_false h]
    simp
 | succ e ih =>
  intro j k m he hj hk hm
  obtain ⟨k, rfl⟩ : ∃ q, k = q + 1 := ⟨k - 1, by omega⟩
  have hjl : j < bl.length := by omega
  have hkk : k + 1 - (e + 1 + 1) = k - (e + 1) := by omega
  have hd := List.drop_eq_getElem_cons hjl
  have HWj : Aside0 (wrap64 ((j : Int) + 1) = ((j + 1 : Nat) : Int)) := ⟨by rw [w64 _ (by omega) (by omega)]; omega⟩
  have HWm : Aside0 (wrap64 ((m : Int) + 1) = ((m + 1 : Nat) : Int)) := ⟨by rw [w64 _ (by omega) (by omega)]; omega⟩
  simp only [spec_l04Pairs.l2]
  rw [if_pos (by omega), if_pos (by omega), rd_nat bl j hjl, specAt_is n bl[j] l f h63 hf k (by omega), rd_nat f i (by omega), HWj.out, HWm.out]
  simp only [Option.bind_some]
  rw [if_pos (by omega), if_pos (by omega)]
  have hpk : fallP l f ⟨bl[j], l[i]⟩ = decide (atV l f bl[j] ≥ f[i]'(by omega)) := by
   unfold fallP
   rw [hA]
   by_cases h : atV l f bl[j] < f[i]'(by omega)
   ·rw [decide_eq_true h, decide_eq_false (by omega)]; rfl
   ·rw [decide_eq_false h, decide_eq_true (by omega)]; rfl
  rw [hkk, hd]
  unfold below_
  rw [List.filter_cons, hpk]
  by_cases h : atV l f bl[j] ≥ f[i]'(by omega)
  ·rw [if_pos h, decide_eq_true h, if_pos rfl, ih (j + 1) k (m + 1) (by omega) (by omega) (by omega) (by omega)]
   unfold below_
   rw [List.length_cons, show m + 1 + ((bl.drop (j + 1)).filter fun b => fallP l f ⟨b, l[i]⟩).length = m + (((bl.drop (j + 1)).filter fun b => fallP l f ⟨b, l[i]⟩).length + 1) by omega]
  ·rw [if_neg h, decide_eq_false h, if_neg (by simp), ih (j + 1) k m (by omega) (by omega) (by omega) (by omega)]
   rfl
def goodAt4 (l f : List Int) (a : Int) : Bool := decide ((upC l f a).length < 2) && decide ((loC l f a).length < 2)
theorem specPairs_l0 {n : Int} {l f : List Int} (hC : isC n l = true) (B : Nat) (hB : ∀ q : List PairT, q.length ≤ 4100 → pgK l q ≤ B) (hf : f.length = l.length) : ∀ (e i k : Nat) (out : List PairT) (g : Bool), l.length - i = e → i ≤ l.length → B + e * 80 + 300 < k → out.length ≤ i * 63 → (∀ p ∈ out, ∀ a ∈ l.drop i, p.f0 < a) →
  spec_l04Pairs.l0 k f out g (i : Int) n l = some (out ++ (l.drop i).flatMap (fun a => (upC l f a).map fun b => ⟨a, b⟩), g && (l.drop i).all (goodAt4 l f)) := by
 obtain ⟨hn, hs, hr, h63⟩ := isC_faces hC
 intro e
 induction e with
 | zero =>
  intro i k out g he hi hk ho hout
  obtain ⟨k, rfl⟩ : ∃ m, k = m + 1 := ⟨k - 1, by omega⟩
  obtain rfl : i = l.length := by omega
  simp only [spec_l04Pairs.l0]
  rw [if_neg (by omega), List.drop_eq_nil_of_le (by omega)]
  simp
 | succ e ih =>
  intro i k out g he hi hk ho hout
  obtain ⟨k, rfl⟩ : ∃ m, k = m + 1 := ⟨k - 1, by omega⟩
  have hil : i < l.length := by omega
  have hd := List.drop_eq_getElem_cons hil
  have hm := List.getElem_mem hil
  have hrx := hr _ hm
  have habs : (aboveL l l[i]).Pairwise (· < ·) := by unfold aboveL; exact hs.filter _
  have habl : (aboveL l l[i]).length ≤ 63 := by have := List.length_filter_le (fun x => decide (Go.bits .and .i64 x l[i] = l[i]) && decide (onesI x = onesI l[i] + 1)) l; unfold aboveL; omega
  simp only [spec_l04Pairs.l0]
  rw [if_pos (by omega), if_pos (by omega), rd_nat l i hil, specAbove_is n l[i] ⟨by omega, by omega⟩ l h63 (fun x hx => by have := hr x hx; omega) k (by omega)]
  simp only [Option.bind_some]
  have hpu : pick l f l[i] (aboveL l l[i]) = upC l f l[i] := by unfold pick upC; rw [above_eq hC hm]
  have hpl : (upC l f l[i]).length ≤ (aboveL l l[i]).length := by rw [← hpu]; exact List.length_filter_le _ _
  have h1 := specPairs_l1 hC B hB hf i hil (aboveL l l[i]) habs habl (aboveL l l[i]).length 0 k 0 out g (by omega) (by omega) (by omega) (by omega) (by omega) (fun p hp => Or.inl (hout p hp _ (by rw [hd]; exact List.mem_cons_self)))
  rw [show ((0 : Nat) : Int) = 0 from rfl, List.drop_zero, hpu, Nat.zero_add] at h1
  rw [h1]
  have h2 := specPairs_l2 hC hf i hil (bords l[i]) (bords_length _) (out ++ (upC l f l[i]).map fun b => ⟨l[i], b⟩) g (upC l f l[i]).length (bords l[i]).length 0 (k - ((aboveL l l[i]).length + 1)) 0 (by omega) (by omega) (by have := bords_length l[i]; omega) (by have := bords_length l[i]; omega)
  rw [show ((0 : Nat) : Int) = 0 from rfl, List.drop_zero, Nat.zero_add] at h2
  rw [h2, ih (i + 1) _ _ _ (by omega) (by omega) (by have := bords_length l[i]; omega) (by rw [List.length_append, List.length_map]; omega) (fun p hp a ha => by
   rcases List.mem_append.1 hp with hp | hp
   ·exact hout p hp a (by rw [hd]; exact List.mem_cons_of_mem _ ha)
   ·obtain ⟨b, hb, rfl⟩ := List.mem_map.1 hp
    have := hs.sublist (List.drop_sublist i l)
    rw [hd, List.pairwise_cons] at this
    exact this.1 a ha), hd, List.flatMap_cons, List.all_cons, List.append_assoc]
  have hg : goodAt4 l f l[i] = (decide ((upC l f l[i]).length < 2) && decide ((below_ l f l[i] (bords l[i])).length < 2)) := rfl
  rw [hg, Bool.and_assoc]
theorem closedB {n : Int} {l : List Int} (hC : isC n l = true) : ∀ a ∈ l, ∀ x ∈ bords a, x ∈ l := fun a ha x hx => closed_mem hC a ha x hx
theorem hasD {n : Int} {l : List Int} (hC : isC n l = true) (x : Int) : hasB l x = decide (x ∈ l) := has_asc l x (by have := (isC_faces hC).2.2.2; omega) (isC_faces hC).2.1
theorem range63 {n : Int} {l : List Int} (hC : isC n l = true) : ∀ x ∈ l, 1 ≤ x ∧ x ≤ 63 := fun x hx => ⟨((isC_faces hC).2.2.1 x hx).1, ((isC_faces hC).2.2.1 x hx).2.2⟩
theorem specPairs_is {n : Int} {l f : List Int} (hC : isC n l = true) (hf : f.length = l.length) (k : Nat) (hk : 17010000 ≤ k) : spec_l04Pairs.f k n l f = some (fallL l f, morseB l f) := by
 have h63 := (isC_faces hC).2.2.2
 have := specPairs_l0 hC 17000000 (fun q hq => pgK_le h63 hq) hf l.length 0 k [] true (by omega) (by omega) (by omega) (by simp) (by simp)
 rw [show ((0 : Nat) : Int) = 0 from rfl, List.drop_zero, List.nil_append, Bool.true_and, ← fall_flat] at this
 unfold spec_l04Pairs.f
 rw [this, morse_good f (pairs_asc hC) (hasD hC) (range63 hC) (closedB hC)]
 rfl

end Go.Proofs.Ytniikppojffiaaa.K
end

section
/- Contracts of the library's functions that take a function value, over pairs. -/
namespace Go.Proofs.Ytniikppojffiaaa.K
open Go.RowKit Go.Shelf Go.Proofs.Ytniikppojffiaaa.Q Go.Proofs.YtniikppojffiaaaW.PrintWords Go.Proofs.YtniikppojffiaaaW.PrintLast Go.Proofs.YtniikppojffiaaaW.PrintMore
set_option linter.unusedVariables false
set_option linter.unusedSimpArgs false

set_option maxHeartbeats 2000000 in
theorem IndexFunc_pair (p : PairT → Bool) (A : Option Addr) (c : Nat) (l : List PairT) (g : Nat) (first caps : Array Value) (w : World)
    (hr : Kq.C w A l.length l) (hc : l.length ≤ c) (hbig : l.length ≤ 9223372036854775807) (eg : EntersG g)
    (hp : ∀ x, x ∈ l → Answers w g (first.push (.agg #[I x.f0, I x.f1]) ++ caps) (.bool (p x))) :
    Calls Try.prog 151 #[.slice A l.length c, .func (.func g) first caps] w fun e w' => e = .returned (I (idx p l)) ∧ Grew w w' := by
  have HR := Aside0.mk hr
  have HC := Aside0.mk hc
  have HP := Aside0.mk hp
  clear hr hc hp
  go_enter Try.func151, Try.ntmps151
  go_wp2
  go_loopg [5, 8] l.length (fun gg _ s8 wr => ∃ kk : Nat, kk ≤ l.length ∧ l.length - kk ≤ gg ∧ s8 = .int .i64 kk ∧ Aside0 (Grew w wr) ∧ Aside0 (∀ j (h : j < l.length), j < kk → p l[j] = false))
  case atStart => exact ⟨0, Nat.zero_le _, by omega, rfl, ⟨Below.refl _ w⟩, ⟨fun j _ hj => absurd hj (Nat.not_lt_zero _)⟩⟩
  case round =>
    obtain ⟨kk, hkk, hg, rfl, BW, A0⟩ := hrel
    by_cases hlt : kk < l.length
    · have hltz : (kk : Int) < (l.length : Int) := by omega
      obtain ⟨ad, e0, hx, hx1⟩ := Kq_read (Kd.C_below HR.out BW.out) kk hlt rfl
      cases e0
      have hcall := HP.out l[kk] (by simp) wr BW.out
      generalize hy : l[kk] = y at hx hx1 hcall
      have B := Aside0.mk hy
      clear hy
      cases hq : p y with
      | true =>
        rw [hq] at hcall
        go_wp2_with fail
        refine hcall.mono ?_
        rintro e w' ⟨rfl, hb'⟩
        clear hcall
        go_wp2_with fail
        go_ret
        refine ⟨?_, Grew.trans BW.out hb'⟩
        rw [idx_hit p l kk hlt (by rw [B.out]; exact hq) (fun j hj => A0.out j (by omega) hj)]
        rfl
      | false =>
        rw [hq] at hcall
        go_wp2_with fail
        refine hcall.mono ?_
        rintro e w' ⟨rfl, hb'⟩
        clear hcall
        go_wp2_with fail
        go_roundg (l.length - (kk + 1))
        case measure => omega
        case rel =>
          refine ⟨kk + 1, by omega, by omega, by go_num, ⟨Grew.trans BW.out hb'⟩, ⟨fun j h hj => ?_⟩⟩
          by_cases e : j = kk
          · subst e
            rw [B.out]; exact hq
          · exact A0.out j h (by omega)
    · have hltz : ¬ (kk : Int) < (l.length : Int) := by omega
      have e : kk = l.length := by omega
      have H := idx_miss p l (fun j hj => A0.out j hj (by omega))
      have HM := Aside0.mk H
      clear H e
      go_wp2
      go_ret
      exact ⟨by rw [HM.out]; rfl, BW.out⟩

end Go.Proofs.Ytniikppojffiaaa.K
end

section
/- slices.Clone and slices.DeleteFunc over rows of numbers of the call's own. -/
namespace Go.Proofs.Ytniikppojffiaaa.K
open Go.RowKit Go.Shelf Go.Proofs.YtniikppojffiaaaW.PrintWords Go.Proofs.YtniikppojffiaaaW.PrintLast Go.Proofs.YtniikppojffiaaaW.PrintMore
set_option linter.unusedVariables false
set_option linter.unusedSimpArgs false

theorem below_setCells {base : Nat} {w : World} {G : Nat} (hb : base ≤ G) : ∀ (vs : List Value) (i : Nat) (W : World), Below base w W → Below base w (W.setCells G i vs)
  | [], _, _, h => h
  | v :: r, i, W, h => below_setCells hb r (i + 1) _ (Below.setCell h hb v)
theorem Ri.clear {base : Nat} {ok : Nat → Prop} {G n c : Nat} : ∀ (m i : Nat) (W : World) (xs : List Int), Ki.R 2 W base ok (.slice (some ⟨G, 0, none⟩) n c) xs →
    ∃ ys : List Int, ys.take i = xs.take i ∧ ys.length = xs.length ∧ Ki.R 2 (W.setCells G i (List.replicate m (I 0))) base ok (.slice (some ⟨G, 0, none⟩) n c) ys
  | 0, i, W, xs, h => ⟨xs, rfl, rfl, h⟩
  | m + 1, i, W, xs, h => by
    have h1 := Kd.R_putn h (i : Int) 0
    rw [Int.toNat_natCast] at h1
    obtain ⟨ys, e1, e2, e3⟩ := Ri.clear m (i + 1) _ _ h1
    refine ⟨ys, ?_, by rw [e2, List.length_set], e3⟩
    have := congrArg (List.take i) e1
    rw [List.take_take, List.take_take, List.take_set, List.set_eq_of_length_le (by simp; omega)] at this
    simpa [Nat.min_eq_left (Nat.le_succ i)] using this

end Go.Proofs.Ytniikppojffiaaa.K
end

section
/- Written by a program of this session (myprint.py over the kit's print). -/
namespace Go.Proofs.Ytniikppojffiaaa.Q
open Go.RowKit Go.Proofs.YtniikppojffiaaaW.PrintWords Go.Proofs.YtniikppojffiaaaW.PrintLast Go.Proofs.YtniikppojffiaaaW.PrintMore
attribute [local go_sem] max2_int min2_int max_two min_two max_three min_three max_four min_four   -- for this text's walks alone
set_option linter.unusedVariables false
set_option linter.unusedSimpArgs false

/-! ### spec_CriticalNumbers: function 32 -/
/-! ### spec_l02High: function 97 -/
def spec_l02High.l0 : Nat → List (S53) → Int → Int → Option (Int)
 | 0, _, _, _ => none
 | k + 1, x0, x1, x5 => if x5 < (x0.length : Int) then (if 0 ≤ x5 then (if ((rd_T53 x0 x5).f0) = x1 then (some ((rd_T53 x0 x5).f1)) else (spec_l02High.l0 k x0 x1 (wrap64 (x5 + 1)))) else (none)) else (some 0)
def spec_l02High.f (k : Nat) (l0 : List (S53)) (a1 : Int) : Option (Int) := spec_l02High.l0 k l0 a1 0
theorem spec_l02High.mono_l : ∀ k, (∀ y0 y1 y2, LeO (spec_l02High.l0 k y0 y1 y2) (spec_l02High.l0 (k + 1) y0 y1 y2))
 | 0 => fun _ _ _ r h => by simp [spec_l02High.l0] at h
 | k + 1 => by
  have ih0 := spec_l02High.mono_l k
  ·intro y0 y1 y2
   unfold spec_l02High.l0
   repeat' first
   | (with_reducible exact ih0 _ _ _)
   | (with_reducible exact LeO.refl _)
   | (with_reducible exact LeO.none _)
   | (with_reducible refine LeO.ite ?_ ?_)
   | (with_reducible refine LeO.bind ?_ (fun _ => ?_))
   | exact ih0 _ _ _
   | exact LeO.none _
   | refine LeO.ite ?_ ?_
   | refine LeO.bind ?_ (fun _ => ?_)
theorem spec_l02High.mono : ∀ a0 a1 k, LeO (spec_l02High.f k a0 a1) (spec_l02High.f (k + 1) a0 a1) := by
 intro a0 a1 k
 have ih0 := spec_l02High.mono_l k
 unfold spec_l02High.f
 repeat' first
   | (with_reducible exact ih0 _ _ _)
   | (with_reducible exact LeO.refl _)
   | (with_reducible exact LeO.none _)
   | (with_reducible refine LeO.ite ?_ ?_)
   | (with_reducible refine LeO.bind ?_ (fun _ => ?_))
   | exact ih0 _ _ _
   | exact LeO.none _
   | refine LeO.ite ?_ ?_
   | refine LeO.bind ?_ (fun _ => ?_)
set_option maxHeartbeats 8000000 in
set_option maxRecDepth 100000 in
theorem spec_l02High.calls (k : Nat) (A0 : Option Addr) (c0 : Nat) (l0 : List (S53)) (a1 : Int) (r : Int) (w : World) (hr0 : Kd.C k53 w A0 l0.length l0) (hc0 : l0.length ≤ c0) (h : spec_l02High.f k l0 a1 = some r) :
  Calls Try.prog 97 #[.slice A0 l0.length c0, .int .i64 a1] w fun e w' => e = .returned (.int .i64 r) ∧ Drawn0 w w' := by
 have HR0 := Aside0.mk hr0
 have HC0 := Aside0.mk hc0
 clear hr0 hc0
 have H : (spec_l02High.l0 k l0 a1 0) = some r := h
 clear h
 have H' := Aside0.mk H
 clear H
 go_enter Try.func97, Try.ntmps97
 go_wp2
 go_loopg [5] k (fun kq v5 w' => ∃ (x5_1 : Int), v5 = .int .i64 x5_1 ∧ Aside0 (spec_l02High.l0 kq l0 a1 x5_1 = some r) ∧ Aside0 (kq ≤ k) ∧ Drawn0 w w')
 case atStart => exact ⟨(0), (by first | rfl | (simp; done) | (simp [*]; done)), H', ⟨Nat.le_refl _⟩, by repeat (first | exact Drawn0.refl _ | apply Drawn0.step)⟩
 case round =>
  clear H'
  try clear p2
  obtain ⟨x5_1, rfl, HA, HK1, ⟨m1, rfl⟩⟩ := hrel
  cases gk with
  | zero => exact absurd HA.out (by simp [spec_l02High.l0])
  | succ k1 =>
   have H := HA.out
   clear HA
   simp only [spec_l02High.l0] at H
   by_cases c3 : x5_1 < (l0.length : Int)
   ·rw [if_pos c3] at H
    have c3b0 : decide (x5_1 < (l0.length : Int)) = true := decide_eq_true c3
    clear c3
    by_cases c4 : 0 ≤ x5_1
    ·rw [if_pos c4] at H
     have c4b0 : decide (0 ≤ x5_1) = true := decide_eq_true c4
     clear c4
     by_cases c5 : ((rd_T53 l0 x5_1).f0) = a1
     ·rw [if_pos c5] at H
      have c5b0 : (((rd_T53 l0 x5_1).f0) == a1) = true := beq_iff_eq.mpr c5
      have c5b1 : (((rd_T53 l0 x5_1).f0) != a1) = false := bne_eq_false_iff_eq.mpr c5
      clear c5
      obtain rfl := Option.some.inj H
      have p188 : 0 ≤ (x5_1 : Int) := of_decide_eq_true (by first | (with_reducible assumption) | assumption)
      have q188 : x5_1 < (l0.length : Int) := of_decide_eq_true (by first | (with_reducible assumption) | assumption)
      obtain ⟨ad188, e188, hx188_0, hx188_1⟩ := at_T53 HR0.out x5_1 p188 q188
      cases e188
      replace p188 := eq_true p188
      replace q188 := eq_true q188
      have p189 : 0 ≤ (x5_1 : Int) := of_decide_eq_true (by first | (with_reducible assumption) | assumption)
      have q189 : x5_1 < (l0.length : Int) := of_decide_eq_true (by first | (with_reducible assumption) | assumption)
      obtain ⟨ad189, e189, hx189_0, hx189_1⟩ := at_T53 HR0.out x5_1 p189 q189
      obtain rfl : ad188 = ad189 := (by injection e189)
      replace p189 := eq_true p189
      replace q189 := eq_true q189
      go_wp2
      go_ret
      exact ⟨by first | rfl | (simp; done) | (simp [*]; done), by repeat (first | exact Drawn0.refl _ | apply Drawn0.step)⟩
     ·rw [if_neg c5] at H
      have c5b0 : (((rd_T53 l0 x5_1).f0) == a1) = false := beq_eq_false_iff_ne.mpr c5
      have c5b1 : (((rd_T53 l0 x5_1).f0) != a1) = true := bne_iff_ne.mpr c5
      have H' := Aside0.mk H
      clear H
      have p188 : 0 ≤ (x5_1 : Int) := of_decide_eq_true (by first | (with_reducible assumption) | assumption)
      have q188 : x5_1 < (l0.length : Int) := of_decide_eq_true (by first | (with_reducible assumption) | assumption)
      obtain ⟨ad188, e188, hx188_0, hx188_1⟩ := at_T53 HR0.out x5_1 p188 q188
      cases e188
      replace p188 := eq_true p188
      replace q188 := eq_true q188
      go_wp2
      go_roundg k1
      case measure => have := HK1.out; omega
      case rel => exact ⟨(wrap64 (x5_1 + 1)), (by first | rfl | (simp; done) | (simp [*]; done)), H', ⟨by have := HK1.out; omega⟩, by repeat (first | exact Drawn0.refl _ | apply Drawn0.step)⟩
    ·rw [if_neg c4] at H
     exact absurd H (by simp)
   ·rw [if_neg c3] at H
    have c3b0 : decide (x5_1 < (l0.length : Int)) = false := decide_eq_false c3
    clear c3
    obtain rfl := Option.some.inj H
    go_wp2
    go_ret
    exact ⟨by first | rfl | (simp; done) | (simp [*]; done), by repeat (first | exact Drawn0.refl _ | apply Drawn0.step)⟩

/-! ### spec_l02Next: function 122 -/
end Go.Proofs.Ytniikppojffiaaa.Q
end

section
/- isPair. -/
namespace Go.Proofs.Ytniikppojffiaaa.K
open Go.RowKit Go.Shelf Go.Proofs.Ytniikppojffiaaa.Q Go.Proofs.YtniikppojffiaaaW.PrintWords Go.Proofs.YtniikppojffiaaaW.PrintLast Go.Proofs.YtniikppojffiaaaW.PrintMore
set_option linter.unusedVariables false
set_option linter.unusedSimpArgs false

theorem isPair_is {n : Int} {l : List Int} (hi : isC n l = true) (x y : Int) : impl_Complex_isPair.f (l.length + 1) n l x y = some (pairK l ⟨x, y⟩) := by
  obtain ⟨hn, hs, hr, h63⟩ := isC_faces hi
  have hh : ∀ f, impl_Complex_has.f (l.length + 1) n l f = some (hasB l f) := fun f => by unfold impl_Complex_has.f; rw [bs_is l f (by omega)]; rfl
  have hI : impl_isIn.f x y = some (inB x y) := rfl
  unfold impl_Complex_isPair.f pairK
  rw [hh x]
  simp only [Option.bind_some]
  cases h1 : hasB l x with
  | false => simp
  | true =>
    rw [if_pos rfl, hh y]
    simp only [Option.bind_some]
    cases h2 : hasB l y with
    | false => simp
    | true =>
      rw [if_pos rfl, hI]
      simp only [Option.bind_some]
      cases h3 : inB x y with
      | false => simp
      | true =>
        have hx := has_mem hi h1
        have hy := has_mem hi h2
        rw [if_pos rfl, size_is y (by omega) (by omega), size_is x (by omega) (by omega)]
        simp only [Option.bind_some]
        have := ones_le x
        have hw : wrap64 (onesI x + 1) = onesI x + 1 := by unfold wrap64; omega
        rw [hw]
        simp only [Bool.true_and]
        rfl
end Go.Proofs.Ytniikppojffiaaa.K
end

section
/- Written by a program of this session (myprint.py over the kit's print). -/
namespace Go.Proofs.Ytniikppojffiaaa.Q
open Go.RowKit Go.Proofs.YtniikppojffiaaaW.PrintWords Go.Proofs.YtniikppojffiaaaW.PrintLast Go.Proofs.YtniikppojffiaaaW.PrintMore
attribute [local go_sem] max2_int min2_int max_two min_two max_three min_three max_four min_four   -- for this text's walks alone
set_option linter.unusedVariables false
set_option linter.unusedSimpArgs false

/-! ### spec_IsFlat: function 55 -/
mutual
def spec_IsFlat.l0 : Nat → List Int → List (S53) → Int → Int → List Int → Option (Bool × Int)
 | 0, _, _, _, _, _ => none
 | k + 1, x1, x6, x8, x452000, x452001 => if x8 < (x452001.length : Int) then (spec_IsFlat.l1 k x1 x6 x8 0 x452000 x452001) else (some (true, 0))
def spec_IsFlat.l1 : Nat → List Int → List (S53) → Int → Int → Int → List Int → Option (Bool × Int)
 | 0, _, _, _, _, _, _ => none
 | k + 1, x1, x6, x8, x9, x452000, x452001 => if x9 < (x452001.length : Int) then (if 0 ≤ x8 then (if x8 < (x452001.length : Int) then (if 0 ≤ x9 then (if (rd x452001 x8) = (rd x452001 x9) then (spec_IsFlat.j2 k x1 x6 x8 x9 (rd x452001 x8) (rd x452001 x9) true x452000 x452001) else (spec_IsFlat.j2 k x1 x6 x8 x9 (rd x452001 x8) (rd x452001 x9) ((Go.bits .and .i64 (rd x452001 x8) (rd x452001 x9)) != (rd x452001 x8)) x452000 x452001)) else (none)) else (none)) else (none)) else (spec_IsFlat.l0 k x1 x6 (wrap64 (x8 + 1)) x452000 x452001)
def spec_IsFlat.j2 : Nat → List Int → List (S53) → Int → Int → Int → Int → Bool → Int → List Int → Option (Bool × Int)
 | 0, _, _, _, _, _, _, _, _, _ => none
 | k + 1, x1, x6, x8, x9, x10, x11, x54, x452000, x452001 => if x54 = true then (spec_IsFlat.l1 k x1 x6 x8 (wrap64 (x9 + 1)) x452000 x452001) else (if 0 ≤ x8 then (if x8 < (x1.length : Int) then (if 0 ≤ x9 then (if x9 < (x1.length : Int) then (if (rd x1 x8) > (rd x1 x9) then (some (false, 0)) else ((spec_l01Ones.f k x11).bind fun t460 => ((spec_l01Ones.f k x10).bind fun t461 => (if t460 = (wrap64 (t461 + 1)) then ((spec_l02High.f k x6 x10).bind fun t464 => (if (((rd x1 x8) == (rd x1 x9)) != (t464 == x11)) = true then (some (false, 0)) else (spec_IsFlat.l1 k x1 x6 x8 (wrap64 (x9 + 1)) x452000 x452001))) else (spec_IsFlat.l1 k x1 x6 x8 (wrap64 (x9 + 1)) x452000 x452001))))) else (none)) else (none)) else (none)) else (none))
end
def spec_IsFlat.f (k : Nat) (a0_0 : Int) (l0_1 : List Int) (l1 : List Int) : Option (Bool × Int) := (spec_PairingOfFunction.f k a0_0 l0_1 l1).bind fun bt452 => (if bt452.2 = 0 then (spec_IsFlat.l0 k l1 bt452.1 0 a0_0 l0_1) else (some (false, bt452.2)))
theorem spec_IsFlat.mono_l : ∀ k, (∀ y0 y1 y2 y3 y4, LeO (spec_IsFlat.l0 k y0 y1 y2 y3 y4) (spec_IsFlat.l0 (k + 1) y0 y1 y2 y3 y4)) ∧ (∀ y0 y1 y2 y3 y4 y5, LeO (spec_IsFlat.l1 k y0 y1 y2 y3 y4 y5) (spec_IsFlat.l1 (k + 1) y0 y1 y2 y3 y4 y5)) ∧ (∀ y0 y1 y2 y3 y4 y5 y6 y7 y8, LeO (spec_IsFlat.j2 k y0 y1 y2 y3 y4 y5 y6 y7 y8) (spec_IsFlat.j2 (k + 1) y0 y1 y2 y3 y4 y5 y6 y7 y8))
 | 0 => ⟨fun _ _ _ _ _ r h => by simp [spec_IsFlat.l0] at h, fun _ _ _ _ _ _ r h => by simp [spec_IsFlat.l1] at h, fun _ _ _ _ _ _ _ _ _ r h => by simp [spec_IsFlat.j2] at h⟩
 | k + 1 => by
  obtain ⟨ih0, ih1, ih2⟩ := spec_IsFlat.mono_l k
  refine ⟨?_, ?_, ?_⟩
  ·intro y0 y1 y2 y3 y4
   unfold spec_IsFlat.l0
   repeat' first
   | (with_reducible exact ih0 _ _ _ _ _)
   | (with_reducible exact ih1 _ _ _ _ _ _)
   | (with_reducible exact ih2 _ _ _ _ _ _ _ _ _)
   | (with_reducible exact spec_PairingOfFunction.mono _ _ _ _)
   | (with_reducible exact spec_l01Ones.mono _ _)
   | (with_reducible exact spec_l02High.mono _ _ _)
   | (with_reducible exact LeO.refl _)
   | (with_reducible exact LeO.none _)
   | (with_reducible refine LeO.ite ?_ ?_)
   | (with_reducible refine LeO.bind ?_ (fun _ => ?_))
   | exact ih0 _ _ _ _ _
   | exact ih1 _ _ _ _ _ _
   | exact ih2 _ _ _ _ _ _ _ _ _
   | exact spec_PairingOfFunction.mono _ _ _ _
   | exact spec_l01Ones.mono _ _
   | exact spec_l02High.mono _ _ _
   | exact LeO.none _
   | refine LeO.ite ?_ ?_
   | refine LeO.bind ?_ (fun _ => ?_)
  ·intro y0 y1 y2 y3 y4 y5
   unfold spec_IsFlat.l1
   repeat' first
   | (with_reducible exact ih0 _ _ _ _ _)
   | (with_reducible exact ih1 _ _ _ _ _ _)
   | (with_reducible exact ih2 _ _ _ _ _ _ _ _ _)
   | (with_reducible exact spec_PairingOfFunction.mono _ _ _ _)
   | (with_reducible exact spec_l01Ones.mono _ _)
   | (with_reducible exact spec_l02High.mono _ _ _)
   | (with_reducible exact LeO.refl _)
   | (with_reducible exact LeO.none _)
   | (with_reducible refine LeO.ite ?_ ?_)
   | (with_reducible refine LeO.bind ?_ (fun _ => ?_))
   | exact ih0 _ _ _ _ _
   | exact ih1 _ _ _ _ _ _
   | exact ih2 _ _ _ _ _ _ _ _ _
   | exact spec_PairingOfFunction.mono _ _ _ _
   | exact spec_l01Ones.mono _ _
   | exact spec_l02High.mono _ _ _
   | exact LeO.none _
   | refine LeO.ite ?_ ?_
   | refine LeO.bind ?_ (fun _ => ?_)
  ·intro y0 y1 y2 y3 y4 y5 y6 y7 y8
   unfold spec_IsFlat.j2
   repeat' first
   | (with_reducible exact ih0 _ _ _ _ _)
   | (with_reducible exact ih1 _ _ _ _ _ _)
   | (with_reducible exact ih2 _ _ _ _ _ _ _ _ _)
   | (with_reducible exact spec_PairingOfFunction.mono _ _ _ _)
   | (with_reducible exact spec_l01Ones.mono _ _)
   | (with_reducible exact spec_l02High.mono _ _ _)
   | (with_reducible exact LeO.refl _)
   | (with_reducible exact LeO.none _)
   | (with_reducible refine LeO.ite ?_ ?_)
   | (with_reducible refine LeO.bind ?_ (fun _ => ?_))
   | exact ih0 _ _ _ _ _
   | exact ih1 _ _ _ _ _ _
   | exact ih2 _ _ _ _ _ _ _ _ _
   | exact spec_PairingOfFunction.mono _ _ _ _
   | exact spec_l01Ones.mono _ _
   | exact spec_l02High.mono _ _ _
   | exact LeO.none _
   | refine LeO.ite ?_ ?_
   | refine LeO.bind ?_ (fun _ => ?_)
theorem spec_IsFlat.mono : ∀ a0 a1 a2 k, LeO (spec_IsFlat.f k a0 a1 a2) (spec_IsFlat.f (k + 1) a0 a1 a2) := by
 intro a0 a1 a2 k
 obtain ⟨ih0, ih1, ih2⟩ := spec_IsFlat.mono_l k
 unfold spec_IsFlat.f
 repeat' first
   | (with_reducible exact ih0 _ _ _ _ _)
   | (with_reducible exact ih1 _ _ _ _ _ _)
   | (with_reducible exact ih2 _ _ _ _ _ _ _ _ _)
   | (with_reducible exact spec_PairingOfFunction.mono _ _ _ _)
   | (with_reducible exact spec_l01Ones.mono _ _)
   | (with_reducible exact spec_l02High.mono _ _ _)
   | (with_reducible exact LeO.refl _)
   | (with_reducible exact LeO.none _)
   | (with_reducible refine LeO.ite ?_ ?_)
   | (with_reducible refine LeO.bind ?_ (fun _ => ?_))
   | exact ih0 _ _ _ _ _
   | exact ih1 _ _ _ _ _ _
   | exact ih2 _ _ _ _ _ _ _ _ _
   | exact spec_PairingOfFunction.mono _ _ _ _
   | exact spec_l01Ones.mono _ _
   | exact spec_l02High.mono _ _ _
   | exact LeO.none _
   | refine LeO.ite ?_ ?_
   | refine LeO.bind ?_ (fun _ => ?_)
def spec_IsFlat.T10 : Bool × List (List Nat × List Nat) := (true, [([], []), ([0], [0]), ([], []), ([1, 2], [1, 2]), ([3], [3]), ([], []), ([5], [5]), ([], []), ([6, 7], [6, 7]), ([8], [8]), ([4, 0, 1, 2, 3, 4], [4]), ([9, 10, 0, 1, 2, 3, 4, 5, 6, 7, 8, 9, 10], [9])])
def spec_IsFlat.B10 : List Nat := [0, 1, 0, 7, 15, 0, 32, 0, 224, 480, 31, 2047]
theorem spec_IsFlat.tab10 : rtab .any (opsOf Try.f55 10) = spec_IsFlat.T10 := by kernel_rfl
theorem spec_IsFlat.bits10 : waitsOk spec_IsFlat.T10.2 spec_IsFlat.B10 = true := by kernel_rfl
def spec_IsFlat.T12 : Bool × List (List Nat × List Nat) := (true, [([], []), ([], []), ([0, 1], [0, 1]), ([2], [2]), ([], []), ([], []), ([4, 5], [4, 5]), ([6], [6]), ([3, 7], [3, 7]), ([8], [8]), ([9], [9]), ([10, 9, 9], [9, 10]), ([9], [9]), ([12, 11, 9], [9, 12]), ([13, 9], [9, 13]), ([11, 14, 9], [9, 11, 14]), ([15, 13, 9], [9, 15]), ([16], [16]), ([16], [16]), ([17, 18, 16], [16, 17, 18]), ([19, 16], [16, 19]), ([16], [16]), ([16], [16]), ([21, 22, 16], [16, 21, 22]), ([23, 16], [16, 23]), ([20, 24, 16], [16, 20, 24]), ([16], [16]), ([16], [16]), ([26, 27, 16, 16], [16, 26, 27]), ([16], [16]), ([28, 29, 16], [16, 28, 29]), ([25, 30, 16], [16, 25, 30]), ([16, 31, 9], [9, 16, 31]), ([9, 32], [9, 32])])
def spec_IsFlat.B12 : List Nat := [0, 0, 3, 7, 0, 0, 48, 112, 255, 511, 1023, 2047, 1023, 8191, 16383, 32767, 65535, 131071, 131071, 524287, 1048575, 131071, 131071, 6422527, 14811135, 33554431, 131071, 131071, 201457663, 131071, 1006764031, 2147483647, 4294967295, 8589934591]
theorem spec_IsFlat.tab12 : rtab .any (opsOf Try.f55 12) = spec_IsFlat.T12 := by kernel_rfl
theorem spec_IsFlat.bits12 : waitsOk spec_IsFlat.T12.2 spec_IsFlat.B12 = true := by kernel_rfl
set_option maxHeartbeats 8000000 in
set_option maxRecDepth 100000 in
theorem spec_IsFlat.calls (k : Nat) (a0_0 : Int) (A0_1 : Option Addr) (c0_1 : Nat) (l0_1 : List Int) (A1 : Option Addr) (c1 : Nat) (l1 : List Int) (r1 : Bool) (r2 : Int) (w : World) (hr0_1 : Kd.C (Kd.int .i64) w A0_1 l0_1.length l0_1) (hc0_1 : l0_1.length ≤ c0_1) (hr1 : Kd.C (Kd.int .i64) w A1 l1.length l1) (hc1 : l1.length ≤ c1) (h : spec_IsFlat.f k a0_0 l0_1 l1 = some (r1, r2)) :
  Calls Try.prog 55 #[.agg #[.int .i64 a0_0, .slice A0_1 l0_1.length c0_1], .slice A1 l1.length c1] w fun e w' => e = .returned (.tuple #[.bool r1, .int .i64 r2]) ∧ Below w.heap.size w w' := by
 have hu30 := Try.underlying30
 have HR0_1 := Aside0.mk hr0_1
 have HC0_1 := Aside0.mk hc0_1
 clear hr0_1 hc0_1
 have HR1 := Aside0.mk hr1
 have HC1 := Aside0.mk hc1
 clear hr1 hc1
 have HB := Aside0.mk (Below.refl w.heap.size w)
 have H : ((spec_PairingOfFunction.f k a0_0 l0_1 l1).bind fun bt452 => (if bt452.2 = 0 then (spec_IsFlat.l0 k l1 bt452.1 0 a0_0 l0_1) else (some (false, bt452.2)))) = some (r1, r2) := h
 clear h
 replace H := Option.bind_eq_some_iff.mp H
 obtain ⟨⟨t452, t455⟩, A30, H⟩ := H
 replace H : (if t455 = 0 then (spec_IsFlat.l0 k l1 t452 0 a0_0 l0_1) else (some (false, t455))) = some (r1, r2) := H
 have A3 := Aside0.mk A30
 clear A30
 by_cases c4 : t455 = 0
 ·rw [if_pos c4] at H
  have c4b0 : (t455 == 0) = true := beq_iff_eq.mpr c4
  have c4b1 : (t455 != 0) = false := bne_eq_false_iff_eq.mpr c4
  clear c4
  have H' := Aside0.mk H
  clear H
  go_enter Try.func55, Try.ntmps55
  go_wp2_with (first | ((with_reducible refine gate_dst (N := 2) rfl ?_); refine box_event ?hg (N := 2) ?hd (cs := #[.int .i64 a0_0, .slice A0_1 l0_1.length c0_1]) (t := 30) ?hr ?_; (case hd => rfl); (case hg => rfl); (case hr => first | (go_simp; done) | (go_simp; rfl)); intro gb451 hg w5 hbox hb; have n0_ := Aside0.mk (below_step (by repeat (first | (with_reducible first | exact HB.out | apply below_alloc | apply pw_below_drewN | apply below_drew1) | exact HB.out)) hb); have n1_ := Aside0.mk (hbox); have n2_ := Aside0.mk ((by rw [hg]; exact (below_size (by repeat (first | (with_reducible first | exact HB.out | apply below_alloc | apply pw_below_drewN | apply below_drew1) | exact HB.out))) : w.heap.size ≤ gb451)); have n3_ := Aside0.mk ((by rw [hg]; exact (below_size (by repeat (first | (with_reducible first | exact HB.out | apply below_alloc | apply pw_below_drewN | apply below_drew1) | exact HB.out))) : w.heap.size ≤ gb451)); clear HB; have HB := n0_; have BK451 := n1_; have GW451 := n2_; have GE451 := n3_; clear n0_ n1_ n2_ n3_; clear hb hbox hg; have hcz6_0 : w5.cell? ⟨gb451, 0, none⟩ = some (.int .i64 a0_0) := (blk_cell BK451.out 0).trans rfl; have hcz6_1 : w5.cell? ⟨gb451, 1, none⟩ = some (.slice A0_1 l0_1.length c0_1) := (blk_cell BK451.out 1).trans rfl; have hfz6_0 := blk_frozen BK451.out 0; have hfz6_1 := blk_frozen BK451.out 1) | ((with_reducible refine gate_callee (f := 51) rfl ?_); refine goesL_ (some 15) rfl rfl Try.func51 (by kernel_rfl) rfl #[.agg #[.int .i64 a0_0, .slice A0_1 l0_1.length c0_1], .slice A1 l1.length c1] rfl (by (try simp only [List.map_toArray, List.map_cons, List.map_nil]); first | done | rfl | (simp only [List.length_drop, List.length_take]; rfl)) ?_; (with_reducible refine (spec_PairingOfFunction.calls k a0_0 _ _ l0_1 (fun k_ => k_ < w.heap.size) _ _ l1 t452 t455 _ ?side1 ?side2 ?side3 A3.out).mono ?_); (case side1 => repeat (first | exact (Kd.C_below HR0_1.out HB.out) | (with_reducible refine Kd.C_alloc ?_ _) | (with_reducible refine Kd.C_drewN ?_ _) | (with_reducible refine Kd.C_drew ?_))); (case side2 => exact HC0_1.out); (case side3 => exact Kd.V_mk HC1.out (Kd.F_below (Kd.C_F (Kd.heap_int .i64) HR1.out) (by repeat (first | (with_reducible first | exact HB.out | apply below_alloc | apply pw_below_drewN | apply below_drew1 | refine below_set ?_ GE451.out) | exact HB.out)))); rintro e w7 ⟨v453, rfl, ho0, hb⟩; refine ⟨_, rfl, ?_⟩; have n0_ := Aside0.mk (Kd.R_lower (Kd.R_mono (ok' := fun k_ => True) ho0 (fun _ hk_ => trivial)) (below_size (by repeat (first | (with_reducible first | exact HB.out | apply below_alloc | apply pw_below_drewN | apply below_drew1 | refine below_set ?_ GE451.out) | exact HB.out)))); have n1_ := Aside0.mk (blk_below (g := gb451) (o := .cells #[.int .i64 a0_0, .slice A0_1 l0_1.length c0_1] 30 (0, 0)) (by (with_reducible repeat (first | refine blk_drewN ?_ _ | refine blk_drew ?_ | refine blk_alloc ?_ _)); exact BK451.out) hb); have n2_ := Aside0.mk (below_step (by repeat (first | (with_reducible first | exact HB.out | apply below_alloc | apply pw_below_drewN | apply below_drew1 | refine below_set ?_ GE451.out) | exact HB.out)) hb); clear BK451; clear HB; have HO454 := n0_; have BK451 := n1_; have HB := n2_; clear n0_ n1_ n2_; (try clear hb); (try clear hb2); (try clear hk); (try clear hi); (try clear ho0)))
  go_loopg [8] k (fun kq v8 w' => ∃ (x8_1 : Int), v8 = .int .i64 x8_1 ∧ Aside0 (spec_IsFlat.l0 kq l1 t452 x8_1 a0_0 l0_1 = some (r1, r2)) ∧ Aside0 (kq ≤ k) ∧ Aside0 (Kd.R k53 53 w' w.heap.size (fun _ => True) v453 t452) ∧ Aside0 (w'.heap[gb451]? = some (.cells #[.int .i64 a0_0, (.slice A0_1 l0_1.length c0_1)] 30 (0, 0))) ∧ Aside0 (Below w.heap.size w w'))
  case atStart => exact ⟨(0), (by first | rfl | (simp; done) | (simp [*]; done)), H', ⟨Nat.le_refl _⟩, ⟨by (with_reducible repeat (first | apply Kd.R_alloc | apply Kd.R_drewN | apply Kd.R_drew)); exact HO454.out⟩, ⟨by (with_reducible repeat (first | refine blk_drewN ?_ _ | refine blk_drew ?_ | refine blk_alloc ?_ _)); exact BK451.out⟩, ⟨by repeat (first | (with_reducible first | exact HB.out | apply below_alloc | apply pw_below_drewN | apply below_drew1 | refine below_set ?_ GE451.out) | exact HB.out)⟩⟩
  case round =>
   clear H'
   try clear c1
   try clear p2
   try clear c4
   try clear c4b0
   try clear c4b1
   try clear c5
   try clear hcz6_0
   try clear hcz6_1
   try clear hfz6_0
   try clear hfz6_1
   obtain ⟨x8_1, rfl, HA, HK1, HO_6, BK451, HB⟩ := hrel
   cases gk with
   | zero => exact absurd HA.out (by simp [spec_IsFlat.l0])
   | succ k1 =>
    have H := HA.out
    clear HA
    simp only [spec_IsFlat.l0] at H
    by_cases c8 : x8_1 < (l0_1.length : Int)
    ·rw [if_pos c8] at H
     have c8b0 : decide (x8_1 < (l0_1.length : Int)) = true := decide_eq_true c8
     clear c8
     have H' := Aside0.mk H
     clear H
     have hcz9_0 : wr.cell? ⟨gb451, 0, none⟩ = some (.int .i64 a0_0) := (blk_cell BK451.out 0).trans rfl
     have hcz9_1 : wr.cell? ⟨gb451, 1, none⟩ = some (.slice A0_1 l0_1.length c0_1) := (blk_cell BK451.out 1).trans rfl
     have hfz9_0 := blk_frozen BK451.out 0
     have hfz9_1 := blk_frozen BK451.out 1
     go_wp2
     go_loopg [9] k1 (fun kq v9 w' => ∃ (x9_2 : Int), v9 = .int .i64 x9_2 ∧ Aside0 (spec_IsFlat.l1 kq l1 t452 x8_1 x9_2 a0_0 l0_1 = some (r1, r2)) ∧ Aside0 (kq ≤ k1) ∧ Aside0 (Kd.R k53 53 w' w.heap.size (fun _ => True) v453 t452) ∧ Aside0 (w'.heap[gb451]? = some (.cells #[.int .i64 a0_0, (.slice A0_1 l0_1.length c0_1)] 30 (0, 0))) ∧ Aside0 (Below w.heap.size w w'))
     case atStart => exact ⟨(0), (by first | rfl | (simp; done) | (simp [*]; done)), H', ⟨Nat.le_refl _⟩, ⟨by (with_reducible repeat (first | apply Kd.R_alloc | apply Kd.R_drewN | apply Kd.R_drew)); exact HO_6.out⟩, ⟨by (with_reducible repeat (first | refine blk_drewN ?_ _ | refine blk_drew ?_ | refine blk_alloc ?_ _)); exact BK451.out⟩, ⟨by repeat (first | (with_reducible first | exact HB.out | apply below_alloc | apply pw_below_drewN | apply below_drew1 | refine below_set ?_ GE451.out) | exact HB.out)⟩⟩
     case round =>
      clear H'
      try clear c1
      try clear p2
      try clear c4
      try clear c4b0
      try clear c4b1
      try clear c5
      try clear c8
      try clear c8b0
      try clear hcz6_0
      try clear hcz6_1
      try clear hcz9_0
      try clear hcz9_1
      try clear hfz6_0
      try clear hfz6_1
      try clear hfz9_0
      try clear hfz9_1
      try clear p2
      obtain ⟨x9_2, rfl, HA, HK2, HO_6, BK451, HB⟩ := hrel
      cases gk with
      | zero => exact absurd HA.out (by simp [spec_IsFlat.l1])
      | succ k2 =>
       have H := HA.out
       clear HA
       simp only [spec_IsFlat.l1] at H
       by_cases c10 : x9_2 < (l0_1.length : Int)
       ·rw [if_pos c10] at H
        have c10b0 : decide (x9_2 < (l0_1.length : Int)) = true := decide_eq_true c10
        clear c10
        by_cases c11 : 0 ≤ x8_1
        ·rw [if_pos c11] at H
         have c11b0 : decide (0 ≤ x8_1) = true := decide_eq_true c11
         clear c11
         by_cases c12 : x8_1 < (l0_1.length : Int)
         ·rw [if_pos c12] at H
          have c12b0 : decide (x8_1 < (l0_1.length : Int)) = true := decide_eq_true c12
          clear c12
          by_cases c13 : 0 ≤ x9_2
          ·rw [if_pos c13] at H
           have c13b0 : decide (0 ≤ x9_2) = true := decide_eq_true c13
           clear c13
           have HC14 := Aside0.mk H
           clear H
           have hcz15_0 : wr.cell? ⟨gb451, 0, none⟩ = some (.int .i64 a0_0) := (blk_cell BK451.out 0).trans rfl
           have hcz15_1 : wr.cell? ⟨gb451, 1, none⟩ = some (.slice A0_1 l0_1.length c0_1) := (blk_cell BK451.out 1).trans rfl
           have hfz15_0 := blk_frozen BK451.out 0
           have hfz15_1 := blk_frozen BK451.out 1
           try go_wp2
           have n0_ := Aside0.mk (Kd.R_drew HO_6.out)
           have n1_ := Aside0.mk (blk_drew BK451.out)
           have n2_ := Aside0.mk (below_drew1 HB.out)
           clear HO_6
           clear BK451
           clear HB
           have HO_6 := n0_
           have BK451 := n1_
           have HB := n2_
           clear n0_ n1_ n2_
           have p456 : 0 ≤ (x8_1 : Int) := of_decide_eq_true (by first | (with_reducible assumption) | assumption)
           have q456 : x8_1 < (l0_1.length : Int) := of_decide_eq_true (by first | (with_reducible assumption) | assumption)
           obtain ⟨ad456, e456, hx456_0⟩ := Kd.at_int HR0_1.out x8_1 p456 q456
           have hw456_0 := hx456_0
           cases e456
           replace hx456_0 := (HB.out.cell (World.block_lt_of_cell? w _ hx456_0)).trans hx456_0
           replace p456 := eq_true p456
           replace q456 := eq_true q456
           have p457 : 0 ≤ (x9_2 : Int) := of_decide_eq_true (by first | (with_reducible assumption) | assumption)
           have q457 : x9_2 < (l0_1.length : Int) := of_decide_eq_true (by first | (with_reducible assumption) | assumption)
           obtain ⟨ad457, e457, hx457_0⟩ := Kd.at_int HR0_1.out x9_2 p457 q457
           have hw457_0 := hx457_0
           obtain rfl : ad456 = ad457 := (by injection e457)
           replace hx457_0 := (HB.out.cell (World.block_lt_of_cell? w _ hx457_0)).trans hx457_0
           replace p457 := eq_true p457
           replace q457 := eq_true q457
           refine start_ (n := 12) (S := fun w' => w'.cell? ⟨gb451, 0, none⟩ = some (.int .i64 a0_0) ∧ w'.cell? ⟨gb451, 1, none⟩ = some (.slice (some ad456) l0_1.length c0_1) ∧ w'.cell? (ad456.add (x8_1).toNat) = some (.int .i64 (rd l0_1 x8_1)) ∧ w'.cell? (ad456.add (x9_2).toNat) = some (.int .i64 (rd l0_1 x9_2))) (ds := []) #[O,O,O,O,O,O,O,O,O,O,O,O] (by kernel_rfl) rfl rfl ⟨(blk_cell BK451.out 0).trans rfl, (blk_cell BK451.out 1).trans rfl, ((HB.out.cell (World.block_lt_of_cell? w _ hw456_0)).trans hw456_0), ((HB.out.cell (World.block_lt_of_cell? w _ hw457_0)).trans hw457_0)⟩ (fun hHeld => ?_); refine with_tabW spec_IsFlat.tab10 spec_IsFlat.bits10 (fun HT_ HW_ => ?_)
           generalize wr.drew = w16 at HO_6 BK451 HB hx456_0 hx457_0 hHeld ⊢
           refine pure_ (i := 0) (N := some 35) (v := ?_) (a' := ?_) #[U,O,O,O,O,O,O,O,O,O,O,O] rfl rfl (any_of HT_.out (by kernel_rfl)) (fun _ _ _ h => h) (Or.inl ⟨by rfl, ?_⟩) ?_ ?_
           rotate_left; · intro w'; go_simp; with_reducible rfl
           rotate_left; · simp only [nm_]; rfl
           refine pure_ (i := 2) (N := some 37) (v := ?_) (a' := ?_) #[U,O,U,O,O,O,O,O,O,O,O,O] rfl rfl (any_of HT_.out (by kernel_rfl)) (fun _ _ _ h => h) (Or.inl ⟨by rfl, ?_⟩) ?_ ?_
           rotate_left; · intro w'; go_simp; with_reducible rfl
           rotate_left; · simp only [nm_]; rfl
           refine pure_ (i := 5) (N := some 40) (v := ?_) (a' := ?_) #[U,O,U,O,O,U,O,O,O,O,O,O] rfl rfl (any_of HT_.out (by kernel_rfl)) (fun _ _ _ h => h) (Or.inl ⟨by rfl, ?_⟩) ?_ ?_
           rotate_left; · intro w'; go_simp; with_reducible rfl
           rotate_left; · simp only [nm_]; rfl
           refine pure_ (i := 7) (N := some 42) (v := ?_) (a' := ?_) #[U,O,U,O,O,U,O,U,O,O,O,O] rfl rfl (any_of HT_.out (by kernel_rfl)) (fun _ _ _ h => h) (Or.inl ⟨by rfl, ?_⟩) ?_ ?_
           rotate_left; · intro w'; go_simp; with_reducible rfl
           rotate_left; · simp only [nm_]; rfl
           refine take_ (i := 1) (N := some 36) (v := ?_) (a' := ?_) #[U,U,U,O,O,U,O,U,O,O,O,O] rfl rfl (take_ofW HT_.out HW_.out (by kernel_rfl)) (fun _ _ _ h => h) (Or.inl ⟨by rfl, ?_⟩) hHeld ?_ ?_
           rotate_left; · rintro w' ⟨s0, s1, s2, s3⟩; go_simp; with_reducible rfl
           rotate_left; · simp only [nm_]; rfl
           refine pure_ (i := 3) (N := some 38) (v := ?_) (a' := ?_) #[U,U,U,U,O,U,O,U,O,O,O,O] rfl rfl (any_of HT_.out (by kernel_rfl)) (fun _ _ _ h => h) (Or.inl ⟨by rfl, ?_⟩) ?_ ?_
           rotate_left; · intro w'; go_simp; with_reducible rfl
           rotate_left; · simp only [nm_]; rfl
           refine take_ (i := 4) (N := some 39) (v := ?_) (a' := ?_) #[U,U,U,U,U,U,O,U,O,O,O,O] rfl rfl (take_ofW HT_.out HW_.out (by kernel_rfl)) (fun _ _ _ h => h) (Or.inl ⟨by rfl, ?_⟩) hHeld ?_ ?_
           rotate_left; · rintro w' ⟨s0, s1, s2, s3⟩; go_simp; with_reducible rfl
           rotate_left; · simp only [nm_]; rfl
           refine pure_ (i := 10) (N := some 10) (v := ?_) (a' := ?_) #[U,U,U,U,U,U,O,U,O,O,U,O] rfl rfl (any_of HT_.out (by kernel_rfl)) (fun _ _ _ h => h) (Or.inl ⟨by rfl, ?_⟩) ?_ ?_
           rotate_left; · intro w'; go_simp; with_reducible rfl
           rotate_left; · simp only [nm_]; rfl
           refine take_ (i := 6) (N := some 41) (v := ?_) (a' := ?_) #[U,U,U,U,U,U,U,U,O,O,U,O] rfl rfl (take_ofW HT_.out HW_.out (by kernel_rfl)) (fun _ _ _ h => h) (Or.inl ⟨by rfl, ?_⟩) hHeld ?_ ?_
           rotate_left; · rintro w' ⟨s0, s1, s2, s3⟩; go_simp; with_reducible rfl
           rotate_left; · simp only [nm_]; rfl
           refine pure_ (i := 8) (N := some 43) (v := ?_) (a' := ?_) #[U,U,U,U,U,U,U,U,U,O,U,O] rfl rfl (any_of HT_.out (by kernel_rfl)) (fun _ _ _ h => h) (Or.inl ⟨by rfl, ?_⟩) ?_ ?_
           rotate_left; · intro w'; go_simp; with_reducible rfl
           rotate_left; · simp only [nm_]; rfl
           refine take_ (i := 9) (N := some 44) (v := ?_) (a' := ?_) #[U,U,U,U,U,U,U,U,U,U,U,O] rfl rfl (take_ofW HT_.out HW_.out (by kernel_rfl)) (fun _ _ _ h => h) (Or.inl ⟨by rfl, ?_⟩) hHeld ?_ ?_
           rotate_left; · rintro w' ⟨s0, s1, s2, s3⟩; go_simp; with_reducible rfl
           rotate_left; · simp only [nm_]; rfl
           refine pure_ (i := 11) (N := some 11) (v := ?_) (a' := ?_) #[U,U,U,U,U,U,U,U,U,U,U,U] rfl rfl (any_of HT_.out (by kernel_rfl)) (fun _ _ _ h => h) (Or.inl ⟨by rfl, ?_⟩) ?_ ?_
           rotate_left; · intro w'; go_simp; with_reducible rfl
           rotate_left; · simp only [nm_]; rfl
           refine done_ (done_of HT_.out (by kernel_rfl)) ?_
           go_upto_region 11 with (fail)
           go_cut [54] (fun v54 wc => ∃ (kq : Nat) (x54_13 : Bool), v54 = .bool x54_13 ∧ Aside0 (spec_IsFlat.j2 kq l1 t452 x8_1 x9_2 (rd l0_1 x8_1) (rd l0_1 x9_2) x54_13 a0_0 l0_1 = some (r1, r2)) ∧ Aside0 (kq ≤ k2) ∧ Aside0 (Kd.R k53 53 wc w.heap.size (fun _ => True) v453 t452) ∧ Aside0 (wc.heap[gb451]? = some (.cells #[.int .i64 a0_0, (.slice (some ad456) l0_1.length c0_1)] 30 (0, 0))) ∧ Aside0 (Below w.heap.size w wc))
           case first =>
            have H := HC14.out
            clear HC14
            by_cases c17 : (rd l0_1 x8_1) = (rd l0_1 x9_2)
            ·rw [if_pos c17] at H
             have c17b0 : ((rd l0_1 x8_1) == (rd l0_1 x9_2)) = true := beq_iff_eq.mpr c17
             have c17b1 : ((rd l0_1 x8_1) != (rd l0_1 x9_2)) = false := bne_eq_false_iff_eq.mpr c17
             clear c17
             (first | rw [c17b0] | (simp only [i64_w, i32_w]; rw [c17b0]) | skip)
             have H' := Aside0.mk H
             clear H
             go_wp2
             go_meet
             case rel => exact ⟨_, (true), (by first | rfl | (simp; done) | (simp [*]; done)), H', ⟨by have := HK1.out; have := HK2.out; first | omega | exact Nat.le_refl _⟩, ⟨by (with_reducible repeat (first | apply Kd.R_alloc | apply Kd.R_drewN | apply Kd.R_drew)); exact HO_6.out⟩, ⟨by (with_reducible repeat (first | refine blk_drewN ?_ _ | refine blk_drew ?_ | refine blk_alloc ?_ _)); exact BK451.out⟩, ⟨by repeat (first | (with_reducible first | exact HB.out | apply below_alloc | apply pw_below_drewN | apply below_drew1 | refine below_set ?_ GE451.out) | exact HB.out)⟩⟩
            ·rw [if_neg c17] at H
             have c17b0 : ((rd l0_1 x8_1) == (rd l0_1 x9_2)) = false := beq_eq_false_iff_ne.mpr c17
             have c17b1 : ((rd l0_1 x8_1) != (rd l0_1 x9_2)) = true := bne_iff_ne.mpr c17
             (first | rw [c17b0] | (simp only [i64_w, i32_w]; rw [c17b0]) | skip)
             have H' := Aside0.mk H
             clear H
             go_wp2
             go_meet
             case rel => exact ⟨_, (((Go.bits .and .i64 (rd l0_1 x8_1) (rd l0_1 x9_2)) != (rd l0_1 x8_1))), (by first | rfl | (simp; done) | (simp [*]; done)), H', ⟨by have := HK1.out; have := HK2.out; first | omega | exact Nat.le_refl _⟩, ⟨by (with_reducible repeat (first | apply Kd.R_alloc | apply Kd.R_drewN | apply Kd.R_drew)); exact HO_6.out⟩, ⟨by (with_reducible repeat (first | refine blk_drewN ?_ _ | refine blk_drew ?_ | refine blk_alloc ?_ _)); exact BK451.out⟩, ⟨by repeat (first | (with_reducible first | exact HB.out | apply below_alloc | apply pw_below_drewN | apply below_drew1 | refine below_set ?_ GE451.out) | exact HB.out)⟩⟩
           case rest =>
            clear HC14
            try clear c1
            try clear p2
            try clear c4
            try clear c4b0
            try clear c4b1
            try clear p4
            try clear q4
            try clear hx4
            try clear c5
            try clear c8
            try clear c8b0
            try clear c10
            try clear c10b0
            try clear c11
            try clear c11b0
            try clear c12
            try clear c12b0
            try clear c13
            try clear c13b0
            try clear c17
            try clear c17b0
            try clear c17b1
            try clear hcz15_0
            try clear hcz15_1
            try clear hcz6_0
            try clear hcz6_1
            try clear hcz9_0
            try clear hcz9_1
            try clear hfz15_0
            try clear hfz15_1
            try clear hfz6_0
            try clear hfz6_1
            try clear hfz9_0
            try clear hfz9_1
            try clear hx456_0
            try clear hx457_0
            try clear p2
            try clear p456
            try clear p457
            try clear q456
            try clear q457
            obtain ⟨kq, x54_13, rfl, HA, HJ13, HO_6, BK451, HB⟩ := hcut
            cases kq with
            | zero => exact absurd HA.out (by simp [spec_IsFlat.j2])
            | succ kj13 =>
             have H := HA.out
             clear HA
             simp only [spec_IsFlat.j2] at H
             by_cases c18 : x54_13 = true
             ·subst c18
              have H1 : (spec_IsFlat.l1 kj13 l1 t452 x8_1 (wrap64 (x9_2 + 1)) a0_0 l0_1) = some (r1, r2) := by rw [if_pos rfl] at H; exact H
              clear H
              have H := H1
              clear H1
              have H' := Aside0.mk H
              clear H
              go_wp2
              go_roundg kj13
              case measure => have := HK1.out; have := HK2.out; have := HJ13.out; omega
              case rel => exact ⟨(wrap64 (x9_2 + 1)), (by first | rfl | (simp; done) | (simp [*]; done)), H', ⟨by have := HK1.out; have := HK2.out; have := HJ13.out; omega⟩, ⟨by (with_reducible repeat (first | apply Kd.R_alloc | apply Kd.R_drewN | apply Kd.R_drew)); exact HO_6.out⟩, ⟨by (with_reducible repeat (first | refine blk_drewN ?_ _ | refine blk_drew ?_ | refine blk_alloc ?_ _)); exact BK451.out⟩, ⟨by repeat (first | (with_reducible first | exact HB.out | apply below_alloc | apply pw_below_drewN | apply below_drew1 | refine below_set ?_ GE451.out) | exact HB.out)⟩⟩
             ·replace c18 := Bool.eq_false_iff.mpr c18
              subst c18
              have H1 : (if 0 ≤ x8_1 then (if x8_1 < (l1.length : Int) then (if 0 ≤ x9_2 then (if x9_2 < (l1.length : Int) then (if (rd l1 x8_1) > (rd l1 x9_2) then (some (false, 0)) else ((spec_l01Ones.f kj13 (rd l0_1 x9_2)).bind fun t460 => ((spec_l01Ones.f kj13 (rd l0_1 x8_1)).bind fun t461 => (if t460 = (wrap64 (t461 + 1)) then ((spec_l02High.f kj13 t452 (rd l0_1 x8_1)).bind fun t464 => (if (((rd l1 x8_1) == (rd l1 x9_2)) != (t464 == (rd l0_1 x9_2))) = true then (some (false, 0)) else (spec_IsFlat.l1 kj13 l1 t452 x8_1 (wrap64 (x9_2 + 1)) a0_0 l0_1))) else (spec_IsFlat.l1 kj13 l1 t452 x8_1 (wrap64 (x9_2 + 1)) a0_0 l0_1))))) else (none)) else (none)) else (none)) else (none)) = some (r1, r2) := by rw [if_neg (show ¬ (false = true) by decide)] at H; exact H
              clear H
              have H := H1
              clear H1
              by_cases c19 : 0 ≤ x8_1
              ·rw [if_pos c19] at H
               have c19b0 : decide (0 ≤ x8_1) = true := decide_eq_true c19
               clear c19
               by_cases c20 : x8_1 < (l1.length : Int)
               ·rw [if_pos c20] at H
                have c20b0 : decide (x8_1 < (l1.length : Int)) = true := decide_eq_true c20
                clear c20
                by_cases c21 : 0 ≤ x9_2
                ·rw [if_pos c21] at H
                 have c21b0 : decide (0 ≤ x9_2) = true := decide_eq_true c21
                 clear c21
                 by_cases c22 : x9_2 < (l1.length : Int)
                 ·rw [if_pos c22] at H
                  have c22b0 : decide (x9_2 < (l1.length : Int)) = true := decide_eq_true c22
                  clear c22
                  by_cases c23 : (rd l1 x8_1) > (rd l1 x9_2)
                  ·rw [if_pos c23] at H
                   have c23b0 : decide ((rd l1 x9_2) < (rd l1 x8_1)) = true := decide_eq_true c23
                   clear c23
                   simp only [Option.some.injEq, Prod.mk.injEq] at H
                   obtain ⟨rfl, rfl⟩ := H
                   try go_wp2
                   have n0_ := Aside0.mk (Kd.R_drew HO_6.out)
                   have n1_ := Aside0.mk (blk_drew BK451.out)
                   have n2_ := Aside0.mk (below_drew1 HB.out)
                   clear HO_6
                   clear BK451
                   clear HB
                   have HO_6 := n0_
                   have BK451 := n1_
                   have HB := n2_
                   clear n0_ n1_ n2_
                   have p458 : 0 ≤ (x8_1 : Int) := of_decide_eq_true (by first | (with_reducible assumption) | assumption)
                   have q458 : x8_1 < (l1.length : Int) := of_decide_eq_true (by first | (with_reducible assumption) | assumption)
                   obtain ⟨ad458, e458, hx458_0⟩ := Kd.at_int HR1.out x8_1 p458 q458
                   have hw458_0 := hx458_0
                   cases e458
                   replace hx458_0 := (HB.out.cell (World.block_lt_of_cell? w _ hx458_0)).trans hx458_0
                   replace p458 := eq_true p458
                   replace q458 := eq_true q458
                   have p459 : 0 ≤ (x9_2 : Int) := of_decide_eq_true (by first | (with_reducible assumption) | assumption)
                   have q459 : x9_2 < (l1.length : Int) := of_decide_eq_true (by first | (with_reducible assumption) | assumption)
                   obtain ⟨ad459, e459, hx459_0⟩ := Kd.at_int HR1.out x9_2 p459 q459
                   have hw459_0 := hx459_0
                   obtain rfl : ad458 = ad459 := (by injection e459)
                   replace hx459_0 := (HB.out.cell (World.block_lt_of_cell? w _ hx459_0)).trans hx459_0
                   replace p459 := eq_true p459
                   replace q459 := eq_true q459
                   refine start_ (n := 34) (S := fun w' => w'.cell? (ad458.add (x8_1).toNat) = some (.int .i64 (rd l1 x8_1)) ∧ w'.cell? (ad458.add (x9_2).toNat) = some (.int .i64 (rd l1 x9_2))) (ds := []) #[O,O,O,O,O,O,O,O,O,O,O,O,O,O,O,O,O,O,O,O,O,O,O,O,O,O,O,O,O,O,O,O,O,O] (by kernel_rfl) rfl rfl ⟨((HB.out.cell (World.block_lt_of_cell? w _ hw458_0)).trans hw458_0), ((HB.out.cell (World.block_lt_of_cell? w _ hw459_0)).trans hw459_0)⟩ (fun hHeld => ?_); refine with_tabW spec_IsFlat.tab12 spec_IsFlat.bits12 (fun HT_ HW_ => ?_)
                   generalize wc.drew = w24 at HO_6 BK451 HB hx458_0 hx459_0 hHeld ⊢
                   refine pure_ (i := 0) (N := some 55) (v := ?_) (a' := ?_) #[U,O,O,O,O,O,O,O,O,O,O,O,O,O,O,O,O,O,O,O,O,O,O,O,O,O,O,O,O,O,O,O,O,O] rfl rfl (any_of HT_.out (by kernel_rfl)) (fun _ _ _ h => h) (Or.inl ⟨by rfl, ?_⟩) ?_ ?_
                   rotate_left; · intro w'; go_simp; with_reducible rfl
                   rotate_left; · simp only [nm_]; rfl
                   refine pure_ (i := 1) (N := some 56) (v := ?_) (a' := ?_) #[U,U,O,O,O,O,O,O,O,O,O,O,O,O,O,O,O,O,O,O,O,O,O,O,O,O,O,O,O,O,O,O,O,O] rfl rfl (any_of HT_.out (by kernel_rfl)) (fun _ _ _ h => h) (Or.inl ⟨by rfl, ?_⟩) ?_ ?_
                   rotate_left; · intro w'; go_simp; with_reducible rfl
                   rotate_left; · simp only [nm_]; rfl
                   refine pure_ (i := 2) (N := some 57) (v := ?_) (a' := ?_) #[U,U,U,O,O,O,O,O,O,O,O,O,O,O,O,O,O,O,O,O,O,O,O,O,O,O,O,O,O,O,O,O,O,O] rfl rfl (any_of HT_.out (by kernel_rfl)) (fun _ _ _ h => h) (Or.inl ⟨by rfl, ?_⟩) ?_ ?_
                   rotate_left; · intro w'; go_simp; with_reducible rfl
                   rotate_left; · simp only [nm_]; rfl
                   refine pure_ (i := 4) (N := some 59) (v := ?_) (a' := ?_) #[U,U,U,O,U,O,O,O,O,O,O,O,O,O,O,O,O,O,O,O,O,O,O,O,O,O,O,O,O,O,O,O,O,O] rfl rfl (any_of HT_.out (by kernel_rfl)) (fun _ _ _ h => h) (Or.inl ⟨by rfl, ?_⟩) ?_ ?_
                   rotate_left; · intro w'; go_simp; with_reducible rfl
                   rotate_left; · simp only [nm_]; rfl
                   refine pure_ (i := 5) (N := some 60) (v := ?_) (a' := ?_) #[U,U,U,O,U,U,O,O,O,O,O,O,O,O,O,O,O,O,O,O,O,O,O,O,O,O,O,O,O,O,O,O,O,O] rfl rfl (any_of HT_.out (by kernel_rfl)) (fun _ _ _ h => h) (Or.inl ⟨by rfl, ?_⟩) ?_ ?_
                   rotate_left; · intro w'; go_simp; with_reducible rfl
                   rotate_left; · simp only [nm_]; rfl
                   refine pure_ (i := 6) (N := some 61) (v := ?_) (a' := ?_) #[U,U,U,O,U,U,U,O,O,O,O,O,O,O,O,O,O,O,O,O,O,O,O,O,O,O,O,O,O,O,O,O,O,O] rfl rfl (any_of HT_.out (by kernel_rfl)) (fun _ _ _ h => h) (Or.inl ⟨by rfl, ?_⟩) ?_ ?_
                   rotate_left; · intro w'; go_simp; with_reducible rfl
                   rotate_left; · simp only [nm_]; rfl
                   refine take_ (i := 3) (N := some 58) (v := ?_) (a' := ?_) #[U,U,U,U,U,U,U,O,O,O,O,O,O,O,O,O,O,O,O,O,O,O,O,O,O,O,O,O,O,O,O,O,O,O] rfl rfl (take_ofW HT_.out HW_.out (by kernel_rfl)) (fun _ _ _ h => h) (Or.inl ⟨by rfl, ?_⟩) hHeld ?_ ?_
                   rotate_left; · rintro w' ⟨s0, s1⟩; go_simp; with_reducible rfl
                   rotate_left; · simp only [nm_]; rfl
                   refine take_ (i := 7) (N := some 62) (v := ?_) (a' := ?_) #[U,U,U,U,U,U,U,U,O,O,O,O,O,O,O,O,O,O,O,O,O,O,O,O,O,O,O,O,O,O,O,O,O,O] rfl rfl (take_ofW HT_.out HW_.out (by kernel_rfl)) (fun _ _ _ h => h) (Or.inl ⟨by rfl, ?_⟩) hHeld ?_ ?_
                   rotate_left; · rintro w' ⟨s0, s1⟩; go_simp; with_reducible rfl
                   rotate_left; · simp only [nm_]; rfl
                   refine pure_ (i := 8) (N := some 63) (v := ?_) (a' := ?_) #[U,U,U,U,U,U,U,U,U,O,O,O,O,O,O,O,O,O,O,O,O,O,O,O,O,O,O,O,O,O,O,O,O,O] rfl rfl (any_of HT_.out (by kernel_rfl)) (fun _ _ _ h => h) (Or.inl ⟨by rfl, ?_⟩) ?_ ?_
                   rotate_left; · intro w'; go_simp; with_reducible rfl
                   rotate_left; · simp only [nm_]; rfl
                   refine pure_ (i := 9) (N := some 64) (v := ?_) (a' := ?_) #[U,U,U,U,U,U,U,U,U,U,O,O,O,O,O,O,O,O,O,O,O,O,O,O,O,O,O,O,O,O,O,O,O,O] rfl rfl (any_of HT_.out (by kernel_rfl)) (fun _ _ _ h => h) (Or.inl ⟨by rfl, ?_⟩) ?_ ?_
                   rotate_left; · intro w'; go_simp; with_reducible rfl
                   rotate_left; · simp only [nm_]; rfl
                   refine pure_ (i := 10) (N := some 65) (v := undef) (a' := ?_) #[U,U,U,U,U,U,U,U,U,U,U,O,O,O,O,O,O,O,O,O,O,O,O,O,O,O,O,O,O,O,O,O,O,O] rfl rfl (any_of HT_.out (by kernel_rfl)) (fun _ _ _ h => h) (Or.inr ⟨by rfl, rfl⟩) ?_ ?_
                   rotate_left; · simp only [nm_]; rfl
                   refine pure_ (i := 11) (N := some 66) (v := undef) (a' := ?_) #[U,U,U,U,U,U,U,U,U,U,U,U,O,O,O,O,O,O,O,O,O,O,O,O,O,O,O,O,O,O,O,O,O,O] rfl rfl (any_of HT_.out (by kernel_rfl)) (fun _ _ _ h => h) (Or.inr ⟨by rfl, rfl⟩) ?_ ?_
                   rotate_left; · simp only [nm_]; rfl
                   refine pure_ (i := 12) (N := some 67) (v := undef) (a' := ?_) #[U,U,U,U,U,U,U,U,U,U,U,U,U,O,O,O,O,O,O,O,O,O,O,O,O,O,O,O,O,O,O,O,O,O] rfl rfl (any_of HT_.out (by kernel_rfl)) (fun _ _ _ h => h) (Or.inr ⟨by rfl, rfl⟩) ?_ ?_
                   rotate_left; · simp only [nm_]; rfl
                   refine pure_ (i := 13) (N := some 68) (v := undef) (a' := ?_) #[U,U,U,U,U,U,U,U,U,U,U,U,U,U,O,O,O,O,O,O,O,O,O,O,O,O,O,O,O,O,O,O,O,O] rfl rfl (any_of HT_.out (by kernel_rfl)) (fun _ _ _ h => h) (Or.inr ⟨by rfl, rfl⟩) ?_ ?_
                   rotate_left; · simp only [nm_]; rfl
                   refine pure_ (i := 14) (N := some 69) (v := undef) (a' := ?_) #[U,U,U,U,U,U,U,U,U,U,U,U,U,U,U,O,O,O,O,O,O,O,O,O,O,O,O,O,O,O,O,O,O,O] rfl rfl (any_of HT_.out (by kernel_rfl)) (fun _ _ _ h => h) (Or.inr ⟨by rfl, rfl⟩) ?_ ?_
                   rotate_left; · simp only [nm_]; rfl
                   refine pure_ (i := 15) (N := some 70) (v := undef) (a' := ?_) #[U,U,U,U,U,U,U,U,U,U,U,U,U,U,U,U,O,O,O,O,O,O,O,O,O,O,O,O,O,O,O,O,O,O] rfl rfl (any_of HT_.out (by kernel_rfl)) (fun _ _ _ h => h) (Or.inr ⟨by rfl, rfl⟩) ?_ ?_
                   rotate_left; · simp only [nm_]; rfl
                   refine pure_ (i := 16) (N := some 71) (v := undef) (a' := ?_) #[U,U,U,U,U,U,U,U,U,U,U,U,U,U,U,U,U,O,O,O,O,O,O,O,O,O,O,O,O,O,O,O,O,O] rfl rfl (any_of HT_.out (by kernel_rfl)) (fun _ _ _ h => h) (Or.inr ⟨by rfl, rfl⟩) ?_ ?_
                   rotate_left; · simp only [nm_]; rfl
                   refine pure_ (i := 17) (N := some 72) (v := undef) (a' := ?_) #[U,U,U,U,U,U,U,U,U,U,U,U,U,U,U,U,U,U,O,O,O,O,O,O,O,O,O,O,O,O,O,O,O,O] rfl rfl (any_of HT_.out (by kernel_rfl)) (fun _ _ _ h => h) (Or.inr ⟨by rfl, rfl⟩) ?_ ?_
                   rotate_left; · simp only [nm_]; rfl
                   refine pure_ (i := 18) (N := some 73) (v := undef) (a' := ?_) #[U,U,U,U,U,U,U,U,U,U,U,U,U,U,U,U,U,U,U,O,O,O,O,O,O,O,O,O,O,O,O,O,O,O] rfl rfl (any_of HT_.out (by kernel_rfl)) (fun _ _ _ h => h) (Or.inr ⟨by rfl, rfl⟩) ?_ ?_
                   rotate_left; · simp only [nm_]; rfl
                   refine pure_ (i := 19) (N := some 74) (v := undef) (a' := ?_) #[U,U,U,U,U,U,U,U,U,U,U,U,U,U,U,U,U,U,U,U,O,O,O,O,O,O,O,O,O,O,O,O,O,O] rfl rfl (any_of HT_.out (by kernel_rfl)) (fun _ _ _ h => h) (Or.inr ⟨by rfl, rfl⟩) ?_ ?_
                   rotate_left; · simp only [nm_]; rfl
                   refine pure_ (i := 20) (N := some 75) (v := undef) (a' := ?_) #[U,U,U,U,U,U,U,U,U,U,U,U,U,U,U,U,U,U,U,U,U,O,O,O,O,O,O,O,O,O,O,O,O,O] rfl rfl (any_of HT_.out (by kernel_rfl)) (fun _ _ _ h => h) (Or.inr ⟨by rfl, rfl⟩) ?_ ?_
                   rotate_left; · simp only [nm_]; rfl
                   refine pure_ (i := 21) (N := some 76) (v := undef) (a' := ?_) #[U,U,U,U,U,U,U,U,U,U,U,U,U,U,U,U,U,U,U,U,U,U,O,O,O,O,O,O,O,O,O,O,O,O] rfl rfl (any_of HT_.out (by kernel_rfl)) (fun _ _ _ h => h) (Or.inr ⟨by rfl, rfl⟩) ?_ ?_
                   rotate_left; · simp only [nm_]; rfl
                   refine pure_ (i := 22) (N := some 77) (v := undef) (a' := ?_) #[U,U,U,U,U,U,U,U,U,U,U,U,U,U,U,U,U,U,U,U,U,U,U,O,O,O,O,O,O,O,O,O,O,O] rfl rfl (any_of HT_.out (by kernel_rfl)) (fun _ _ _ h => h) (Or.inr ⟨by rfl, rfl⟩) ?_ ?_
                   rotate_left; · simp only [nm_]; rfl
                   refine pure_ (i := 23) (N := some 78) (v := undef) (a' := ?_) #[U,U,U,U,U,U,U,U,U,U,U,U,U,U,U,U,U,U,U,U,U,U,U,U,O,O,O,O,O,O,O,O,O,O] rfl rfl (any_of HT_.out (by kernel_rfl)) (fun _ _ _ h => h) (Or.inr ⟨by rfl, rfl⟩) ?_ ?_
                   rotate_left; · simp only [nm_]; rfl
                   refine pure_ (i := 24) (N := some 79) (v := undef) (a' := ?_) #[U,U,U,U,U,U,U,U,U,U,U,U,U,U,U,U,U,U,U,U,U,U,U,U,U,O,O,O,O,O,O,O,O,O] rfl rfl (any_of HT_.out (by kernel_rfl)) (fun _ _ _ h => h) (Or.inr ⟨by rfl, rfl⟩) ?_ ?_
                   rotate_left; · simp only [nm_]; rfl
                   refine pure_ (i := 25) (N := some 80) (v := undef) (a' := ?_) #[U,U,U,U,U,U,U,U,U,U,U,U,U,U,U,U,U,U,U,U,U,U,U,U,U,U,O,O,O,O,O,O,O,O] rfl rfl (any_of HT_.out (by kernel_rfl)) (fun _ _ _ h => h) (Or.inr ⟨by rfl, rfl⟩) ?_ ?_
                   rotate_left; · simp only [nm_]; rfl
                   refine pure_ (i := 26) (N := some 81) (v := undef) (a' := ?_) #[U,U,U,U,U,U,U,U,U,U,U,U,U,U,U,U,U,U,U,U,U,U,U,U,U,U,U,O,O,O,O,O,O,O] rfl rfl (any_of HT_.out (by kernel_rfl)) (fun _ _ _ h => h) (Or.inr ⟨by rfl, rfl⟩) ?_ ?_
                   rotate_left; · simp only [nm_]; rfl
                   refine pure_ (i := 27) (N := some 82) (v := undef) (a' := ?_) #[U,U,U,U,U,U,U,U,U,U,U,U,U,U,U,U,U,U,U,U,U,U,U,U,U,U,U,U,O,O,O,O,O,O] rfl rfl (any_of HT_.out (by kernel_rfl)) (fun _ _ _ h => h) (Or.inr ⟨by rfl, rfl⟩) ?_ ?_
                   rotate_left; · simp only [nm_]; rfl
                   refine pure_ (i := 28) (N := some 83) (v := undef) (a' := ?_) #[U,U,U,U,U,U,U,U,U,U,U,U,U,U,U,U,U,U,U,U,U,U,U,U,U,U,U,U,U,O,O,O,O,O] rfl rfl (any_of HT_.out (by kernel_rfl)) (fun _ _ _ h => h) (Or.inr ⟨by rfl, rfl⟩) ?_ ?_
                   rotate_left; · simp only [nm_]; rfl
                   refine pure_ (i := 29) (N := some 84) (v := undef) (a' := ?_) #[U,U,U,U,U,U,U,U,U,U,U,U,U,U,U,U,U,U,U,U,U,U,U,U,U,U,U,U,U,U,O,O,O,O] rfl rfl (any_of HT_.out (by kernel_rfl)) (fun _ _ _ h => h) (Or.inr ⟨by rfl, rfl⟩) ?_ ?_
                   rotate_left; · simp only [nm_]; rfl
                   refine pure_ (i := 30) (N := some 85) (v := undef) (a' := ?_) #[U,U,U,U,U,U,U,U,U,U,U,U,U,U,U,U,U,U,U,U,U,U,U,U,U,U,U,U,U,U,U,O,O,O] rfl rfl (any_of HT_.out (by kernel_rfl)) (fun _ _ _ h => h) (Or.inr ⟨by rfl, rfl⟩) ?_ ?_
                   rotate_left; · simp only [nm_]; rfl
                   refine pure_ (i := 31) (N := some 86) (v := undef) (a' := ?_) #[U,U,U,U,U,U,U,U,U,U,U,U,U,U,U,U,U,U,U,U,U,U,U,U,U,U,U,U,U,U,U,U,O,O] rfl rfl (any_of HT_.out (by kernel_rfl)) (fun _ _ _ h => h) (Or.inr ⟨by rfl, rfl⟩) ?_ ?_
                   rotate_left; · simp only [nm_]; rfl
                   refine pure_ (i := 32) (N := some 87) (v := undef) (a' := ?_) #[U,U,U,U,U,U,U,U,U,U,U,U,U,U,U,U,U,U,U,U,U,U,U,U,U,U,U,U,U,U,U,U,U,O] rfl rfl (any_of HT_.out (by kernel_rfl)) (fun _ _ _ h => h) (Or.inr ⟨by rfl, rfl⟩) ?_ ?_
                   rotate_left; · simp only [nm_]; rfl
                   refine pure_ (i := 33) (N := some 88) (v := ?_) (a' := ?_) #[U,U,U,U,U,U,U,U,U,U,U,U,U,U,U,U,U,U,U,U,U,U,U,U,U,U,U,U,U,U,U,U,U,U] rfl rfl (any_of HT_.out (by kernel_rfl)) (fun _ _ _ h => h) (Or.inl ⟨by rfl, ?_⟩) ?_ ?_
                   rotate_left; · intro w'; go_simp; with_reducible rfl
                   rotate_left; · simp only [nm_]; rfl
                   refine done_ (done_of HT_.out (by kernel_rfl)) ?_
                   try go_wp2
                   go_ret2
                   exact ⟨by first | rfl | (simp [errW_none, errW_some] <;> rfl) | (simp [*, errW_none, errW_some] <;> rfl), by repeat (first | (with_reducible first | exact HB.out | apply below_alloc | apply pw_below_drewN | apply below_drew1 | refine below_set ?_ GE451.out) | exact HB.out)⟩
                  ·rw [if_neg c23] at H
                   have c23b0 : decide ((rd l1 x9_2) < (rd l1 x8_1)) = false := decide_eq_false c23
                   clear c23
                   replace H := Option.bind_eq_some_iff.mp H
                   obtain ⟨t460, A250, H⟩ := H
                   replace H : ((spec_l01Ones.f kj13 (rd l0_1 x8_1)).bind fun t461 => (if t460 = (wrap64 (t461 + 1)) then ((spec_l02High.f kj13 t452 (rd l0_1 x8_1)).bind fun t464 => (if (((rd l1 x8_1) == (rd l1 x9_2)) != (t464 == (rd l0_1 x9_2))) = true then (some (false, 0)) else (spec_IsFlat.l1 kj13 l1 t452 x8_1 (wrap64 (x9_2 + 1)) a0_0 l0_1))) else (spec_IsFlat.l1 kj13 l1 t452 x8_1 (wrap64 (x9_2 + 1)) a0_0 l0_1))) = some (r1, r2) := H
                   have A25 := Aside0.mk A250
                   clear A250
                   replace H := Option.bind_eq_some_iff.mp H
                   obtain ⟨t461, A260, H⟩ := H
                   replace H : (if t460 = (wrap64 (t461 + 1)) then ((spec_l02High.f kj13 t452 (rd l0_1 x8_1)).bind fun t464 => (if (((rd l1 x8_1) == (rd l1 x9_2)) != (t464 == (rd l0_1 x9_2))) = true then (some (false, 0)) else (spec_IsFlat.l1 kj13 l1 t452 x8_1 (wrap64 (x9_2 + 1)) a0_0 l0_1))) else (spec_IsFlat.l1 kj13 l1 t452 x8_1 (wrap64 (x9_2 + 1)) a0_0 l0_1)) = some (r1, r2) := H
                   have A26 := Aside0.mk A260
                   clear A260
                   by_cases c27 : t460 = (wrap64 (t461 + 1))
                   ·rw [if_pos c27] at H
                    have c27b0 : (t460 == (wrap64 (t461 + 1))) = true := beq_iff_eq.mpr c27
                    have c27b1 : (t460 != (wrap64 (t461 + 1))) = false := bne_eq_false_iff_eq.mpr c27
                    clear c27
                    replace H := Option.bind_eq_some_iff.mp H
                    obtain ⟨t464, A280, H⟩ := H
                    replace H : (if (((rd l1 x8_1) == (rd l1 x9_2)) != (t464 == (rd l0_1 x9_2))) = true then (some (false, 0)) else (spec_IsFlat.l1 kj13 l1 t452 x8_1 (wrap64 (x9_2 + 1)) a0_0 l0_1)) = some (r1, r2) := H
                    have A28 := Aside0.mk A280
                    clear A280
                    by_cases c29 : (((rd l1 x8_1) == (rd l1 x9_2)) != (t464 == (rd l0_1 x9_2))) = true
                    ·rw [if_pos c29] at H
                     have c29b0 : (((rd l1 x8_1) == (rd l1 x9_2)) != (t464 == (rd l0_1 x9_2))) = true := c29
                     (try (have c29b1 : decide (((rd l1 x8_1) == (rd l1 x9_2)) = (t464 == (rd l0_1 x9_2))) = false := by simpa using c29))
                     (try (have c29b2 : (((rd l1 x8_1) == (rd l1 x9_2)) == (t464 == (rd l0_1 x9_2))) = false := by simpa using c29))
                     (try (have c29b3 : ¬ (((rd l1 x8_1) == (rd l1 x9_2)) = (t464 == (rd l0_1 x9_2))) := by simpa using c29))
                     clear c29
                     simp only [Option.some.injEq, Prod.mk.injEq] at H
                     obtain ⟨rfl, rfl⟩ := H
                     try go_wp2
                     have n0_ := Aside0.mk (Kd.R_drew HO_6.out)
                     have n1_ := Aside0.mk (blk_drew BK451.out)
                     have n2_ := Aside0.mk (below_drew1 HB.out)
                     clear HO_6
                     clear BK451
                     clear HB
                     have HO_6 := n0_
                     have BK451 := n1_
                     have HB := n2_
                     clear n0_ n1_ n2_
                     have p458 : 0 ≤ (x8_1 : Int) := of_decide_eq_true (by first | (with_reducible assumption) | assumption)
                     have q458 : x8_1 < (l1.length : Int) := of_decide_eq_true (by first | (with_reducible assumption) | assumption)
                     obtain ⟨ad458, e458, hx458_0⟩ := Kd.at_int HR1.out x8_1 p458 q458
                     have hw458_0 := hx458_0
                     cases e458
                     replace hx458_0 := (HB.out.cell (World.block_lt_of_cell? w _ hx458_0)).trans hx458_0
                     replace p458 := eq_true p458
                     replace q458 := eq_true q458
                     have p459 : 0 ≤ (x9_2 : Int) := of_decide_eq_true (by first | (with_reducible assumption) | assumption)
                     have q459 : x9_2 < (l1.length : Int) := of_decide_eq_true (by first | (with_reducible assumption) | assumption)
                     obtain ⟨ad459, e459, hx459_0⟩ := Kd.at_int HR1.out x9_2 p459 q459
                     have hw459_0 := hx459_0
                     obtain rfl : ad458 = ad459 := (by injection e459)
                     replace hx459_0 := (HB.out.cell (World.block_lt_of_cell? w _ hx459_0)).trans hx459_0
                     replace p459 := eq_true p459
                     replace q459 := eq_true q459
                     have p462 : 0 ≤ (x8_1 : Int) := of_decide_eq_true (by first | (with_reducible assumption) | assumption)
                     have q462 : x8_1 < (l1.length : Int) := of_decide_eq_true (by first | (with_reducible assumption) | assumption)
                     obtain ⟨ad462, e462, hx462_0⟩ := Kd.at_int HR1.out x8_1 p462 q462
                     have hw462_0 := hx462_0
                     obtain rfl : ad458 = ad462 := (by injection e462)
                     replace hx462_0 := (HB.out.cell (World.block_lt_of_cell? w _ hx462_0)).trans hx462_0
                     replace p462 := eq_true p462
                     replace q462 := eq_true q462
                     have p463 : 0 ≤ (x9_2 : Int) := of_decide_eq_true (by first | (with_reducible assumption) | assumption)
                     have q463 : x9_2 < (l1.length : Int) := of_decide_eq_true (by first | (with_reducible assumption) | assumption)
                     obtain ⟨ad463, e463, hx463_0⟩ := Kd.at_int HR1.out x9_2 p463 q463
                     have hw463_0 := hx463_0
                     obtain rfl : ad458 = ad463 := (by injection e463)
                     replace hx463_0 := (HB.out.cell (World.block_lt_of_cell? w _ hx463_0)).trans hx463_0
                     replace p463 := eq_true p463
                     replace q463 := eq_true q463
                     refine start_ (n := 34) (S := fun w' => w'.cell? (ad458.add (x8_1).toNat) = some (.int .i64 (rd l1 x8_1)) ∧ w'.cell? (ad458.add (x9_2).toNat) = some (.int .i64 (rd l1 x9_2)) ∧ w'.cell? (ad458.add (x8_1).toNat) = some (.int .i64 (rd l1 x8_1)) ∧ w'.cell? (ad458.add (x9_2).toNat) = some (.int .i64 (rd l1 x9_2))) (ds := []) #[O,O,O,O,O,O,O,O,O,O,O,O,O,O,O,O,O,O,O,O,O,O,O,O,O,O,O,O,O,O,O,O,O,O] (by kernel_rfl) rfl rfl ⟨((HB.out.cell (World.block_lt_of_cell? w _ hw458_0)).trans hw458_0), ((HB.out.cell (World.block_lt_of_cell? w _ hw459_0)).trans hw459_0), ((HB.out.cell (World.block_lt_of_cell? w _ hw462_0)).trans hw462_0), ((HB.out.cell (World.block_lt_of_cell? w _ hw463_0)).trans hw463_0)⟩ (fun hHeld => ?_); refine with_tabW spec_IsFlat.tab12 spec_IsFlat.bits12 (fun HT_ HW_ => ?_)
                     generalize wc.drew = w30 at HO_6 BK451 HB hx458_0 hx459_0 hx462_0 hx463_0 hHeld ⊢
                     refine pure_ (i := 0) (N := some 55) (v := ?_) (a' := ?_) #[U,O,O,O,O,O,O,O,O,O,O,O,O,O,O,O,O,O,O,O,O,O,O,O,O,O,O,O,O,O,O,O,O,O] rfl rfl (any_of HT_.out (by kernel_rfl)) (fun _ _ _ h => h) (Or.inl ⟨by rfl, ?_⟩) ?_ ?_
                     rotate_left; · intro w'; go_simp; with_reducible rfl
                     rotate_left; · simp only [nm_]; rfl
                     refine pure_ (i := 1) (N := some 56) (v := ?_) (a' := ?_) #[U,U,O,O,O,O,O,O,O,O,O,O,O,O,O,O,O,O,O,O,O,O,O,O,O,O,O,O,O,O,O,O,O,O] rfl rfl (any_of HT_.out (by kernel_rfl)) (fun _ _ _ h => h) (Or.inl ⟨by rfl, ?_⟩) ?_ ?_
                     rotate_left; · intro w'; go_simp; with_reducible rfl
                     rotate_left; · simp only [nm_]; rfl
                     refine pure_ (i := 2) (N := some 57) (v := ?_) (a' := ?_) #[U,U,U,O,O,O,O,O,O,O,O,O,O,O,O,O,O,O,O,O,O,O,O,O,O,O,O,O,O,O,O,O,O,O] rfl rfl (any_of HT_.out (by kernel_rfl)) (fun _ _ _ h => h) (Or.inl ⟨by rfl, ?_⟩) ?_ ?_
                     rotate_left; · intro w'; go_simp; with_reducible rfl
                     rotate_left; · simp only [nm_]; rfl
                     refine pure_ (i := 4) (N := some 59) (v := ?_) (a' := ?_) #[U,U,U,O,U,O,O,O,O,O,O,O,O,O,O,O,O,O,O,O,O,O,O,O,O,O,O,O,O,O,O,O,O,O] rfl rfl (any_of HT_.out (by kernel_rfl)) (fun _ _ _ h => h) (Or.inl ⟨by rfl, ?_⟩) ?_ ?_
                     rotate_left; · intro w'; go_simp; with_reducible rfl
                     rotate_left; · simp only [nm_]; rfl
                     refine pure_ (i := 5) (N := some 60) (v := ?_) (a' := ?_) #[U,U,U,O,U,U,O,O,O,O,O,O,O,O,O,O,O,O,O,O,O,O,O,O,O,O,O,O,O,O,O,O,O,O] rfl rfl (any_of HT_.out (by kernel_rfl)) (fun _ _ _ h => h) (Or.inl ⟨by rfl, ?_⟩) ?_ ?_
                     rotate_left; · intro w'; go_simp; with_reducible rfl
                     rotate_left; · simp only [nm_]; rfl
                     refine pure_ (i := 6) (N := some 61) (v := ?_) (a' := ?_) #[U,U,U,O,U,U,U,O,O,O,O,O,O,O,O,O,O,O,O,O,O,O,O,O,O,O,O,O,O,O,O,O,O,O] rfl rfl (any_of HT_.out (by kernel_rfl)) (fun _ _ _ h => h) (Or.inl ⟨by rfl, ?_⟩) ?_ ?_
                     rotate_left; · intro w'; go_simp; with_reducible rfl
                     rotate_left; · simp only [nm_]; rfl
                     refine take_ (i := 3) (N := some 58) (v := ?_) (a' := ?_) #[U,U,U,U,U,U,U,O,O,O,O,O,O,O,O,O,O,O,O,O,O,O,O,O,O,O,O,O,O,O,O,O,O,O] rfl rfl (take_ofW HT_.out HW_.out (by kernel_rfl)) (fun _ _ _ h => h) (Or.inl ⟨by rfl, ?_⟩) hHeld ?_ ?_
                     rotate_left; · rintro w' ⟨s0, s1, s2, s3⟩; go_simp; with_reducible rfl
                     rotate_left; · simp only [nm_]; rfl
                     refine take_ (i := 7) (N := some 62) (v := ?_) (a' := ?_) #[U,U,U,U,U,U,U,U,O,O,O,O,O,O,O,O,O,O,O,O,O,O,O,O,O,O,O,O,O,O,O,O,O,O] rfl rfl (take_ofW HT_.out HW_.out (by kernel_rfl)) (fun _ _ _ h => h) (Or.inl ⟨by rfl, ?_⟩) hHeld ?_ ?_
                     rotate_left; · rintro w' ⟨s0, s1, s2, s3⟩; go_simp; with_reducible rfl
                     rotate_left; · simp only [nm_]; rfl
                     refine pure_ (i := 8) (N := some 63) (v := ?_) (a' := ?_) #[U,U,U,U,U,U,U,U,U,O,O,O,O,O,O,O,O,O,O,O,O,O,O,O,O,O,O,O,O,O,O,O,O,O] rfl rfl (any_of HT_.out (by kernel_rfl)) (fun _ _ _ h => h) (Or.inl ⟨by rfl, ?_⟩) ?_ ?_
                     rotate_left; · intro w'; go_simp; with_reducible rfl
                     rotate_left; · simp only [nm_]; rfl
                     refine pure_ (i := 9) (N := some 64) (v := ?_) (a' := ?_) #[U,U,U,U,U,U,U,U,U,U,O,O,O,O,O,O,O,O,O,O,O,O,O,O,O,O,O,O,O,O,O,O,O,O] rfl rfl (any_of HT_.out (by kernel_rfl)) (fun _ _ _ h => h) (Or.inl ⟨by rfl, ?_⟩) ?_ ?_
                     rotate_left; · intro w'; go_simp; with_reducible rfl
                     rotate_left; · simp only [nm_]; rfl
                     refine pure_ (i := 10) (N := some 65) (v := ?_) (a' := ?_) #[U,U,U,U,U,U,U,U,U,U,U,O,O,O,O,O,O,O,O,O,O,O,O,O,O,O,O,O,O,O,O,O,O,O] rfl rfl (any_of HT_.out (by kernel_rfl)) (fun _ _ _ h => h) (Or.inl ⟨by rfl, ?_⟩) ?_ ?_
                     rotate_left; · intro w'; go_simp; with_reducible rfl
                     rotate_left; · simp only [nm_]; rfl
                     refine pure_ (i := 12) (N := some 67) (v := ?_) (a' := ?_) #[U,U,U,U,U,U,U,U,U,U,U,O,U,O,O,O,O,O,O,O,O,O,O,O,O,O,O,O,O,O,O,O,O,O] rfl rfl (any_of HT_.out (by kernel_rfl)) (fun _ _ _ h => h) (Or.inl ⟨by rfl, ?_⟩) ?_ ?_
                     rotate_left; · intro w'; go_simp; with_reducible rfl
                     rotate_left; · simp only [nm_]; rfl
                     refine one_ (i := 11) (N := some 66) #[U,U,U,U,U,U,U,U,U,U,U,U,U,O,O,O,O,O,O,O,O,O,O,O,O,O,O,O,O,O,O,O,O,O] rfl rfl (one_of HT_.out (by kernel_rfl)) (by decide) (fun K hK => ?_)
                     refine goes_ Try.func96 (by kernel_rfl) rfl #[.int .i64 (rd l0_1 x9_2)] (by rfl) rfl rfl (by (try simp only [List.map_toArray, List.map_cons, List.map_nil]); first | done | rfl | (simp only [List.length_drop, List.length_take]; rfl)) ?_
                     with_reducible refine (spec_l01Ones.calls kj13 (rd l0_1 x9_2) t460 _ A25.out).mono ?_
                     rintro e w' ⟨rfl, ⟨nd, rfl⟩⟩
                     refine ⟨_, rfl, ?_⟩
                     refine hK.out _ _ ⟨((HB.out.cell (World.block_lt_of_cell? w _ hw458_0)).trans hw458_0), ((HB.out.cell (World.block_lt_of_cell? w _ hw459_0)).trans hw459_0), ((HB.out.cell (World.block_lt_of_cell? w _ hw462_0)).trans hw462_0), ((HB.out.cell (World.block_lt_of_cell? w _ hw463_0)).trans hw463_0)⟩ (fun hHeld => ?_)
                     clear hK K
                     refine norm_ (a' := ?_) ?_ ?_
                     rotate_left
                     ·show Act.put _ (some 66) _ = _
                      simp only [nm_]
                      rfl
                     refine one_ (i := 13) (N := some 68) #[U,U,U,U,U,U,U,U,U,U,U,U,U,U,O,O,O,O,O,O,O,O,O,O,O,O,O,O,O,O,O,O,O,O] rfl rfl (one_of HT_.out (by kernel_rfl)) (by decide) (fun K hK => ?_)
                     refine goes_ Try.func96 (by kernel_rfl) rfl #[.int .i64 (rd l0_1 x8_1)] (by rfl) rfl rfl (by (try simp only [List.map_toArray, List.map_cons, List.map_nil]); first | done | rfl | (simp only [List.length_drop, List.length_take]; rfl)) ?_
                     with_reducible refine (spec_l01Ones.calls kj13 (rd l0_1 x8_1) t461 _ A26.out).mono ?_
                     rintro e w' ⟨rfl, ⟨nd, rfl⟩⟩
                     refine ⟨_, rfl, ?_⟩
                     obtain ⟨Ao31, co31, eo31⟩ := Kd.R_slice HO_6.out
                     (first | subst eo31 | (injection eo31 with f1_ f2_ f3_; have f4_ := f1_.symm; have f5_ := f3_.symm; clear f1_ f2_ f3_; subst f4_; subst f5_))
                     refine hK.out _ _ ⟨((HB.out.cell (World.block_lt_of_cell? w _ hw458_0)).trans hw458_0), ((HB.out.cell (World.block_lt_of_cell? w _ hw459_0)).trans hw459_0), ((HB.out.cell (World.block_lt_of_cell? w _ hw462_0)).trans hw462_0), ((HB.out.cell (World.block_lt_of_cell? w _ hw463_0)).trans hw463_0)⟩ (fun hHeld => ?_)
                     clear hK K
                     refine norm_ (a' := ?_) ?_ ?_
                     rotate_left
                     ·show Act.put _ (some 68) _ = _
                      simp only [nm_]
                      rfl
                     refine pure_ (i := 14) (N := some 69) (v := ?_) (a' := ?_) #[U,U,U,U,U,U,U,U,U,U,U,U,U,U,U,O,O,O,O,O,O,O,O,O,O,O,O,O,O,O,O,O,O,O] rfl rfl (any_of HT_.out (by kernel_rfl)) (fun _ _ _ h => h) (Or.inl ⟨by rfl, ?_⟩) ?_ ?_
                     rotate_left; · intro w'; go_simp; with_reducible rfl
                     rotate_left; · simp only [nm_]; rfl
                     refine pure_ (i := 15) (N := some 70) (v := ?_) (a' := ?_) #[U,U,U,U,U,U,U,U,U,U,U,U,U,U,U,U,O,O,O,O,O,O,O,O,O,O,O,O,O,O,O,O,O,O] rfl rfl (any_of HT_.out (by kernel_rfl)) (fun _ _ _ h => h) (Or.inl ⟨by rfl, ?_⟩) ?_ ?_
                     rotate_left; · intro w'; go_simp; with_reducible rfl
                     rotate_left; · simp only [nm_]; rfl
                     refine pure_ (i := 16) (N := some 71) (v := ?_) (a' := ?_) #[U,U,U,U,U,U,U,U,U,U,U,U,U,U,U,U,U,O,O,O,O,O,O,O,O,O,O,O,O,O,O,O,O,O] rfl rfl (any_of HT_.out (by kernel_rfl)) (fun _ _ _ h => h) (Or.inl ⟨by rfl, ?_⟩) ?_ ?_
                     rotate_left; · intro w'; go_simp; with_reducible rfl
                     rotate_left; · simp only [nm_]; rfl
                     refine pure_ (i := 17) (N := some 72) (v := ?_) (a' := ?_) #[U,U,U,U,U,U,U,U,U,U,U,U,U,U,U,U,U,U,O,O,O,O,O,O,O,O,O,O,O,O,O,O,O,O] rfl rfl (any_of HT_.out (by kernel_rfl)) (fun _ _ _ h => h) (Or.inl ⟨by rfl, ?_⟩) ?_ ?_
                     rotate_left; · intro w'; go_simp; with_reducible rfl
                     rotate_left; · simp only [nm_]; rfl
                     refine pure_ (i := 18) (N := some 73) (v := ?_) (a' := ?_) #[U,U,U,U,U,U,U,U,U,U,U,U,U,U,U,U,U,U,U,O,O,O,O,O,O,O,O,O,O,O,O,O,O,O] rfl rfl (any_of HT_.out (by kernel_rfl)) (fun _ _ _ h => h) (Or.inl ⟨by rfl, ?_⟩) ?_ ?_
                     rotate_left; · intro w'; go_simp; with_reducible rfl
                     rotate_left; · simp only [nm_]; rfl
                     refine pure_ (i := 19) (N := some 74) (v := ?_) (a' := ?_) #[U,U,U,U,U,U,U,U,U,U,U,U,U,U,U,U,U,U,U,U,O,O,O,O,O,O,O,O,O,O,O,O,O,O] rfl rfl (any_of HT_.out (by kernel_rfl)) (fun _ _ _ h => h) (Or.inl ⟨by rfl, ?_⟩) ?_ ?_
                     rotate_left; · intro w'; go_simp; with_reducible rfl
                     rotate_left; · simp only [nm_]; rfl
                     refine pure_ (i := 21) (N := some 76) (v := ?_) (a' := ?_) #[U,U,U,U,U,U,U,U,U,U,U,U,U,U,U,U,U,U,U,U,O,U,O,O,O,O,O,O,O,O,O,O,O,O] rfl rfl (any_of HT_.out (by kernel_rfl)) (fun _ _ _ h => h) (Or.inl ⟨by rfl, ?_⟩) ?_ ?_
                     rotate_left; · intro w'; go_simp; with_reducible rfl
                     rotate_left; · simp only [nm_]; rfl
                     refine pure_ (i := 22) (N := some 77) (v := ?_) (a' := ?_) #[U,U,U,U,U,U,U,U,U,U,U,U,U,U,U,U,U,U,U,U,O,U,U,O,O,O,O,O,O,O,O,O,O,O] rfl rfl (any_of HT_.out (by kernel_rfl)) (fun _ _ _ h => h) (Or.inl ⟨by rfl, ?_⟩) ?_ ?_
                     rotate_left; · intro w'; go_simp; with_reducible rfl
                     rotate_left; · simp only [nm_]; rfl
                     refine pure_ (i := 23) (N := some 78) (v := ?_) (a' := ?_) #[U,U,U,U,U,U,U,U,U,U,U,U,U,U,U,U,U,U,U,U,O,U,U,U,O,O,O,O,O,O,O,O,O,O] rfl rfl (any_of HT_.out (by kernel_rfl)) (fun _ _ _ h => h) (Or.inl ⟨by rfl, ?_⟩) ?_ ?_
                     rotate_left; · intro w'; go_simp; with_reducible rfl
                     rotate_left; · simp only [nm_]; rfl
                     refine pure_ (i := 26) (N := some 81) (v := ?_) (a' := ?_) #[U,U,U,U,U,U,U,U,U,U,U,U,U,U,U,U,U,U,U,U,O,U,U,U,O,O,U,O,O,O,O,O,O,O] rfl rfl (any_of HT_.out (by kernel_rfl)) (fun _ _ _ h => h) (Or.inl ⟨by rfl, ?_⟩) ?_ ?_
                     rotate_left; · intro w'; go_simp; with_reducible rfl
                     rotate_left; · simp only [nm_]; rfl
                     refine pure_ (i := 27) (N := some 82) (v := ?_) (a' := ?_) #[U,U,U,U,U,U,U,U,U,U,U,U,U,U,U,U,U,U,U,U,O,U,U,U,O,O,U,U,O,O,O,O,O,O] rfl rfl (any_of HT_.out (by kernel_rfl)) (fun _ _ _ h => h) (Or.inl ⟨by rfl, ?_⟩) ?_ ?_
                     rotate_left; · intro w'; go_simp; with_reducible rfl
                     rotate_left; · simp only [nm_]; rfl
                     refine pure_ (i := 29) (N := some 84) (v := ?_) (a' := ?_) #[U,U,U,U,U,U,U,U,U,U,U,U,U,U,U,U,U,U,U,U,O,U,U,U,O,O,U,U,O,U,O,O,O,O] rfl rfl (any_of HT_.out (by kernel_rfl)) (fun _ _ _ h => h) (Or.inl ⟨by rfl, ?_⟩) ?_ ?_
                     rotate_left; · intro w'; go_simp; with_reducible rfl
                     rotate_left; · simp only [nm_]; rfl
                     refine take_ (i := 20) (N := some 75) (v := ?_) (a' := ?_) #[U,U,U,U,U,U,U,U,U,U,U,U,U,U,U,U,U,U,U,U,U,U,U,U,O,O,U,U,O,U,O,O,O,O] rfl rfl (take_ofW HT_.out HW_.out (by kernel_rfl)) (fun _ _ _ h => h) (Or.inl ⟨by rfl, ?_⟩) hHeld ?_ ?_
                     rotate_left; · rintro w' ⟨s0, s1, s2, s3⟩; go_simp; with_reducible rfl
                     rotate_left; · simp only [nm_]; rfl
                     refine take_ (i := 24) (N := some 79) (v := ?_) (a' := ?_) #[U,U,U,U,U,U,U,U,U,U,U,U,U,U,U,U,U,U,U,U,U,U,U,U,U,O,U,U,O,U,O,O,O,O] rfl rfl (take_ofW HT_.out HW_.out (by kernel_rfl)) (fun _ _ _ h => h) (Or.inl ⟨by rfl, ?_⟩) hHeld ?_ ?_
                     rotate_left; · rintro w' ⟨s0, s1, s2, s3⟩; go_simp; with_reducible rfl
                     rotate_left; · simp only [nm_]; rfl
                     refine pure_ (i := 25) (N := some 80) (v := ?_) (a' := ?_) #[U,U,U,U,U,U,U,U,U,U,U,U,U,U,U,U,U,U,U,U,U,U,U,U,U,U,U,U,O,U,O,O,O,O] rfl rfl (any_of HT_.out (by kernel_rfl)) (fun _ _ _ h => h) (Or.inl ⟨by rfl, ?_⟩) ?_ ?_
                     rotate_left; · intro w'; go_simp; with_reducible rfl
                     rotate_left; · simp only [nm_]; rfl
                     refine one_ (i := 28) (N := some 83) #[U,U,U,U,U,U,U,U,U,U,U,U,U,U,U,U,U,U,U,U,U,U,U,U,U,U,U,U,U,U,O,O,O,O] rfl rfl (one_of HT_.out (by kernel_rfl)) (by decide) (fun K hK => ?_)
                     refine goes_ Try.func97 (by kernel_rfl) rfl #[.slice Ao31 t452.length co31, .int .i64 (rd l0_1 x8_1)] (by rfl) rfl rfl (by (try simp only [List.map_toArray, List.map_cons, List.map_nil]); first | done | rfl | (simp only [List.length_drop, List.length_take]; rfl)) ?_
                     with_reducible refine (spec_l02High.calls kj13 _ _ t452 (rd l0_1 x8_1) t464 _ ?side1 ?side2 A28.out).mono ?_
                     (case side1 => repeat (first | exact (Kd.R_reads' HO_6.out).2.2 | (with_reducible refine Kd.C_alloc ?_ _) | (with_reducible refine Kd.C_drewN ?_ _) | (with_reducible refine Kd.C_drew ?_)))
                     (case side2 => exact (Kd.R_reads' HO_6.out).2.1)
                     rintro e w' ⟨rfl, ⟨nd, rfl⟩⟩
                     refine ⟨_, rfl, ?_⟩
                     refine hK.out _ _ ⟨((HB.out.cell (World.block_lt_of_cell? w _ hw458_0)).trans hw458_0), ((HB.out.cell (World.block_lt_of_cell? w _ hw459_0)).trans hw459_0), ((HB.out.cell (World.block_lt_of_cell? w _ hw462_0)).trans hw462_0), ((HB.out.cell (World.block_lt_of_cell? w _ hw463_0)).trans hw463_0)⟩ (fun hHeld => ?_)
                     clear hK K
                     refine norm_ (a' := ?_) ?_ ?_
                     rotate_left
                     ·show Act.put _ (some 83) _ = _
                      simp only [nm_]
                      rfl
                     refine pure_ (i := 30) (N := some 85) (v := ?_) (a' := ?_) #[U,U,U,U,U,U,U,U,U,U,U,U,U,U,U,U,U,U,U,U,U,U,U,U,U,U,U,U,U,U,U,O,O,O] rfl rfl (any_of HT_.out (by kernel_rfl)) (fun _ _ _ h => h) (Or.inl ⟨by rfl, ?_⟩) ?_ ?_
                     rotate_left; · intro w'; go_simp; with_reducible rfl
                     rotate_left; · simp only [nm_]; rfl
                     refine pure_ (i := 31) (N := some 86) (v := ?_) (a' := ?_) #[U,U,U,U,U,U,U,U,U,U,U,U,U,U,U,U,U,U,U,U,U,U,U,U,U,U,U,U,U,U,U,U,O,O] rfl rfl (any_of HT_.out (by kernel_rfl)) (fun _ _ _ h => h) (Or.inl ⟨by rfl, ?_⟩) ?_ ?_
                     rotate_left; · intro w'; go_simp; with_reducible rfl
                     rotate_left; · simp only [nm_]; rfl
                     refine pure_ (i := 32) (N := some 87) (v := ?_) (a' := ?_) #[U,U,U,U,U,U,U,U,U,U,U,U,U,U,U,U,U,U,U,U,U,U,U,U,U,U,U,U,U,U,U,U,U,O] rfl rfl (any_of HT_.out (by kernel_rfl)) (fun _ _ _ h => h) (Or.inl ⟨by rfl, ?_⟩) ?_ ?_
                     rotate_left; · intro w'; go_simp; with_reducible rfl
                     rotate_left; · simp only [nm_]; rfl
                     refine pure_ (i := 33) (N := some 88) (v := ?_) (a' := ?_) #[U,U,U,U,U,U,U,U,U,U,U,U,U,U,U,U,U,U,U,U,U,U,U,U,U,U,U,U,U,U,U,U,U,U] rfl rfl (any_of HT_.out (by kernel_rfl)) (fun _ _ _ h => h) (Or.inl ⟨by rfl, ?_⟩) ?_ ?_
                     rotate_left; · intro w'; go_simp; with_reducible rfl
                     rotate_left; · simp only [nm_]; rfl
                     refine done_ (done_of HT_.out (by kernel_rfl)) ?_
                     try go_wp2
                     go_ret2
                     exact ⟨by first | rfl | (simp [errW_none, errW_some] <;> rfl) | (simp [*, errW_none, errW_some] <;> rfl), by repeat (first | (with_reducible first | exact HB.out | apply below_alloc | apply pw_below_drewN | apply below_drew1 | refine below_set ?_ GE451.out) | exact HB.out)⟩
                    ·rw [if_neg c29] at H
                     have c29b0 : (((rd l1 x8_1) == (rd l1 x9_2)) != (t464 == (rd l0_1 x9_2))) = false := by simpa using c29
                     (try (have c29b1 : decide (((rd l1 x8_1) == (rd l1 x9_2)) = (t464 == (rd l0_1 x9_2))) = true := by simpa using c29))
                     (try (have c29b2 : (((rd l1 x8_1) == (rd l1 x9_2)) == (t464 == (rd l0_1 x9_2))) = true := by simpa using c29))
                     clear c29
                     have H' := Aside0.mk H
                     clear H
                     try go_wp2
                     have n0_ := Aside0.mk (Kd.R_drew HO_6.out)
                     have n1_ := Aside0.mk (blk_drew BK451.out)
                     have n2_ := Aside0.mk (below_drew1 HB.out)
                     clear HO_6
                     clear BK451
                     clear HB
                     have HO_6 := n0_
                     have BK451 := n1_
                     have HB := n2_
                     clear n0_ n1_ n2_
                     have p458 : 0 ≤ (x8_1 : Int) := of_decide_eq_true (by first | (with_reducible assumption) | assumption)
                     have q458 : x8_1 < (l1.length : Int) := of_decide_eq_true (by first | (with_reducible assumption) | assumption)
                     obtain ⟨ad458, e458, hx458_0⟩ := Kd.at_int HR1.out x8_1 p458 q458
                     have hw458_0 := hx458_0
                     cases e458
                     replace hx458_0 := (HB.out.cell (World.block_lt_of_cell? w _ hx458_0)).trans hx458_0
                     replace p458 := eq_true p458
                     replace q458 := eq_true q458
                     have p459 : 0 ≤ (x9_2 : Int) := of_decide_eq_true (by first | (with_reducible assumption) | assumption)
                     have q459 : x9_2 < (l1.length : Int) := of_decide_eq_true (by first | (with_reducible assumption) | assumption)
                     obtain ⟨ad459, e459, hx459_0⟩ := Kd.at_int HR1.out x9_2 p459 q459
                     have hw459_0 := hx459_0
                     obtain rfl : ad458 = ad459 := (by injection e459)
                     replace hx459_0 := (HB.out.cell (World.block_lt_of_cell? w _ hx459_0)).trans hx459_0
                     replace p459 := eq_true p459
                     replace q459 := eq_true q459
                     have p462 : 0 ≤ (x8_1 : Int) := of_decide_eq_true (by first | (with_reducible assumption) | assumption)
                     have q462 : x8_1 < (l1.length : Int) := of_decide_eq_true (by first | (with_reducible assumption) | assumption)
                     obtain ⟨ad462, e462, hx462_0⟩ := Kd.at_int HR1.out x8_1 p462 q462
                     have hw462_0 := hx462_0
                     obtain rfl : ad458 = ad462 := (by injection e462)
                     replace hx462_0 := (HB.out.cell (World.block_lt_of_cell? w _ hx462_0)).trans hx462_0
                     replace p462 := eq_true p462
                     replace q462 := eq_true q462
                     have p463 : 0 ≤ (x9_2 : Int) := of_decide_eq_true (by first | (with_reducible assumption) | assumption)
                     have q463 : x9_2 < (l1.length : Int) := of_decide_eq_true (by first | (with_reducible assumption) | assumption)
                     obtain ⟨ad463, e463, hx463_0⟩ := Kd.at_int HR1.out x9_2 p463 q463
                     have hw463_0 := hx463_0
                     obtain rfl : ad458 = ad463 := (by injection e463)
                     replace hx463_0 := (HB.out.cell (World.block_lt_of_cell? w _ hx463_0)).trans hx463_0
                     replace p463 := eq_true p463
                     replace q463 := eq_true q463
                     refine start_ (n := 34) (S := fun w' => w'.cell? (ad458.add (x8_1).toNat) = some (.int .i64 (rd l1 x8_1)) ∧ w'.cell? (ad458.add (x9_2).toNat) = some (.int .i64 (rd l1 x9_2)) ∧ w'.cell? (ad458.add (x8_1).toNat) = some (.int .i64 (rd l1 x8_1)) ∧ w'.cell? (ad458.add (x9_2).toNat) = some (.int .i64 (rd l1 x9_2))) (ds := []) #[O,O,O,O,O,O,O,O,O,O,O,O,O,O,O,O,O,O,O,O,O,O,O,O,O,O,O,O,O,O,O,O,O,O] (by kernel_rfl) rfl rfl ⟨((HB.out.cell (World.block_lt_of_cell? w _ hw458_0)).trans hw458_0), ((HB.out.cell (World.block_lt_of_cell? w _ hw459_0)).trans hw459_0), ((HB.out.cell (World.block_lt_of_cell? w _ hw462_0)).trans hw462_0), ((HB.out.cell (World.block_lt_of_cell? w _ hw463_0)).trans hw463_0)⟩ (fun hHeld => ?_); refine with_tabW spec_IsFlat.tab12 spec_IsFlat.bits12 (fun HT_ HW_ => ?_)
                     generalize wc.drew = w32 at HO_6 BK451 HB hx458_0 hx459_0 hx462_0 hx463_0 hHeld ⊢
                     refine pure_ (i := 0) (N := some 55) (v := ?_) (a' := ?_) #[U,O,O,O,O,O,O,O,O,O,O,O,O,O,O,O,O,O,O,O,O,O,O,O,O,O,O,O,O,O,O,O,O,O] rfl rfl (any_of HT_.out (by kernel_rfl)) (fun _ _ _ h => h) (Or.inl ⟨by rfl, ?_⟩) ?_ ?_
                     rotate_left; · intro w'; go_simp; with_reducible rfl
                     rotate_left; · simp only [nm_]; rfl
                     refine pure_ (i := 1) (N := some 56) (v := ?_) (a' := ?_) #[U,U,O,O,O,O,O,O,O,O,O,O,O,O,O,O,O,O,O,O,O,O,O,O,O,O,O,O,O,O,O,O,O,O] rfl rfl (any_of HT_.out (by kernel_rfl)) (fun _ _ _ h => h) (Or.inl ⟨by rfl, ?_⟩) ?_ ?_
                     rotate_left; · intro w'; go_simp; with_reducible rfl
                     rotate_left; · simp only [nm_]; rfl
                     refine pure_ (i := 2) (N := some 57) (v := ?_) (a' := ?_) #[U,U,U,O,O,O,O,O,O,O,O,O,O,O,O,O,O,O,O,O,O,O,O,O,O,O,O,O,O,O,O,O,O,O] rfl rfl (any_of HT_.out (by kernel_rfl)) (fun _ _ _ h => h) (Or.inl ⟨by rfl, ?_⟩) ?_ ?_
                     rotate_left; · intro w'; go_simp; with_reducible rfl
                     rotate_left; · simp only [nm_]; rfl
                     refine pure_ (i := 4) (N := some 59) (v := ?_) (a' := ?_) #[U,U,U,O,U,O,O,O,O,O,O,O,O,O,O,O,O,O,O,O,O,O,O,O,O,O,O,O,O,O,O,O,O,O] rfl rfl (any_of HT_.out (by kernel_rfl)) (fun _ _ _ h => h) (Or.inl ⟨by rfl, ?_⟩) ?_ ?_
                     rotate_left; · intro w'; go_simp; with_reducible rfl
                     rotate_left; · simp only [nm_]; rfl
                     refine pure_ (i := 5) (N := some 60) (v := ?_) (a' := ?_) #[U,U,U,O,U,U,O,O,O,O,O,O,O,O,O,O,O,O,O,O,O,O,O,O,O,O,O,O,O,O,O,O,O,O] rfl rfl (any_of HT_.out (by kernel_rfl)) (fun _ _ _ h => h) (Or.inl ⟨by rfl, ?_⟩) ?_ ?_
                     rotate_left; · intro w'; go_simp; with_reducible rfl
                     rotate_left; · simp only [nm_]; rfl
                     refine pure_ (i := 6) (N := some 61) (v := ?_) (a' := ?_) #[U,U,U,O,U,U,U,O,O,O,O,O,O,O,O,O,O,O,O,O,O,O,O,O,O,O,O,O,O,O,O,O,O,O] rfl rfl (any_of HT_.out (by kernel_rfl)) (fun _ _ _ h => h) (Or.inl ⟨by rfl, ?_⟩) ?_ ?_
                     rotate_left; · intro w'; go_simp; with_reducible rfl
                     rotate_left; · simp only [nm_]; rfl
                     refine take_ (i := 3) (N := some 58) (v := ?_) (a' := ?_) #[U,U,U,U,U,U,U,O,O,O,O,O,O,O,O,O,O,O,O,O,O,O,O,O,O,O,O,O,O,O,O,O,O,O] rfl rfl (take_ofW HT_.out HW_.out (by kernel_rfl)) (fun _ _ _ h => h) (Or.inl ⟨by rfl, ?_⟩) hHeld ?_ ?_
                     rotate_left; · rintro w' ⟨s0, s1, s2, s3⟩; go_simp; with_reducible rfl
                     rotate_left; · simp only [nm_]; rfl
                     refine take_ (i := 7) (N := some 62) (v := ?_) (a' := ?_) #[U,U,U,U,U,U,U,U,O,O,O,O,O,O,O,O,O,O,O,O,O,O,O,O,O,O,O,O,O,O,O,O,O,O] rfl rfl (take_ofW HT_.out HW_.out (by kernel_rfl)) (fun _ _ _ h => h) (Or.inl ⟨by rfl, ?_⟩) hHeld ?_ ?_
                     rotate_left; · rintro w' ⟨s0, s1, s2, s3⟩; go_simp; with_reducible rfl
                     rotate_left; · simp only [nm_]; rfl
                     refine pure_ (i := 8) (N := some 63) (v := ?_) (a' := ?_) #[U,U,U,U,U,U,U,U,U,O,O,O,O,O,O,O,O,O,O,O,O,O,O,O,O,O,O,O,O,O,O,O,O,O] rfl rfl (any_of HT_.out (by kernel_rfl)) (fun _ _ _ h => h) (Or.inl ⟨by rfl, ?_⟩) ?_ ?_
                     rotate_left; · intro w'; go_simp; with_reducible rfl
                     rotate_left; · simp only [nm_]; rfl
                     refine pure_ (i := 9) (N := some 64) (v := ?_) (a' := ?_) #[U,U,U,U,U,U,U,U,U,U,O,O,O,O,O,O,O,O,O,O,O,O,O,O,O,O,O,O,O,O,O,O,O,O] rfl rfl (any_of HT_.out (by kernel_rfl)) (fun _ _ _ h => h) (Or.inl ⟨by rfl, ?_⟩) ?_ ?_
                     rotate_left; · intro w'; go_simp; with_reducible rfl
                     rotate_left; · simp only [nm_]; rfl
                     refine pure_ (i := 10) (N := some 65) (v := ?_) (a' := ?_) #[U,U,U,U,U,U,U,U,U,U,U,O,O,O,O,O,O,O,O,O,O,O,O,O,O,O,O,O,O,O,O,O,O,O] rfl rfl (any_of HT_.out (by kernel_rfl)) (fun _ _ _ h => h) (Or.inl ⟨by rfl, ?_⟩) ?_ ?_
                     rotate_left; · intro w'; go_simp; with_reducible rfl
                     rotate_left; · simp only [nm_]; rfl
                     refine pure_ (i := 12) (N := some 67) (v := ?_) (a' := ?_) #[U,U,U,U,U,U,U,U,U,U,U,O,U,O,O,O,O,O,O,O,O,O,O,O,O,O,O,O,O,O,O,O,O,O] rfl rfl (any_of HT_.out (by kernel_rfl)) (fun _ _ _ h => h) (Or.inl ⟨by rfl, ?_⟩) ?_ ?_
                     rotate_left; · intro w'; go_simp; with_reducible rfl
                     rotate_left; · simp only [nm_]; rfl
                     refine one_ (i := 11) (N := some 66) #[U,U,U,U,U,U,U,U,U,U,U,U,U,O,O,O,O,O,O,O,O,O,O,O,O,O,O,O,O,O,O,O,O,O] rfl rfl (one_of HT_.out (by kernel_rfl)) (by decide) (fun K hK => ?_)
                     refine goes_ Try.func96 (by kernel_rfl) rfl #[.int .i64 (rd l0_1 x9_2)] (by rfl) rfl rfl (by (try simp only [List.map_toArray, List.map_cons, List.map_nil]); first | done | rfl | (simp only [List.length_drop, List.length_take]; rfl)) ?_
                     with_reducible refine (spec_l01Ones.calls kj13 (rd l0_1 x9_2) t460 _ A25.out).mono ?_
                     rintro e w' ⟨rfl, ⟨nd, rfl⟩⟩
                     refine ⟨_, rfl, ?_⟩
                     refine hK.out _ _ ⟨((HB.out.cell (World.block_lt_of_cell? w _ hw458_0)).trans hw458_0), ((HB.out.cell (World.block_lt_of_cell? w _ hw459_0)).trans hw459_0), ((HB.out.cell (World.block_lt_of_cell? w _ hw462_0)).trans hw462_0), ((HB.out.cell (World.block_lt_of_cell? w _ hw463_0)).trans hw463_0)⟩ (fun hHeld => ?_)
                     clear hK K
                     refine norm_ (a' := ?_) ?_ ?_
                     rotate_left
                     ·show Act.put _ (some 66) _ = _
                      simp only [nm_]
                      rfl
                     refine one_ (i := 13) (N := some 68) #[U,U,U,U,U,U,U,U,U,U,U,U,U,U,O,O,O,O,O,O,O,O,O,O,O,O,O,O,O,O,O,O,O,O] rfl rfl (one_of HT_.out (by kernel_rfl)) (by decide) (fun K hK => ?_)
                     refine goes_ Try.func96 (by kernel_rfl) rfl #[.int .i64 (rd l0_1 x8_1)] (by rfl) rfl rfl (by (try simp only [List.map_toArray, List.map_cons, List.map_nil]); first | done | rfl | (simp only [List.length_drop, List.length_take]; rfl)) ?_
                     with_reducible refine (spec_l01Ones.calls kj13 (rd l0_1 x8_1) t461 _ A26.out).mono ?_
                     rintro e w' ⟨rfl, ⟨nd, rfl⟩⟩
                     refine ⟨_, rfl, ?_⟩
                     obtain ⟨Ao33, co33, eo33⟩ := Kd.R_slice HO_6.out
                     (first | subst eo33 | (injection eo33 with f1_ f2_ f3_; have f4_ := f1_.symm; have f5_ := f3_.symm; clear f1_ f2_ f3_; subst f4_; subst f5_))
                     refine hK.out _ _ ⟨((HB.out.cell (World.block_lt_of_cell? w _ hw458_0)).trans hw458_0), ((HB.out.cell (World.block_lt_of_cell? w _ hw459_0)).trans hw459_0), ((HB.out.cell (World.block_lt_of_cell? w _ hw462_0)).trans hw462_0), ((HB.out.cell (World.block_lt_of_cell? w _ hw463_0)).trans hw463_0)⟩ (fun hHeld => ?_)
                     clear hK K
                     refine norm_ (a' := ?_) ?_ ?_
                     rotate_left
                     ·show Act.put _ (some 68) _ = _
                      simp only [nm_]
                      rfl
                     refine pure_ (i := 14) (N := some 69) (v := ?_) (a' := ?_) #[U,U,U,U,U,U,U,U,U,U,U,U,U,U,U,O,O,O,O,O,O,O,O,O,O,O,O,O,O,O,O,O,O,O] rfl rfl (any_of HT_.out (by kernel_rfl)) (fun _ _ _ h => h) (Or.inl ⟨by rfl, ?_⟩) ?_ ?_
                     rotate_left; · intro w'; go_simp; with_reducible rfl
                     rotate_left; · simp only [nm_]; rfl
                     refine pure_ (i := 15) (N := some 70) (v := ?_) (a' := ?_) #[U,U,U,U,U,U,U,U,U,U,U,U,U,U,U,U,O,O,O,O,O,O,O,O,O,O,O,O,O,O,O,O,O,O] rfl rfl (any_of HT_.out (by kernel_rfl)) (fun _ _ _ h => h) (Or.inl ⟨by rfl, ?_⟩) ?_ ?_
                     rotate_left; · intro w'; go_simp; with_reducible rfl
                     rotate_left; · simp only [nm_]; rfl
                     refine pure_ (i := 16) (N := some 71) (v := ?_) (a' := ?_) #[U,U,U,U,U,U,U,U,U,U,U,U,U,U,U,U,U,O,O,O,O,O,O,O,O,O,O,O,O,O,O,O,O,O] rfl rfl (any_of HT_.out (by kernel_rfl)) (fun _ _ _ h => h) (Or.inl ⟨by rfl, ?_⟩) ?_ ?_
                     rotate_left; · intro w'; go_simp; with_reducible rfl
                     rotate_left; · simp only [nm_]; rfl
                     refine pure_ (i := 17) (N := some 72) (v := ?_) (a' := ?_) #[U,U,U,U,U,U,U,U,U,U,U,U,U,U,U,U,U,U,O,O,O,O,O,O,O,O,O,O,O,O,O,O,O,O] rfl rfl (any_of HT_.out (by kernel_rfl)) (fun _ _ _ h => h) (Or.inl ⟨by rfl, ?_⟩) ?_ ?_
                     rotate_left; · intro w'; go_simp; with_reducible rfl
                     rotate_left; · simp only [nm_]; rfl
                     refine pure_ (i := 18) (N := some 73) (v := ?_) (a' := ?_) #[U,U,U,U,U,U,U,U,U,U,U,U,U,U,U,U,U,U,U,O,O,O,O,O,O,O,O,O,O,O,O,O,O,O] rfl rfl (any_of HT_.out (by kernel_rfl)) (fun _ _ _ h => h) (Or.inl ⟨by rfl, ?_⟩) ?_ ?_
                     rotate_left; · intro w'; go_simp; with_reducible rfl
                     rotate_left; · simp only [nm_]; rfl
                     refine pure_ (i := 19) (N := some 74) (v := ?_) (a' := ?_) #[U,U,U,U,U,U,U,U,U,U,U,U,U,U,U,U,U,U,U,U,O,O,O,O,O,O,O,O,O,O,O,O,O,O] rfl rfl (any_of HT_.out (by kernel_rfl)) (fun _ _ _ h => h) (Or.inl ⟨by rfl, ?_⟩) ?_ ?_
                     rotate_left; · intro w'; go_simp; with_reducible rfl
                     rotate_left; · simp only [nm_]; rfl
                     refine pure_ (i := 21) (N := some 76) (v := ?_) (a' := ?_) #[U,U,U,U,U,U,U,U,U,U,U,U,U,U,U,U,U,U,U,U,O,U,O,O,O,O,O,O,O,O,O,O,O,O] rfl rfl (any_of HT_.out (by kernel_rfl)) (fun _ _ _ h => h) (Or.inl ⟨by rfl, ?_⟩) ?_ ?_
                     rotate_left; · intro w'; go_simp; with_reducible rfl
                     rotate_left; · simp only [nm_]; rfl
                     refine pure_ (i := 22) (N := some 77) (v := ?_) (a' := ?_) #[U,U,U,U,U,U,U,U,U,U,U,U,U,U,U,U,U,U,U,U,O,U,U,O,O,O,O,O,O,O,O,O,O,O] rfl rfl (any_of HT_.out (by kernel_rfl)) (fun _ _ _ h => h) (Or.inl ⟨by rfl, ?_⟩) ?_ ?_
                     rotate_left; · intro w'; go_simp; with_reducible rfl
                     rotate_left; · simp only [nm_]; rfl
                     refine pure_ (i := 23) (N := some 78) (v := ?_) (a' := ?_) #[U,U,U,U,U,U,U,U,U,U,U,U,U,U,U,U,U,U,U,U,O,U,U,U,O,O,O,O,O,O,O,O,O,O] rfl rfl (any_of HT_.out (by kernel_rfl)) (fun _ _ _ h => h) (Or.inl ⟨by rfl, ?_⟩) ?_ ?_
                     rotate_left; · intro w'; go_simp; with_reducible rfl
                     rotate_left; · simp only [nm_]; rfl
                     refine pure_ (i := 26) (N := some 81) (v := ?_) (a' := ?_) #[U,U,U,U,U,U,U,U,U,U,U,U,U,U,U,U,U,U,U,U,O,U,U,U,O,O,U,O,O,O,O,O,O,O] rfl rfl (any_of HT_.out (by kernel_rfl)) (fun _ _ _ h => h) (Or.inl ⟨by rfl, ?_⟩) ?_ ?_
                     rotate_left; · intro w'; go_simp; with_reducible rfl
                     rotate_left; · simp only [nm_]; rfl
                     refine pure_ (i := 27) (N := some 82) (v := ?_) (a' := ?_) #[U,U,U,U,U,U,U,U,U,U,U,U,U,U,U,U,U,U,U,U,O,U,U,U,O,O,U,U,O,O,O,O,O,O] rfl rfl (any_of HT_.out (by kernel_rfl)) (fun _ _ _ h => h) (Or.inl ⟨by rfl, ?_⟩) ?_ ?_
                     rotate_left; · intro w'; go_simp; with_reducible rfl
                     rotate_left; · simp only [nm_]; rfl
                     refine pure_ (i := 29) (N := some 84) (v := ?_) (a' := ?_) #[U,U,U,U,U,U,U,U,U,U,U,U,U,U,U,U,U,U,U,U,O,U,U,U,O,O,U,U,O,U,O,O,O,O] rfl rfl (any_of HT_.out (by kernel_rfl)) (fun _ _ _ h => h) (Or.inl ⟨by rfl, ?_⟩) ?_ ?_
                     rotate_left; · intro w'; go_simp; with_reducible rfl
                     rotate_left; · simp only [nm_]; rfl
                     refine take_ (i := 20) (N := some 75) (v := ?_) (a' := ?_) #[U,U,U,U,U,U,U,U,U,U,U,U,U,U,U,U,U,U,U,U,U,U,U,U,O,O,U,U,O,U,O,O,O,O] rfl rfl (take_ofW HT_.out HW_.out (by kernel_rfl)) (fun _ _ _ h => h) (Or.inl ⟨by rfl, ?_⟩) hHeld ?_ ?_
                     rotate_left; · rintro w' ⟨s0, s1, s2, s3⟩; go_simp; with_reducible rfl
                     rotate_left; · simp only [nm_]; rfl
                     refine take_ (i := 24) (N := some 79) (v := ?_) (a' := ?_) #[U,U,U,U,U,U,U,U,U,U,U,U,U,U,U,U,U,U,U,U,U,U,U,U,U,O,U,U,O,U,O,O,O,O] rfl rfl (take_ofW HT_.out HW_.out (by kernel_rfl)) (fun _ _ _ h => h) (Or.inl ⟨by rfl, ?_⟩) hHeld ?_ ?_
                     rotate_left; · rintro w' ⟨s0, s1, s2, s3⟩; go_simp; with_reducible rfl
                     rotate_left; · simp only [nm_]; rfl
                     refine pure_ (i := 25) (N := some 80) (v := ?_) (a' := ?_) #[U,U,U,U,U,U,U,U,U,U,U,U,U,U,U,U,U,U,U,U,U,U,U,U,U,U,U,U,O,U,O,O,O,O] rfl rfl (any_of HT_.out (by kernel_rfl)) (fun _ _ _ h => h) (Or.inl ⟨by rfl, ?_⟩) ?_ ?_
                     rotate_left; · intro w'; go_simp; with_reducible rfl
                     rotate_left; · simp only [nm_]; rfl
                     refine one_ (i := 28) (N := some 83) #[U,U,U,U,U,U,U,U,U,U,U,U,U,U,U,U,U,U,U,U,U,U,U,U,U,U,U,U,U,U,O,O,O,O] rfl rfl (one_of HT_.out (by kernel_rfl)) (by decide) (fun K hK => ?_)
                     refine goes_ Try.func97 (by kernel_rfl) rfl #[.slice Ao33 t452.length co33, .int .i64 (rd l0_1 x8_1)] (by rfl) rfl rfl (by (try simp only [List.map_toArray, List.map_cons, List.map_nil]); first | done | rfl | (simp only [List.length_drop, List.length_take]; rfl)) ?_
                     with_reducible refine (spec_l02High.calls kj13 _ _ t452 (rd l0_1 x8_1) t464 _ ?side1 ?side2 A28.out).mono ?_
                     (case side1 => repeat (first | exact (Kd.R_reads' HO_6.out).2.2 | (with_reducible refine Kd.C_alloc ?_ _) | (with_reducible refine Kd.C_drewN ?_ _) | (with_reducible refine Kd.C_drew ?_)))
                     (case side2 => exact (Kd.R_reads' HO_6.out).2.1)
                     rintro e w' ⟨rfl, ⟨nd, rfl⟩⟩
                     refine ⟨_, rfl, ?_⟩
                     refine hK.out _ _ ⟨((HB.out.cell (World.block_lt_of_cell? w _ hw458_0)).trans hw458_0), ((HB.out.cell (World.block_lt_of_cell? w _ hw459_0)).trans hw459_0), ((HB.out.cell (World.block_lt_of_cell? w _ hw462_0)).trans hw462_0), ((HB.out.cell (World.block_lt_of_cell? w _ hw463_0)).trans hw463_0)⟩ (fun hHeld => ?_)
                     clear hK K
                     refine norm_ (a' := ?_) ?_ ?_
                     rotate_left
                     ·show Act.put _ (some 83) _ = _
                      simp only [nm_]
                      rfl
                     refine pure_ (i := 30) (N := some 85) (v := ?_) (a' := ?_) #[U,U,U,U,U,U,U,U,U,U,U,U,U,U,U,U,U,U,U,U,U,U,U,U,U,U,U,U,U,U,U,O,O,O] rfl rfl (any_of HT_.out (by kernel_rfl)) (fun _ _ _ h => h) (Or.inl ⟨by rfl, ?_⟩) ?_ ?_
                     rotate_left; · intro w'; go_simp; with_reducible rfl
                     rotate_left; · simp only [nm_]; rfl
                     refine pure_ (i := 31) (N := some 86) (v := ?_) (a' := ?_) #[U,U,U,U,U,U,U,U,U,U,U,U,U,U,U,U,U,U,U,U,U,U,U,U,U,U,U,U,U,U,U,U,O,O] rfl rfl (any_of HT_.out (by kernel_rfl)) (fun _ _ _ h => h) (Or.inl ⟨by rfl, ?_⟩) ?_ ?_
                     rotate_left; · intro w'; go_simp; with_reducible rfl
                     rotate_left; · simp only [nm_]; rfl
                     refine pure_ (i := 32) (N := some 87) (v := ?_) (a' := ?_) #[U,U,U,U,U,U,U,U,U,U,U,U,U,U,U,U,U,U,U,U,U,U,U,U,U,U,U,U,U,U,U,U,U,O] rfl rfl (any_of HT_.out (by kernel_rfl)) (fun _ _ _ h => h) (Or.inl ⟨by rfl, ?_⟩) ?_ ?_
                     rotate_left; · intro w'; go_simp; with_reducible rfl
                     rotate_left; · simp only [nm_]; rfl
                     refine pure_ (i := 33) (N := some 88) (v := ?_) (a' := ?_) #[U,U,U,U,U,U,U,U,U,U,U,U,U,U,U,U,U,U,U,U,U,U,U,U,U,U,U,U,U,U,U,U,U,U] rfl rfl (any_of HT_.out (by kernel_rfl)) (fun _ _ _ h => h) (Or.inl ⟨by rfl, ?_⟩) ?_ ?_
                     rotate_left; · intro w'; go_simp; with_reducible rfl
                     rotate_left; · simp only [nm_]; rfl
                     refine done_ (done_of HT_.out (by kernel_rfl)) ?_
                     try go_wp2
                     go_roundg kj13
                     case measure => have := HK1.out; have := HK2.out; have := HJ13.out; omega
                     case rel => exact ⟨(wrap64 (x9_2 + 1)), (by first | rfl | (simp; done) | (simp [*]; done)), H', ⟨by have := HK1.out; have := HK2.out; have := HJ13.out; omega⟩, ⟨by (with_reducible repeat (first | apply Kd.R_alloc | apply Kd.R_drewN | apply Kd.R_drew)); exact HO_6.out⟩, ⟨by (with_reducible repeat (first | refine blk_drewN ?_ _ | refine blk_drew ?_ | refine blk_alloc ?_ _)); exact BK451.out⟩, ⟨by repeat (first | (with_reducible first | exact HB.out | apply below_alloc | apply pw_below_drewN | apply below_drew1 | refine below_set ?_ GE451.out) | exact HB.out)⟩⟩
                   ·rw [if_neg c27] at H
                    have c27b0 : (t460 == (wrap64 (t461 + 1))) = false := beq_eq_false_iff_ne.mpr c27
                    have c27b1 : (t460 != (wrap64 (t461 + 1))) = true := bne_iff_ne.mpr c27
                    have H' := Aside0.mk H
                    clear H
                    try go_wp2
                    have n0_ := Aside0.mk (Kd.R_drew HO_6.out)
                    have n1_ := Aside0.mk (blk_drew BK451.out)
                    have n2_ := Aside0.mk (below_drew1 HB.out)
                    clear HO_6
                    clear BK451
                    clear HB
                    have HO_6 := n0_
                    have BK451 := n1_
                    have HB := n2_
                    clear n0_ n1_ n2_
                    have p458 : 0 ≤ (x8_1 : Int) := of_decide_eq_true (by first | (with_reducible assumption) | assumption)
                    have q458 : x8_1 < (l1.length : Int) := of_decide_eq_true (by first | (with_reducible assumption) | assumption)
                    obtain ⟨ad458, e458, hx458_0⟩ := Kd.at_int HR1.out x8_1 p458 q458
                    have hw458_0 := hx458_0
                    cases e458
                    replace hx458_0 := (HB.out.cell (World.block_lt_of_cell? w _ hx458_0)).trans hx458_0
                    replace p458 := eq_true p458
                    replace q458 := eq_true q458
                    have p459 : 0 ≤ (x9_2 : Int) := of_decide_eq_true (by first | (with_reducible assumption) | assumption)
                    have q459 : x9_2 < (l1.length : Int) := of_decide_eq_true (by first | (with_reducible assumption) | assumption)
                    obtain ⟨ad459, e459, hx459_0⟩ := Kd.at_int HR1.out x9_2 p459 q459
                    have hw459_0 := hx459_0
                    obtain rfl : ad458 = ad459 := (by injection e459)
                    replace hx459_0 := (HB.out.cell (World.block_lt_of_cell? w _ hx459_0)).trans hx459_0
                    replace p459 := eq_true p459
                    replace q459 := eq_true q459
                    refine start_ (n := 34) (S := fun w' => w'.cell? (ad458.add (x8_1).toNat) = some (.int .i64 (rd l1 x8_1)) ∧ w'.cell? (ad458.add (x9_2).toNat) = some (.int .i64 (rd l1 x9_2))) (ds := []) #[O,O,O,O,O,O,O,O,O,O,O,O,O,O,O,O,O,O,O,O,O,O,O,O,O,O,O,O,O,O,O,O,O,O] (by kernel_rfl) rfl rfl ⟨((HB.out.cell (World.block_lt_of_cell? w _ hw458_0)).trans hw458_0), ((HB.out.cell (World.block_lt_of_cell? w _ hw459_0)).trans hw459_0)⟩ (fun hHeld => ?_); refine with_tabW spec_IsFlat.tab12 spec_IsFlat.bits12 (fun HT_ HW_ => ?_)
                    generalize wc.drew = w34 at HO_6 BK451 HB hx458_0 hx459_0 hHeld ⊢
                    refine pure_ (i := 0) (N := some 55) (v := ?_) (a' := ?_) #[U,O,O,O,O,O,O,O,O,O,O,O,O,O,O,O,O,O,O,O,O,O,O,O,O,O,O,O,O,O,O,O,O,O] rfl rfl (any_of HT_.out (by kernel_rfl)) (fun _ _ _ h => h) (Or.inl ⟨by rfl, ?_⟩) ?_ ?_
                    rotate_left; · intro w'; go_simp; with_reducible rfl
                    rotate_left; · simp only [nm_]; rfl
                    refine pure_ (i := 1) (N := some 56) (v := ?_) (a' := ?_) #[U,U,O,O,O,O,O,O,O,O,O,O,O,O,O,O,O,O,O,O,O,O,O,O,O,O,O,O,O,O,O,O,O,O] rfl rfl (any_of HT_.out (by kernel_rfl)) (fun _ _ _ h => h) (Or.inl ⟨by rfl, ?_⟩) ?_ ?_
                    rotate_left; · intro w'; go_simp; with_reducible rfl
                    rotate_left; · simp only [nm_]; rfl
                    refine pure_ (i := 2) (N := some 57) (v := ?_) (a' := ?_) #[U,U,U,O,O,O,O,O,O,O,O,O,O,O,O,O,O,O,O,O,O,O,O,O,O,O,O,O,O,O,O,O,O,O] rfl rfl (any_of HT_.out (by kernel_rfl)) (fun _ _ _ h => h) (Or.inl ⟨by rfl, ?_⟩) ?_ ?_
                    rotate_left; · intro w'; go_simp; with_reducible rfl
                    rotate_left; · simp only [nm_]; rfl
                    refine pure_ (i := 4) (N := some 59) (v := ?_) (a' := ?_) #[U,U,U,O,U,O,O,O,O,O,O,O,O,O,O,O,O,O,O,O,O,O,O,O,O,O,O,O,O,O,O,O,O,O] rfl rfl (any_of HT_.out (by kernel_rfl)) (fun _ _ _ h => h) (Or.inl ⟨by rfl, ?_⟩) ?_ ?_
                    rotate_left; · intro w'; go_simp; with_reducible rfl
                    rotate_left; · simp only [nm_]; rfl
                    refine pure_ (i := 5) (N := some 60) (v := ?_) (a' := ?_) #[U,U,U,O,U,U,O,O,O,O,O,O,O,O,O,O,O,O,O,O,O,O,O,O,O,O,O,O,O,O,O,O,O,O] rfl rfl (any_of HT_.out (by kernel_rfl)) (fun _ _ _ h => h) (Or.inl ⟨by rfl, ?_⟩) ?_ ?_
                    rotate_left; · intro w'; go_simp; with_reducible rfl
                    rotate_left; · simp only [nm_]; rfl
                    refine pure_ (i := 6) (N := some 61) (v := ?_) (a' := ?_) #[U,U,U,O,U,U,U,O,O,O,O,O,O,O,O,O,O,O,O,O,O,O,O,O,O,O,O,O,O,O,O,O,O,O] rfl rfl (any_of HT_.out (by kernel_rfl)) (fun _ _ _ h => h) (Or.inl ⟨by rfl, ?_⟩) ?_ ?_
                    rotate_left; · intro w'; go_simp; with_reducible rfl
                    rotate_left; · simp only [nm_]; rfl
                    refine take_ (i := 3) (N := some 58) (v := ?_) (a' := ?_) #[U,U,U,U,U,U,U,O,O,O,O,O,O,O,O,O,O,O,O,O,O,O,O,O,O,O,O,O,O,O,O,O,O,O] rfl rfl (take_ofW HT_.out HW_.out (by kernel_rfl)) (fun _ _ _ h => h) (Or.inl ⟨by rfl, ?_⟩) hHeld ?_ ?_
                    rotate_left; · rintro w' ⟨s0, s1⟩; go_simp; with_reducible rfl
                    rotate_left; · simp only [nm_]; rfl
                    refine take_ (i := 7) (N := some 62) (v := ?_) (a' := ?_) #[U,U,U,U,U,U,U,U,O,O,O,O,O,O,O,O,O,O,O,O,O,O,O,O,O,O,O,O,O,O,O,O,O,O] rfl rfl (take_ofW HT_.out HW_.out (by kernel_rfl)) (fun _ _ _ h => h) (Or.inl ⟨by rfl, ?_⟩) hHeld ?_ ?_
                    rotate_left; · rintro w' ⟨s0, s1⟩; go_simp; with_reducible rfl
                    rotate_left; · simp only [nm_]; rfl
                    refine pure_ (i := 8) (N := some 63) (v := ?_) (a' := ?_) #[U,U,U,U,U,U,U,U,U,O,O,O,O,O,O,O,O,O,O,O,O,O,O,O,O,O,O,O,O,O,O,O,O,O] rfl rfl (any_of HT_.out (by kernel_rfl)) (fun _ _ _ h => h) (Or.inl ⟨by rfl, ?_⟩) ?_ ?_
                    rotate_left; · intro w'; go_simp; with_reducible rfl
                    rotate_left; · simp only [nm_]; rfl
                    refine pure_ (i := 9) (N := some 64) (v := ?_) (a' := ?_) #[U,U,U,U,U,U,U,U,U,U,O,O,O,O,O,O,O,O,O,O,O,O,O,O,O,O,O,O,O,O,O,O,O,O] rfl rfl (any_of HT_.out (by kernel_rfl)) (fun _ _ _ h => h) (Or.inl ⟨by rfl, ?_⟩) ?_ ?_
                    rotate_left; · intro w'; go_simp; with_reducible rfl
                    rotate_left; · simp only [nm_]; rfl
                    refine pure_ (i := 10) (N := some 65) (v := ?_) (a' := ?_) #[U,U,U,U,U,U,U,U,U,U,U,O,O,O,O,O,O,O,O,O,O,O,O,O,O,O,O,O,O,O,O,O,O,O] rfl rfl (any_of HT_.out (by kernel_rfl)) (fun _ _ _ h => h) (Or.inl ⟨by rfl, ?_⟩) ?_ ?_
                    rotate_left; · intro w'; go_simp; with_reducible rfl
                    rotate_left; · simp only [nm_]; rfl
                    refine pure_ (i := 12) (N := some 67) (v := ?_) (a' := ?_) #[U,U,U,U,U,U,U,U,U,U,U,O,U,O,O,O,O,O,O,O,O,O,O,O,O,O,O,O,O,O,O,O,O,O] rfl rfl (any_of HT_.out (by kernel_rfl)) (fun _ _ _ h => h) (Or.inl ⟨by rfl, ?_⟩) ?_ ?_
                    rotate_left; · intro w'; go_simp; with_reducible rfl
                    rotate_left; · simp only [nm_]; rfl
                    refine one_ (i := 11) (N := some 66) #[U,U,U,U,U,U,U,U,U,U,U,U,U,O,O,O,O,O,O,O,O,O,O,O,O,O,O,O,O,O,O,O,O,O] rfl rfl (one_of HT_.out (by kernel_rfl)) (by decide) (fun K hK => ?_)
                    refine goes_ Try.func96 (by kernel_rfl) rfl #[.int .i64 (rd l0_1 x9_2)] (by rfl) rfl rfl (by (try simp only [List.map_toArray, List.map_cons, List.map_nil]); first | done | rfl | (simp only [List.length_drop, List.length_take]; rfl)) ?_
                    with_reducible refine (spec_l01Ones.calls kj13 (rd l0_1 x9_2) t460 _ A25.out).mono ?_
                    rintro e w' ⟨rfl, ⟨nd, rfl⟩⟩
                    refine ⟨_, rfl, ?_⟩
                    refine hK.out _ _ ⟨((HB.out.cell (World.block_lt_of_cell? w _ hw458_0)).trans hw458_0), ((HB.out.cell (World.block_lt_of_cell? w _ hw459_0)).trans hw459_0)⟩ (fun hHeld => ?_)
                    clear hK K
                    refine norm_ (a' := ?_) ?_ ?_
                    rotate_left
                    ·show Act.put _ (some 66) _ = _
                     simp only [nm_]
                     rfl
                    refine one_ (i := 13) (N := some 68) #[U,U,U,U,U,U,U,U,U,U,U,U,U,U,O,O,O,O,O,O,O,O,O,O,O,O,O,O,O,O,O,O,O,O] rfl rfl (one_of HT_.out (by kernel_rfl)) (by decide) (fun K hK => ?_)
                    refine goes_ Try.func96 (by kernel_rfl) rfl #[.int .i64 (rd l0_1 x8_1)] (by rfl) rfl rfl (by (try simp only [List.map_toArray, List.map_cons, List.map_nil]); first | done | rfl | (simp only [List.length_drop, List.length_take]; rfl)) ?_
                    with_reducible refine (spec_l01Ones.calls kj13 (rd l0_1 x8_1) t461 _ A26.out).mono ?_
                    rintro e w' ⟨rfl, ⟨nd, rfl⟩⟩
                    refine ⟨_, rfl, ?_⟩
                    refine hK.out _ _ ⟨((HB.out.cell (World.block_lt_of_cell? w _ hw458_0)).trans hw458_0), ((HB.out.cell (World.block_lt_of_cell? w _ hw459_0)).trans hw459_0)⟩ (fun hHeld => ?_)
                    clear hK K
                    refine norm_ (a' := ?_) ?_ ?_
                    rotate_left
                    ·show Act.put _ (some 68) _ = _
                     simp only [nm_]
                     rfl
                    refine pure_ (i := 14) (N := some 69) (v := ?_) (a' := ?_) #[U,U,U,U,U,U,U,U,U,U,U,U,U,U,U,O,O,O,O,O,O,O,O,O,O,O,O,O,O,O,O,O,O,O] rfl rfl (any_of HT_.out (by kernel_rfl)) (fun _ _ _ h => h) (Or.inl ⟨by rfl, ?_⟩) ?_ ?_
                    rotate_left; · intro w'; go_simp; with_reducible rfl
                    rotate_left; · simp only [nm_]; rfl
                    refine pure_ (i := 15) (N := some 70) (v := ?_) (a' := ?_) #[U,U,U,U,U,U,U,U,U,U,U,U,U,U,U,U,O,O,O,O,O,O,O,O,O,O,O,O,O,O,O,O,O,O] rfl rfl (any_of HT_.out (by kernel_rfl)) (fun _ _ _ h => h) (Or.inl ⟨by rfl, ?_⟩) ?_ ?_
                    rotate_left; · intro w'; go_simp; with_reducible rfl
                    rotate_left; · simp only [nm_]; rfl
                    refine pure_ (i := 16) (N := some 71) (v := ?_) (a' := ?_) #[U,U,U,U,U,U,U,U,U,U,U,U,U,U,U,U,U,O,O,O,O,O,O,O,O,O,O,O,O,O,O,O,O,O] rfl rfl (any_of HT_.out (by kernel_rfl)) (fun _ _ _ h => h) (Or.inl ⟨by rfl, ?_⟩) ?_ ?_
                    rotate_left; · intro w'; go_simp; with_reducible rfl
                    rotate_left; · simp only [nm_]; rfl
                    refine pure_ (i := 17) (N := some 72) (v := undef) (a' := ?_) #[U,U,U,U,U,U,U,U,U,U,U,U,U,U,U,U,U,U,O,O,O,O,O,O,O,O,O,O,O,O,O,O,O,O] rfl rfl (any_of HT_.out (by kernel_rfl)) (fun _ _ _ h => h) (Or.inr ⟨by rfl, rfl⟩) ?_ ?_
                    rotate_left; · simp only [nm_]; rfl
                    refine pure_ (i := 18) (N := some 73) (v := undef) (a' := ?_) #[U,U,U,U,U,U,U,U,U,U,U,U,U,U,U,U,U,U,U,O,O,O,O,O,O,O,O,O,O,O,O,O,O,O] rfl rfl (any_of HT_.out (by kernel_rfl)) (fun _ _ _ h => h) (Or.inr ⟨by rfl, rfl⟩) ?_ ?_
                    rotate_left; · simp only [nm_]; rfl
                    refine pure_ (i := 19) (N := some 74) (v := undef) (a' := ?_) #[U,U,U,U,U,U,U,U,U,U,U,U,U,U,U,U,U,U,U,U,O,O,O,O,O,O,O,O,O,O,O,O,O,O] rfl rfl (any_of HT_.out (by kernel_rfl)) (fun _ _ _ h => h) (Or.inr ⟨by rfl, rfl⟩) ?_ ?_
                    rotate_left; · simp only [nm_]; rfl
                    refine pure_ (i := 20) (N := some 75) (v := undef) (a' := ?_) #[U,U,U,U,U,U,U,U,U,U,U,U,U,U,U,U,U,U,U,U,U,O,O,O,O,O,O,O,O,O,O,O,O,O] rfl rfl (any_of HT_.out (by kernel_rfl)) (fun _ _ _ h => h) (Or.inr ⟨by rfl, rfl⟩) ?_ ?_
                    rotate_left; · simp only [nm_]; rfl
                    refine pure_ (i := 21) (N := some 76) (v := undef) (a' := ?_) #[U,U,U,U,U,U,U,U,U,U,U,U,U,U,U,U,U,U,U,U,U,U,O,O,O,O,O,O,O,O,O,O,O,O] rfl rfl (any_of HT_.out (by kernel_rfl)) (fun _ _ _ h => h) (Or.inr ⟨by rfl, rfl⟩) ?_ ?_
                    rotate_left; · simp only [nm_]; rfl
                    refine pure_ (i := 22) (N := some 77) (v := undef) (a' := ?_) #[U,U,U,U,U,U,U,U,U,U,U,U,U,U,U,U,U,U,U,U,U,U,U,O,O,O,O,O,O,O,O,O,O,O] rfl rfl (any_of HT_.out (by kernel_rfl)) (fun _ _ _ h => h) (Or.inr ⟨by rfl, rfl⟩) ?_ ?_
                    rotate_left; · simp only [nm_]; rfl
                    refine pure_ (i := 23) (N := some 78) (v := undef) (a' := ?_) #[U,U,U,U,U,U,U,U,U,U,U,U,U,U,U,U,U,U,U,U,U,U,U,U,O,O,O,O,O,O,O,O,O,O] rfl rfl (any_of HT_.out (by kernel_rfl)) (fun _ _ _ h => h) (Or.inr ⟨by rfl, rfl⟩) ?_ ?_
                    rotate_left; · simp only [nm_]; rfl
                    refine pure_ (i := 24) (N := some 79) (v := undef) (a' := ?_) #[U,U,U,U,U,U,U,U,U,U,U,U,U,U,U,U,U,U,U,U,U,U,U,U,U,O,O,O,O,O,O,O,O,O] rfl rfl (any_of HT_.out (by kernel_rfl)) (fun _ _ _ h => h) (Or.inr ⟨by rfl, rfl⟩) ?_ ?_
                    rotate_left; · simp only [nm_]; rfl
                    refine pure_ (i := 25) (N := some 80) (v := undef) (a' := ?_) #[U,U,U,U,U,U,U,U,U,U,U,U,U,U,U,U,U,U,U,U,U,U,U,U,U,U,O,O,O,O,O,O,O,O] rfl rfl (any_of HT_.out (by kernel_rfl)) (fun _ _ _ h => h) (Or.inr ⟨by rfl, rfl⟩) ?_ ?_
                    rotate_left; · simp only [nm_]; rfl
                    refine pure_ (i := 26) (N := some 81) (v := undef) (a' := ?_) #[U,U,U,U,U,U,U,U,U,U,U,U,U,U,U,U,U,U,U,U,U,U,U,U,U,U,U,O,O,O,O,O,O,O] rfl rfl (any_of HT_.out (by kernel_rfl)) (fun _ _ _ h => h) (Or.inr ⟨by rfl, rfl⟩) ?_ ?_
                    rotate_left; · simp only [nm_]; rfl
                    refine pure_ (i := 27) (N := some 82) (v := undef) (a' := ?_) #[U,U,U,U,U,U,U,U,U,U,U,U,U,U,U,U,U,U,U,U,U,U,U,U,U,U,U,U,O,O,O,O,O,O] rfl rfl (any_of HT_.out (by kernel_rfl)) (fun _ _ _ h => h) (Or.inr ⟨by rfl, rfl⟩) ?_ ?_
                    rotate_left; · simp only [nm_]; rfl
                    refine pure_ (i := 28) (N := some 83) (v := undef) (a' := ?_) #[U,U,U,U,U,U,U,U,U,U,U,U,U,U,U,U,U,U,U,U,U,U,U,U,U,U,U,U,U,O,O,O,O,O] rfl rfl (any_of HT_.out (by kernel_rfl)) (fun _ _ _ h => h) (Or.inr ⟨by rfl, rfl⟩) ?_ ?_
                    rotate_left; · simp only [nm_]; rfl
                    refine pure_ (i := 29) (N := some 84) (v := undef) (a' := ?_) #[U,U,U,U,U,U,U,U,U,U,U,U,U,U,U,U,U,U,U,U,U,U,U,U,U,U,U,U,U,U,O,O,O,O] rfl rfl (any_of HT_.out (by kernel_rfl)) (fun _ _ _ h => h) (Or.inr ⟨by rfl, rfl⟩) ?_ ?_
                    rotate_left; · simp only [nm_]; rfl
                    refine pure_ (i := 30) (N := some 85) (v := undef) (a' := ?_) #[U,U,U,U,U,U,U,U,U,U,U,U,U,U,U,U,U,U,U,U,U,U,U,U,U,U,U,U,U,U,U,O,O,O] rfl rfl (any_of HT_.out (by kernel_rfl)) (fun _ _ _ h => h) (Or.inr ⟨by rfl, rfl⟩) ?_ ?_
                    rotate_left; · simp only [nm_]; rfl
                    refine pure_ (i := 31) (N := some 86) (v := undef) (a' := ?_) #[U,U,U,U,U,U,U,U,U,U,U,U,U,U,U,U,U,U,U,U,U,U,U,U,U,U,U,U,U,U,U,U,O,O] rfl rfl (any_of HT_.out (by kernel_rfl)) (fun _ _ _ h => h) (Or.inr ⟨by rfl, rfl⟩) ?_ ?_
                    rotate_left; · simp only [nm_]; rfl
                    refine pure_ (i := 32) (N := some 87) (v := ?_) (a' := ?_) #[U,U,U,U,U,U,U,U,U,U,U,U,U,U,U,U,U,U,U,U,U,U,U,U,U,U,U,U,U,U,U,U,U,O] rfl rfl (any_of HT_.out (by kernel_rfl)) (fun _ _ _ h => h) (Or.inl ⟨by rfl, ?_⟩) ?_ ?_
                    rotate_left; · intro w'; go_simp; with_reducible rfl
                    rotate_left; · simp only [nm_]; rfl
                    refine pure_ (i := 33) (N := some 88) (v := ?_) (a' := ?_) #[U,U,U,U,U,U,U,U,U,U,U,U,U,U,U,U,U,U,U,U,U,U,U,U,U,U,U,U,U,U,U,U,U,U] rfl rfl (any_of HT_.out (by kernel_rfl)) (fun _ _ _ h => h) (Or.inl ⟨by rfl, ?_⟩) ?_ ?_
                    rotate_left; · intro w'; go_simp; with_reducible rfl
                    rotate_left; · simp only [nm_]; rfl
                    refine done_ (done_of HT_.out (by kernel_rfl)) ?_
                    try go_wp2
                    go_roundg kj13
                    case measure => have := HK1.out; have := HK2.out; have := HJ13.out; omega
                    case rel => exact ⟨(wrap64 (x9_2 + 1)), (by first | rfl | (simp; done) | (simp [*]; done)), H', ⟨by have := HK1.out; have := HK2.out; have := HJ13.out; omega⟩, ⟨by (with_reducible repeat (first | apply Kd.R_alloc | apply Kd.R_drewN | apply Kd.R_drew)); exact HO_6.out⟩, ⟨by (with_reducible repeat (first | refine blk_drewN ?_ _ | refine blk_drew ?_ | refine blk_alloc ?_ _)); exact BK451.out⟩, ⟨by repeat (first | (with_reducible first | exact HB.out | apply below_alloc | apply pw_below_drewN | apply below_drew1 | refine below_set ?_ GE451.out) | exact HB.out)⟩⟩
                 ·rw [if_neg c22] at H
                  exact absurd H (by simp)
                ·rw [if_neg c21] at H
                 exact absurd H (by simp)
               ·rw [if_neg c20] at H
                exact absurd H (by simp)
              ·rw [if_neg c19] at H
               exact absurd H (by simp)
          ·rw [if_neg c13] at H
           exact absurd H (by simp)
         ·rw [if_neg c12] at H
          exact absurd H (by simp)
        ·rw [if_neg c11] at H
         exact absurd H (by simp)
       ·rw [if_neg c10] at H
        have c10b0 : decide (x9_2 < (l0_1.length : Int)) = false := decide_eq_false c10
        clear c10
        have H' := Aside0.mk H
        clear H
        have hcz35_0 : wr.cell? ⟨gb451, 0, none⟩ = some (.int .i64 a0_0) := (blk_cell BK451.out 0).trans rfl
        have hcz35_1 : wr.cell? ⟨gb451, 1, none⟩ = some (.slice A0_1 l0_1.length c0_1) := (blk_cell BK451.out 1).trans rfl
        have hfz35_0 := blk_frozen BK451.out 0
        have hfz35_1 := blk_frozen BK451.out 1
        go_wp2
        go_roundg k2
        case measure => have := HK1.out; have := HK2.out; omega
        case rel => exact ⟨(wrap64 (x8_1 + 1)), (by first | rfl | (simp; done) | (simp [*]; done)), H', ⟨by have := HK1.out; have := HK2.out; omega⟩, ⟨by (with_reducible repeat (first | apply Kd.R_alloc | apply Kd.R_drewN | apply Kd.R_drew)); exact HO_6.out⟩, ⟨by (with_reducible repeat (first | refine blk_drewN ?_ _ | refine blk_drew ?_ | refine blk_alloc ?_ _)); exact BK451.out⟩, ⟨by repeat (first | (with_reducible first | exact HB.out | apply below_alloc | apply pw_below_drewN | apply below_drew1 | refine below_set ?_ GE451.out) | exact HB.out)⟩⟩
    ·rw [if_neg c8] at H
     have c8b0 : decide (x8_1 < (l0_1.length : Int)) = false := decide_eq_false c8
     clear c8
     simp only [Option.some.injEq, Prod.mk.injEq] at H
     obtain ⟨rfl, rfl⟩ := H
     have hcz36_0 : wr.cell? ⟨gb451, 0, none⟩ = some (.int .i64 a0_0) := (blk_cell BK451.out 0).trans rfl
     have hcz36_1 : wr.cell? ⟨gb451, 1, none⟩ = some (.slice A0_1 l0_1.length c0_1) := (blk_cell BK451.out 1).trans rfl
     have hfz36_0 := blk_frozen BK451.out 0
     have hfz36_1 := blk_frozen BK451.out 1
     go_wp2
     go_ret2
     exact ⟨by first | rfl | (simp [errW_none, errW_some] <;> rfl) | (simp [*, errW_none, errW_some] <;> rfl), by repeat (first | (with_reducible first | exact HB.out | apply below_alloc | apply pw_below_drewN | apply below_drew1 | refine below_set ?_ GE451.out) | exact HB.out)⟩
 ·rw [if_neg c4] at H
  have c4b0 : (t455 == 0) = false := beq_eq_false_iff_ne.mpr c4
  have c4b1 : (t455 != 0) = true := bne_iff_ne.mpr c4
  simp only [Option.some.injEq, Prod.mk.injEq] at H
  obtain ⟨rfl, rfl⟩ := H
  go_enter Try.func55, Try.ntmps55
  go_wp2_with (first | ((with_reducible refine gate_dst (N := 2) rfl ?_); refine box_event ?hg (N := 2) ?hd (cs := #[.int .i64 a0_0, .slice A0_1 l0_1.length c0_1]) (t := 30) ?hr ?_; (case hd => rfl); (case hg => rfl); (case hr => first | (go_simp; done) | (go_simp; rfl)); intro gb451 hg w37 hbox hb; have n0_ := Aside0.mk (below_step (by repeat (first | (with_reducible first | exact HB.out | apply below_alloc | apply pw_below_drewN | apply below_drew1) | exact HB.out)) hb); have n1_ := Aside0.mk (hbox); have n2_ := Aside0.mk ((by rw [hg]; exact (below_size (by repeat (first | (with_reducible first | exact HB.out | apply below_alloc | apply pw_below_drewN | apply below_drew1) | exact HB.out))) : w.heap.size ≤ gb451)); have n3_ := Aside0.mk ((by rw [hg]; exact (below_size (by repeat (first | (with_reducible first | exact HB.out | apply below_alloc | apply pw_below_drewN | apply below_drew1) | exact HB.out))) : w.heap.size ≤ gb451)); clear HB; have HB := n0_; have BK451 := n1_; have GW451 := n2_; have GE451 := n3_; clear n0_ n1_ n2_ n3_; clear hb hbox hg; have hcz38_0 : w37.cell? ⟨gb451, 0, none⟩ = some (.int .i64 a0_0) := (blk_cell BK451.out 0).trans rfl; have hcz38_1 : w37.cell? ⟨gb451, 1, none⟩ = some (.slice A0_1 l0_1.length c0_1) := (blk_cell BK451.out 1).trans rfl; have hfz38_0 := blk_frozen BK451.out 0; have hfz38_1 := blk_frozen BK451.out 1) | ((with_reducible refine gate_callee (f := 51) rfl ?_); refine goesL_ (some 15) rfl rfl Try.func51 (by kernel_rfl) rfl #[.agg #[.int .i64 a0_0, .slice A0_1 l0_1.length c0_1], .slice A1 l1.length c1] rfl (by (try simp only [List.map_toArray, List.map_cons, List.map_nil]); first | done | rfl | (simp only [List.length_drop, List.length_take]; rfl)) ?_; (with_reducible refine (spec_PairingOfFunction.calls k a0_0 _ _ l0_1 (fun k_ => k_ < w.heap.size) _ _ l1 t452 t455 _ ?side1 ?side2 ?side3 A3.out).mono ?_); (case side1 => repeat (first | exact (Kd.C_below HR0_1.out HB.out) | (with_reducible refine Kd.C_alloc ?_ _) | (with_reducible refine Kd.C_drewN ?_ _) | (with_reducible refine Kd.C_drew ?_))); (case side2 => exact HC0_1.out); (case side3 => exact Kd.V_mk HC1.out (Kd.F_below (Kd.C_F (Kd.heap_int .i64) HR1.out) (by repeat (first | (with_reducible first | exact HB.out | apply below_alloc | apply pw_below_drewN | apply below_drew1 | refine below_set ?_ GE451.out) | exact HB.out)))); rintro e w39 ⟨v453, rfl, ho0, hb⟩; refine ⟨_, rfl, ?_⟩; have n0_ := Aside0.mk (Kd.R_lower (Kd.R_mono (ok' := fun k_ => True) ho0 (fun _ hk_ => trivial)) (below_size (by repeat (first | (with_reducible first | exact HB.out | apply below_alloc | apply pw_below_drewN | apply below_drew1 | refine below_set ?_ GE451.out) | exact HB.out)))); have n1_ := Aside0.mk (blk_below (g := gb451) (o := .cells #[.int .i64 a0_0, .slice A0_1 l0_1.length c0_1] 30 (0, 0)) (by (with_reducible repeat (first | refine blk_drewN ?_ _ | refine blk_drew ?_ | refine blk_alloc ?_ _)); exact BK451.out) hb); have n2_ := Aside0.mk (below_step (by repeat (first | (with_reducible first | exact HB.out | apply below_alloc | apply pw_below_drewN | apply below_drew1 | refine below_set ?_ GE451.out) | exact HB.out)) hb); clear BK451; clear HB; have HO454 := n0_; have BK451 := n1_; have HB := n2_; clear n0_ n1_ n2_; (try clear hb); (try clear hb2); (try clear hk); (try clear hi); (try clear ho0)))
  go_ret2
  exact ⟨by first | rfl | (simp [errW_none, errW_some] <;> rfl) | (simp [*, errW_none, errW_some] <;> rfl), by repeat (first | (with_reducible first | exact HB.out | apply below_alloc | apply pw_below_drewN | apply below_drew1 | refine below_set ?_ GE451.out) | exact HB.out)⟩

end Go.Proofs.Ytniikppojffiaaa.Q
end

section
/- Written by a program of this session (myprint.py over the kit's print). -/
namespace Go.Proofs.Ytniikppojffiaaa.Q
open Go.RowKit Go.Proofs.YtniikppojffiaaaW.PrintWords Go.Proofs.YtniikppojffiaaaW.PrintLast Go.Proofs.YtniikppojffiaaaW.PrintMore
attribute [local go_sem] max2_int min2_int max_two min_two max_three min_three max_four min_four   -- for this text's walks alone
set_option linter.unusedVariables false
set_option linter.unusedSimpArgs false

/-! ### impl_Complex_pairs: function 84 -/
mutual
def impl_Complex_pairs.l0 : Nat → List (S53) → List Int → Int → Int → Int → List Int → Option ((List (S53)))
 | 0, _, _, _, _, _, _ => none
 | k + 1, x3, x10, x11, x12, x622000, x622001 => if x12 < x11 then (if 0 ≤ x12 then (if x12 < (x10.length : Int) then (impl_Complex_pairs.l1 k x3 (rd x10 x12) x10 x11 x12 x622001 (x622001.length : Int) 0 x622000 x622001) else (none)) else (none)) else (some x3)
def impl_Complex_pairs.l1 : Nat → List (S53) → Int → List Int → Int → Int → List Int → Int → Int → Int → List Int → Option ((List (S53)))
 | 0, _, _, _, _, _, _, _, _, _, _ => none
 | k + 1, x3, x5, x10, x11, x12, x17, x18, x19, x622000, x622001 => if x19 < x18 then (if 0 ≤ x19 then (if x19 < (x17.length : Int) then ((impl_Complex_isPair.f k x622000 x622001 x5 (rd x17 x19)).bind fun t625 => (if t625 = true then (if x3.length < 8796093022208 then (impl_Complex_pairs.l1 k (x3 ++ [(⟨x5, rd x17 x19⟩ : S53)]) x5 x10 x11 x12 x17 x18 (wrap64 (x19 + 1)) x622000 x622001) else (none)) else (impl_Complex_pairs.l1 k x3 x5 x10 x11 x12 x17 x18 (wrap64 (x19 + 1)) x622000 x622001))) else (none)) else (none)) else (impl_Complex_pairs.l0 k x3 x10 x11 (wrap64 (x12 + 1)) x622000 x622001)
end
def impl_Complex_pairs.f (k : Nat) (a0_0 : Int) (l0_1 : List Int) : Option ((List (S53))) := impl_Complex_pairs.l0 k ([] : List (S53)) l0_1 (l0_1.length : Int) 0 a0_0 l0_1
theorem impl_Complex_pairs.mono_l : ∀ k, (∀ y0 y1 y2 y3 y4 y5, LeO (impl_Complex_pairs.l0 k y0 y1 y2 y3 y4 y5) (impl_Complex_pairs.l0 (k + 1) y0 y1 y2 y3 y4 y5)) ∧ (∀ y0 y1 y2 y3 y4 y5 y6 y7 y8 y9, LeO (impl_Complex_pairs.l1 k y0 y1 y2 y3 y4 y5 y6 y7 y8 y9) (impl_Complex_pairs.l1 (k + 1) y0 y1 y2 y3 y4 y5 y6 y7 y8 y9))
 | 0 => ⟨fun _ _ _ _ _ _ r h => by simp [impl_Complex_pairs.l0] at h, fun _ _ _ _ _ _ _ _ _ _ r h => by simp [impl_Complex_pairs.l1] at h⟩
 | k + 1 => by
  obtain ⟨ih0, ih1⟩ := impl_Complex_pairs.mono_l k
  refine ⟨?_, ?_⟩
  ·intro y0 y1 y2 y3 y4 y5
   unfold impl_Complex_pairs.l0
   repeat' first
   | (with_reducible exact ih0 _ _ _ _ _ _)
   | (with_reducible exact ih1 _ _ _ _ _ _ _ _ _ _)
   | (with_reducible exact impl_Complex_isPair.mono _ _ _ _ _)
   | (with_reducible exact LeO.refl _)
   | (with_reducible exact LeO.none _)
   | (with_reducible refine LeO.ite ?_ ?_)
   | (with_reducible refine LeO.bind ?_ (fun _ => ?_))
   | exact ih0 _ _ _ _ _ _
   | exact ih1 _ _ _ _ _ _ _ _ _ _
   | exact impl_Complex_isPair.mono _ _ _ _ _
   | exact LeO.none _
   | refine LeO.ite ?_ ?_
   | refine LeO.bind ?_ (fun _ => ?_)
  ·intro y0 y1 y2 y3 y4 y5 y6 y7 y8 y9
   unfold impl_Complex_pairs.l1
   repeat' first
   | (with_reducible exact ih0 _ _ _ _ _ _)
   | (with_reducible exact ih1 _ _ _ _ _ _ _ _ _ _)
   | (with_reducible exact impl_Complex_isPair.mono _ _ _ _ _)
   | (with_reducible exact LeO.refl _)
   | (with_reducible exact LeO.none _)
   | (with_reducible refine LeO.ite ?_ ?_)
   | (with_reducible refine LeO.bind ?_ (fun _ => ?_))
   | exact ih0 _ _ _ _ _ _
   | exact ih1 _ _ _ _ _ _ _ _ _ _
   | exact impl_Complex_isPair.mono _ _ _ _ _
   | exact LeO.none _
   | refine LeO.ite ?_ ?_
   | refine LeO.bind ?_ (fun _ => ?_)
theorem impl_Complex_pairs.mono : ∀ a0 a1 k, LeO (impl_Complex_pairs.f k a0 a1) (impl_Complex_pairs.f (k + 1) a0 a1) := by
 intro a0 a1 k
 obtain ⟨ih0, ih1⟩ := impl_Complex_pairs.mono_l k
 unfold impl_Complex_pairs.f
 repeat' first
   | (with_reducible exact ih0 _ _ _ _ _ _)
   | (with_reducible exact ih1 _ _ _ _ _ _ _ _ _ _)
   | (with_reducible exact impl_Complex_isPair.mono _ _ _ _ _)
   | (with_reducible exact LeO.refl _)
   | (with_reducible exact LeO.none _)
   | (with_reducible refine LeO.ite ?_ ?_)
   | (with_reducible refine LeO.bind ?_ (fun _ => ?_))
   | exact ih0 _ _ _ _ _ _
   | exact ih1 _ _ _ _ _ _ _ _ _ _
   | exact impl_Complex_isPair.mono _ _ _ _ _
   | exact LeO.none _
   | refine LeO.ite ?_ ?_
   | refine LeO.bind ?_ (fun _ => ?_)
set_option maxHeartbeats 8000000 in
set_option maxRecDepth 100000 in
theorem impl_Complex_pairs.calls (k : Nat) (a0_0 : Int) (A0_1 : Option Addr) (c0_1 : Nat) (l0_1 : List Int) (r : List (S53)) (w : World) (hr0_1 : Kd.C (Kd.int .i64) w A0_1 l0_1.length l0_1) (hc0_1 : l0_1.length ≤ c0_1) (h : impl_Complex_pairs.f k a0_0 l0_1 = some r) :
  Calls Try.prog 84 #[.agg #[.int .i64 a0_0, .slice A0_1 l0_1.length c0_1]] w fun e w' => ∃ v0_ : Value, e = .returned (v0_) ∧ Kd.R k53 53 w' w.heap.size (fun _ => True) v0_ r ∧ Below w.heap.size w w' := by
 have hu30 := Try.underlying30
 have hu53 := Try.underlying53
 have HR0_1 := Aside0.mk hr0_1
 have HC0_1 := Aside0.mk hc0_1
 clear hr0_1 hc0_1
 have HB := Aside0.mk (Below.refl w.heap.size w)
 have H : (impl_Complex_pairs.l0 k ([] : List (S53)) l0_1 (l0_1.length : Int) 0 a0_0 l0_1) = some r := h
 clear h
 have H' := Aside0.mk H
 clear H
 go_enter Try.func84, Try.ntmps84
 go_wp2_with (first | ((with_reducible refine gate_dst (N := 1) rfl ?_); refine box_event ?hg (N := 1) ?hd (cs := #[.int .i64 a0_0, .slice A0_1 l0_1.length c0_1]) (t := 30) ?hr ?_; (case hd => rfl); (case hg => rfl); (case hr => first | (go_simp; done) | (go_simp; rfl)); intro gb621 hg w2 hbox hb; have n0_ := Aside0.mk (below_step (by repeat (first | (with_reducible first | exact HB.out | apply below_alloc | apply pw_below_drewN | apply below_drew1) | exact HB.out)) hb); have n1_ := Aside0.mk (hbox); have n2_ := Aside0.mk ((by rw [hg]; exact (below_size (by repeat (first | (with_reducible first | exact HB.out | apply below_alloc | apply pw_below_drewN | apply below_drew1) | exact HB.out))) : w.heap.size ≤ gb621)); have n3_ := Aside0.mk ((by rw [hg]; exact (below_size (by repeat (first | (with_reducible first | exact HB.out | apply below_alloc | apply pw_below_drewN | apply below_drew1) | exact HB.out))) : w.heap.size ≤ gb621)); clear HB; have HB := n0_; have BK621 := n1_; have GW621 := n2_; have GE621 := n3_; clear n0_ n1_ n2_ n3_; clear hb hbox hg; have hcz3_0 : w2.cell? ⟨gb621, 0, none⟩ = some (.int .i64 a0_0) := (blk_cell BK621.out 0).trans rfl; have hcz3_1 : w2.cell? ⟨gb621, 1, none⟩ = some (.slice A0_1 l0_1.length c0_1) := (blk_cell BK621.out 1).trans rfl; have hfz3_0 := blk_frozen BK621.out 0; have hfz3_1 := blk_frozen BK621.out 1))
 go_loopg [3, 12] k (fun kq v3 v12 w' => ∃ (x3_1 : List (S53)) (x12_1 : Int), v12 = .int .i64 x12_1 ∧ Aside0 (impl_Complex_pairs.l0 kq x3_1 l0_1 (l0_1.length : Int) x12_1 a0_0 l0_1 = some r) ∧ Aside0 (kq ≤ k) ∧ Aside0 (Kd.R k53 53 w' w.heap.size (fun _ => True) v3 x3_1) ∧ Aside0 (w'.heap[gb621]? = some (.cells #[.int .i64 a0_0, (.slice A0_1 l0_1.length c0_1)] 30 (0, 0))) ∧ Aside0 (Below w.heap.size w w'))
 case atStart => exact ⟨(([] : List (S53))), (0), (by first | rfl | (simp; done) | (simp [*]; done)), H', ⟨Nat.le_refl _⟩, ⟨by first | exact Kd.R_nil _ _ _ _ _ | exact Kd.N_nil _ _ _ _ _ | exact Kd.V_nil _ _ _ _ _ | exact Kd.Q_nil _ _ _ _ _ | exact Kd.S_nil _ _ _ _ _⟩, ⟨by (with_reducible repeat (first | refine blk_drewN ?_ _ | refine blk_drew ?_ | refine blk_alloc ?_ _)); exact BK621.out⟩, ⟨by repeat (first | (with_reducible first | exact HB.out | apply below_alloc | apply pw_below_drewN | apply below_drew1 | refine below_set ?_ GE621.out) | exact HB.out)⟩⟩
 case round =>
  clear H'
  try clear p2
  try clear hcz3_0
  try clear hcz3_1
  try clear hfz3_0
  try clear hfz3_1
  obtain ⟨x3_1, x12_1, rfl, HA, HK1, HO_3, BK621, HB⟩ := hrel
  cases gk with
  | zero => exact absurd HA.out (by simp [impl_Complex_pairs.l0])
  | succ k1 =>
   have H := HA.out
   clear HA
   simp only [impl_Complex_pairs.l0] at H
   by_cases c4 : x12_1 < (l0_1.length : Int)
   ·rw [if_pos c4] at H
    have c4b0 : decide (x12_1 < (l0_1.length : Int)) = true := decide_eq_true c4
    clear c4
    by_cases c5 : 0 ≤ x12_1
    ·rw [if_pos c5] at H
     have c5b0 : decide (0 ≤ x12_1) = true := decide_eq_true c5
     clear c5
     by_cases c6 : x12_1 < (l0_1.length : Int)
     ·rw [if_pos c6] at H
      have c6b0 : decide (x12_1 < (l0_1.length : Int)) = true := decide_eq_true c6
      clear c6
      have H' := Aside0.mk H
      clear H
      have p622 : 0 ≤ (x12_1 : Int) := of_decide_eq_true (by first | (with_reducible assumption) | assumption)
      have q622 : x12_1 < (l0_1.length : Int) := of_decide_eq_true (by first | (with_reducible assumption) | assumption)
      obtain ⟨ad622, e622, hx622_0⟩ := Kd.at_int HR0_1.out x12_1 p622 q622
      cases e622
      replace hx622_0 := (HB.out.cell (World.block_lt_of_cell? w _ hx622_0)).trans hx622_0
      replace p622 := eq_true p622
      replace q622 := eq_true q622
      have hcz7_0 : wr.cell? ⟨gb621, 0, none⟩ = some (.int .i64 a0_0) := (blk_cell BK621.out 0).trans rfl
      have hcz7_1 : wr.cell? ⟨gb621, 1, none⟩ = some (.slice (some ad622) l0_1.length c0_1) := (blk_cell BK621.out 1).trans rfl
      have hfz7_0 := blk_frozen BK621.out 0
      have hfz7_1 := blk_frozen BK621.out 1
      go_wp2
      go_loopg [3, 19] k1 (fun kq v3 v19 w' => ∃ (x3_2 : List (S53)) (x19_2 : Int), v19 = .int .i64 x19_2 ∧ Aside0 (impl_Complex_pairs.l1 kq x3_2 (rd l0_1 x12_1) l0_1 (l0_1.length : Int) x12_1 l0_1 (l0_1.length : Int) x19_2 a0_0 l0_1 = some r) ∧ Aside0 (kq ≤ k1) ∧ Aside0 (Kd.R k53 53 w' w.heap.size (fun _ => True) v3 x3_2) ∧ Aside0 (w'.heap[gb621]? = some (.cells #[.int .i64 a0_0, (.slice (some ad622) l0_1.length c0_1)] 30 (0, 0))) ∧ Aside0 (Below w.heap.size w w'))
      case atStart => exact ⟨(x3_1), (0), (by first | rfl | (simp; done) | (simp [*]; done)), H', ⟨Nat.le_refl _⟩, ⟨by (with_reducible repeat (first | apply Kd.R_alloc | apply Kd.R_drewN | apply Kd.R_drew)); exact HO_3.out⟩, ⟨by (with_reducible repeat (first | refine blk_drewN ?_ _ | refine blk_drew ?_ | refine blk_alloc ?_ _)); exact BK621.out⟩, ⟨by repeat (first | (with_reducible first | exact HB.out | apply below_alloc | apply pw_below_drewN | apply below_drew1 | refine below_set ?_ GE621.out) | exact HB.out)⟩⟩
      case round =>
       clear H'
       try clear p2
       try clear c4
       try clear c4b0
       try clear c5
       try clear c5b0
       try clear c6
       try clear c6b0
       try clear p6
       try clear q6
       try clear hx6
       try clear hcz3_0
       try clear hcz3_1
       try clear hcz7_0
       try clear hcz7_1
       try clear hfz3_0
       try clear hfz3_1
       try clear hfz7_0
       try clear hfz7_1
       try clear hx622_0
       try clear p2
       try clear p622
       try clear q622
       obtain ⟨x3_2, x19_2, rfl, HA, HK2, HO_3, BK621, HB⟩ := hrel
       cases gk with
       | zero => exact absurd HA.out (by simp [impl_Complex_pairs.l1])
       | succ k2 =>
        have H := HA.out
        clear HA
        simp only [impl_Complex_pairs.l1] at H
        by_cases c8 : x19_2 < (l0_1.length : Int)
        ·rw [if_pos c8] at H
         have c8b0 : decide (x19_2 < (l0_1.length : Int)) = true := decide_eq_true c8
         clear c8
         by_cases c9 : 0 ≤ x19_2
         ·rw [if_pos c9] at H
          have c9b0 : decide (0 ≤ x19_2) = true := decide_eq_true c9
          clear c9
          by_cases c10 : x19_2 < (l0_1.length : Int)
          ·rw [if_pos c10] at H
           have c10b0 : decide (x19_2 < (l0_1.length : Int)) = true := decide_eq_true c10
           clear c10
           replace H := Option.bind_eq_some_iff.mp H
           obtain ⟨t625, A110, H⟩ := H
           replace H : (if t625 = true then (if x3_2.length < 8796093022208 then (impl_Complex_pairs.l1 k2 (x3_2 ++ [(⟨(rd l0_1 x12_1), rd l0_1 x19_2⟩ : S53)]) (rd l0_1 x12_1) l0_1 (l0_1.length : Int) x12_1 l0_1 (l0_1.length : Int) (wrap64 (x19_2 + 1)) a0_0 l0_1) else (none)) else (impl_Complex_pairs.l1 k2 x3_2 (rd l0_1 x12_1) l0_1 (l0_1.length : Int) x12_1 l0_1 (l0_1.length : Int) (wrap64 (x19_2 + 1)) a0_0 l0_1)) = some r := H
           have A11 := Aside0.mk A110
           clear A110
           by_cases c12 : t625 = true
           ·subst c12
            have H1 : (if x3_2.length < 8796093022208 then (impl_Complex_pairs.l1 k2 (x3_2 ++ [(⟨(rd l0_1 x12_1), rd l0_1 x19_2⟩ : S53)]) (rd l0_1 x12_1) l0_1 (l0_1.length : Int) x12_1 l0_1 (l0_1.length : Int) (wrap64 (x19_2 + 1)) a0_0 l0_1) else (none)) = some r := by rw [if_pos rfl] at H; exact H
            clear H
            have H := H1
            clear H1
            by_cases c13 : x3_2.length < 8796093022208
            ·rw [if_pos c13] at H
             have LMc13 := Aside0.mk c13
             clear c13
             obtain ⟨y626, hy626⟩ : ∃ y_ : List (S53), y_ = (x3_2 ++ [(⟨(rd l0_1 x12_1), rd l0_1 x19_2⟩ : S53)]) := ⟨_, rfl⟩
             replace H : (impl_Complex_pairs.l1 k2 y626 (rd l0_1 x12_1) l0_1 (l0_1.length : Int) x12_1 l0_1 (l0_1.length : Int) (wrap64 (x19_2 + 1)) a0_0 l0_1) = some r := by first | (rw [hy626]; with_reducible exact H) | (have H2_ := (Option.bind_some _ _).symm.trans H; rw [hy626]; with_reducible exact H2_) | (have H2_ := (Option.bind_some _ _).symm.trans H; with_reducible exact H2_) | with_reducible exact H | (rw [hy626]; exact H) | exact H
             have Ny626 := Aside0.mk hy626
             clear hy626
             have H' := Aside0.mk H
             clear H
             have p623 : 0 ≤ (x19_2 : Int) := of_decide_eq_true (by first | (with_reducible assumption) | assumption)
             have q623 : x19_2 < (l0_1.length : Int) := of_decide_eq_true (by first | (with_reducible assumption) | assumption)
             obtain ⟨ad623, e623, hx623_0⟩ := Kd.at_int HR0_1.out x19_2 p623 q623
             obtain rfl : ad622 = ad623 := (by injection e623)
             replace hx623_0 := (HB.out.cell (World.block_lt_of_cell? w _ hx623_0)).trans hx623_0
             replace p623 := eq_true p623
             replace q623 := eq_true q623
             go_wp2_with (first | ((with_reducible refine gate_dst (N := 8) rfl ?_); refine box_event ?hg (N := 8) ?hd (cs := #[.int .i64 0, .int .i64 0]) (t := 53) ?hr ?_; (case hd => rfl); (case hg => rfl); (case hr => first | (go_simp; done) | (go_simp; rfl)); intro gb624 hg w14 hbox hb; have n0_ := Aside0.mk (Kd.R_below (Kd.R_elderB (by (with_reducible repeat (first | apply Kd.R_alloc | apply Kd.R_drewN | apply Kd.R_drew)); exact HO_3.out) gb624 (Nat.le_of_eq hg.symm)) hb); have n1_ := Aside0.mk (blk_below (g := gb621) (o := .cells #[.int .i64 a0_0, .slice (some ad622) l0_1.length c0_1] 30 (0, 0)) (by (with_reducible repeat (first | refine blk_drewN ?_ _ | refine blk_drew ?_ | refine blk_alloc ?_ _)); exact BK621.out) hb); have n2_ := Aside0.mk (below_step (by repeat (first | (with_reducible first | exact HB.out | apply below_alloc | apply pw_below_drewN | apply below_drew1 | refine below_set ?_ GE621.out) | exact HB.out)) hb); have n3_ := Aside0.mk (hbox); have n4_ := Aside0.mk ((by rw [hg]; exact (below_size (by repeat (first | (with_reducible first | exact HB.out | apply below_alloc | apply pw_below_drewN | apply below_drew1 | refine below_set ?_ GE621.out) | exact HB.out))) : w.heap.size ≤ gb624)); have n5_ := Aside0.mk ((by rw [hg]; exact (below_size (by repeat (first | (with_reducible first | exact HB.out | apply below_alloc | apply pw_below_drewN | apply below_drew1 | refine below_set ?_ GE621.out) | exact HB.out))) : w.heap.size ≤ gb624)); have n6_ := Aside0.mk ((by rw [hg]; exact Nat.ne_of_lt (blk_lt (g := gb621) (o := .cells #[.int .i64 a0_0, .slice (some ad622) l0_1.length c0_1] 30 (0, 0)) (by (with_reducible repeat (first | refine blk_drewN ?_ _ | refine blk_drew ?_ | refine blk_alloc ?_ _)); exact BK621.out)) : gb621 ≠ gb624)); have n7_ := Aside0.mk ((by rw [hg]; exact Nat.ne_of_gt (blk_lt (g := gb621) (o := .cells #[.int .i64 a0_0, .slice (some ad622) l0_1.length c0_1] 30 (0, 0)) (by (with_reducible repeat (first | refine blk_drewN ?_ _ | refine blk_drew ?_ | refine blk_alloc ?_ _)); exact BK621.out)) : gb624 ≠ gb621)); clear HO_3; clear BK621; clear HB; have HO_3 := n0_; have BK621 := n1_; have HB := n2_; have BK624 := n3_; have GW624 := n4_; have GE624 := n5_; have NB621_624 := n6_; have NB624_621 := n7_; clear n0_ n1_ n2_ n3_ n4_ n5_ n6_ n7_; clear hb hbox hg; have hnb15 := NB624_621.out; have hnc15 := NB621_624.out; have hcz16_0 : w14.cell? ⟨gb624, 0, none⟩ = some (.int .i64 0) := (blk_cell BK624.out 0).trans rfl; have hcz16_1 : w14.cell? ⟨gb624, 1, none⟩ = some (.int .i64 0) := (blk_cell BK624.out 1).trans rfl; have hfz16_0 := blk_frozen BK624.out 0; have hfz16_1 := blk_frozen BK624.out 1; have hcz17_0 : w14.cell? ⟨gb621, 0, none⟩ = some (.int .i64 a0_0) := (blk_cell BK621.out 0).trans rfl; have hcz17_1 : w14.cell? ⟨gb621, 1, none⟩ = some (.slice (some ad622) l0_1.length c0_1) := (blk_cell BK621.out 1).trans rfl; have hfz17_0 := blk_frozen BK621.out 0; have hfz17_1 := blk_frozen BK621.out 1) | ((with_reducible refine gate_callee (f := 88) rfl ?_); refine goesL_ (some 28) rfl rfl Try.func88 (by kernel_rfl) rfl #[.agg #[.int .i64 a0_0, .slice (some ad622) l0_1.length c0_1], .agg #[.int .i64 (rd l0_1 x12_1), .int .i64 (rd l0_1 x19_2)]] rfl (by (try simp only [List.map_toArray, List.map_cons, List.map_nil]); first | done | rfl | (simp only [List.length_drop, List.length_take]; rfl)) ?_; (with_reducible refine (impl_Complex_isPair.calls k2 a0_0 _ _ l0_1 (rd l0_1 x12_1) (rd l0_1 x19_2) true _ ?side1 ?side2 A11.out).mono ?_); (case side1 => exact Kd.C_below HR0_1.out (by repeat (first | (with_reducible first | exact HB.out | apply below_alloc | apply pw_below_drewN | apply below_drew1 | refine below_set ?_ GE621.out | refine below_set ?_ GE624.out) | exact HB.out))); (case side2 => exact HC0_1.out); rintro e w18 ⟨rfl, hb⟩; refine ⟨_, rfl, ?_⟩; have n0_ := Aside0.mk (Kd.R_below (by (with_reducible repeat (first | apply Kd.R_alloc | apply Kd.R_drewN | apply Kd.R_drew)); exact (Kd.R_mono (Kd.R_far (p := ⟨gb624, 1, none⟩) (Kd.R_far (p := ⟨gb624, 0, none⟩) (Kd.R_mono HO_3.out (fun k_ hk => (⟨hk, hk.2⟩ : _ ∧ k_ ≠ gb624))) (fun _ hk => hk.2) (.int .i64 (rd l0_1 x12_1))) (fun _ hk => hk.2) (.int .i64 (rd l0_1 x19_2))) (fun _ h_ => h_.1))) hb); have n1_ := Aside0.mk (blk_below (g := gb621) (o := .cells #[.int .i64 a0_0, .slice (some ad622) l0_1.length c0_1] 30 (0, 0)) (by (with_reducible repeat (first | refine blk_drewN ?_ _ | refine blk_drew ?_ | refine blk_alloc ?_ _)); refine blk_far ?_ NB621_624.out _; (with_reducible repeat (first | refine blk_drewN ?_ _ | refine blk_drew ?_ | refine blk_alloc ?_ _)); refine blk_far ?_ NB621_624.out _; (with_reducible repeat (first | refine blk_drewN ?_ _ | refine blk_drew ?_ | refine blk_alloc ?_ _)); exact BK621.out) hb); have n2_ := Aside0.mk (blk_below (g := gb624) (o := .cells #[.int .i64 (rd l0_1 x12_1), .int .i64 (rd l0_1 x19_2)] 53 (0, 0)) (by (with_reducible repeat (first | refine blk_drewN ?_ _ | refine blk_drew ?_ | refine blk_alloc ?_ _)); refine blk_put (cs := #[.int .i64 (rd l0_1 x12_1), .int .i64 0]) ?_ 1 _ rfl; (with_reducible repeat (first | refine blk_drewN ?_ _ | refine blk_drew ?_ | refine blk_alloc ?_ _)); refine blk_put (cs := #[.int .i64 0, .int .i64 0]) ?_ 0 _ rfl; (with_reducible repeat (first | refine blk_drewN ?_ _ | refine blk_drew ?_ | refine blk_alloc ?_ _)); exact BK624.out) hb); have n3_ := Aside0.mk (below_step (by repeat (first | (with_reducible first | exact HB.out | apply below_alloc | apply pw_below_drewN | apply below_drew1 | refine below_set ?_ GE621.out | refine below_set ?_ GE624.out) | exact HB.out)) hb); clear HO_3; clear BK621; clear BK624; clear HB; have HO_3 := n0_; have BK621 := n1_; have BK624 := n2_; have HB := n3_; clear n0_ n1_ n2_ n3_; (try clear hb); (try clear hb2); (try clear hk); (try clear hi); have hcz19_0 : w18.cell? ⟨gb624, 0, none⟩ = some (.int .i64 (rd l0_1 x12_1)) := (blk_cell BK624.out 0).trans rfl; have hcz19_1 : w18.cell? ⟨gb624, 1, none⟩ = some (.int .i64 (rd l0_1 x19_2)) := (blk_cell BK624.out 1).trans rfl; have hfz19_0 := blk_frozen BK624.out 0; have hfz19_1 := blk_frozen BK624.out 1) | ((with_reducible refine gate_builtin (b := .append) (xs := #[.tmp 29, .tmp 31]) rfl ?_); at_builtin; refine Kd.R_append k53 (w0 := w) w.heap.size rfl (.tmp 29) (.tmp 31) 32 53 (.agg #[(.int .i64 0), (.int .i64 0)]) 16 rfl Try.underlying32 info53 rfl (by decide) (by omega) u3 x3_2 (⟨(rd l0_1 x12_1), rd l0_1 x19_2⟩ : S53) [.int .i64 (rd l0_1 x12_1), .int .i64 (rd l0_1 x19_2)] (fun k_ => k_ ≠ gb624) (fun _ => False) rfl rfl ?aP (fun _ hk => hk.elim) ?aF ?aO ?aB ?aS ?aL ?_; (case aP => exact k53_mkM _ _ _ (⟨(rd l0_1 x12_1), rd l0_1 x19_2⟩ : S53)); (case aB => exact (by repeat (first | (with_reducible first | exact HB.out | apply below_alloc | apply pw_below_drewN | apply below_drew1 | refine below_set ?_ GE621.out | refine below_set ?_ GE624.out) | exact HB.out))); (case aF => exact (fun k_ hk => Kd.freshB (g := gb624) (o := .cells #[.int .i64 (rd l0_1 x12_1), .int .i64 (rd l0_1 x19_2)] 53 (0, 0)) (by (with_reducible repeat (first | refine blk_drewN ?_ _ | refine blk_drew ?_ | refine blk_alloc ?_ _)); exact BK624.out) k_ hk)); (case aO => exact (by (with_reducible repeat (first | apply Kd.R_alloc | apply Kd.R_drewN | apply Kd.R_drew)); exact Kd.R_mono HO_3.out (fun _ hk => hk.2))); (case aS => exact (below_size (by repeat (first | (with_reducible first | exact HB.out | apply below_alloc | apply pw_below_drewN | apply below_drew1 | refine below_set ?_ GE621.out | refine below_set ?_ GE624.out) | exact HB.out)))); (case aL => have := LMc13.out; omega); intro v627 w20 ho hb hg hat; rw [← Ny626.out] at ho; have n0_ := Aside0.mk (blk_grown (g := gb621) (o := .cells #[.int .i64 a0_0, .slice (some ad622) l0_1.length c0_1] 30 (0, 0)) (by (with_reducible repeat (first | refine blk_drewN ?_ _ | refine blk_drew ?_ | refine blk_alloc ?_ _)); exact BK621.out) hg (Kd.R_ne HO_3.out BK621.out (by decide))); have n1_ := Aside0.mk (blk_grown (g := gb624) (o := .cells #[.int .i64 (rd l0_1 x12_1), .int .i64 (rd l0_1 x19_2)] 53 (0, 0)) (by (with_reducible repeat (first | refine blk_drewN ?_ _ | refine blk_drew ?_ | refine blk_alloc ?_ _)); exact BK624.out) hg (Kd.R_away HO_3.out (fun _ hk => hk.2))); have n2_ := Aside0.mk (hb); have n3_ := Aside0.mk (ho); clear BK621; clear BK624; clear HB; clear HO_3; have BK621 := n0_; have BK624 := n1_; have HB := n2_; have HO628 := n3_; clear n0_ n1_ n2_ n3_; clear ho hb hg hat))
             go_roundg k2
             case measure => have := HK1.out; have := HK2.out; omega
             case rel => exact ⟨(y626), (wrap64 (x19_2 + 1)), (by first | rfl | (simp; done) | (simp [*]; done)), H', ⟨by have := HK1.out; have := HK2.out; omega⟩, ⟨by (with_reducible repeat (first | apply Kd.R_alloc | apply Kd.R_drewN | apply Kd.R_drew)); exact Kd.R_mono HO628.out (fun _ hk => trivial)⟩, ⟨by (with_reducible repeat (first | refine blk_drewN ?_ _ | refine blk_drew ?_ | refine blk_alloc ?_ _)); exact BK621.out⟩, ⟨by repeat (first | (with_reducible first | exact HB.out | apply below_alloc | apply pw_below_drewN | apply below_drew1 | refine below_set ?_ GE621.out | refine below_set ?_ GE624.out) | exact HB.out)⟩⟩
            ·rw [if_neg c13] at H
             exact absurd H (by simp)
           ·replace c12 := Bool.eq_false_iff.mpr c12
            subst c12
            have H1 : (impl_Complex_pairs.l1 k2 x3_2 (rd l0_1 x12_1) l0_1 (l0_1.length : Int) x12_1 l0_1 (l0_1.length : Int) (wrap64 (x19_2 + 1)) a0_0 l0_1) = some r := by rw [if_neg (show ¬ (false = true) by decide)] at H; exact H
            clear H
            have H := H1
            clear H1
            have H' := Aside0.mk H
            clear H
            have p623 : 0 ≤ (x19_2 : Int) := of_decide_eq_true (by first | (with_reducible assumption) | assumption)
            have q623 : x19_2 < (l0_1.length : Int) := of_decide_eq_true (by first | (with_reducible assumption) | assumption)
            obtain ⟨ad623, e623, hx623_0⟩ := Kd.at_int HR0_1.out x19_2 p623 q623
            obtain rfl : ad622 = ad623 := (by injection e623)
            replace hx623_0 := (HB.out.cell (World.block_lt_of_cell? w _ hx623_0)).trans hx623_0
            replace p623 := eq_true p623
            replace q623 := eq_true q623
            go_wp2_with (first | ((with_reducible refine gate_dst (N := 8) rfl ?_); refine box_event ?hg (N := 8) ?hd (cs := #[.int .i64 0, .int .i64 0]) (t := 53) ?hr ?_; (case hd => rfl); (case hg => rfl); (case hr => first | (go_simp; done) | (go_simp; rfl)); intro gb624 hg w21 hbox hb; have n0_ := Aside0.mk (Kd.R_below (Kd.R_elderB (by (with_reducible repeat (first | apply Kd.R_alloc | apply Kd.R_drewN | apply Kd.R_drew)); exact HO_3.out) gb624 (Nat.le_of_eq hg.symm)) hb); have n1_ := Aside0.mk (blk_below (g := gb621) (o := .cells #[.int .i64 a0_0, .slice (some ad622) l0_1.length c0_1] 30 (0, 0)) (by (with_reducible repeat (first | refine blk_drewN ?_ _ | refine blk_drew ?_ | refine blk_alloc ?_ _)); exact BK621.out) hb); have n2_ := Aside0.mk (below_step (by repeat (first | (with_reducible first | exact HB.out | apply below_alloc | apply pw_below_drewN | apply below_drew1 | refine below_set ?_ GE621.out) | exact HB.out)) hb); have n3_ := Aside0.mk (hbox); have n4_ := Aside0.mk ((by rw [hg]; exact (below_size (by repeat (first | (with_reducible first | exact HB.out | apply below_alloc | apply pw_below_drewN | apply below_drew1 | refine below_set ?_ GE621.out) | exact HB.out))) : w.heap.size ≤ gb624)); have n5_ := Aside0.mk ((by rw [hg]; exact (below_size (by repeat (first | (with_reducible first | exact HB.out | apply below_alloc | apply pw_below_drewN | apply below_drew1 | refine below_set ?_ GE621.out) | exact HB.out))) : w.heap.size ≤ gb624)); have n6_ := Aside0.mk ((by rw [hg]; exact Nat.ne_of_lt (blk_lt (g := gb621) (o := .cells #[.int .i64 a0_0, .slice (some ad622) l0_1.length c0_1] 30 (0, 0)) (by (with_reducible repeat (first | refine blk_drewN ?_ _ | refine blk_drew ?_ | refine blk_alloc ?_ _)); exact BK621.out)) : gb621 ≠ gb624)); have n7_ := Aside0.mk ((by rw [hg]; exact Nat.ne_of_gt (blk_lt (g := gb621) (o := .cells #[.int .i64 a0_0, .slice (some ad622) l0_1.length c0_1] 30 (0, 0)) (by (with_reducible repeat (first | refine blk_drewN ?_ _ | refine blk_drew ?_ | refine blk_alloc ?_ _)); exact BK621.out)) : gb624 ≠ gb621)); clear HO_3; clear BK621; clear HB; have HO_3 := n0_; have BK621 := n1_; have HB := n2_; have BK624 := n3_; have GW624 := n4_; have GE624 := n5_; have NB621_624 := n6_; have NB624_621 := n7_; clear n0_ n1_ n2_ n3_ n4_ n5_ n6_ n7_; clear hb hbox hg; have hnb22 := NB624_621.out; have hnc22 := NB621_624.out; have hcz23_0 : w21.cell? ⟨gb624, 0, none⟩ = some (.int .i64 0) := (blk_cell BK624.out 0).trans rfl; have hcz23_1 : w21.cell? ⟨gb624, 1, none⟩ = some (.int .i64 0) := (blk_cell BK624.out 1).trans rfl; have hfz23_0 := blk_frozen BK624.out 0; have hfz23_1 := blk_frozen BK624.out 1; have hcz24_0 : w21.cell? ⟨gb621, 0, none⟩ = some (.int .i64 a0_0) := (blk_cell BK621.out 0).trans rfl; have hcz24_1 : w21.cell? ⟨gb621, 1, none⟩ = some (.slice (some ad622) l0_1.length c0_1) := (blk_cell BK621.out 1).trans rfl; have hfz24_0 := blk_frozen BK621.out 0; have hfz24_1 := blk_frozen BK621.out 1) | ((with_reducible refine gate_callee (f := 88) rfl ?_); refine goesL_ (some 28) rfl rfl Try.func88 (by kernel_rfl) rfl #[.agg #[.int .i64 a0_0, .slice (some ad622) l0_1.length c0_1], .agg #[.int .i64 (rd l0_1 x12_1), .int .i64 (rd l0_1 x19_2)]] rfl (by (try simp only [List.map_toArray, List.map_cons, List.map_nil]); first | done | rfl | (simp only [List.length_drop, List.length_take]; rfl)) ?_; (with_reducible refine (impl_Complex_isPair.calls k2 a0_0 _ _ l0_1 (rd l0_1 x12_1) (rd l0_1 x19_2) false _ ?side1 ?side2 A11.out).mono ?_); (case side1 => exact Kd.C_below HR0_1.out (by repeat (first | (with_reducible first | exact HB.out | apply below_alloc | apply pw_below_drewN | apply below_drew1 | refine below_set ?_ GE621.out | refine below_set ?_ GE624.out) | exact HB.out))); (case side2 => exact HC0_1.out); rintro e w25 ⟨rfl, hb⟩; refine ⟨_, rfl, ?_⟩; have n0_ := Aside0.mk (Kd.R_below (by (with_reducible repeat (first | apply Kd.R_alloc | apply Kd.R_drewN | apply Kd.R_drew)); exact (Kd.R_mono (Kd.R_far (p := ⟨gb624, 1, none⟩) (Kd.R_far (p := ⟨gb624, 0, none⟩) (Kd.R_mono HO_3.out (fun k_ hk => (⟨hk, hk.2⟩ : _ ∧ k_ ≠ gb624))) (fun _ hk => hk.2) (.int .i64 (rd l0_1 x12_1))) (fun _ hk => hk.2) (.int .i64 (rd l0_1 x19_2))) (fun _ h_ => h_.1))) hb); have n1_ := Aside0.mk (blk_below (g := gb621) (o := .cells #[.int .i64 a0_0, .slice (some ad622) l0_1.length c0_1] 30 (0, 0)) (by (with_reducible repeat (first | refine blk_drewN ?_ _ | refine blk_drew ?_ | refine blk_alloc ?_ _)); refine blk_far ?_ NB621_624.out _; (with_reducible repeat (first | refine blk_drewN ?_ _ | refine blk_drew ?_ | refine blk_alloc ?_ _)); refine blk_far ?_ NB621_624.out _; (with_reducible repeat (first | refine blk_drewN ?_ _ | refine blk_drew ?_ | refine blk_alloc ?_ _)); exact BK621.out) hb); have n2_ := Aside0.mk (blk_below (g := gb624) (o := .cells #[.int .i64 (rd l0_1 x12_1), .int .i64 (rd l0_1 x19_2)] 53 (0, 0)) (by (with_reducible repeat (first | refine blk_drewN ?_ _ | refine blk_drew ?_ | refine blk_alloc ?_ _)); refine blk_put (cs := #[.int .i64 (rd l0_1 x12_1), .int .i64 0]) ?_ 1 _ rfl; (with_reducible repeat (first | refine blk_drewN ?_ _ | refine blk_drew ?_ | refine blk_alloc ?_ _)); refine blk_put (cs := #[.int .i64 0, .int .i64 0]) ?_ 0 _ rfl; (with_reducible repeat (first | refine blk_drewN ?_ _ | refine blk_drew ?_ | refine blk_alloc ?_ _)); exact BK624.out) hb); have n3_ := Aside0.mk (below_step (by repeat (first | (with_reducible first | exact HB.out | apply below_alloc | apply pw_below_drewN | apply below_drew1 | refine below_set ?_ GE621.out | refine below_set ?_ GE624.out) | exact HB.out)) hb); clear HO_3; clear BK621; clear BK624; clear HB; have HO_3 := n0_; have BK621 := n1_; have BK624 := n2_; have HB := n3_; clear n0_ n1_ n2_ n3_; (try clear hb); (try clear hb2); (try clear hk); (try clear hi)))
            go_roundg k2
            case measure => have := HK1.out; have := HK2.out; omega
            case rel => exact ⟨(x3_2), (wrap64 (x19_2 + 1)), (by first | rfl | (simp; done) | (simp [*]; done)), H', ⟨by have := HK1.out; have := HK2.out; omega⟩, ⟨by (with_reducible repeat (first | apply Kd.R_alloc | apply Kd.R_drewN | apply Kd.R_drew)); exact Kd.R_mono HO_3.out (fun _ hk => trivial)⟩, ⟨by (with_reducible repeat (first | refine blk_drewN ?_ _ | refine blk_drew ?_ | refine blk_alloc ?_ _)); exact BK621.out⟩, ⟨by repeat (first | (with_reducible first | exact HB.out | apply below_alloc | apply pw_below_drewN | apply below_drew1 | refine below_set ?_ GE621.out | refine below_set ?_ GE624.out) | exact HB.out)⟩⟩
          ·rw [if_neg c10] at H
           exact absurd H (by simp)
         ·rw [if_neg c9] at H
          exact absurd H (by simp)
        ·rw [if_neg c8] at H
         have c8b0 : decide (x19_2 < (l0_1.length : Int)) = false := decide_eq_false c8
         clear c8
         have H' := Aside0.mk H
         clear H
         go_wp2
         go_roundg k2
         case measure => have := HK1.out; have := HK2.out; omega
         case rel => exact ⟨(x3_2), (wrap64 (x12_1 + 1)), (by first | rfl | (simp; done) | (simp [*]; done)), H', ⟨by have := HK1.out; have := HK2.out; omega⟩, ⟨by (with_reducible repeat (first | apply Kd.R_alloc | apply Kd.R_drewN | apply Kd.R_drew)); exact HO_3.out⟩, ⟨by (with_reducible repeat (first | refine blk_drewN ?_ _ | refine blk_drew ?_ | refine blk_alloc ?_ _)); exact BK621.out⟩, ⟨by repeat (first | (with_reducible first | exact HB.out | apply below_alloc | apply pw_below_drewN | apply below_drew1 | refine below_set ?_ GE621.out) | exact HB.out)⟩⟩
     ·rw [if_neg c6] at H
      exact absurd H (by simp)
    ·rw [if_neg c5] at H
     exact absurd H (by simp)
   ·rw [if_neg c4] at H
    have c4b0 : decide (x12_1 < (l0_1.length : Int)) = false := decide_eq_false c4
    clear c4
    obtain rfl := Option.some.inj H
    go_wp2
    go_ret
    exact ⟨_, by first | rfl | (simp [errW_none, errW_some] <;> rfl) | (simp [*, errW_none, errW_some] <;> rfl), by (with_reducible repeat (first | apply Kd.R_alloc | apply Kd.R_drewN | apply Kd.R_drew)); exact HO_3.out, by repeat (first | (with_reducible first | exact HB.out | apply below_alloc | apply pw_below_drewN | apply below_drew1 | refine below_set ?_ GE621.out) | exact HB.out)⟩

/-! ### impl_isValue: function 163 -/
def impl_isValue.f (a0 : Int) : Option (Bool) := (impl_within.f a0 (-1000) 1000).bind fun t629 => (some t629)
set_option maxHeartbeats 8000000 in
set_option maxRecDepth 100000 in
theorem impl_isValue.calls (a0 : Int) (r : Bool) (w : World) (h : impl_isValue.f a0 = some r) :
  Calls Try.prog 163 #[.int .i64 a0] w fun e w' => e = .returned (.bool r) ∧ Drawn0 w w' := by
 have H : ((impl_within.f a0 (-1000) 1000).bind fun t629 => (some t629)) = some r := h
 clear h
 replace H := Option.bind_eq_some_iff.mp H
 obtain ⟨t629, A20, H⟩ := H
 replace H : (some t629) = some r := H
 have A2 := Aside0.mk A20
 clear A20
 obtain rfl := Option.some.inj H
 go_enter Try.func163, Try.ntmps163
 go_wp2_with (first | ((with_reducible refine gate_callee (f := 144) rfl ?_); refine goesL_ (some 4) rfl rfl Try.func144 (by kernel_rfl) rfl #[.int .i64 a0, .int .i64 (-1000), .int .i64 1000] rfl (by (try simp only [List.map_toArray, List.map_cons, List.map_nil]); first | done | rfl | (simp only [List.length_drop, List.length_take]; rfl)) ?_; (with_reducible refine (impl_within.calls a0 (-1000) 1000 t629 _ A2.out).mono ?_); rintro e w' ⟨rfl, ⟨nd, rfl⟩⟩; refine ⟨_, rfl, ?_⟩))
 go_ret
 exact ⟨by first | rfl | (simp; done) | (simp [*]; done), by repeat (first | exact Drawn0.refl _ | apply Drawn0.step)⟩

end Go.Proofs.Ytniikppojffiaaa.Q
end

section
/- The reference's answers about Morse functions; all pairs of a complex. -/
namespace Go.Proofs.Ytniikppojffiaaa.K
open Go.RowKit Go.Shelf Go.Proofs.Ytniikppojffiaaa.Q Go.Proofs.YtniikppojffiaaaW.PrintWords Go.Proofs.YtniikppojffiaaaW.PrintLast Go.Proofs.YtniikppojffiaaaW.PrintMore
set_option linter.unusedVariables false
set_option linter.unusedSimpArgs false

theorem specIs04_loop (f : List Int) (hf : f.length ≤ 2097152) : ∀ (e i k : Nat), f.length - i = e → i ≤ f.length → e < k →
  spec_l04Is.l0 k f (i : Int) = some ((f.drop i).all isVal) := by
 intro e
 induction e with
 | zero =>
  intro i k he hi hk
  obtain ⟨k, rfl⟩ : ∃ m, k = m + 1 := ⟨k - 1, by omega⟩
  obtain rfl : i = f.length := by omega
  simp only [spec_l04Is.l0]
  rw [if_neg (by omega), List.drop_eq_nil_of_le (by omega)]
  rfl
 | succ e ih =>
  intro i k he hi hk
  obtain ⟨k, rfl⟩ : ∃ m, k = m + 1 := ⟨k - 1, by omega⟩
  have hil : i < f.length := by omega
  simp only [spec_l04Is.l0]
  rw [if_pos (by omega), if_pos (by omega), rd_nat f i hil, specIn_is, w64 ((i : Int) + 1) (by omega) (by omega), nat_succ, ih (i + 1) k (by omega) (by omega) (by omega), List.drop_eq_getElem_cons hil, List.all_cons]
  simp only [Option.bind_some]
  show (if isVal f[i] = true then _ else _) = _
  cases isVal f[i] <;> simp
theorem specIs04_is (n : Int) (l f : List Int) (hf : f.length ≤ 2097152) (k : Nat) (hk : f.length < k) : spec_l04Is.f k n l f = some (funB l f) := by
 unfold spec_l04Is.f funB
 have := specIs04_loop f hf f.length 0 k (by omega) (by omega) hk
 rw [show ((0 : Nat) : Int) = 0 from rfl, List.drop_zero] at this
 by_cases h : f.length = l.length
 ·rw [if_pos (by omega), this]
  simp [h]
 ·rw [if_neg (by omega)]
  simp [h]
theorem specCode04_loop (n : Int) (l : List Int) (fs : List (List Int)) (h2 : fs.length ≤ 2) (hf : ∀ f ∈ fs, f.length ≤ 2097152) : ∀ (e i k : Nat), fs.length - i = e → i ≤ fs.length → 2097152 + e + 1 < k →
  spec_l04Code.l0 k fs (i : Int) n l = some (if (fs.drop i).all (funB l) then 0 else 2) := by
 intro e
 induction e with
 | zero =>
  intro i k he hi hk
  obtain ⟨k, rfl⟩ : ∃ m, k = m + 1 := ⟨k - 1, by omega⟩
  obtain rfl : i = fs.length := by omega
  simp only [spec_l04Code.l0]
  rw [if_neg (by omega), List.drop_eq_nil_of_le (by omega)]
  rfl
 | succ e ih =>
  intro i k he hi hk
  obtain ⟨k, rfl⟩ : ∃ m, k = m + 1 := ⟨k - 1, by omega⟩
  have hil : i < fs.length := by omega
  have hrd : rd_L3 fs (i : Int) = fs[i] := by simp [rd_L3, hil]
  have hm := hf _ (List.getElem_mem hil)
  simp only [spec_l04Code.l0]
  rw [if_pos (by omega), if_pos (by omega), hrd, specIs04_is n l fs[i] hm k (by omega), w64 ((i : Int) + 1) (by omega) (by omega), nat_succ, ih (i + 1) k (by omega) (by omega) (by omega), List.drop_eq_getElem_cons hil, List.all_cons]
  simp only [Option.bind_some]
  cases funB l fs[i] <;> simp
theorem specCode04_is (n : Int) (l : List Int) (fs : List (List Int)) (h2 : fs.length ≤ 2) (hl : l.length ≤ 2097152) (hf : ∀ f ∈ fs, f.length ≤ 2097152) (k : Nat) (hk : isK l + 2097160 ≤ k) : spec_l04Code.f k n l fs = some (codeOf n l (fs.all (funB l))) := by
 unfold spec_l04Code.f codeOf
 rw [specIs_is n l hl k (by omega)]
 simp only [Option.bind_some]
 have := specCode04_loop n l fs h2 hf fs.length 0 k (by omega) (by omega) (by omega)
 rw [show ((0 : Nat) : Int) = 0 from rfl, List.drop_zero] at this
 rw [this]
 cases isC n l <;> cases (fs.all (funB l)) <;> rfl
def fK (l : List Int) : Nat := isK l + 20000000
theorem funB_len {l f : List Int} (h : funB l f = true) : f.length = l.length := by
 unfold funB at h
 simp only [Bool.and_eq_true, beq_iff_eq] at h
 exact h.1
theorem funB_val {l f : List Int} (h : funB l f = true) : ∀ x ∈ f, -1000 ≤ x ∧ x ≤ 1000 := by
 unfold funB at h
 simp only [Bool.and_eq_true, List.all_eq_true] at h
 intro x hx
 have := h.2 x hx
 unfold isVal at this
 exact of_decide_eq_true this
/-- The code of Morse functions. -/
def mcode (n : Int) (l : List Int) (b m : Bool) : Int := if codeOf n l b = 0 then (if m then 0 else 5) else codeOf n l b
theorem mcode_zero {n : Int} {l : List Int} {b m : Bool} (h : mcode n l b m = 0) : isC n l = true ∧ b = true ∧ m = true := by
 unfold mcode at h
 by_cases hz : codeOf n l b = 0
 ·rw [if_pos hz] at h
  obtain ⟨h1, h2⟩ := codeOf_zero hz
  cases m
  ·exact absurd h (by decide)
  ·exact ⟨h1, h2, rfl⟩
 ·rw [if_neg hz] at h
  exact absurd h hz
theorem specPairing4_is (n : Int) (l f : List Int) (hl : l.length ≤ 2097152) (hf : f.length ≤ 2097152) (k : Nat) (hk : fK l ≤ k) : spec_PairingOfFunction.f k n l f = some ((if mcode n l (funB l f) (morseB l f) = 0 then fallL l f else []), mcode n l (funB l f) (morseB l f)) := by
 unfold fK at hk
 unfold spec_PairingOfFunction.f mcode
 rw [specCode04_is n l [f] (by simp) hl (by simpa using hf) k (by omega)]
 simp only [Option.bind_some, List.all_cons, List.all_nil, Bool.and_true]
 by_cases hz : codeOf n l (funB l f) = 0
 ·obtain ⟨hi, hb⟩ := codeOf_zero hz
  rw [if_pos hz, if_pos hz, specPairs_is hi (funB_len hb) k (by omega)]
  simp only [Option.bind_some]
  cases morseB l f <;> simp
 ·rw [if_neg hz, if_neg hz, if_neg hz]
theorem fall_len {n : Int} {l f : List Int} (hi : isC n l = true) : (fallL l f).length ≤ 3969 := by
 have h63 := (isC_faces hi).2.2.2
 have : ∀ L : List Int, (L.flatMap fun a => (upC l f a).map fun b => (⟨a, b⟩ : PairT)).length ≤ L.length * 63 := by
  intro L
  induction L with
  | nil => simp
  | cons a L ih =>
   have h1 : (upC l f a).length ≤ l.length := by
    unfold upC
    exact Nat.le_trans (List.length_filter_le _ _) (List.length_filter_le _ _)
   rw [List.flatMap_cons, List.length_append, List.length_map, List.length_cons]
   omega
 rw [fall_flat]
 have := this l
 omega
theorem specHigh_loop (q : List PairT) (hq : q.length ≤ 4000) (a : Int) : ∀ (e i k : Nat), q.length - i = e → i ≤ q.length → e < k → spec_l02High.l0 k q a (i : Int) = some (highL (q.drop i) a) := by
 intro e
 induction e with
 | zero =>
  intro i k he hi hk
  obtain ⟨k, rfl⟩ : ∃ m, k = m + 1 := ⟨k - 1, by omega⟩
  obtain rfl : i = q.length := by omega
  simp only [spec_l02High.l0]
  rw [if_neg (by omega), List.drop_eq_nil_of_le (by omega)]
  rfl
 | succ e ih =>
  intro i k he hi hk
  obtain ⟨k, rfl⟩ : ∃ m, k = m + 1 := ⟨k - 1, by omega⟩
  have hil : i < q.length := by omega
  simp only [spec_l02High.l0]
  rw [if_pos (by omega), if_pos (by omega), rdP q i hil, w64 ((i : Int) + 1) (by omega) (by omega), nat_succ, ih (i + 1) k (by omega) (by omega) (by omega), List.drop_eq_getElem_cons hil, highL]
  split <;> rfl
theorem specHigh_is (q : List PairT) (hq : q.length ≤ 4000) (a : Int) (k : Nat) (hk : 4001 ≤ k) : spec_l02High.f k q a = some (highL q a) := by
 unfold spec_l02High.f
 have := specHigh_loop q hq a q.length 0 k (by omega) (by omega) (by omega)
 rw [show ((0 : Nat) : Int) = 0 from rfl, List.drop_zero] at this
 exact this
theorem isPair_le {n a b : Int} {l : List Int} {r : Bool} {m : Nat} (h : impl_Complex_isPair.f m n l a b = some r) : ∀ d, impl_Complex_isPair.f (m + d) n l a b = some r
 | 0 => h
 | d + 1 => impl_Complex_isPair.mono _ _ _ _ _ _ (isPair_le h d)
theorem pairs_l1 {n : Int} {l : List Int} (hi : isC n l = true) (a i : Int) (xs : List Int) : ∀ (e j k : Nat) (out : List PairT), l.length - j = e → j ≤ l.length → e + 100 < k → out.length + e ≤ 100000 →
  impl_Complex_pairs.l1 k out a xs (xs.length : Int) i l (l.length : Int) (j : Int) n l = impl_Complex_pairs.l0 (k - (e + 1)) (out ++ ((l.drop j).filter fun b => pairK l ⟨a, b⟩).map fun b => ⟨a, b⟩) xs (xs.length : Int) (wrap64 (i + 1)) n l := by
 have h63 := (isC_faces hi).2.2.2
 intro e
 induction e with
 | zero =>
  intro j k out he hj hk ho
  obtain ⟨k, rfl⟩ : ∃ m, k = m + 1 := ⟨k - 1, by omega⟩
  obtain rfl : j = l.length := by omega
  simp only [impl_Complex_pairs.l1]
  rw [if_neg (by omega), List.drop_eq_nil_of_le (by omega)]
  simp
 | succ e ih =>
  intro j k out he hj hk ho
  obtain ⟨k, rfl⟩ : ∃ m, k = m + 1 := ⟨k - 1, by omega⟩
  have hjl : j < l.length := by omega
  have hkk : k + 1 - (e + 1 + 1) = k - (e + 1) := by omega
  have HWj : Aside0 (wrap64 ((j : Int) + 1) = ((j + 1 : Nat) : Int)) := ⟨by rw [w64 _ (by omega) (by omega)]; omega⟩
  have HF : Aside0 (impl_Complex_isPair.f k n l a l[j] = some (pairK l ⟨a, l[j]⟩)) := ⟨by
   have := isPair_le (isPair_is hi a l[j]) (k - (l.length + 1))
   rwa [show l.length + 1 + (k - (l.length + 1)) = k by omega] at this⟩
  simp only [impl_Complex_pairs.l1]
  rw [if_pos (by omega), if_pos (by omega), if_pos (by omega), rd_nat l j hjl, HWj.out, HF.out, hkk, List.drop_eq_getElem_cons hjl, List.filter_cons]
  simp only [Option.bind_some]
  cases hb : pairK l ⟨a, l[j]⟩ with
  | true =>
   rw [if_pos rfl, if_pos (by omega), ih (j + 1) k _ (by omega) (by omega) (by omega) (by simp; omega), if_pos rfl, List.map_cons, List.append_assoc]
   rfl
  | false =>
   rw [if_neg (by simp), ih (j + 1) k _ (by omega) (by omega) (by omega) (by omega), if_neg (by simp)]
theorem pairs_l0 {n : Int} {l : List Int} (hi : isC n l = true) : ∀ (e i k : Nat) (out : List PairT), l.length - i = e → i ≤ l.length → e * 65 + 200 < k → out.length ≤ i * 63 →
  impl_Complex_pairs.l0 k out l (l.length : Int) (i : Int) n l = some (out ++ (l.drop i).flatMap fun a => (l.filter fun b => pairK l ⟨a, b⟩).map fun b => ⟨a, b⟩) := by
 have h63 := (isC_faces hi).2.2.2
 intro e
 induction e with
 | zero =>
  intro i k out he hj hk ho
  obtain ⟨k, rfl⟩ : ∃ m, k = m + 1 := ⟨k - 1, by omega⟩
  obtain rfl : i = l.length := by omega
  simp only [impl_Complex_pairs.l0]
  rw [if_neg (by omega), List.drop_eq_nil_of_le (by omega)]
  simp
 | succ e ih =>
  intro i k out he hj hk ho
  obtain ⟨k, rfl⟩ : ∃ m, k = m + 1 := ⟨k - 1, by omega⟩
  have hil : i < l.length := by omega
  have HWi : Aside0 (wrap64 ((i : Int) + 1) = ((i + 1 : Nat) : Int)) := ⟨by rw [w64 _ (by omega) (by omega)]; omega⟩
  have h1 := pairs_l1 hi l[i] (i : Int) l l.length 0 k out (by omega) (by omega) (by omega) (by omega)
  rw [show ((0 : Nat) : Int) = 0 from rfl, List.drop_zero, HWi.out] at h1
  have hfl := List.length_filter_le (fun b => pairK l ⟨l[i], b⟩) l
  simp only [impl_Complex_pairs.l0]
  rw [if_pos (by omega), if_pos (by omega), if_pos (by omega), rd_nat l i hil, h1, ih (i + 1) _ _ (by omega) (by omega) (by omega) (by rw [List.length_append, List.length_map]; omega), List.drop_eq_getElem_cons hil, List.flatMap_cons, List.append_assoc]
theorem pairs_is {n : Int} {l : List Int} (hi : isC n l = true) (k : Nat) (hk : 5000 ≤ k) : impl_Complex_pairs.f k n l = some (pairsL l) := by
 have h63 := (isC_faces hi).2.2.2
 unfold impl_Complex_pairs.f pairsL
 have := pairs_l0 hi l.length 0 k [] (by omega) (by omega) (by omega) (by simp)
 rw [show ((0 : Nat) : Int) = 0 from rfl, List.drop_zero, List.nil_append] at this
 exact this

end Go.Proofs.Ytniikppojffiaaa.K
end

section
/- Sets of numbers as maps from numbers to bools that the call makes. -/
namespace Go.Proofs.Ytniikppojffiaaa.K
open Go.RowKit Go.Shelf Go.Proofs.YtniikppojffiaaaW.PrintWords Go.Proofs.YtniikppojffiaaaW.PrintLast Go.Proofs.YtniikppojffiaaaW.PrintMore
open Go.Maps (Keyed IsMap)
set_option linter.unusedVariables false
set_option linter.unusedSimpArgs false

abbrev TMap : TypeId := 76
theorem keyLaw : Keyed Try.prog 2 := Go.Maps.int_keyed Try.underlying2
theorem zeroBool (w : World) : (zeroValue 4).run Try.prog w = .ok (.bool false) w := by kernel_rfl
/-- How the set changes where x is stored. -/
def upd (S : Int → Bool) (x : Int) (v : Bool) : Int → Bool := fun y => if y = x then v else S y

/-- Block b is a map of at most n entries that reads as the set S. -/
def SetM (w : World) (b n : Nat) (S : Int → Bool) : Prop :=
 ∃ D : DataW Unit, w.ownsMap Try.prog 2 (plainElem Try.prog 4) b n D ∧ IsMap D ∧ ∀ x, (Lit.int .i64 x).wf = true → D.atKey (.int .i64 x) (.lit (.bool false)) = .lit (.bool (S x))
theorem SetM_made (w : World) : SetM (w.alloc (.map #[] 0)) w.heap.size 0 (fun _ => false) := ⟨.map [], World.ownsMap_made _ _ _ _, Go.Maps.isMap_empty, fun x _ => rfl⟩
theorem SetM.lt {w : World} {b n : Nat} {S : Int → Bool} (h : SetM w b n S) : b < w.heap.size := by
 obtain ⟨D, ho, _⟩ := h
 exact ho.lt
theorem SetM.same {w w' : World} {b n : Nat} {S : Int → Bool} (h : SetM w b n S) (he : w'.heap[b]? = w.heap[b]?) : SetM w' b n S := by
 obtain ⟨D, ⟨es, clock, hb, F, hs, hD⟩, h2, h3⟩ := h
 exact ⟨D, ⟨es, clock, he.trans hb, F, hs, hD⟩, h2, h3⟩
theorem SetM.kept {w w' : World} {b n : Nat} {S : Int → Bool} {T : Nat → Prop} (h : SetM w b n S) (hk : Kept w w' T) (hb : ¬ T b) : SetM w' b n S := h.same (hk.2 b h.lt hb)
theorem SetM.later {w w' : World} {b n : Nat} {S : Int → Bool} (h : SetM w b n S) (hg : Grew w w') : SetM w' b n S := h.kept (Kept.of_below hg (fun _ => False)) (fun h => h)
theorem SetM.mono {w : World} {b n m : Nat} {S : Int → Bool} (h : SetM w b n S) (hn : n ≤ m) : SetM w b m S := by
 obtain ⟨D, ho, h2⟩ := h
 exact ⟨D, ho.mono hn, h2⟩
theorem SetM.cong {w : World} {b n : Nat} {S S' : Int → Bool} (h : SetM w b n S) (hs : ∀ x, (Lit.int .i64 x).wf = true → S x = S' x) : SetM w b n S' := by
 obtain ⟨D, ho, h2, h3⟩ := h
 exact ⟨D, ho, h2, fun x hx => by rw [h3 x hx, hs x hx]⟩
theorem boolElem_inv {H : Type} {P : Program} {e : TypeId} (he : P.underlying e = some .bool) {v : Value} {b : Bool} {ps : List MemPlace} (h : plainElem (H := H) P e v = some (.lit (.bool b), ps)) : v = .bool b := by
 unfold plainElem at h
 rw [he] at h
 cases v <;> simp at h
 rw [h.1]
theorem SetM.look {w : World} {b n : Nat} {S : Int → Bool} (h : SetM w b n S) (x : Int) (hx : (Lit.int .i64 x).wf = true) :
  (Instr.lookup TMap (.map (some b)) (I x) false).run Try.prog w = .ok (.bool (S x)) w := by
 obtain ⟨D, ho, _, h3⟩ := h
 obtain ⟨v, ps, hrun, hv⟩ := ho.lookup keyLaw Try.underlying76 (zeroBool w) (plainElem_bool Try.underlying4 false) (Go.Maps.keyOf_int_mk Try.underlying2 hx)
 rw [h3 x hx] at hv
 rw [hrun, boolElem_inv Try.underlying4 hv]
theorem SetM.store {w : World} {b n : Nat} {S : Int → Bool} (h : SetM w b n S) (hn : n < 1000000000) (x : Int) (hx : (Lit.int .i64 x).wf = true) (v : Bool) :
  ∃ w', (Instr.mapUpdate TMap (.map (some b)) (I x) (.bool v)).run Try.prog w = .ok () w' ∧ SetM w' b (n + 1) (upd S x v) ∧ w.grownBy w' (some b) := by
 obtain ⟨D, ho, hm, h3⟩ := h
 obtain ⟨w', hrun, ho', hg⟩ := ho.update keyLaw Try.underlying76 (by unfold maxLen; omega) (Go.Maps.keyOf_int_mk Try.underlying2 hx) (plainElem_bool Try.underlying4 v)
 refine ⟨w', hrun, ⟨_, ho', hm.put _ _, fun y hy => ?_⟩, hg⟩
 by_cases e : y = x
 ·subst e
  rw [Go.Maps.atKey_put_same hm (by simp [WideAt.IsKeyLit])]
  simp [upd]
 ·rw [Go.Maps.atKey_put_other (by simpa using e), h3 y hy]
  simp [upd, e]

section
variable {ops : Array Oper} {rest : List Oper} {o : Oper} {a : Act} {Q : Exit → Act → World → Prop}
end

end Go.Proofs.Ytniikppojffiaaa.K
end

section
/- Numbers at numbers as maps that the call makes. -/
namespace Go.Proofs.Ytniikppojffiaaa.K
open Go.RowKit Go.Shelf Go.Proofs.YtniikppojffiaaaW.PrintWords Go.Proofs.YtniikppojffiaaaW.PrintLast Go.Proofs.YtniikppojffiaaaW.PrintMore
open Go.Maps (Keyed IsMap)
set_option linter.unusedVariables false
set_option linter.unusedSimpArgs false

abbrev TMapI : TypeId := 97
theorem zeroInt (w : World) : (zeroValue 2).run Try.prog w = .ok (.int .i64 0) w := by kernel_rfl
/-- How the numbers change where v is stored at x. -/
def updI (S : Int → Int) (x v : Int) : Int → Int := fun y => if y = x then v else S y
/-- Block b is a map of at most n entries that reads as S. -/
def IntM (w : World) (b n : Nat) (S : Int → Int) : Prop :=
 ∃ D : DataW Unit, w.ownsMap Try.prog 2 (plainElem Try.prog 2) b n D ∧ IsMap D ∧ ∀ x, (Lit.int .i64 x).wf = true → D.atKey (.int .i64 x) (.lit (.int .i64 0)) = .lit (.int .i64 (S x))
theorem IntM_made (w : World) : IntM (w.alloc (.map #[] 0)) w.heap.size 0 (fun _ => 0) := ⟨.map [], World.ownsMap_made _ _ _ _, Go.Maps.isMap_empty, fun x _ => rfl⟩
theorem IntM.lt {w : World} {b n : Nat} {S : Int → Int} (h : IntM w b n S) : b < w.heap.size := by
 obtain ⟨D, ho, _⟩ := h
 exact ho.lt
theorem IntM.same {w w' : World} {b n : Nat} {S : Int → Int} (h : IntM w b n S) (he : w'.heap[b]? = w.heap[b]?) : IntM w' b n S := by
 obtain ⟨D, ⟨es, clock, hb, F, hs, hD⟩, h2, h3⟩ := h
 exact ⟨D, ⟨es, clock, he.trans hb, F, hs, hD⟩, h2, h3⟩
theorem IntM.kept {w w' : World} {b n : Nat} {S : Int → Int} {T : Nat → Prop} (h : IntM w b n S) (hk : Kept w w' T) (hb : ¬ T b) : IntM w' b n S := h.same (hk.2 b h.lt hb)
theorem IntM.later {w w' : World} {b n : Nat} {S : Int → Int} (h : IntM w b n S) (hg : Grew w w') : IntM w' b n S := h.kept (Kept.of_below hg (fun _ => False)) (fun h => h)
theorem IntM.cong {w : World} {b n : Nat} {S S' : Int → Int} (h : IntM w b n S) (hs : ∀ x, (Lit.int .i64 x).wf = true → S x = S' x) : IntM w b n S' := by
 obtain ⟨D, ho, h2, h3⟩ := h
 exact ⟨D, ho, h2, fun x hx => by rw [h3 x hx, hs x hx]⟩
theorem intElem_inv {H : Type} {P : Program} {e : TypeId} (he : P.underlying e = some (.int .i64)) {v : Value} {b : Int} {ps : List MemPlace} (h : plainElem (H := H) P e v = some (.lit (.int .i64 b), ps)) : v = .int .i64 b := by
 obtain ⟨c, rfl, hc, _⟩ := plainElem_int_inv he h
 injection hc with h1 h2
 injection h1 with h1
 injection h1 with h1 h3
 rw [h3]
theorem IntM.look {w : World} {b n : Nat} {S : Int → Int} (h : IntM w b n S) (x : Int) (hx : (Lit.int .i64 x).wf = true) :
  (Instr.lookup TMapI (.map (some b)) (I x) false).run Try.prog w = .ok (I (S x)) w := by
 obtain ⟨D, ho, _, h3⟩ := h
 obtain ⟨v, ps, hrun, hv⟩ := ho.lookup keyLaw Try.underlying97 (zeroInt w) (plainElem_int Try.underlying2 (a := 0) (by decide)) (Go.Maps.keyOf_int_mk Try.underlying2 hx)
 rw [h3 x hx] at hv
 rw [hrun, intElem_inv Try.underlying2 hv]
theorem IntM.store {w : World} {b n : Nat} {S : Int → Int} (h : IntM w b n S) (hn : n < 1000000000) (x : Int) (hx : (Lit.int .i64 x).wf = true) (v : Int) (hv : (Lit.int .i64 v).wf = true) :
  ∃ w', (Instr.mapUpdate TMapI (.map (some b)) (I x) (I v)).run Try.prog w = .ok () w' ∧ IntM w' b (n + 1) (updI S x v) ∧ w.grownBy w' (some b) := by
 obtain ⟨D, ho, hm, h3⟩ := h
 obtain ⟨w', hrun, ho', hg⟩ := ho.update keyLaw Try.underlying97 (by unfold maxLen; omega) (Go.Maps.keyOf_int_mk Try.underlying2 hx) (plainElem_int Try.underlying2 hv)
 refine ⟨w', hrun, ⟨_, ho', hm.put _ _, fun y hy => ?_⟩, hg⟩
 by_cases e : y = x
 ·subst e
  rw [Go.Maps.atKey_put_same hm (by simp [WideAt.IsKeyLit])]
  simp [updI]
 ·rw [Go.Maps.atKey_put_other (by simpa using e), h3 y hy]
  simp [updI, e]

section
variable {ops : Array Oper} {rest : List Oper} {o : Oper} {a : Act} {Q : Exit → Act → World → Prop}
end

end Go.Proofs.Ytniikppojffiaaa.K
end

section
/- slices.DeleteFunc over rows of pairs of the call's own. -/
namespace Go.Proofs.Ytniikppojffiaaa.K
open Go.RowKit Go.Shelf Go.Proofs.Ytniikppojffiaaa.Q Go.Proofs.YtniikppojffiaaaW.PrintWords Go.Proofs.YtniikppojffiaaaW.PrintLast Go.Proofs.YtniikppojffiaaaW.PrintMore
set_option linter.unusedVariables false
set_option linter.unusedSimpArgs false

theorem zeroCells_two (n : Nat) : (Builtin.zeroCells #[I 0, I 0] n).toList = List.replicate (2 * n) (I 0) := by
 unfold Builtin.zeroCells
 apply List.ext_getElem
 ·simp; omega
 ·intro i h1 h2
  simp only [Array.getElem_toList, Array.getElem_ofFn, List.getElem_replicate]
  have : i % 2 = 0 ∨ i % 2 = 1 := by omega
  rcases this with h | h <;> simp [h]
theorem run_clear_pairs (w : World) (ty : TypeId) (b o n c : Nat) (hn : 0 < n)
  (hc : ∀ j, j < 2 * n → (w.cell? ⟨b, o + j, none⟩).isSome = true) (hf : ∀ j, j < 2 * n → w.frozen? ⟨b, o + j, none⟩ = false) :
  (Builtin.clear_ #[32] ty #[.slice (some ⟨b, o, none⟩) n c]).run Try.prog w = .ok (.tuple #[]) (w.setCells b o (List.replicate (2 * n) (I 0))) := by
 have hv : ∀ w, (zeroValue 53).run Try.prog w = .ok (.agg #[I 0, I 0]) w := fun w => by kernel_rfl
 have hz : (Value.agg #[I 0, I 0]).cells = #[I 0, I 0] := by simp [Value.cells]
 have hst := run_storeCells_cells (P := Try.prog) b o (List.replicate (2 * n) (I 0)) 0 w (by simpa using hc) (by simpa using hf) (by intro v hv'; rw [List.eq_of_mem_replicate hv']; rfl)
 simp only [Nat.add_zero] at hst
 have hzc := zeroCells_two n
 obtain ⟨m, rfl⟩ : ∃ m, n = m + 1 := ⟨n - 1, by omega⟩
 simp [Builtin.clear_, run_underlying Try.underlying32, hv, hz, hzc, hst]
theorem Rq.clear {base : Nat} {ok : Nat → Prop} {G n c : Nat} : ∀ (m i : Nat) (W : World) (xs : List PairT), i + m ≤ xs.length → Kq.R 53 W base ok (.slice (some ⟨G, 0, none⟩) n c) xs →
  ∃ ys : List PairT, ys.take i = xs.take i ∧ ys.length = xs.length ∧ Kq.R 53 (W.setCells G (i * 2) (List.replicate (2 * m) (I 0))) base ok (.slice (some ⟨G, 0, none⟩) n c) ys
 | 0, i, W, xs, hl, h => ⟨xs, rfl, rfl, h⟩
 | m + 1, i, W, xs, hl, h => by
  have h1 := Kq_put0 h i (by omega) 0
  have h2 := Kq_put1 h1 i (by rw [List.length_set]; omega) 0
  rw [List.set_set] at h2
  obtain ⟨ys, e1, e2, e3⟩ := Rq.clear m (i + 1) _ _ (by rw [List.length_set]; omega) h2
  refine ⟨ys, ?_, by rw [e2, List.length_set], ?_⟩
  ·have := congrArg (List.take i) e1
   rw [List.take_take, List.take_take, List.take_set, List.set_eq_of_length_le (by simp; omega)] at this
   simpa [Nat.min_eq_left (Nat.le_succ i)] using this
  ·rw [Nat.succ_mul] at e3
   exact e3
theorem del_keepP (q : PairT → Bool) (l xs : List PairT) (i j : Nat) (hij : i < j) (hj : j < l.length) (hx : xs.length = l.length) (h1 : xs.take i = (l.take j).filter q) (h2 : xs.drop j = l.drop j) (hp : q l[j] = true) :
  (xs.set i l[j]).take (i + 1) = (l.take (j + 1)).filter q ∧ (xs.set i l[j]).drop (j + 1) = l.drop (j + 1) := by
 constructor
 ·rw [List.take_succ_eq_append_getElem hj, List.filter_append, ← h1, List.take_set, List.take_succ_eq_append_getElem (show i < xs.length by omega), List.set_append_right _ _ (by simp; omega)]
  simp [hp]
  have : i - min i xs.length = 0 := by omega
  rw [this]
  rfl
 ·rw [List.drop_set_of_lt (by omega)]
  have := congrArg (List.drop 1) h2
  simpa using this
theorem del_skipP (q : PairT → Bool) (l xs : List PairT) (i j : Nat) (hj : j < l.length) (h1 : xs.take i = (l.take j).filter q) (h2 : xs.drop j = l.drop j) (hp : q l[j] = false) :
  xs.take i = (l.take (j + 1)).filter q ∧ xs.drop (j + 1) = l.drop (j + 1) := by
 constructor
 ·rw [List.take_succ_eq_append_getElem hj, List.filter_append, ← h1]
  simp [hp]
 ·have := congrArg (List.drop 1) h2
  simpa using this
theorem del_getP (l xs : List PairT) (j : Nat) (hj : j < l.length) (hx : xs.length = l.length) (h2 : xs.drop j = l.drop j) : xs[j]'(by omega) = l[j] := by
 rw [List.drop_eq_getElem_cons hj, List.drop_eq_getElem_cons (show j < xs.length by omega)] at h2
 injection h2
theorem idx_someP {p : PairT → Bool} {l : List PairT} (h : idx p l ≠ -1) : ∃ i : Nat, idx p l = i ∧ ∃ hi : i < l.length, p l[i] = true ∧ ∀ j (hj : j < i), p (l[j]'(by omega)) = false := by
 unfold idx at h ⊢
 cases hf : l.findIdx? p with
 | none => rw [hf] at h; exact absurd rfl h
 | some i =>
  rw [List.findIdx?_eq_some_iff_getElem] at hf
  obtain ⟨hi, hp, hn⟩ := hf
  exact ⟨i, rfl, hi, hp, fun j hj => by have := hn j hj; simpa using this⟩
theorem idx_noneP {p : PairT → Bool} {l : List PairT} (h : idx p l = -1) : l.filter (fun x => !p x) = l := by
 unfold idx at h
 cases hf : l.findIdx? p with
 | some i => rw [hf] at h; have : ((i : Int)) = -1 := h; omega
 | none =>
  rw [List.findIdx?_eq_none_iff] at hf
  rw [List.filter_eq_self]
  intro x hx
  simp [hf x hx]
theorem del_startP {p : PairT → Bool} {l : List PairT} {i : Nat} (hi : i < l.length) (hp : p l[i] = true) (hn : ∀ j (hj : j < i), p (l[j]'(by omega)) = false) : l.take i = (l.take (i + 1)).filter (fun x => !p x) := by
 rw [List.take_succ_eq_append_getElem hi, List.filter_append]
 have : (l.take i).filter (fun x => !p x) = l.take i := by
  rw [List.filter_eq_self]
  intro x hx
  obtain ⟨j, hj, rfl⟩ := List.mem_iff_getElem.1 hx
  rw [List.length_take] at hj
  rw [List.getElem_take, hn j (by omega)]
  rfl
 rw [this]
 simp [hp]

set_option maxRecDepth 100000 in
set_option maxHeartbeats 4000000 in
theorem DeleteFunc_pair (p : PairT → Bool) (base : Nat) (v : Value) (l : List PairT) (g : Nat) (first caps : Array Value) (w : World) (hbase : base ≤ w.heap.size) (hR : Kq.R 53 w base (fun _ => True) v l) (hbig : l.length ≤ 1000000000) (eg : EntersG g)
  (hp : ∀ x, x ∈ l → ∀ W, Below base w W → Calls Try.prog g (first.push (.agg #[I x.f0, I x.f1]) ++ caps) W fun e w' => e = .returned (.bool (p x)) ∧ Grew W w') :
  Calls Try.prog 138 #[v, .func (.func g) first caps] w fun e w' => ∃ v', e = .returned v' ∧ Kq.R 53 w' base (fun _ => True) v' (l.filter fun x => !p x) ∧ Below base w w' := by
 obtain ⟨A, c, hv, hc, hC⟩ := Kd.R_reads hR
 subst hv
 have H := Aside0.mk (IndexFunc_pair p A c l g first caps w hC hc (by omega) eg (fun x hx W hW => hp x hx W (hW.mono hbase)))
 have HR := Aside0.mk hR
 have HP := Aside0.mk hp
 have HC := Aside0.mk hc
 clear hR hp hC hc
 by_cases hi : idx p l = -1
 ·have HV := Aside0.mk (idx_noneP hi)
  rw [hi] at H
  rw [HV.out]
  go_enter Try.func138, Try.ntmps138
  go_wp2_with fail
  refine H.out.mono ?_
  rintro e w1 ⟨rfl, hG1⟩
  go_wp2_with fail
  go_ret
  exact ⟨_, rfl, Kd.R_below HR.out hG1, hG1.mono hbase⟩
 ·obtain ⟨i0, he, hi0, hp0, hn0⟩ := idx_someP hi
  rw [he] at H hi
  have HS := Aside0.mk (del_startP hi0 hp0 hn0)
  clear hn0 hp0 he
  go_enter Try.func138, Try.ntmps138
  go_wp2_with fail
  refine H.out.mono ?_
  rintro e w1 ⟨rfl, hG1⟩
  have HR1 := Aside0.mk (Kd.R_below HR.out hG1)
  have HG1 : Aside0 (Below base w w1) := ⟨hG1.mono hbase⟩
  clear hG1 H HR
  obtain ⟨G, cc, eo, gb, gl, _⟩ := Kd.R_form HR1.out (by omega)
  injection eo with ea en ec
  subst ea ec
  clear en
  go_wp2_with fail
  go_loopg [5, 6] l.length (fun gg s5 s6 wr => ∃ (i j : Nat) (xs : List PairT), s5 = .int .i64 i ∧ s6 = .int .i64 j ∧ i < j ∧ j ≤ l.length ∧ l.length - j ≤ gg ∧ xs.length = l.length ∧
   Aside0 (xs.take i = (l.take j).filter (fun x => !p x)) ∧ Aside0 (xs.drop j = l.drop j) ∧ Aside0 (Kq.R 53 wr base (fun _ => True) (.slice (some ⟨G, 0, none⟩) l.length c) xs) ∧ Aside0 (Below base w wr))
  case atStart => exact ⟨i0, i0 + 1, l, rfl, by go_num, by omega, by omega, by omega, rfl, HS, ⟨rfl⟩, HR1, HG1⟩
  case round =>
   obtain ⟨i, j, xs, rfl, rfl, hij, hj, hg, hxl, HT, HD, HRr, HGr⟩ := hrel
   by_cases hlt : j < l.length
   ·have hltz : (j : Int) < (l.length : Int) := by omega
    obtain ⟨hx, hx1, _, _⟩ := Kq_cells HRr.out j (by omega)
    have hrd : xs[j]'(by omega) = l[j] := del_getP l xs j hlt hxl HD.out
    rw [hrd] at hx hx1
    have hcall := HP.out l[j] (List.getElem_mem hlt)
    have HK := Aside0.mk (fun h => del_keepP (fun x => !p x) l xs i j hij hlt hxl HT.out HD.out h)
    have HS2 := Aside0.mk (fun h => del_skipP (fun x => !p x) l xs i j hlt HT.out HD.out h)
    clear hrd
    generalize l[j] = y at hx hx1 hcall HK HS2
    have HCL := Aside0.mk (fun W (h : Grew wr W) => hcall W (Below.trans HGr.out (h.mono (Nat.le_trans hbase HGr.out.size))))
    clear hcall
    cases hq : p y with
    | false =>
     rw [hq] at HCL
     have HK2 := Aside0.mk (HK.out (by simp [hq]))
     clear HK HS2
     go_wp2_with fail
     refine (HCL.out _ (below_alloc (Grew.refl wr) _)).mono ?_
     rintro e w2 ⟨rfl, hG2⟩
     have HP2 := Aside0.mk (blk_below (blk_new wr (.cells #[I y.f0, I y.f1] 53)) hG2)
     have b0 := blk_cell HP2.out 0
     have b1 := blk_cell HP2.out 1
     replace hG2 := Grew.trans (below_alloc (Grew.refl wr) (.cells #[I y.f0, I y.f1] 53)) hG2
     have HR2 := Aside0.mk (Kd.R_below HRr.out hG2)
     have HG2 := Aside0.mk (Below.trans HGr.out (hG2.mono (Nat.le_trans hbase HGr.out.size)))
     obtain ⟨hy, hy1, hf, hf1⟩ := Kq_cells HR2.out i (by omega)
     have HW := Aside0.mk (Kq_put1 (Kq_put0 HR2.out i (by omega) y.f0) i (by rw [List.length_set]; omega) y.f1)
     rw [List.set_set] at HW
     clear HCL hx hx1 hG2
     go_wp2_with fail
     go_roundg (l.length - (j + 1))
     case measure => omega
     case rel => exact ⟨i + 1, j + 1, xs.set i y, by go_num, by go_num, by omega, by omega, by omega, by rw [List.length_set]; exact hxl, ⟨HK2.out.1⟩, ⟨HK2.out.2⟩, ⟨by have := HW.out; simpa using this⟩, ⟨Below.setCell (Below.setCell HG2.out gb _) gb _⟩⟩
    | true =>
     rw [hq] at HCL
     have HK2 := Aside0.mk (HS2.out (by simp [hq]))
     clear HK HS2
     go_wp2_with fail
     refine (HCL.out _ (below_alloc (Grew.refl wr) _)).mono ?_
     rintro e w2 ⟨rfl, hG2⟩
     have HP2 := Aside0.mk (blk_below (blk_new wr (.cells #[I y.f0, I y.f1] 53)) hG2)
     have b0 := blk_cell HP2.out 0
     have b1 := blk_cell HP2.out 1
     replace hG2 := Grew.trans (below_alloc (Grew.refl wr) (.cells #[I y.f0, I y.f1] 53)) hG2
     have HR2 := Aside0.mk (Kd.R_below HRr.out hG2)
     have HG2 := Aside0.mk (Below.trans HGr.out (hG2.mono (Nat.le_trans hbase HGr.out.size)))
     clear HCL hx hx1 hG2
     go_wp2_with fail
     go_roundg (l.length - (j + 1))
     case measure => omega
     case rel => exact ⟨i, j + 1, xs, rfl, by go_num, by omega, by omega, by omega, hxl, ⟨HK2.out.1⟩, ⟨HK2.out.2⟩, HR2, HG2⟩
   ·obtain rfl : j = l.length := by omega
    have hltz : ¬ (l.length : Int) < (l.length : Int) := by omega
    have HT2 : Aside0 (xs.take i = l.filter (fun x => !p x)) := ⟨by have := HT.out; rwa [List.take_length] at this⟩
    clear HT HD
    have hcl : ∀ ty, (Builtin.clear_ #[32] ty #[.slice (some ⟨G, i * 2, none⟩) (l.length - i) (c - i)]).run Try.prog wr = .ok (.tuple #[]) (wr.setCells G (i * 2) (List.replicate (2 * (l.length - i)) (I 0))) :=
     fun ty => run_clear_pairs wr ty G (i * 2) _ _ (by omega) (fun t ht => by
      obtain ⟨h1, h2, _, _⟩ := Kq_cells HRr.out (i + t / 2) (by omega)
      rcases Nat.mod_two_eq_zero_or_one t with h | h
      ·rw [show i * 2 + t = (i + t / 2) * 2 by omega, h1]; rfl
      ·rw [show i * 2 + t = (i + t / 2) * 2 + 1 by omega, h2]; rfl) (fun t ht => by
      obtain ⟨_, _, h1, h2⟩ := Kq_cells HRr.out (i + t / 2) (by omega)
      rcases Nat.mod_two_eq_zero_or_one t with h | h
      ·rw [show i * 2 + t = (i + t / 2) * 2 by omega, h1]
      ·rw [show i * 2 + t = (i + t / 2) * 2 + 1 by omega, h2])
    have hic : i < c := by have := HC.out; omega
    go_wp2_with fail
    go_ret
    obtain ⟨ys, h1, h2, h3⟩ := Rq.clear (l.length - i) i wr xs (by omega) HRr.out
    refine ⟨_, rfl, ?_, below_setCells gb _ _ _ HGr.out⟩
    have h4 := Kd.R_take h3 (m := i) (by omega)
    rw [h1, HT2.out] at h4
    exact h4


end Go.Proofs.Ytniikppojffiaaa.K
end

section
/- The values of a function by faces; the falling pairs. -/
namespace Go.Proofs.Ytniikppojffiaaa.K
open Go.RowKit Go.Shelf Go.Proofs.Ytniikppojffiaaa.Q Go.Proofs.YtniikppojffiaaaW.PrintWords Go.Proofs.YtniikppojffiaaaW.PrintLast Go.Proofs.YtniikppojffiaaaW.PrintMore
set_option linter.unusedVariables false
set_option linter.unusedSimpArgs false

/-- What the map holds behind i rounds. -/
def valI (l f : List Int) : Nat → Int → Int
 | 0 => fun _ => 0
 | i + 1 => updI (valI l f i) (l.getD i 0) (f.getD i 0)
theorem atV_app : ∀ (a b : List Int) (x0 y0 x : Int), b.length = a.length → x0 ∉ a → atV (a ++ [x0]) (b ++ [y0]) x = if x = x0 then y0 else atV a b x
 | [], [], x0, y0, x, _, _ => by
  simp only [List.nil_append, atV]
  by_cases h : x0 = x
  ·rw [if_pos h, if_pos h.symm]
  ·rw [if_neg h, if_neg (fun e => h e.symm)]
 | [], _ :: _, _, _, _, h, _ => by simp at h
 | _ :: _, [], _, _, _, h, _ => by simp at h
 | a :: xs, b :: ys, x0, y0, x, h, hn => by
  have hl : ys.length = xs.length := by simpa using h
  have hne : x0 ≠ a := fun e => hn (by rw [e]; exact List.mem_cons_self)
  have hn2 : x0 ∉ xs := fun e => hn (List.mem_cons_of_mem _ e)
  simp only [List.cons_append, atV]
  rw [atV_app xs ys x0 y0 x hl hn2]
  by_cases h1 : a = x
  ·rw [if_pos h1, if_pos h1, if_neg (fun e => hne (by rw [h1, ← e]))]
  ·rw [if_neg h1, if_neg h1]
theorem val_take (l f : List Int) (hs : l.Pairwise (· < ·)) (hl : f.length = l.length) : ∀ i, i ≤ l.length → ∀ x, valI l f i x = atV (l.take i) (f.take i) x
 | 0, _, x => by simp [valI, atV]
 | i + 1, h, x => by
  have hif : i < f.length := by omega
  rw [List.take_succ_eq_append_getElem (show i < l.length by omega), List.take_succ_eq_append_getElem hif, atV_app _ _ _ _ _ (by simp [hl]) (fun hm => by
   obtain ⟨j, hj, e⟩ := List.mem_iff_getElem.1 hm
   rw [List.length_take] at hj
   rw [List.getElem_take] at e
   have := List.pairwise_iff_getElem.1 hs j i (by omega) (by omega) (by omega)
   omega), ← val_take l f hs hl i (by omega) x]
  show (if x = l.getD i 0 then f.getD i 0 else valI l f i x) = _
  have e1 : l.getD i 0 = l[i] := by simp [show i < l.length by omega]
  have e2 : f.getD i 0 = f[i] := by simp [hif]
  rw [e1, e2]
theorem val_all (l f : List Int) (hs : l.Pairwise (· < ·)) (hl : f.length = l.length) (x : Int) : valI l f l.length x = atV l f x := by
 rw [val_take l f hs hl _ (Nat.le_refl _) x, List.take_length, ← hl, List.take_length]
set_option maxRecDepth 100000 in
set_option maxHeartbeats 4000000 in
theorem values_calls {n : Int} (A : Option Addr) (c : Nat) {l : List Int} (hi : isC n l = true) (A2 : Option Addr) (c2 : Nat) {f : List Int} (hf : funB l f = true) (w : World) (hk : Kx w A c l) (hr : Ki.C w A2 f.length f) (hc2 : f.length ≤ c2) :
  Calls Try.prog 98 #[.agg #[I n, .slice A l.length c], .slice A2 f.length c2] w fun e w' => ∃ b, e = .returned (.map (some b)) ∧ w.heap.size ≤ b ∧ (∃ m, IntM w' b m (atV l f)) ∧ Grew w w' := by
 obtain ⟨hn, hs, hrg, h63⟩ := isC_faces hi
 have hl := funB_len hf
 have hv := funB_val hf
 obtain ⟨W0, hW0⟩ : ∃ W0, W0 = (w.alloc (.cells #[I n, .slice A l.length c] 30)).alloc (.map #[] 0) := ⟨_, rfl⟩
 have hB : CB W0 w.heap.size n (.slice A l.length c) := by rw [hW0]; exact blk_alloc (blk_new w _) _
 have hS : IntM W0 (w.heap.size + 1) 0 (fun _ => 0) := by
  rw [hW0]
  have := IntM_made (w.alloc (.cells #[I n, .slice A l.length c] 30))
  rwa [World.size_alloc] at this
 have hg : Grew w W0 := by rw [hW0]; exact below_alloc (below_alloc (Grew.refl w) _) _
 have HK := Aside0.mk hk
 have HQ := Aside0.mk hr
 have HC2 := Aside0.mk hc2
 have HB := Aside0.mk hB
 have HS := Aside0.mk hS
 have HG := Aside0.mk hg
 have HL := Aside0.mk hl
 have HV := Aside0.mk hv
 have HAV := Aside0.mk (fun x => val_all l f hs hl x)
 have HRG := Aside0.mk hrg
 have hc := hk.c
 have k1 := hB.c1
 have hmm := @run_makeMap Try.prog
 have hlc : l.length ≤ 63 := h63
 clear hk hr hc2 hi hB hS hg hv hrg hs hf hl
 subst hW0
 go_enter Try.func98, Try.ntmps98
 go_wp2_with fail
 go_loopg [6, 7, 12] l.length (fun gg _ _ s12 wr => ∃ i : Nat, i ≤ l.length ∧ l.length - i ≤ gg ∧ s12 = .int .i64 i ∧ Aside0 (IntM wr (w.heap.size + 1) i (valI l f i)) ∧ Aside0 (Grew w wr))
 case atStart => exact ⟨0, Nat.zero_le _, by omega, rfl, HS, HG⟩
 case round =>
  obtain ⟨i, hi1, hgg, rfl, HSr, HGr⟩ := hrel
  by_cases hlt : i < l.length
  ·have hltz : (i : Int) < (l.length : Int) := by omega
   have hif : i < f.length := by have := HL.out; omega
   have hifz : (i : Int) < (f.length : Int) := by omega
   obtain ⟨ad, e0, hx⟩ := Kd.at_int (Kd.C_below HK.out.r HGr.out) (i : Int) (by omega) (by omega)
   obtain ⟨ad2, e2, hy⟩ := Kd.at_int (Kd.C_below HQ.out HGr.out) (i : Int) (by omega) (by omega)
   cases e0
   cases e2
   have hrd : rd l (i : Int) = l[i] := by simp [rd, hlt]
   have hrd2 : rd f (i : Int) = f[i] := by simp [rd, hif]
   rw [hrd, Int.toNat_natCast] at hx
   rw [hrd2, Int.toNat_natCast] at hy
   have HVS : Aside0 (valI l f (i + 1) = updI (valI l f i) l[i] f[i]) := ⟨by
    show updI (valI l f i) (l.getD i 0) (f.getD i 0) = _
    simp [hlt, hif]⟩
   have HR1 := HRG.out _ (List.getElem_mem hlt)
   have HR2 := HV.out _ (List.getElem_mem hif)
   have HW1 := Aside0.mk (wf_face HR1.1 HR1.2.2)
   have HW2 : Aside0 ((Lit.int .i64 f[i]).wf = true) := ⟨WalkArith.wf_i64 (by omega)⟩
   clear hrd hrd2 HR1 HR2
   generalize l[i] = x at hx HVS HW1
   generalize f[i] = y at hy HVS HW2
   generalize valI l f i = S at HSr HVS
   obtain ⟨w5, hr5, hS5, hg5⟩ := HSr.out.store (by omega) x HW1.out y HW2.out
   have HS5 := Aside0.mk hS5
   have hbs := HSr.out.lt
   have HG5 := Aside0.mk (pw_below_grown HGr.out _ (HGr.out.size) hg5 (fun k hk => by cases hk; omega))
   clear hS5 hg5 hbs
   go_wp2_with fail
   go_roundg (l.length - (i + 1))
   case measure => omega
   case rel => exact ⟨i + 1, by omega, by omega, by go_num, ⟨by rw [HVS.out]; exact HS5.out⟩, HG5⟩
  ·have hltz : ¬ (i : Int) < (l.length : Int) := by omega
   obtain rfl : i = l.length := by omega
   go_wp2_with fail
   go_ret
   exact ⟨_, rfl, by omega, ⟨_, HSr.out.cong (fun x _ => HAV.out x)⟩, HGr.out⟩

set_option maxHeartbeats 2000000 in
theorem falling1_calls (p : PairT) {Bm b m : Nat} {S : Int → Int} (w : World) (hb : w.cell? ⟨Bm, 0, none⟩ = some (.map (some b))) (hS : IntM w b m S) (h0 : 1 ≤ p.f0 ∧ p.f0 ≤ 63) (h1 : 1 ≤ p.f1 ∧ p.f1 ≤ 63) :
  Calls Try.prog 139 #[.agg #[I p.f0, I p.f1], .pointer (some ⟨Bm, 0, none⟩)] w fun e w' => e = .returned (.bool (decide (S p.f0 < S p.f1))) ∧ Grew w w' := by
 have hg : Grew w (w.alloc (.cells #[I p.f0, I p.f1] 53)) := below_alloc (Grew.refl w) _
 have HG := Aside0.mk hg
 have hS1 := hS.later hg
 have hl0 := hS1.look p.f0 (wf_face h0.1 h0.2)
 have hl1 := hS1.look p.f1 (wf_face h1.1 h1.2)
 have hlt := World.block_lt_of_cell? w _ hb
 have hb1 : (w.alloc (.cells #[I p.f0, I p.f1] 53)).cell? ⟨Bm, 0, none⟩ = some (.map (some b)) := (Below.cell hg (p := ⟨Bm, 0, none⟩) hlt).trans hb
 clear hS hS1 h0 h1 hg hb
 generalize S p.f0 = x at hl0 ⊢
 generalize S p.f1 = y at hl1 ⊢
 go_enter Try.func139, Try.ntmps139
 go_wp2_with fail
 go_ret
 exact ⟨rfl, HG.out⟩
set_option maxHeartbeats 2000000 in
theorem pairs_calls {n : Int} (A : Option Addr) (c : Nat) {l : List Int} (hi : isC n l = true) (w : World) (hk : Kx w A c l) :
  Calls Try.prog 84 #[.agg #[I n, .slice A l.length c]] w fun e w' => ∃ v, e = .returned v ∧ Kq.R 53 w' w.heap.size (fun _ => True) v (pairsL l) ∧ Grew w w' :=
 impl_Complex_pairs.calls 5000 n A c l (pairsL l) w hk.r hk.c (pairs_is hi 5000 (Nat.le_refl _))
theorem pairs_len {n : Int} {l : List Int} (hi : isC n l = true) : (pairsL l).length ≤ 3969 := by
 have h63 := (isC_faces hi).2.2.2
 have : ∀ L : List Int, (L.flatMap fun a => (l.filter fun b => pairK l ⟨a, b⟩).map fun b => (⟨a, b⟩ : PairT)).length ≤ L.length * 63 := by
  intro L
  induction L with
  | nil => simp
  | cons a L ih =>
   have h1 : (l.filter fun b => pairK l ⟨a, b⟩).length ≤ l.length := List.length_filter_le _ _
   rw [List.flatMap_cons, List.length_append, List.length_map, List.length_cons]
   omega
 have := this l
 unfold pairsL
 omega
set_option maxHeartbeats 2000000 in
theorem falling_calls {n : Int} (A : Option Addr) (c : Nat) {l : List Int} (hi : isC n l = true) (A2 : Option Addr) (c2 : Nat) {f : List Int} (hf : funB l f = true) (w : World) (hk : Kx w A c l) (hr : Ki.C w A2 f.length f) (hc2 : f.length ≤ c2) :
  Calls Try.prog 94 #[.agg #[I n, .slice A l.length c], .slice A2 f.length c2] w fun e w' => ∃ v, e = .returned v ∧ Kq.R 53 w' w.heap.size (fun _ => True) v (fallL l f) ∧ Grew w w' := by
 have hB : CB (w.alloc (.cells #[I n, .slice A l.length c] 30)) w.heap.size n (.slice A l.length c) := blk_new w _
 have hg : Grew w (w.alloc (.cells #[I n, .slice A l.length c] 30)) := below_alloc (Grew.refl w) _
 have k0 := hB.c0
 have k1 := hB.c1
 have HV := Aside0.mk (values_calls A c hi A2 c2 hf _ (hk.later hg) (Kd.C_below hr hg) hc2)
 have HK := Aside0.mk hk
 have HB := Aside0.mk hB
 have HG := Aside0.mk hg
 have HI := Aside0.mk hi
 clear hk hr hc2 hB hg hi
 go_enter Try.func94, Try.ntmps94
 go_wp2_with fail
 refine HV.out.mono ?_
 rintro e w1 ⟨b, rfl, hb0, ⟨m, hS⟩, hG1⟩
 have hb1 : b < w1.heap.size := hS.lt
 have hX := blk_new w1 (.cells #[.map (some b)] 97)
 have hgx : Grew w1 (w1.alloc (.cells #[.map (some b)] 97)) := below_alloc (Grew.refl w1) _
 have HX := Aside0.mk hX
 have hB2 : CB (w1.alloc (.cells #[.map (some b)] 97)) w.heap.size n (.slice A l.length c) := blk_below (blk_below HB.out hG1) hgx
 have HG2 := Aside0.mk (Grew.trans (Grew.trans HG.out hG1) hgx)
 have HS2 := Aside0.mk (hS.later hgx)
 have HP := Aside0.mk (pairs_calls A c HI.out _ (HK.out.later HG2.out))
 have hsz : (w1.alloc (.cells #[.map (some b)] 97)).heap.size = w1.heap.size + 1 := World.size_alloc _ _
 have HZ := Aside0.mk hsz
 have HB1 := Aside0.mk hb1
 clear k0 k1 hS hX hgx hG1 hb0 hb1 hsz
 have k0 := hB2.c0
 have k1 := hB2.c1
 go_wp2_with fail
 refine HP.out.mono ?_
 rintro e w3 ⟨v, rfl, hR, hG3⟩
 have hs3 := hG3.size
 have H := Aside0.mk (DeleteFunc_pair (fun p => decide (atV l f p.f0 < atV l f p.f1)) _ v (pairsL l) 139 #[] #[.pointer (some ⟨w1.heap.size, 0, none⟩)] w3 hs3 hR (Nat.le_trans (pairs_len HI.out) (by decide)) (enters_of Try.func139 (by kernel_rfl) rfl)
  (fun x hx W hW => by
   have hW2 := Grew.trans (hG3.mono (Nat.le_refl _)) (Grew.refl w3)
   have hk2 := Below.trans hG3 hW
   have hb := hk2.block w1.heap.size (by rw [HZ.out]; omega)
   have hbm := hk2.block b (by rw [HZ.out]; have := HB1.out; omega)
   have hm := mem_pairs.1 hx
   have hr0 := range63 HI.out _ hm.1
   have hr1 := range63 HI.out _ hm.2.1
   exact falling1_calls x W (blk_cell (hb.trans HX.out) 0) (HS2.out.same hbm) hr0 hr1))
 clear hR hs3
 have HG3 := Aside0.mk (Grew.trans HG2.out hG3)
 have HG3b := Aside0.mk hG3
 clear hG3 k0 k1
 go_wp2_with fail
 refine H.out.mono ?_
 rintro e w4 ⟨v4, rfl, hR4, hG4⟩
 go_wp2_with fail
 go_ret
 exact ⟨_, rfl, Kd.R_lower hR4 (by rw [HZ.out]; have := HG2.out.size; rw [HZ.out] at this; omega), Below.trans HG3.out (hG4.mono HG2.out.size)⟩

end Go.Proofs.Ytniikppojffiaaa.K
end

section
/- isMorse. -/
namespace Go.Proofs.Ytniikppojffiaaa.K
open Go.RowKit Go.Shelf Go.Proofs.Ytniikppojffiaaa.Q Go.Proofs.YtniikppojffiaaaW.PrintWords Go.Proofs.YtniikppojffiaaaW.PrintLast Go.Proofs.YtniikppojffiaaaW.PrintMore
set_option linter.unusedVariables false
set_option linter.unusedSimpArgs false

def lowS (q : List PairT) (i : Nat) (x : Int) : Bool := (q.take i).any fun r => r.f0 == x
def highS (q : List PairT) (i : Nat) (x : Int) : Bool := (q.take i).any fun r => r.f1 == x
theorem lowS_succ (q : List PairT) (i : Nat) (hi : i < q.length) (x : Int) : upd (lowS q i) q[i].f0 true x = lowS q (i + 1) x := by
 unfold lowS upd
 rw [List.take_succ_eq_append_getElem hi, List.any_append]
 by_cases h : x = q[i].f0
 ·simp [h]
 ·have : (q[i].f0 == x) = false := by simpa using fun e => h e.symm
  simp [h, this]
theorem highS_succ (q : List PairT) (i : Nat) (hi : i < q.length) (x : Int) : upd (highS q i) q[i].f1 true x = highS q (i + 1) x := by
 unfold highS upd
 rw [List.take_succ_eq_append_getElem hi, List.any_append]
 by_cases h : x = q[i].f1
 ·simp [h]
 ·have : (q[i].f1 == x) = false := by simpa using fun e => h e.symm
  simp [h, this]
theorem okM_eq (q : List PairT) (i : Nat) (p : PairT) : okM q i p = (!lowS q i p.f0 && !highS q i p.f1) := rfl
theorem morseQ_false {q : List PairT} {i : Nat} (hi : i < q.length) (h : okM q i q[i] = false) : morseQ q = false := by
 unfold morseQ
 rw [List.all_eq_false]
 refine ⟨i, List.mem_range.2 hi, ?_⟩
 have : q.getD i z53 = q[i] := by simp [hi]
 rw [this]
 simp [h]
theorem morseQ_true {q : List PairT} (h : ∀ i (hi : i < q.length), okM q i q[i] = true) : morseQ q = true := by
 unfold morseQ
 rw [List.all_eq_true]
 intro i hi
 have hi := List.mem_range.1 hi
 have : q.getD i z53 = q[i] := by simp [hi]
 rw [this]
 exact h i hi
set_option maxRecDepth 100000 in
set_option maxHeartbeats 8000000 in
theorem isMorse_calls {n : Int} (A : Option Addr) (c : Nat) {l : List Int} (hi : isC n l = true) (A2 : Option Addr) (c2 : Nat) {f : List Int} (hf : funB l f = true) (w : World) (hk : Kx w A c l) (hr : Ki.C w A2 f.length f) (hc2 : f.length ≤ c2) :
  Calls Try.prog 92 #[.agg #[I n, .slice A l.length c], .slice A2 f.length c2] w fun e w' => e = .returned (.bool (morseB l f)) ∧ Grew w w' := by
 obtain ⟨W0, hW0⟩ : ∃ W0, W0 = ((w.alloc (.cells #[I n, .slice A l.length c] 30)).alloc (.map #[] 0)).alloc (.map #[] 0) := ⟨_, rfl⟩
 have hB : CB W0 w.heap.size n (.slice A l.length c) := by rw [hW0]; exact blk_alloc (blk_alloc (blk_new w _) _) _
 have hSL : SetM W0 (w.heap.size + 1) 0 (fun _ => false) := by
  rw [hW0]
  have := (SetM_made (w.alloc (.cells #[I n, .slice A l.length c] 30))).later (below_alloc (Grew.refl _) (.map #[] 0))
  rwa [World.size_alloc] at this
 have hSH : SetM W0 (w.heap.size + 2) 0 (fun _ => false) := by
  rw [hW0]
  have := SetM_made ((w.alloc (.cells #[I n, .slice A l.length c] 30)).alloc (.map #[] 0))
  rwa [World.size_alloc, World.size_alloc] at this
 have hg : Grew w W0 := by rw [hW0]; exact below_alloc (below_alloc (below_alloc (Grew.refl w) _) _) _
 have hz : W0.heap.size = w.heap.size + 3 := by rw [hW0]; simp
 have HF := Aside0.mk (falling_calls A c hi A2 c2 hf W0 (hk.later hg) (Kd.C_below hr hg) hc2)
 have HLEN := Aside0.mk (fall_len (f := f) hi)
 have HMM : Aside0 (∀ x ∈ fallL l f, (1 ≤ x.f0 ∧ x.f0 ≤ 63) ∧ (1 ≤ x.f1 ∧ x.f1 ≤ 63)) := ⟨fun x hx => by
  have hm := (mem_fall.1 hx).1
  exact ⟨range63 hi _ hm.1, range63 hi _ hm.2.1⟩⟩
 have HSL := Aside0.mk hSL
 have HSH := Aside0.mk hSH
 have HG := Aside0.mk hg
 have HZ := Aside0.mk hz
 have HD : Aside0 (morseB l f = morseQ (fallL l f)) := ⟨rfl⟩
 rw [HD.out]
 have k0 := hB.c0
 have k1 := hB.c1
 have hmm := @run_makeMap Try.prog
 clear hk hr hc2 hi hB hSL hSH hg hz HD
 generalize fallL l f = q at HF HLEN HMM ⊢
 clear hf
 subst hW0
 go_enter Try.func92, Try.ntmps92
 go_wp2_with fail
 refine HF.out.mono ?_
 rintro e w1 ⟨v, rfl, hR, hG1⟩
 obtain ⟨A3, c3, hv, hc3, hC⟩ := Kd.R_reads hR
 subst hv
 have HC := Aside0.mk (Kd.C_kept_own (S := fun k => k = w.heap.size + 1 ∨ k = w.heap.size + 2) (Kd.R_mono (Kd.R_bound hR) (fun k hk => hk.2.1)) (fun k hk h => by rw [HZ.out] at hk; omega))
 have HSL1 := Aside0.mk (HSL.out.later hG1)
 have HSH1 := Aside0.mk (HSH.out.later hG1)
 have HG1 := Aside0.mk (Grew.trans HG.out hG1)
 have HC3 := Aside0.mk hc3
 have hl2 : q.length ≤ 3969 := HLEN.out
 have hs1 : w.heap.size + 3 ≤ w1.heap.size := by have := hG1.size; rw [HZ.out] at this; exact this
 have HS1 := Aside0.mk hs1
 clear hR hG1 hC hc3 k0 k1 hs1
 go_wp2_with fail
 go_loopg [8, 15] q.length (fun gg _ s15 wr => ∃ i : Nat, i ≤ q.length ∧ q.length - i ≤ gg ∧ s15 = .int .i64 i ∧ Aside0 (SetM wr (w.heap.size + 1) i (lowS q i)) ∧ Aside0 (SetM wr (w.heap.size + 2) i (highS q i)) ∧ Aside0 (Grew w wr) ∧ Aside0 (Kept w1 wr (fun k => k = w.heap.size + 1 ∨ k = w.heap.size + 2)) ∧ Aside0 (∀ j (hj : j < q.length), j < i → okM q j q[j] = true))
 case atStart => exact ⟨0, Nat.zero_le _, by omega, rfl, ⟨HSL1.out.cong (fun x _ => by simp [lowS])⟩, ⟨HSH1.out.cong (fun x _ => by simp [highS])⟩, HG1, ⟨Kept.refl _ _⟩, ⟨fun j _ hj => absurd hj (Nat.not_lt_zero _)⟩⟩
 case round =>
  obtain ⟨i, hi1, hgg, rfl, HSLr, HSHr, HGr, HKr, HO⟩ := hrel
  by_cases hlt : i < q.length
  ·have hltz : (i : Int) < (q.length : Int) := by omega
   obtain ⟨ad, e0, hx0, hx1⟩ := Kq_read (HC.out wr HKr.out) i hlt rfl
   cases e0
   have HOK := Aside0.mk (okM_eq q i q[i])
   have HLS := Aside0.mk (lowS_succ q i hlt)
   have HHS := Aside0.mk (highS_succ q i hlt)
   have HPB : Aside0 (okM q i q[i] = false → morseQ q = false) := ⟨fun h => morseQ_false hlt h⟩
   have HPS : Aside0 (okM q i q[i] = true → ∀ j (hj : j < q.length), j < i + 1 → okM q j q[j] = true) := ⟨fun h j hj hj2 => by
    rcases Nat.lt_or_ge j i with h1 | h1
    ·exact HO.out j hj h1
    ·obtain rfl : j = i := by omega
     exact h⟩
   have HM := Aside0.mk (HMM.out _ (List.getElem_mem hlt))
   generalize q[i] = p at hx0 hx1 HOK HLS HHS HM HPB HPS
   have HW0 := Aside0.mk (wf_face HM.out.1.1 HM.out.1.2)
   have HW1 := Aside0.mk (wf_face HM.out.2.1 HM.out.2.2)
   obtain ⟨W1, hW1⟩ : ∃ W1, W1 = wr.alloc (.cells #[I p.f0, I p.f1] 53) := ⟨_, rfl⟩
   have HP1 : Aside0 (W1.heap[wr.heap.size]? = some (.cells #[I p.f0, I p.f1] 53 (0, 0))) := ⟨by rw [hW1]; exact blk_new wr _⟩
   have hG1 : Grew wr W1 := by rw [hW1]; exact below_alloc (Grew.refl wr) _
   have HSL2 := Aside0.mk (HSLr.out.later hG1)
   have HSH2 := Aside0.mk (HSHr.out.later hG1)
   have HGw := Aside0.mk (Grew.trans HGr.out hG1)
   have HKw := Aside0.mk (Kept.below HKr.out hG1)
   have hb1 := HSLr.out.lt
   have hb2 := HSHr.out.lt
   have hz1 : W1.heap.size = wr.heap.size + 1 := by rw [hW1]; simp
   have HZ1 := Aside0.mk hz1
   have HE1 := Aside0.mk hW1
   clear hG1 hW1 hz1
   cases hbl : lowS q i p.f0 with
   | true =>
    have hL0 := HSL2.out.look p.f0 HW0.out
    rw [hbl, HE1.out] at hL0
    have HPF := Aside0.mk (HPB.out (by rw [HOK.out, hbl]; rfl))
    have HGe := HGw.out
    rw [HE1.out] at HGe
    have HGE := Aside0.mk HGe
    clear HPB HPS HOK hbl HGe
    go_wp2_with fail
    go_ret
    exact ⟨by rw [HPF.out]; rfl, HGE.out⟩
   | false =>
    have hL0 := HSL2.out.look p.f0 HW0.out
    rw [hbl, HE1.out] at hL0
    have HL0 := Aside0.mk hbl
    clear hbl
    cases hbh : highS q i p.f1 with
    | true =>
     have hL1 := HSH2.out.look p.f1 HW1.out
     rw [hbh, HE1.out] at hL1
     have HPF := Aside0.mk (HPB.out (by rw [HOK.out, hbh]; simp))
     have HGe := HGw.out
     rw [HE1.out] at HGe
     have HGE := Aside0.mk HGe
     clear HPB HPS HOK hbh HGe
     go_wp2_with fail
     go_ret
     exact ⟨by rw [HPF.out]; rfl, HGE.out⟩
    | false =>
     have hL1 := HSH2.out.look p.f1 HW1.out
     rw [hbh, HE1.out] at hL1
     have HOK2 := Aside0.mk (HPS.out (by rw [HOK.out, HL0.out, hbh]; rfl))
     clear HPB HPS HOK hbh
     obtain ⟨w5, hr5, hS5, hg5⟩ := SetM.store (w := W1.drew) (HSL2.out.same rfl) (by omega) p.f0 HW0.out true
     have HP5 := Aside0.mk (blk_grown (blk_drew HP1.out) hg5 (by simp; omega))
     have hSH5 : SetM w5 (w.heap.size + 2) i (highS q i) := SetM.kept (w := W1.drew) (T := fun k => k = w.heap.size + 1) (HSH2.out.same rfl) (Kept.of_grown hg5 (Kept.refl _ _) (fun k hk => by cases hk; exact Or.inl rfl)) (by omega)
     obtain ⟨w6, hr6, hS6, hg6⟩ := SetM.store hSH5 (by omega) p.f1 HW1.out true
     have HP6 := Aside0.mk (blk_grown HP5.out hg6 (by simp; omega))
     have HSL6 : Aside0 (SetM w6 (w.heap.size + 1) (i + 1) (upd (lowS q i) p.f0 true)) := ⟨SetM.kept (T := fun k => k = w.heap.size + 2) hS5 (Kept.of_grown hg6 (Kept.refl _ _) (fun k hk => by cases hk; exact Or.inl rfl)) (by omega)⟩
     have HSH6 := Aside0.mk hS6
     have HK6 := Aside0.mk (Kept.of_grown hg6 (Kept.of_grown hg5 (Kept.drew HKw.out) (fun k hk => by cases hk; exact Or.inl (Or.inl rfl))) (fun k hk => by cases hk; exact Or.inl (Or.inr rfl)))
     have hzl := HGw.out.size
     have HG6 := Aside0.mk (pw_below_grown (pw_below_grown (below_drew HGw.out) _ (by simp; omega) hg5 (fun k hk => by cases hk; omega)) _ (by have := hg5.size; simp at this; omega) hg6 (fun k hk => by cases hk; omega))
     clear hS5 hS6 hg5 hg6 hzl hSH5
     go_wp2_with fail
     rw [← HE1.out]
     clear hL0 hL1
     refine start_ (n := 8) (S := fun w' => w'.cell? ⟨wr.heap.size, 0, none⟩ = some (I p.f0) ∧ w'.cell? ⟨wr.heap.size, 1, none⟩ = some (I p.f1)) (ds := []) #[O,O,O,O,O,O,O,O] (by kernel_rfl) rfl rfl ⟨blk_cell (blk_drew HP1.out) 0, blk_cell (blk_drew HP1.out) 1⟩ (fun hHeld => ?_)
     refine pure_ (i := 0) (N := some 29) (v := ?_) (a' := ?_) #[U,O,O,O,O,O,O,O] rfl rfl (by kernel_rfl) (fun _ _ _ h => h) (Or.inl ⟨by rfl, ?_⟩) ?_ ?_
     rotate_left; · intro w'; go_simp; with_reducible rfl
     rotate_left; · simp only [nm_]; rfl
     refine pure_ (i := 1) (N := some 30) (v := ?_) (a' := ?_) #[U,U,O,O,O,O,O,O] rfl rfl (by kernel_rfl) (fun _ _ _ h => h) (Or.inl ⟨by rfl, ?_⟩) ?_ ?_
     rotate_left; · intro w'; go_simp; with_reducible rfl
     rotate_left; · simp only [nm_]; rfl
     refine pure_ (i := 3) (N := some 32) (v := ?_) (a' := ?_) #[U,U,O,U,O,O,O,O] rfl rfl (by kernel_rfl) (fun _ _ _ h => h) (Or.inl ⟨by rfl, ?_⟩) ?_ ?_
     rotate_left; · intro w'; go_simp; with_reducible rfl
     rotate_left; · simp only [nm_]; rfl
     refine pure_ (i := 4) (N := some 33) (v := ?_) (a' := ?_) #[U,U,O,U,U,O,O,O] rfl rfl (by kernel_rfl) (fun _ _ _ h => h) (Or.inl ⟨by rfl, ?_⟩) ?_ ?_
     rotate_left; · intro w'; go_simp; with_reducible rfl
     rotate_left; · simp only [nm_]; rfl
     refine take_ (i := 2) (N := some 31) (v := ?_) (a' := ?_) #[U,U,U,U,U,O,O,O] rfl rfl (by kernel_rfl) (fun _ _ _ h => h) (Or.inl ⟨by rfl, ?_⟩) hHeld ?_ ?_
     rotate_left; · rintro w' ⟨s0, s1⟩; go_simp; with_reducible rfl
     rotate_left; · simp only [nm_]; rfl
     refine take_ (i := 5) (N := some 34) (v := ?_) (a' := ?_) #[U,U,U,U,U,U,O,O] rfl rfl (by kernel_rfl) (fun _ _ _ h => h) (Or.inl ⟨by rfl, ?_⟩) hHeld ?_ ?_
     rotate_left; · rintro w' ⟨s0, s1⟩; go_simp; with_reducible rfl
     rotate_left; · simp only [nm_]; rfl
     refine one_ (i := 6) (N := none) #[U,U,U,U,U,U,U,O] rfl rfl (by kernel_rfl) (by decide) (fun K hK => ?_)
     refine skip_ (w1 := w5) (by rfl) rfl ?_ ?_
     ·simp only [execOp]
      go_simp
     refine hK.out _ _ ⟨blk_cell HP5.out 0, blk_cell HP5.out 1⟩ (fun hHeld => ?_)
     clear hK K
     refine one_ (i := 7) (N := none) #[U,U,U,U,U,U,U,U] rfl rfl (by kernel_rfl) (by decide) (fun K hK => ?_)
     refine skip_ (w1 := w6) (by rfl) rfl ?_ ?_
     ·simp only [execOp]
      go_simp
     refine hK.out _ _ ⟨blk_cell HP6.out 0, blk_cell HP6.out 1⟩ (fun hHeld => ?_)
     clear hK K
     refine done_ (by kernel_rfl) ?_
     go_wp2_with fail
     go_roundg (q.length - (i + 1))
     case measure => omega
     case rel => exact ⟨i + 1, by omega, by omega, by go_num, ⟨HSL6.out.cong (fun x _ => HLS.out x)⟩, ⟨HSH6.out.cong (fun x _ => HHS.out x)⟩, HG6, HK6, HOK2⟩
  ·have hltz : ¬ (i : Int) < (q.length : Int) := by omega
   have HT := Aside0.mk (morseQ_true (fun j hj => HO.out j hj (by omega)))
   go_wp2_with fail
   go_ret
   exact ⟨by rw [HT.out]; rfl, HGr.out⟩

end Go.Proofs.Ytniikppojffiaaa.K
end

section
/- Rows of numbers as elements of a slice: each is the slice, and what it holds. -/
namespace Go.Proofs.Ytniikppojffiaaa.K
open Go.RowKit Go.Shelf Go.Proofs.YtniikppojffiaaaW.PrintWords Go.Proofs.YtniikppojffiaaaW.PrintLast Go.Proofs.YtniikppojffiaaaW.PrintMore
set_option linter.unusedVariables false
/-- A row: its slice, and what it holds. -/
structure RowT where
  A : Option Addr
  c : Nat
  xs : List Int
def RowT.v (r : RowT) : Value := .slice r.A r.xs.length r.c
theorem RowT.one (r : RowT) : r.v.oneCell' = true := rfl
abbrev Kr : Kd RowT := Kd.scalar RowT.v RowT.one
def nilT : RowT := ⟨none, 0, []⟩
/-- What the rows hold lies in memory. -/
def RowsIn (w : World) (vs : List RowT) : Prop := ∀ x ∈ vs, Ki.C w x.A x.xs.length x.xs ∧ x.xs.length ≤ x.c ∧ x.xs.length ≤ 2097152
theorem RowsIn.later {w w' : World} {vs : List RowT} (h : RowsIn w vs) (hg : Grew w w') : RowsIn w' vs := fun x hx => ⟨Kd.C_below (h x hx).1 hg, (h x hx).2⟩
theorem Kr_read {W : World} {A : Option Addr} {vs : List RowT} (h : Kr.C W A vs.length vs) (i : Nat) (hi : i < vs.length) :
    ∃ ad : Addr, A = some ad ∧ W.cell? (ad.add i) = some vs[i].v := by
  obtain ⟨ad, e, hc⟩ := ReadsOf.at_ (Kd.reads_of_C (enc := RowT.v) (d := nilT) (h1 := RowT.one) h) (i : Int) (by omega) (by omega)
  refine ⟨ad, e, ?_⟩
  rw [Int.toNat_natCast] at hc
  rw [hc]
  simp [rdOf, hi]
theorem Kr_of {W : World} {vs : List RowT} (B : Nat) (t : TypeId) (hB : W.heap[B]? = some (.cells (vs.map RowT.v).toArray t (0, 0))) (hn : vs.length ≤ 9223372036854775807) : Kr.C W (some ⟨B, 0, none⟩) vs.length vs := by
  refine Kd.C_of_reads (d := nilT) ⟨rfl, hn, fun h0 => ⟨_, rfl, fun j hj => ?_⟩⟩
  have := blk_cell hB j
  have e : (⟨B, 0, none⟩ : Addr).add j = ⟨B, j, none⟩ := by simp only [Addr.add]; split <;> simp_all
  rw [e, this]
  simp [hj]
end Go.Proofs.Ytniikppojffiaaa.K
end

section
/- Contracts of the library's functions that take a function value, over rows of rows of numbers. -/
namespace Go.Proofs.Ytniikppojffiaaa.K
open Go.RowKit Go.Shelf Go.Proofs.YtniikppojffiaaaW.PrintWords Go.Proofs.YtniikppojffiaaaW.PrintLast Go.Proofs.YtniikppojffiaaaW.PrintMore
set_option linter.unusedVariables false
set_option linter.unusedSimpArgs false

set_option maxHeartbeats 2000000 in
theorem IndexFunc_v (p : RowT → Bool) (A : Option Addr) (c : Nat) (l : List RowT) (g : Nat) (first caps : Array Value) (w : World)
  (hr : Kr.C w A l.length l) (hc : l.length ≤ c) (hbig : l.length ≤ 9223372036854775807) (eg : EntersG g)
  (hp : ∀ x, x ∈ l → Answers w g (first.push x.v ++ caps) (.bool (p x))) :
  Calls Try.prog 181 #[.slice A l.length c, .func (.func g) first caps] w fun e w' => e = .returned (I (idx p l)) ∧ Grew w w' := by
 have HR := Aside0.mk hr
 have HC := Aside0.mk hc
 have HP := Aside0.mk hp
 clear hr hc hp
 go_enter Try.func181, Try.ntmps181
 go_wp2
 go_loopg [5, 8] l.length (fun gg _ s8 wr => ∃ kk : Nat, kk ≤ l.length ∧ l.length - kk ≤ gg ∧ s8 = .int .i64 kk ∧ Aside0 (Grew w wr) ∧ Aside0 (∀ j (h : j < l.length), j < kk → p l[j] = false))
 case atStart => exact ⟨0, Nat.zero_le _, by omega, rfl, ⟨Below.refl _ w⟩, ⟨fun j _ hj => absurd hj (Nat.not_lt_zero _)⟩⟩
 case round =>
  obtain ⟨kk, hkk, hg, rfl, BW, A0⟩ := hrel
  by_cases hlt : kk < l.length
  ·have hltz : (kk : Int) < (l.length : Int) := by omega
   obtain ⟨ad, e0, hx⟩ := Kr_read (Kd.C_below HR.out BW.out) kk hlt
   cases e0
   have hcall := HP.out l[kk] (by simp) wr BW.out
   generalize hy : l[kk] = y at hx hcall
   have B := Aside0.mk hy
   clear hy
   cases hq : p y with
   | true =>
    rw [hq] at hcall
    go_wp2_with fail
    refine hcall.mono ?_
    rintro e w' ⟨rfl, hb'⟩
    clear hcall
    go_wp2_with fail
    go_ret
    refine ⟨?_, Grew.trans BW.out hb'⟩
    rw [idx_hit p l kk hlt (by rw [B.out]; exact hq) (fun j hj => A0.out j (by omega) hj)]
    rfl
   | false =>
    rw [hq] at hcall
    go_wp2_with fail
    refine hcall.mono ?_
    rintro e w' ⟨rfl, hb'⟩
    clear hcall
    go_wp2_with fail
    go_roundg (l.length - (kk + 1))
    case measure => omega
    case rel =>
     refine ⟨kk + 1, by omega, by omega, by go_num, ⟨Grew.trans BW.out hb'⟩, ⟨fun j h hj => ?_⟩⟩
     by_cases e : j = kk
     ·subst e
      rw [B.out]; exact hq
     ·exact A0.out j h (by omega)
  ·have hltz : ¬ (kk : Int) < (l.length : Int) := by omega
   have e : kk = l.length := by omega
   have H := idx_miss p l (fun j hj => A0.out j hj (by omega))
   have HM := Aside0.mk H
   clear H e
   go_wp2
   go_ret
   exact ⟨by rw [HM.out]; rfl, BW.out⟩

set_option maxHeartbeats 2000000 in
theorem ContainsFunc_v (p : RowT → Bool) (A : Option Addr) (c : Nat) (l : List RowT) (g : Nat) (first caps : Array Value) (w : World)
  (hr : Kr.C w A l.length l) (hc : l.length ≤ c) (hbig : l.length ≤ 9223372036854775807) (eg : EntersG g)
  (hp : ∀ x, x ∈ l → Answers w g (first.push x.v ++ caps) (.bool (p x))) :
  Calls Try.prog 161 #[.slice A l.length c, .func (.func g) first caps] w fun e w' => e = .returned (.bool (l.any p)) ∧ Grew w w' := by
 rw [← idx_nonneg]
 have H := Aside0.mk (IndexFunc_v p A c l g first caps w hr hc hbig eg hp)
 clear hr hc hbig hp
 go_enter Try.func161, Try.ntmps161
 go_wp2_with fail
 refine H.out.mono ?_
 rintro e w' ⟨rfl, hb'⟩
 go_wp2_with fail
 go_ret
 exact ⟨by rfl, hb'⟩

set_option maxHeartbeats 1000000 in
theorem areAll1_v (b : Bool) (x : RowT) (B : Nat) (g : Nat) (first caps : Array Value) (w : World)
  (hB : w.cell? ⟨B, 0, none⟩ = some (.func (.func g) first caps)) (eg : EntersG g)
  (hp : Answers w g (first.push x.v ++ caps) (.bool b)) :
  Calls Try.prog 162 #[x.v, .pointer (some ⟨B, 0, none⟩)] w fun e w' => e = .returned (.bool (!b)) ∧ Grew w w' := by
 have HP := Aside0.mk hp
 clear hp
 go_enter Try.func162, Try.ntmps162
 go_wp2_with fail
 refine (HP.out _ (Grew.refl _)).mono ?_
 rintro e w' ⟨rfl, hb'⟩
 cases b <;> go_wp2_with fail
 all_goals go_ret
 all_goals exact ⟨by rfl, hb'⟩

set_option maxHeartbeats 1000000 in
theorem areAll_v (p : RowT → Bool) (A : Option Addr) (c : Nat) (l : List RowT) (g : Nat) (first caps : Array Value) (w : World)
  (hr : Kr.C w A l.length l) (hc : l.length ≤ c) (hbig : l.length ≤ 9223372036854775807) (eg : EntersG g)
  (hp : ∀ x, x ∈ l → Answers w g (first.push x.v ++ caps) (.bool (p x))) :
  Calls Try.prog 136 #[.slice A l.length c, .func (.func g) first caps] w fun e w' => e = .returned (.bool (l.all p)) ∧ Grew w w' := by
 have HR := Aside0.mk hr
 have HC := Aside0.mk hc
 have HP := Aside0.mk hp
 have hg : Grew w (w.alloc (.cells #[.func (.func g) first caps] 93)) := below_alloc (Below.refl _ _) _
 have H := Aside0.mk (ContainsFunc_v (fun x => !p x) A c l 162 #[] #[.pointer (some ⟨w.heap.size, 0, none⟩)] (w.alloc (.cells #[.func (.func g) first caps] 93))
  (Kd.C_below HR.out hg) hc hbig (enters_of Try.func162 (by kernel_rfl) rfl) (fun x hx W hW =>
   areAll1_v (p x) x w.heap.size g first caps W (blk_cell (blk_below (blk_new w _) hW) 0) eg (((HP.out x hx).later hg).later hW)))
 have hall : l.all p = !(l.any fun x => !p x) := by
  rw [List.not_any_eq_all_not]; simp
 rw [hall]
 clear hr hc hp hall
 generalize (l.any fun x => !p x) = b at H ⊢
 go_enter Try.func136, Try.ntmps136
 go_wp2_with fail
 refine H.out.mono ?_
 rintro e w' ⟨rfl, hb'⟩
 have HG := Aside0.mk (Grew.trans hg hb')
 clear hb' hg
 cases b <;> go_wp2_with fail
 all_goals go_ret
 all_goals exact ⟨by rfl, HG.out⟩

end Go.Proofs.Ytniikppojffiaaa.K
end

section
/- Functions on a complex: the code of functions. -/
namespace Go.Proofs.Ytniikppojffiaaa.K
open Go.RowKit Go.Shelf Go.Proofs.Ytniikppojffiaaa.Q Go.Proofs.YtniikppojffiaaaW.PrintWords Go.Proofs.YtniikppojffiaaaW.PrintLast Go.Proofs.YtniikppojffiaaaW.PrintMore
set_option linter.unusedVariables false
set_option linter.unusedSimpArgs false

theorem isValue_calls (x : Int) (w : World) : Calls Try.prog 163 #[I x] w fun e w' => e = .returned (.bool (isVal x)) ∧ Grew w w' :=
 (impl_isValue.calls x (isVal x) w (by unfold impl_isValue.f; rw [within_is]; rfl)).mono fun e w' ⟨he, hd⟩ => ⟨he, hd.below⟩
set_option maxHeartbeats 2000000 in
theorem isFunction_calls (n : Int) (A : Option Addr) (c : Nat) (l : List Int) (A2 : Option Addr) (c2 : Nat) (xs : List Int) (w : World) (hk : Kx w A c l) (hr : Ki.C w A2 xs.length xs) (hc : xs.length ≤ c2) :
  Calls Try.prog 137 #[.agg #[I n, .slice A l.length c], .slice A2 xs.length c2] w fun e w' => e = .returned (.bool (funB l xs)) ∧ Grew w w' := by
 have H := Aside0.mk (fun W (hW : Grew w W) => areAll_int isVal A2 c2 xs 163 #[] #[] W (Kd.C_below hr hW) hc (Kd.C_max hr) (enters_of Try.func163 (by kernel_rfl) rfl)
  (fun x hx W2 hW2 => isValue_calls x W2))
 have hB : CB (w.alloc (.cells #[I n, .slice A l.length c] 30)) w.heap.size n (.slice A l.length c) := blk_new w _
 have HG : Aside0 (Grew w (w.alloc (.cells #[I n, .slice A l.length c] 30))) := ⟨below_alloc (Grew.refl w) _⟩
 have k0 := hB.c0
 have k1 := hB.c1
 clear hk hr hc hB
 by_cases hl : xs.length = l.length
 ·have HV : Aside0 (funB l xs = xs.all isVal) := ⟨by unfold funB; simp [hl]⟩
  rw [HV.out]
  clear HV
  have hlz : (xs.length : Int) = (l.length : Int) := by omega
  generalize xs.all isVal = r at H ⊢
  clear hl
  go_enter Try.func137, Try.ntmps137
  go_wp2_with fail
  refine (H.out _ HG.out).mono ?_
  rintro e w1 ⟨rfl, hG1⟩
  go_wp2_with fail
  go_ret
  exact ⟨rfl, Grew.trans HG.out hG1⟩
 ·have HV : Aside0 (funB l xs = false) := ⟨by unfold funB; simp [hl]⟩
  rw [HV.out]
  clear HV
  have hlz : ¬ (xs.length : Int) = (l.length : Int) := by omega
  go_enter Try.func137, Try.ntmps137
  go_wp2_with fail
  go_ret
  exact ⟨rfl, HG.out⟩
set_option maxHeartbeats 2000000 in
theorem functionCode1_calls (b : Bool) {n : Int} (A : Option Addr) (c : Nat) {l : List Int} (A2 : Option Addr) (c2 : Nat) (vs : List RowT) {Bk Bq Bb : Nat} (w : World) (h0 : CB w Bk n (.slice A l.length c)) (h1 : w.cell? ⟨Bq, 0, none⟩ = some (.slice A2 vs.length c2)) (h2 : w.cell? ⟨Bb, 0, none⟩ = some (.bool b)) (hk : Kx w A c l) (hq : Kr.C w A2 vs.length vs) (hc2 : vs.length ≤ c2) (hv : RowsIn w vs) :
  Calls Try.prog 135 #[.pointer (some ⟨Bb, 0, none⟩), .pointer (some ⟨Bq, 0, none⟩), .pointer (some ⟨Bk, 0, none⟩)] w fun e w' => e = .returned (.bool (b && vs.all fun r => funB l r.xs)) ∧ Grew w w' := by
 have k0 := h0.c0
 have k1 := h0.c1
 have H := Aside0.mk (areAll_v (fun r => funB l r.xs) A2 c2 vs 137 #[.agg #[I n, .slice A l.length c]] #[] w hq hc2 (Kd.C_max hq) (enters_of Try.func137 (by kernel_rfl) rfl)
  (fun r hr W hW => isFunction_calls n A c l r.A r.c r.xs W (hk.later hW) (Kd.C_below (hv r hr).1 hW) (hv r hr).2.1))
 clear hk hq hc2 hv h0
 generalize (vs.all fun r => funB l r.xs) = r at H ⊢
 cases b with
 | false =>
  rw [Bool.false_and]
  go_enter Try.func135, Try.ntmps135
  go_wp2_with fail
  go_ret
  exact ⟨rfl, Grew.refl _⟩
 | true =>
  rw [Bool.true_and]
  go_enter Try.func135, Try.ntmps135
  go_wp2_with fail
  refine H.out.mono ?_
  rintro e w1 ⟨rfl, hG1⟩
  go_wp2_with fail
  go_ret
  exact ⟨rfl, hG1⟩
set_option maxHeartbeats 2000000 in
theorem functionCode_calls (b : Bool) (n : Int) (A : Option Addr) (c : Nat) (l : List Int) (A2 : Option Addr) (c2 : Nat) (vs : List RowT) (w : World) (hk : Kx w A c l) (hq : Kr.C w A2 vs.length vs) (hc2 : vs.length ≤ c2) (hv : RowsIn w vs) :
  Calls Try.prog 91 #[.agg #[I n, .slice A l.length c], .bool b, .slice A2 vs.length c2] w fun e w' => e = .returned (I (codeOf n l (b && vs.all fun r => funB l r.xs))) ∧ Grew w w' := by
 obtain ⟨W, hW⟩ : ∃ W, W = ((w.alloc (.cells #[I n, .slice A l.length c] 30)).alloc (.cells #[.bool b] 4)).alloc (.cells #[.slice A2 vs.length c2] 118) := ⟨_, rfl⟩
 have hB : CB W w.heap.size n (.slice A l.length c) := by rw [hW]; exact blk_alloc (blk_alloc (blk_new w _) _) _
 have hb : W.heap[w.heap.size + 1]? = some (.cells #[.bool b] 4 (0, 0)) := by
  rw [hW]
  have := blk_new (w.alloc (.cells #[I n, .slice A l.length c] 30)) (.cells #[.bool b] 4)
  rw [World.size_alloc] at this
  exact blk_alloc this _
 have hL : W.heap[w.heap.size + 2]? = some (.cells #[.slice A2 vs.length c2] 118 (0, 0)) := by
  rw [hW]
  have := blk_new ((w.alloc (.cells #[I n, .slice A l.length c] 30)).alloc (.cells #[.bool b] 4)) (.cells #[.slice A2 vs.length c2] 118)
  rwa [World.size_alloc, World.size_alloc] at this
 have hg : Grew w W := by rw [hW]; exact below_alloc (below_alloc (below_alloc (Grew.refl w) _) _) _
 have H := Aside0.mk (complexCode_calls (b && vs.all fun r => funB l r.xs) n A c l 135 #[] #[.pointer (some ⟨w.heap.size + 1, 0, none⟩), .pointer (some ⟨w.heap.size + 2, 0, none⟩), .pointer (some ⟨w.heap.size, 0, none⟩)] W (hk.later hg) (enters_of Try.func135 (by kernel_rfl) rfl)
  (fun hi W2 hW2 => by
   have := functionCode1_calls b A c A2 c2 vs W2 (blk_below hB hW2) (blk_cell (blk_below hL hW2) 0) (blk_cell (blk_below hb hW2) 0) (hk.later (Grew.trans hg hW2)) (Kd.C_below hq (Grew.trans hg hW2)) hc2 (hv.later (Grew.trans hg hW2))
   rw [Array.empty_append]
   exact this))
 have k0 := hB.c0
 have k1 := hB.c1
 have HG := Aside0.mk hg
 clear hk hq hc2 hB hL hg hv hb
 generalize codeOf n l (b && vs.all fun r => funB l r.xs) = cc at H ⊢
 subst hW
 go_enter Try.func91, Try.ntmps91
 go_wp2_with fail
 refine H.out.mono ?_
 rintro e w1 ⟨rfl, hG1⟩
 go_wp2_with fail
 go_ret
 exact ⟨rfl, Grew.trans HG.out hG1⟩

end Go.Proofs.Ytniikppojffiaaa.K
end

section
/- The code of Morse functions; IsMorseFunction, PairingOfFunction, IsFlat. -/
namespace Go.Proofs.Ytniikppojffiaaa.K
open Go.RowKit Go.Shelf Go.Proofs.Ytniikppojffiaaa.Q Go.Proofs.YtniikppojffiaaaW.PrintWords Go.Proofs.YtniikppojffiaaaW.PrintLast Go.Proofs.YtniikppojffiaaaW.PrintMore
set_option linter.unusedVariables false
set_option linter.unusedSimpArgs false

set_option maxHeartbeats 2000000 in
theorem morseCode_calls (n : Int) (A : Option Addr) (c : Nat) (l : List Int) (A2 : Option Addr) (c2 : Nat) (vs : List RowT) (w : World) (hk : Kx w A c l) (hq : Kr.C w A2 vs.length vs) (hc2 : vs.length ≤ c2) (hv : RowsIn w vs) :
  Calls Try.prog 93 #[.agg #[I n, .slice A l.length c], .slice A2 vs.length c2] w fun e w' => e = .returned (I (mcode n l (vs.all fun r => funB l r.xs) (vs.all fun r => morseB l r.xs))) ∧ Grew w w' := by
 have hB : CB (w.alloc (.cells #[I n, .slice A l.length c] 30)) w.heap.size n (.slice A l.length c) := blk_new w _
 have hg : Grew w (w.alloc (.cells #[I n, .slice A l.length c] 30)) := below_alloc (Grew.refl w) _
 have HC := Aside0.mk (functionCode_calls true n A c l A2 c2 vs _ (hk.later hg) (Kd.C_below hq hg) hc2 (hv.later hg))
 rw [Bool.true_and] at HC
 have HK := Aside0.mk hk
 have HQ := Aside0.mk hq
 have HC2 := Aside0.mk hc2
 have HV := Aside0.mk hv
 have HB := Aside0.mk hB
 have HG := Aside0.mk hg
 have k0 := hB.c0
 have k1 := hB.c1
 clear hk hq hc2 hB hg hv
 by_cases hz : codeOf n l (vs.all fun r => funB l r.xs) = 0
 ·obtain ⟨hi, hb⟩ := codeOf_zero hz
  have HA : Aside0 (∀ W, Grew w W → Calls Try.prog 136 #[.slice A2 vs.length c2, .func (.func 92) #[.agg #[I n, .slice A l.length c]] #[]] W fun e w' => e = .returned (.bool (vs.all fun r => morseB l r.xs)) ∧ Grew W w') := ⟨fun W hW =>
   areAll_v (fun r => morseB l r.xs) A2 c2 vs 92 #[.agg #[I n, .slice A l.length c]] #[] W (Kd.C_below HQ.out hW) HC2.out (Kd.C_max HQ.out) (enters_of Try.func92 (by kernel_rfl) rfl)
    (fun r hr W2 hW2 => by
     rw [List.all_eq_true] at hb
     exact isMorse_calls A c hi r.A r.c (hb r hr) W2 (HK.out.later (Grew.trans hW hW2)) (Kd.C_below (HV.out r hr).1 (Grew.trans hW hW2)) (HV.out r hr).2.1)⟩
  have HM : Aside0 (mcode n l (vs.all fun r => funB l r.xs) (vs.all fun r => morseB l r.xs) = if (vs.all fun r => morseB l r.xs) then 0 else 5) := ⟨by unfold mcode; rw [if_pos hz]⟩
  rw [HM.out]
  rw [hz] at HC
  clear HM hz hi hb
  generalize (vs.all fun r => morseB l r.xs) = b at HA ⊢
  go_enter Try.func93, Try.ntmps93
  go_wp2_with fail
  refine HC.out.mono ?_
  rintro e w1 ⟨rfl, hG1⟩
  have hB1 := CB.later HB.out hG1
  have HG1 := Aside0.mk (Grew.trans HG.out hG1)
  clear hG1 k0 k1
  have k0 := hB1.c0
  have k1 := hB1.c1
  clear hB1
  go_wp2_with fail
  refine (HA.out _ HG1.out).mono ?_
  rintro e w2 ⟨rfl, hG2⟩
  cases b <;> go_wp2_with fail
  all_goals go_ret
  all_goals exact ⟨by rfl, Grew.trans HG1.out hG2⟩
 ·have HM : Aside0 (mcode n l (vs.all fun r => funB l r.xs) (vs.all fun r => morseB l r.xs) = codeOf n l (vs.all fun r => funB l r.xs)) := ⟨by unfold mcode; rw [if_neg hz]⟩
  rw [HM.out]
  clear HM
  generalize codeOf n l (vs.all fun r => funB l r.xs) = cc at HC hz ⊢
  go_enter Try.func93, Try.ntmps93
  go_wp2_with fail
  refine HC.out.mono ?_
  rintro e w1 ⟨rfl, hG1⟩
  have HG1 := Aside0.mk (Grew.trans HG.out hG1)
  clear hG1 k0 k1
  go_wp2_with fail
  go_ret
  exact ⟨rfl, HG1.out⟩
/-- The world behind a complex's box and a slice of one list. -/
theorem one_row {w : World} {A2 : Option Addr} {c2 : Nat} {xs : List Int} {k : Value} {n : Int} (hx : Ki.C w A2 xs.length xs) (hc2 : xs.length ≤ c2) (hx2 : xs.length ≤ 2097152) :
  (∀ G W, Grew w W → W.heap[G]? = some (.cells #[.slice A2 xs.length c2] 22 (0, 0)) → Kr.C W (some ⟨G, 0, none⟩) [(⟨A2, c2, xs⟩ : RowT)].length [⟨A2, c2, xs⟩] ∧ RowsIn W [(⟨A2, c2, xs⟩ : RowT)]) ∧
  (((w.alloc (.cells #[I n, k] 30)).alloc (.cells #[.slice A2 xs.length c2] 22)).heap[w.heap.size + 1]? = some (.cells #[.slice A2 xs.length c2] 22 (0, 0))) := by
 refine ⟨fun G W hW hG => ⟨Kr_of G 22 hG (by simp), fun r hr => ?_⟩, ?_⟩
 ·rw [List.mem_singleton.1 hr]
  exact ⟨Kd.C_below hx hW, hc2, hx2⟩
 ·have := blk_new (w.alloc (.cells #[I n, k] 30)) (.cells #[.slice A2 xs.length c2] 22)
  rwa [World.size_alloc] at this
/-- The code of one function, behind the boxes. -/
theorem mcode_one (n : Int) (A : Option Addr) (c : Nat) (l : List Int) (A2 : Option Addr) (c2 : Nat) (xs : List Int) (w : World) (hk : Kx w A c l) (hx : Ki.C w A2 xs.length xs) (hc2 : xs.length ≤ c2) (hx2 : xs.length ≤ 2097152) :
  Calls Try.prog 93 #[.agg #[I n, .slice A l.length c], .slice (some ⟨w.heap.size + 1, 0, none⟩) 1 1] ((w.alloc (.cells #[I n, .slice A l.length c] 30)).alloc (.cells #[.slice A2 xs.length c2] 22)) fun e w' => e = .returned (I (mcode n l (funB l xs) (morseB l xs))) ∧ Grew ((w.alloc (.cells #[I n, .slice A l.length c] 30)).alloc (.cells #[.slice A2 xs.length c2] 22)) w' := by
 have HG : Grew w (w.alloc (.cells #[I n, .slice A l.length c] 30)) := below_alloc (Grew.refl w) _
 obtain ⟨h1, h2⟩ := one_row (k := .slice A l.length c) (n := n) hx hc2 hx2
 obtain ⟨h3, h4⟩ := h1 _ _ (below_alloc HG _) h2
 have h := morseCode_calls n A c l _ 1 _ _ (hk.later (below_alloc HG _)) h3 (Nat.le_refl _) h4
 simp only [List.all_cons, List.all_nil, Bool.and_true, List.length_cons, List.length_nil] at h
 exact h
end Go.Proofs.Ytniikppojffiaaa.K
end

section
/- IsFlat: the program's and the reference's. -/
namespace Go.Proofs.Ytniikppojffiaaa.K
open Go.RowKit Go.Shelf Go.Proofs.Ytniikppojffiaaa.Q Go.Proofs.YtniikppojffiaaaW.PrintWords Go.Proofs.YtniikppojffiaaaW.PrintLast Go.Proofs.YtniikppojffiaaaW.PrintMore
set_option linter.unusedVariables false
set_option linter.unusedSimpArgs false

/-- What IsFlat answers. -/
def flatA (n : Int) (l f : List Int) : Bool := if mcode n l (funB l f) (morseB l f) = 0 then flatB l f else false
theorem bad_le {a b : Int} (ha : 1 ≤ a ∧ a ≤ 63) (hb : 1 ≤ b ∧ b ≤ 63) : (Go.bits .and .i64 a b != a) = !inB a b := by
 rw [inB_is a b (by omega) (by omega)]
 by_cases h : Go.bits .and .i64 a b = a
 ·rw [decide_eq_true h, h]; simp
 ·rw [decide_eq_false h]; simpa using h
theorem specFlat_step {n : Int} {l f : List Int} (hC : isC n l = true) (hf : f.length = l.length) (q : List PairT) (hq : q.length ≤ 4000) (i j : Nat) (hi : i < l.length) (hj : j < l.length) (k : Nat) (hk : 5000 ≤ k) :
  spec_IsFlat.l1 (k + 2) f q (i : Int) (j : Int) n l = if badS l f q l[i] l[j] then some (false, 0) else spec_IsFlat.l1 k f q (i : Int) ((j + 1 : Nat) : Int) n l := by
 obtain ⟨hn, hs, hr, h63⟩ := isC_faces hC
 have hA := atV_get l f hs hf i hi (by omega)
 have hB := atV_get l f hs hf j hj (by omega)
 have hra := hr _ (List.getElem_mem hi)
 have hrb := hr _ (List.getElem_mem hj)
 have HWj : Aside0 (wrap64 ((j : Int) + 1) = ((j + 1 : Nat) : Int)) := ⟨by rw [w64 _ (by omega) (by omega)]; omega⟩
 have HBL := Aside0.mk (bad_le (a := l[i]) (b := l[j]) ⟨by omega, by omega⟩ ⟨by omega, by omega⟩)
 simp only [spec_IsFlat.l1]
 rw [if_pos (by omega), if_pos (by omega), if_pos (by omega), if_pos (by omega), rd_nat l i hi, rd_nat l j hj]
 unfold badS
 by_cases hab : l[i] = l[j]
 ·rw [if_pos hab]
  simp only [spec_IsFlat.j2]
  rw [if_pos trivial, HWj.out]
  simp [hab]
 ·rw [if_neg hab, HBL.out]
  simp only [spec_IsFlat.j2]
  cases hin : inB l[i] l[j] with
  | false =>
   rw [HWj.out]
   simp
  | true =>
   rw [if_neg (by simp), if_pos (by omega), if_pos (by omega), if_pos (by omega), if_pos (by omega), rd_nat f i (by omega), rd_nat f j (by omega), HWj.out, hA, hB]
   by_cases hgt : f[i]'(by omega) > f[j]'(by omega)
   ·rw [if_pos hgt]
    simp [hab, show f[j]'(by omega) < f[i]'(by omega) from hgt]
   ·rw [if_neg hgt, specOnes_is l[j] (by omega) (by omega) k (by omega), specOnes_is l[i] (by omega) (by omega) k (by omega)]
    simp only [Option.bind_some]
    have ho := ones_le l[i]
    have HWo : Aside0 (wrap64 (onesI l[i] + 1) = onesI l[i] + 1) := ⟨by rw [w64 _ (by omega) (by omega)]⟩
    rw [HWo.out, specHigh_is q hq l[i] k (by omega)]
    simp only [Option.bind_some]
    have hgt2 : ¬ f[j]'(by omega) < f[i]'(by omega) := hgt
    by_cases h1 : onesI l[j] = onesI l[i] + 1
    ·rw [if_pos h1, decide_eq_true h1, decide_eq_true (show l[i] ≠ l[j] from hab), decide_eq_false hgt2]
     have e1 : (f[i]'(by omega) == f[j]'(by omega)) = decide (f[i]'(by omega) = f[j]'(by omega)) := rfl
     have e2 : (highL q l[i] == l[j]) = decide (highL q l[i] = l[j]) := rfl
     rw [e1, e2]
     simp only [Bool.true_and, Bool.false_or]
    ·rw [if_neg h1, decide_eq_false h1, decide_eq_false hgt2]
     simp
theorem specFlat_l1 {n : Int} {l f : List Int} (hC : isC n l = true) (hf : f.length = l.length) (q : List PairT) (hq : q.length ≤ 4000) (i : Nat) (hi : i < l.length) : ∀ (e j k : Nat), l.length - j = e → j ≤ l.length → 5000 + 2 * e + 2 ≤ k →
  spec_IsFlat.l1 k f q (i : Int) (j : Int) n l = if (l.drop j).all (fun b => !badS l f q l[i] b) then spec_IsFlat.l0 (k - (2 * e + 1)) f q ((i + 1 : Nat) : Int) n l else some (false, 0) := by
 have h63 := (isC_faces hC).2.2.2
 intro e
 induction e with
 | zero =>
  intro j k he hj hk
  obtain ⟨k, rfl⟩ : ∃ m, k = m + 1 := ⟨k - 1, by omega⟩
  obtain rfl : j = l.length := by omega
  have HWi : Aside0 (wrap64 ((i : Int) + 1) = ((i + 1 : Nat) : Int)) := ⟨by rw [w64 _ (by omega) (by omega)]; omega⟩
  simp only [spec_IsFlat.l1]
  rw [if_neg (by omega), HWi.out, List.drop_eq_nil_of_le (by omega)]
  simp
 | succ e ih =>
  intro j k he hj hk
  obtain ⟨k, rfl⟩ : ∃ m, k = m + 2 := ⟨k - 2, by omega⟩
  have hjl : j < l.length := by omega
  have hkk : k + 2 - (2 * (e + 1) + 1) = k - (2 * e + 1) := by omega
  rw [specFlat_step hC hf q hq i j hi hjl k (by omega), ih (j + 1) k (by omega) (by omega) (by omega), List.drop_eq_getElem_cons hjl, List.all_cons, hkk]
  cases badS l f q l[i] l[j] <;> simp
theorem specFlat_l0 {n : Int} {l f : List Int} (hC : isC n l = true) (hf : f.length = l.length) (q : List PairT) (hq : q.length ≤ 4000) : ∀ (e i k : Nat), l.length - i = e → i ≤ l.length → 5000 + e * 140 + 200 ≤ k →
  spec_IsFlat.l0 k f q (i : Int) n l = some ((l.drop i).all (fun a => l.all fun b => !badS l f q a b), 0) := by
 have h63 := (isC_faces hC).2.2.2
 intro e
 induction e with
 | zero =>
  intro i k he hj hk
  obtain ⟨k, rfl⟩ : ∃ m, k = m + 1 := ⟨k - 1, by omega⟩
  obtain rfl : i = l.length := by omega
  simp only [spec_IsFlat.l0]
  rw [if_neg (by omega), List.drop_eq_nil_of_le (by omega)]
  rfl
 | succ e ih =>
  intro i k he hj hk
  obtain ⟨k, rfl⟩ : ∃ m, k = m + 1 := ⟨k - 1, by omega⟩
  have hil : i < l.length := by omega
  have h1 := specFlat_l1 hC hf q hq i hil l.length 0 k (by omega) (by omega) (by omega)
  rw [show ((0 : Nat) : Int) = 0 from rfl, List.drop_zero] at h1
  simp only [spec_IsFlat.l0]
  rw [if_pos (by omega), h1, ih (i + 1) _ (by omega) (by omega) (by omega), List.drop_eq_getElem_cons hil, List.all_cons]
  cases l.all (fun b => !badS l f q l[i] b) <;> simp
theorem specIsFlat_is (n : Int) (l f : List Int) (hl : l.length ≤ 2097152) (hf : f.length ≤ 2097152) (k : Nat) (hk : fK l ≤ k) : spec_IsFlat.f k n l f = some (flatA n l f, mcode n l (funB l f) (morseB l f)) := by
 unfold spec_IsFlat.f flatA
 rw [specPairing4_is n l f hl hf k hk]
 simp only [Option.bind_some]
 unfold fK at hk
 by_cases hz : mcode n l (funB l f) (morseB l f) = 0
 ·obtain ⟨hi, hb, hm⟩ := mcode_zero hz
  have h63 := (isC_faces hi).2.2.2
  have h1 := specFlat_l0 hi (funB_len hb) (fallL l f) (Nat.le_trans (fall_len hi) (by decide)) l.length 0 k (by omega) (by omega) (by omega)
  rw [show ((0 : Nat) : Int) = 0 from rfl, List.drop_zero] at h1
  have h2 := flat_eq (f := f) (pairs_asc hi) (hasD hi) (range63 hi) hm
  unfold flatS at h2
  rw [if_pos hz, if_pos hz, if_pos hz, h1, h2, hz]
 ·rw [if_neg hz, if_neg hz]

def okF (l f : List Int) (a b : Int) : Bool := !(decide (a ≠ b) && inB a b && decide (atV l f b < atV l f a))
theorem flat_false {l f : List Int} {i j : Nat} (hi : i < l.length) (hj : j < l.length) (h : okF l f l[i] l[j] = false) : flatB l f = false := by
 unfold flatB
 rw [List.all_eq_false]
 refine ⟨_, List.getElem_mem hi, ?_⟩
 rw [Bool.not_eq_true, List.all_eq_false]
 exact ⟨_, List.getElem_mem hj, by unfold okF at h; rw [h]; simp⟩
theorem flat_true {l f : List Int} (h : ∀ i (hi : i < l.length), l.all (okF l f l[i]) = true) : flatB l f = true := by
 unfold flatB
 rw [List.all_eq_true]
 intro a ha
 obtain ⟨i, hi, rfl⟩ := List.mem_iff_getElem.1 ha
 exact h i hi
theorem row_true {l f : List Int} {a : Int} (h : ∀ j (hj : j < l.length), okF l f a l[j] = true) : l.all (okF l f a) = true := by
 rw [List.all_eq_true]
 intro b hb
 obtain ⟨j, hj, rfl⟩ := List.mem_iff_getElem.1 hb
 exact h j hj
set_option maxRecDepth 100000 in
set_option maxHeartbeats 8000000 in
theorem Flat_calls (n : Int) (A : Option Addr) (c : Nat) (l : List Int) (A2 : Option Addr) (c2 : Nat) (xs : List Int) (w : World) (hk : Kx w A c l) (hx : Ki.C w A2 xs.length xs) (hc2 : xs.length ≤ c2) (hx2 : xs.length ≤ 2097152) :
  Calls Try.prog 56 #[.agg #[I n, .slice A l.length c], .slice A2 xs.length c2] w fun e w' => e = .returned (.tuple #[.bool (flatA n l xs), I (mcode n l (funB l xs) (morseB l xs))]) ∧ Grew w w' := by
 have hB : CB (w.alloc (.cells #[I n, .slice A l.length c] 30)) w.heap.size n (.slice A l.length c) := blk_new w _
 have HG : Aside0 (Grew w (w.alloc (.cells #[I n, .slice A l.length c] 30))) := ⟨below_alloc (Grew.refl w) _⟩
 have HC := Aside0.mk (mcode_one n A c l A2 c2 xs w hk hx hc2 hx2)
 have HK := Aside0.mk hk
 have HX := Aside0.mk hx
 have HC2 := Aside0.mk hc2
 have HB := Aside0.mk hB
 have hc := hk.c
 have k0 := hB.c0
 have k1 := hB.c1
 clear hk hx hc2 hB
 by_cases hz : mcode n l (funB l xs) (morseB l xs) = 0
 ·obtain ⟨hi, hb, hm⟩ := mcode_zero hz
  have HV : Aside0 (flatA n l xs = flatB l xs) := ⟨by unfold flatA; rw [if_pos hz]⟩
  have HA : Aside0 (∀ W, Grew w W → Calls Try.prog 98 #[.agg #[I n, .slice A l.length c], .slice A2 xs.length c2] W fun e w' => ∃ b, e = .returned (.map (some b)) ∧ W.heap.size ≤ b ∧ (∃ m, IntM w' b m (atV l xs)) ∧ Grew W w') := ⟨fun W hW => values_calls A c hi A2 c2 hb W (HK.out.later hW) (Kd.C_below HX.out hW) HC2.out⟩
  have HRG := Aside0.mk (range63 hi)
  have h63 := (isC_faces hi).2.2.2
  rw [HV.out, hz]
  rw [hz] at HC
  clear hz hi hb hm HV
  go_enter Try.func56, Try.ntmps56
  go_wp2_with fail
  refine HC.out.mono ?_
  rintro e w1 ⟨rfl, hG1⟩
  have HB1 := Aside0.mk (CB.later (blk_alloc HB.out _) hG1)
  have HG1 := Aside0.mk (Grew.trans (below_alloc HG.out _) hG1)
  clear hG1 k0 k1
  have k0 := HB1.out.c0
  have k1 := HB1.out.c1
  go_wp2_with fail
  refine (HA.out _ HG1.out).mono ?_
  rintro e w2 ⟨b, rfl, hb, ⟨m, hS⟩, hG2⟩
  have HB2 := Aside0.mk (CB.later HB1.out hG2)
  have HG2 := Aside0.mk (Grew.trans HG1.out hG2)
  have HLK : Aside0 (∀ W, Grew w2 W → ∀ x ∈ l, (Instr.lookup TMapI (.map (some b)) (I x) false).run Try.prog W = .ok (I (atV l xs x)) W) := ⟨fun W hW x hx => (hS.later hW).look x (wf_face (HRG.out x hx).1 (HRG.out x hx).2)⟩
  clear hG2 hS hb k0 k1
  have k1 := HB2.out.c1
  go_wp2_with fail
  go_loopg [25] l.length (fun gg s25 wr => ∃ i : Nat, i ≤ l.length ∧ l.length - i ≤ gg ∧ s25 = .int .i64 i ∧ Aside0 (Grew w2 wr) ∧ Aside0 (∀ j (hj : j < l.length), j < i → l.all (okF l xs l[j]) = true))
  case atStart => exact ⟨0, Nat.zero_le _, by omega, rfl, ⟨Grew.refl w2⟩, ⟨fun j _ hj => absurd hj (Nat.not_lt_zero _)⟩⟩
  case round =>
   obtain ⟨i, hi1, hgg, rfl, HGr, HO⟩ := hrel
   by_cases hlt : i < l.length
   ·have hltz : (i : Int) < (l.length : Int) := by omega
    obtain ⟨ad, e0, hx⟩ := Kd.at_int (Kd.C_below HK.out.r (Grew.trans HG2.out HGr.out)) (i : Int) (by omega) (by omega)
    cases e0
    have hrd : rd l (i : Int) = l[i] := by simp [rd, hlt]
    rw [hrd, Int.toNat_natCast] at hx
    have HMI := Aside0.mk (List.getElem_mem hlt)
    have HFI : Aside0 (∀ j (hj : j < l.length), okF l xs l[i] l[j] = false → flatB l xs = false) := ⟨fun j hj h => flat_false hlt hj h⟩
    have HTI : Aside0 (l.all (okF l xs l[i]) = true → ∀ j (hj : j < l.length), j < i + 1 → l.all (okF l xs l[j]) = true) := ⟨fun h j hj hj2 => by
     rcases Nat.lt_or_ge j i with h1 | h1
     ·exact HO.out j hj h1
     ·obtain rfl : j = i := by omega
      exact h⟩
    clear hrd
    generalize l[i] = x at hx HMI HFI HTI
    have kb1 := (CB.later HB2.out HGr.out).c1
    clear k1
    go_wp2_with fail
    go_loopg [32] l.length (fun gg s32 wq => ∃ j : Nat, j ≤ l.length ∧ l.length - j ≤ gg ∧ s32 = .int .i64 j ∧ Aside0 (Grew w2 wq) ∧ Aside0 (∀ t (ht : t < l.length), t < j → okF l xs x l[t] = true))
    case atStart => exact ⟨0, Nat.zero_le _, by omega, rfl, HGr, ⟨fun j _ hj => absurd hj (Nat.not_lt_zero _)⟩⟩
    case round =>
     obtain ⟨j, hj1, hgj, rfl, HGq, HOq⟩ := hrel
     clear hx kb1
     by_cases hlj : j < l.length
     ·have hljz : (j : Int) < (l.length : Int) := by omega
      obtain ⟨ad2, e2, hy⟩ := Kd.at_int (Kd.C_below HK.out.r (Grew.trans HG2.out HGq.out)) (j : Int) (by omega) (by omega)
      cases e2
      have hrd : rd l (j : Int) = l[j] := by simp [rd, hlj]
      rw [hrd, Int.toNat_natCast] at hy
      have HMJ := Aside0.mk (List.getElem_mem hlj)
      have HFJ := Aside0.mk (HFI.out j hlj)
      have HTJ : Aside0 (okF l xs x l[j] = true → ∀ t (ht : t < l.length), t < j + 1 → okF l xs x l[t] = true) := ⟨fun h t ht ht2 => by
       rcases Nat.lt_or_ge t j with h1 | h1
       ·exact HOq.out t ht h1
       ·obtain rfl : t = j := by omega
        exact h⟩
      clear hrd
      generalize l[j] = y at hy HMJ HFJ HTJ
      by_cases hxy : x = y
      ·have HT2 := Aside0.mk (HTJ.out (by unfold okF; rw [hxy]; simp))
       subst hxy
       go_wp2_with fail
       go_roundg (l.length - (j + 1))
       case measure => omega
       case rel => exact ⟨j + 1, by omega, by omega, by go_num, HGq, HT2⟩
      ·have HIN := Aside0.mk (fun W => isIn_calls x y W)
       have HNE := Aside0.mk hxy
       cases hin : inB x y with
       | false =>
        rw [hin] at HIN
        have HT2 := Aside0.mk (HTJ.out (by unfold okF; rw [hin]; simp))
        go_wp2_with fail
        refine (HIN.out _).mono ?_
        rintro e w3 ⟨rfl, hG3⟩
        have HG3 := Aside0.mk (Grew.trans HGq.out hG3)
        clear hG3 hy
        go_wp2_with fail
        go_roundg (l.length - (j + 1))
        case measure => omega
        case rel => exact ⟨j + 1, by omega, by omega, by go_num, HG3, HT2⟩
       | true =>
        rw [hin] at HIN
        have HIN2 := Aside0.mk hin
        clear hin
        go_wp2_with fail
        refine (HIN.out _).mono ?_
        rintro e w3 ⟨rfl, hG3⟩
        have HG3 := Aside0.mk (Grew.trans HGq.out hG3)
        have hl1 := HLK.out w3 HG3.out x HMI.out
        have hl2 := HLK.out w3 HG3.out y HMJ.out
        clear hG3 hy
        by_cases hgt : atV l xs y < atV l xs x
        ·have HF := Aside0.mk (HFJ.out (by unfold okF; rw [HIN2.out, decide_eq_true hgt, decide_eq_true HNE.out]; rfl))
         clear HFI HFJ HTI HTJ HO HOq HLK
         generalize atV l xs x = X at hl1 hgt
         generalize atV l xs y = Y at hl2 hgt
         go_wp2_with fail
         go_ret2
         exact ⟨by rw [HF.out]; rfl, Grew.trans HG2.out HG3.out⟩
        ·have HT2 := Aside0.mk (HTJ.out (by unfold okF; rw [decide_eq_false hgt]; simp))
         clear HTJ
         generalize atV l xs x = X at hl1 hgt
         generalize atV l xs y = Y at hl2 hgt
         go_wp2_with fail
         go_roundg (l.length - (j + 1))
         case measure => omega
         case rel => exact ⟨j + 1, by omega, by omega, by go_num, HG3, HT2⟩
     ·have hljz : ¬ (j : Int) < (l.length : Int) := by omega
      have HT2 := Aside0.mk (HTI.out (row_true (fun t ht => HOq.out t ht (by omega))))
      go_wp2_with fail
      go_roundg (l.length - (i + 1))
      case measure => omega
      case rel => exact ⟨i + 1, by omega, by omega, by go_num, HGq, HT2⟩
   ·have hltz : ¬ (i : Int) < (l.length : Int) := by omega
    have HT := Aside0.mk (flat_true (fun j hj => HO.out j hj (by omega)))
    go_wp2_with fail
    go_ret2
    exact ⟨by rw [HT.out]; rfl, Grew.trans HG2.out HGr.out⟩
 ·have HV : Aside0 (flatA n l xs = false) := ⟨by unfold flatA; rw [if_neg hz]⟩
  rw [HV.out]
  clear HV
  generalize mcode n l (funB l xs) (morseB l xs) = cc at HC hz ⊢
  go_enter Try.func56, Try.ntmps56
  go_wp2_with fail
  refine HC.out.mono ?_
  rintro e w1 ⟨rfl, hG1⟩
  have HG1 := Aside0.mk (Grew.trans (below_alloc HG.out _) hG1)
  clear hG1 k0 k1
  go_wp2_with fail
  go_ret2
  exact ⟨rfl, HG1.out⟩

end Go.Proofs.Ytniikppojffiaaa.K
end
