/- Texts of this work, put together by its pack.py. No conditions. -/
import Derived.Test.YtjoggjgmpoaaiaaJBnd2
import Derived.Below
import Derived.Deep.Draws
import Derived.Deep.AppendLies
import Derived.Maps.AppendAt
import Derived.OwnWalk
import Derived.Laws.BytesArg
import Derived.Laws.MakeOwn
import Derived.Laws.OwnMore
import Derived.Deep.OwnRows
import Derived.Tactics
import Derived.Lib.ConvBytes
import Derived.Laws.Slices
import Derived.WalkKit
import Derived.KernelRfl
import Derived.RowKit3
import Derived.Deep.LoopGhost
import Derived.Deep.QuietTactic
import Derived.BigQuiet
import Derived.WideLaws
import Derived.Deep.DeepCutAuto
import Derived.Deep.CutBlock
import Derived.Deep.RegionHeld3
import Derived.Laws.Rows
import Derived.Lib.AppendStr
import Derived.ArgAppend
import Derived.Laws.IdiomCopy
import Derived.RowKit
import Derived.OrdersHeld
import Derived.Laws.BitsLemmas
import Derived.Test.YtjoggjgmpoaaiaaProg
import Derived.Shelf.Abstract
import Derived.RangeFuncBox
import Derived.RangeFuncLeaves
import Derived.OwnWalkIn
import Derived.TacticsInMore
import Derived.LoopNIn
import Derived.LoopIn
import Derived.Laws.StructEq
import Derived.Test.YtjoggjgmpoaaiaaChecked
import Derived.Shelf.SlSortCmp.NoneTotal
import Derived.Lib.SortBridge
import Derived.Lib.Small
section
/- Chains that bound: by reduction, and by ranks. -/
namespace Go.Proofs.Ytjoggjgmpoaaiaa.K
open Go.RowKit Go.Shelf Go.Proofs.YtjoggjgmpoaaiaaW.PrintWords Go.Proofs.YtjoggjgmpoaaiaaW.PrintLast Go.Proofs.YtjoggjgmpoaaiaaW.PrintMore
set_option linter.unusedVariables false
set_option linter.unusedSimpArgs false

/-- Faces as a chain of bits. -/
def chS (c : Nat) (g : Int) : Nat := c ^^^ 2 ^ g.toNat
def chN (xs : List Int) : Nat := xs.foldl chS 0
theorem ch_bits : ∀ (xs : List Int), xs.Pairwise (· < ·) → (∀ x ∈ xs, 0 ≤ x) → ∀ (c b : Nat), (xs.foldl chS c).testBit b = (c.testBit b != decide ((b : Int) ∈ xs)) := by
  intro xs
  induction xs with
  | nil => intro _ _ c b; simp
  | cons g xs ih =>
    intro hp hn c b
    rw [List.pairwise_cons] at hp
    have hg := hn g List.mem_cons_self
    rw [List.foldl_cons, ih hp.2 (fun x hx => hn x (List.mem_cons_of_mem _ hx))]
    unfold chS
    rw [Nat.testBit_xor, Nat.testBit_two_pow]
    by_cases e : (b : Int) = g
    · have h1 : (b : Int) ∉ xs := fun h => by have := hp.1 _ h; omega
      have h2 : g.toNat = b := by omega
      simp [h1, h2, e]
      have h3 : g ∉ xs := by rw [← e]; exact h1
      simp [h3]
    · have h2 : ¬ g.toNat = b := by omega
      simp [h2, e]
theorem chN_bits (xs : List Int) (hp : xs.Pairwise (· < ·)) (hn : ∀ x ∈ xs, 0 ≤ x) (b : Nat) : (chN xs).testBit b = decide ((b : Int) ∈ xs) := by
  unfold chN
  rw [ch_bits xs hp hn]
  simp
theorem bords_asc_64 : ∀ m : Fin 64, (bords (m.val : Int)).Pairwise (· < ·) := by decide +kernel
theorem bords_asc (f : Int) (h0 : 0 ≤ f) (h1 : f ≤ 63) : (bords f).Pairwise (· < ·) := by
  obtain ⟨m, rfl⟩ := Int.eq_ofNat_of_zero_le h0
  exact bords_asc_64 ⟨m, by omega⟩
/-- The boundary of a face. -/
theorem bch_bits (f : Int) (h0 : 0 ≤ f) (h1 : f ≤ 63) (b : Nat) : (chN (bords f)).testBit b = decide ((b : Int) ∈ bords f) := chN_bits _ (bords_asc f h0 h1) (fun x hx => by have := (bords_dim f h0 h1 x hx).2; omega) b

/-- The bits at some faces, in their order. -/
def pr (cs : List Int) (v : V2) : V2 := fun n => if n < cs.length then v (cs.getD n 0).toNat else false
theorem pr_vx (cs : List Int) (a b : V2) : pr cs (vx a b) = vx (pr cs a) (pr cs b) := by
  funext n
  simp only [pr, vx]
  split <;> rfl
theorem pr_zero (cs : List Int) : pr cs v0 = v0 := by
  funext n
  simp only [pr, v0]
  split <;> rfl
/-- A row of a boundary's matrix is the boundary's bits. -/
theorem fill_bits (cs : List Int) (hcs : cs.length ≤ 63) (hs : Asc cs) (bs sg : List Int) (hb : ∀ g ∈ bs, g ∈ cs) (hl : sg.length = bs.length) (hsg : ∀ s ∈ sg, s = 1 ∨ s = -1) : ∀ kk, kk ≤ bs.length → ∀ n, n < cs.length → (fillR cs 2 bs sg kk).getD n 0 = if cs.getD n 0 ∈ bs.take kk then 1 else 0 := by
  intro kk
  induction kk with
  | zero =>
    intro _ n hn
    simp [fillR, hn]
  | succ kk ih =>
    intro hk n hn
    have hkl : kk < bs.length := by omega
    have hgm := hb _ (List.getElem_mem hkl)
    obtain ⟨hP, hPg, hPl, _⟩ := place_is cs bs[kk] hcs hs hgm
    have hfl := (fillR_good cs 2 (by omega) bs sg kk).1
    have hsk := hsg _ (List.getElem_mem (show kk < sg.length by omega))
    rw [fillR_succ, getD_get bs kk 0 hkl, getD_get sg kk 0 (by omega), getD_get _ n 0 (by rw [List.length_set, hfl]; exact hn), List.getElem_set, List.take_succ_eq_append_getElem hkl]
    have hone : (sg[kk]'(by omega) + 2) % 2 = 1 := by
      rcases hsk with h | h <;> rw [h] <;> rfl
    rw [hone]
    by_cases e : place cs bs[kk] = n
    · rw [if_pos e]
      subst e
      rw [getD_get cs _ 0 hP, hPg, if_pos (List.mem_append_right _ (List.mem_singleton.2 rfl))]
    · rw [if_neg e]
      have hih := ih (by omega) n hn
      rw [getD_get _ n 0 (by rw [hfl]; exact hn)] at hih
      rw [hih]
      have hne : cs.getD n 0 ≠ bs[kk] := fun h => by
        rw [getD_get cs n 0 hn] at h
        rcases Nat.lt_trichotomy n (place cs bs[kk]) with h1 | h1 | h1
        · have := List.pairwise_iff_getElem.1 hs n _ hn hP h1
          omega
        · exact e h1.symm
        · have := List.pairwise_iff_getElem.1 hs _ n hP hn h1
          omega
      have hiff : (cs.getD n 0 ∈ bs.take kk ++ [bs[kk]]) ↔ cs.getD n 0 ∈ bs.take kk := by
        rw [List.mem_append, List.mem_singleton]
        exact ⟨fun h => h.resolve_right hne, .inl⟩
      by_cases h : cs.getD n 0 ∈ bs.take kk
      · rw [if_pos h, if_pos (hiff.2 h)]
      · rw [if_neg h, if_neg (fun x => h (hiff.1 x))]
theorem row_bits {n : Int} {l : List Int} (hi : isC n l = true) (d f : Int) (hf : f ∈ ofL l d) : toV (rowR (ofL l (d - 1)) 2 f) = pr (ofL l (d - 1)) (cvN (chN (bords f))) := by
  obtain ⟨hf1, _⟩ := List.mem_filter.1 hf
  have hr := isC_of hi f hf1
  have h63 := (isC_faces hi).2.2.2
  have hcl := of_length l (d - 1)
  have hsl : (signsL f).length = (bords f).length := by simp [signsL]
  funext k
  unfold pr
  split
  · rename_i hk
    rw [toV_at]
    unfold rowR
    rw [fill_bits _ (by omega) (of_asc hi _) (bords f) (signsL f) (fun g hg => bords_of hi d f hf g hg) hsl (fun s h => sign_is f hr.1 hr.2 s h) _ (Nat.le_refl _) k hk, List.take_length]
    have hm := isC_of hi _ (List.mem_filter.1 (List.getElem_mem hk)).1
    rw [getD_get _ k 0 hk]
    unfold cvN
    rw [bch_bits f hr.1 hr.2, Int.toNat_of_nonneg hm.1]
    by_cases h : (ofL l (d - 1))[k] ∈ bords f <;> simp [h]
  · rename_i hk
    rw [toV_at]
    unfold rowR
    have hfl := (fillR_good (ofL l (d - 1)) 2 (by omega) (bords f) (signsL f) (bords f).length).1
    rw [List.getD_eq_getElem?_getD, List.getElem?_eq_none (by omega)]
    rfl
/-- The boundaries of all faces. -/
def Bds (l : List Int) : V2 → Prop := fun v => ∃ f ∈ l, v = cvN (chN (bords f))
/-- A chain of faces of dimension d is a sum of boundaries just where its row is a sum of rows. -/
theorem bounds_iff {n : Int} {l : List Int} (hi : isC n l = true) (d : Int) (c : Nat) (hc : ∀ b, c.testBit b = true → (b : Int) ∈ ofL l d) : Span (Bds l) (cvN c) ↔ Span (RowsV (rowsL l (d + 1) 2) 0) (pr (ofL l d) (cvN c)) := by
  obtain ⟨hn, hs, hr, h63⟩ := isC_faces hi
  have hd1 : d + 1 - 1 = d := by omega
  have hrow : ∀ f, f ∈ ofL l (d + 1) → toV (rowR (ofL l d) 2 f) = pr (ofL l d) (cvN (chN (bords f))) := fun f hf => by
    have := row_bits hi (d + 1) f hf
    rwa [hd1] at this
  have hmem : ∀ f, f ∈ ofL l (d + 1) → RowsV (rowsL l (d + 1) 2) 0 (toV (rowR (ofL l d) 2 f)) := fun f hf => by
    obtain ⟨i, hil, hie⟩ := List.mem_iff_getElem.1 hf
    refine ⟨i, Nat.zero_le _, by simp [rowsL]; exact hil, ?_⟩
    have : (rowsL l (d + 1) 2).getD i [] = rowR (ofL l d) 2 f := by
      rw [getD_get _ i [] (by simp [rowsL]; exact hil)]
      simp only [rowsL, List.getElem_map, hie, hd1]
    rw [this]
  constructor
  · intro h
    have key : ∀ v, Span (Bds l) v → Span (RowsV (rowsL l (d + 1) 2) 0) (pr (ofL l d) v) := by
      intro v hv
      induction hv with
      | zero => rw [pr_zero]; exact .zero
      | add h1 h2 ih =>
        obtain ⟨f, hf, rfl⟩ := h2
        rw [pr_vx]
        refine ih.sum ?_
        by_cases hfd : f ∈ ofL l (d + 1)
        · rw [← hrow f hfd]
          exact Span.of (hmem f hfd)
        · have hfr := hr f hf
          have hz : pr (ofL l d) (cvN (chN (bords f))) = v0 := by
            funext k
            unfold pr
            split
            · rename_i hk
              have hm1 := List.mem_filter.1 (List.getElem_mem hk)
              have hm := isC_of hi _ hm1.1
              rw [getD_get _ k 0 hk]
              unfold cvN
              rw [bch_bits f (by omega) (by omega), Int.toNat_of_nonneg hm.1]
              refine decide_eq_false fun hb => hfd ?_
              have h3 := (bords_dim f (by omega) (by omega) _ hb).1
              have h4 : dimI (ofL l d)[k] = d := by simpa [bne] using hm1.2
              unfold ofL
              rw [List.mem_filter]
              exact ⟨hf, by have h5 : dimI f = d + 1 := by omega
                            simp [h5]⟩
            · rfl
          rw [hz]
          exact .zero
    exact key _ h
  · intro h
    have key : ∀ u, Span (RowsV (rowsL l (d + 1) 2) 0) u → ∃ w, Span (Bds l) w ∧ pr (ofL l d) w = u ∧ ∀ b, w b = true → (b : Int) ∈ ofL l d := by
      intro u hu
      induction hu with
      | zero => exact ⟨v0, .zero, pr_zero _, fun b hb => by cases hb⟩
      | add h1 h2 ih =>
        obtain ⟨w, hw1, hw2, hw3⟩ := ih
        obtain ⟨i, _, hil, rfl⟩ := h2
        have hil2 : i < (ofL l (d + 1)).length := by simpa [rowsL] using hil
        have hfm := List.getElem_mem hil2
        have hfl := (List.mem_filter.1 hfm).1
        have hfr := hr _ hfl
        have hgd : (rowsL l (d + 1) 2).getD i [] = rowR (ofL l d) 2 (ofL l (d + 1))[i] := by
          rw [getD_get _ i [] hil]
          simp only [rowsL, List.getElem_map, hd1]
        refine ⟨vx w (cvN (chN (bords (ofL l (d + 1))[i]))), .add hw1 ⟨_, hfl, rfl⟩, ?_, fun b hb => ?_⟩
        · rw [pr_vx, hw2, hgd, hrow _ hfm]
        · cases hwb : w b with
          | true => exact hw3 b hwb
          | false =>
            have h5 : vx w (cvN (chN (bords (ofL l (d + 1))[i]))) b = (w b != cvN (chN (bords (ofL l (d + 1))[i])) b) := rfl
            rw [h5, hwb] at hb
            have h6 : (chN (bords (ofL l (d + 1))[i])).testBit b = true := by simpa [cvN] using hb
            rw [bch_bits _ (by omega) (by omega)] at h6
            have h7 := bords_of hi (d + 1) _ hfm _ (of_decide_eq_true h6)
            rwa [hd1] at h7
    obtain ⟨w, hw1, hw2, hw3⟩ := key _ h
    have : w = cvN c := by
      funext b
      by_cases hb : (b : Int) ∈ ofL l d
      · obtain ⟨k, hk, hkb⟩ := List.mem_iff_getElem.1 hb
        have h8 := congrFun hw2 k
        unfold pr at h8
        rw [if_pos hk, if_pos hk, getD_get _ k 0 hk, hkb, Int.toNat_natCast] at h8
        exact h8
      · have h9 : w b = false := by
          cases h : w b
          · rfl
          · exact absurd (hw3 b h) hb
        have h10 : cvN c b = false := by
          cases h : c.testBit b
          · exact h
          · exact absurd (hc b h) hb
        rw [h9, h10]
    rw [← this]
    exact hw1

end Go.Proofs.Ytjoggjgmpoaaiaa.K
end

section
/- The chains that make all that bound, and what reduction by them tells. -/
namespace Go.Proofs.Ytjoggjgmpoaaiaa.K
open Go.RowKit Go.Shelf Go.Proofs.YtjoggjgmpoaaiaaW.PrintWords Go.Proofs.YtjoggjgmpoaaiaaW.PrintLast Go.Proofs.YtjoggjgmpoaaiaaW.PrintMore
set_option linter.unusedVariables false
set_option linter.unusedSimpArgs false

theorem top_lt {a b s t : Nat} (ha : Top a s) (hb : Top b t) (h : t < s) : b < a := lt_of_top (t := s) (fun n hn => by rw [ha.2 n hn, hb.2 n (by omega)]) (hb.2 s h) ha.1
/-- A chain put into its place. -/
def insD (c : Nat) : List Nat → List Nat
  | [] => [c]
  | x :: L => if c < x then x :: insD c L else c :: x :: L
theorem mem_ins (c y : Nat) : ∀ L, y ∈ insD c L ↔ y = c ∨ y ∈ L := by
  intro L
  induction L with
  | nil => simp [insD]
  | cons x L ih =>
    simp only [insD]
    split
    · rw [List.mem_cons, ih, List.mem_cons]
      constructor
      · rintro (h | h | h)
        · exact .inr (.inl h)
        · exact .inl h
        · exact .inr (.inr h)
      · rintro (h | h | h)
        · exact .inr (.inl h)
        · exact .inl h
        · exact .inr (.inr h)
    · rw [List.mem_cons]
theorem desc_ins (c : Nat) (hc : c ≠ 0) : ∀ L, Desc L → (∀ o ∈ L, ∀ t, Top o t → c.testBit t = false) → Desc (insD c L) := by
  obtain ⟨t, ht⟩ := top_ex c hc
  intro L
  induction L with
  | nil => exact fun _ _ => ⟨List.pairwise_singleton _ _, fun o ho => by simp [insD] at ho; omega⟩
  | cons x L ih =>
    intro hd hcl
    obtain ⟨hp, hn⟩ := hd
    rw [List.pairwise_cons] at hp
    have hx0 := hn x List.mem_cons_self
    obtain ⟨s, hs⟩ := top_ex x hx0
    have hcs := hcl x List.mem_cons_self s hs
    have hne : t ≠ s := fun e => by rw [e] at ht; rw [ht.1] at hcs; cases hcs
    have hi := ih ⟨hp.2, fun y hy => hn y (List.mem_cons_of_mem _ hy)⟩ (fun o ho => hcl o (List.mem_cons_of_mem _ ho))
    simp only [insD]
    split
    · rename_i hlt
      have hts : t < s := by
        rcases Nat.lt_or_ge s t with h | h
        · have := top_lt ht hs h; omega
        · omega
      refine ⟨?_, fun y hy => ?_⟩
      · rw [List.pairwise_cons]
        refine ⟨fun y hy => ?_, hi.1⟩
        rcases (mem_ins c y L).1 hy with rfl | h
        · exact ⟨s, t, hs, ht, hts⟩
        · exact hp.1 y h
      · rcases List.mem_cons.1 hy with rfl | h
        · exact hx0
        · exact hi.2 y h
    · rename_i hge
      have hst : s < t := by
        rcases Nat.lt_or_ge t s with h | h
        · exact absurd (top_lt hs ht h) hge
        · omega
      refine ⟨?_, fun y hy => ?_⟩
      · rw [List.pairwise_cons]
        refine ⟨fun y hy => ?_, List.pairwise_cons.2 hp⟩
        rcases List.mem_cons.1 hy with rfl | h
        · exact ⟨t, s, ht, hs, hst⟩
        · obtain ⟨s', u, h1, h2, h3⟩ := hp.1 y h
          exact ⟨t, u, ht, h2, by have := top_uniq h1 hs; omega⟩
      · rcases List.mem_cons.1 hy with rfl | h
        · exact hc
        · exact hn y h
/-- One face more. -/
def bndS (L : List Nat) (f : Int) : List Nat := if redN (chN (bords f)) L = 0 then L else insD (redN (chN (bords f)) L) L
def bndL (l : List Int) : List Nat := l.foldl bndS []
theorem bndS_facts (L : List Nat) (hd : Desc L) (f : Int) : Desc (bndS L f) ∧ ∀ v, Span (In (bndS L f)) v ↔ Span (fun u => In L u ∨ u = cvN (chN (bords f))) v := by
  obtain ⟨h1, h2, h3⟩ := red_facts L hd (chN (bords f))
  unfold bndS
  by_cases h0 : redN (chN (bords f)) L = 0
  · rw [if_pos h0]
    refine ⟨hd, fun v => ⟨fun h => h.trans fun s hs => Span.of (.inl hs), fun h => h.trans fun s hs => ?_⟩⟩
    rcases hs with hs | hs
    · exact Span.of hs
    · rw [hs]; exact (red_zero L hd _).1 h0
  · rw [if_neg h0]
    refine ⟨desc_ins _ h0 L hd h2, fun v => ⟨fun h => h.trans fun s hs => ?_, fun h => h.trans fun s hs => ?_⟩⟩
    · obtain ⟨o, ho, rfl⟩ := hs
      rcases (mem_ins _ o L).1 ho with rfl | h4
      · have h5 : Span (fun u => In L u ∨ u = cvN (chN (bords f))) (vx (cvN (chN (bords f))) (cvN (redN (chN (bords f)) L))) := h1.trans fun s hs => Span.of (.inl hs)
        have h6 := (Span.of (S := fun u => In L u ∨ u = cvN (chN (bords f))) (.inr rfl)).sum h5
        rw [← vx_assoc, vx_self, vx_zero] at h6
        exact h6
      · exact Span.of (.inl ⟨o, h4, rfl⟩)
    · rcases hs with ⟨o, ho, rfl⟩ | rfl
      · exact Span.of ⟨o, (mem_ins _ o L).2 (.inr ho), rfl⟩
      · have h5 : Span (In (insD (redN (chN (bords f)) L) L)) (vx (cvN (chN (bords f))) (cvN (redN (chN (bords f)) L))) := h1.trans fun s ⟨o, ho, e⟩ => Span.of ⟨o, (mem_ins _ o L).2 (.inr ho), e⟩
        have h6 := h5.sum (Span.of ⟨_, (mem_ins _ _ L).2 (.inl rfl), rfl⟩)
        rw [vx_back] at h6
        exact h6
theorem bnd_facts (l : List Int) : ∀ L, Desc L → Desc (l.foldl bndS L) ∧ ∀ v, Span (In (l.foldl bndS L)) v ↔ Span (fun u => In L u ∨ Bds l u) v := by
  induction l with
  | nil => exact fun L hd => ⟨hd, fun v => ⟨fun h => h.trans fun s hs => Span.of (.inl hs), fun h => h.trans fun s hs => by
      rcases hs with hs | ⟨f, hf, _⟩
      · exact Span.of hs
      · cases hf⟩⟩
  | cons f l ih =>
    intro L hd
    obtain ⟨h1, h2⟩ := bndS_facts L hd f
    obtain ⟨h3, h4⟩ := ih (bndS L f) h1
    rw [List.foldl_cons]
    refine ⟨h3, fun v => (h4 v).trans ⟨fun h => h.trans fun s hs => ?_, fun h => h.trans fun s hs => ?_⟩⟩
    · rcases hs with hs | ⟨g, hg, rfl⟩
      · exact ((h2 s).1 (Span.of hs)).trans fun u hu => by
          rcases hu with hu | hu
          · exact Span.of (.inl hu)
          · exact Span.of (.inr ⟨f, List.mem_cons_self, hu⟩)
      · exact Span.of (.inr ⟨g, List.mem_cons_of_mem _ hg, rfl⟩)
    · rcases hs with hs | ⟨g, hg, rfl⟩
      · exact ((h2 s).2 (Span.of (.inl hs))).trans fun u hu => Span.of (.inl hu)
      · rcases List.mem_cons.1 hg with rfl | hg
        · exact ((h2 _).2 (Span.of (.inr rfl))).trans fun u hu => Span.of (.inl hu)
        · exact Span.of (.inr ⟨g, hg, rfl⟩)
/-- Whether a chain bounds. -/
def bndB (l : List Int) (c : Nat) : Bool := decide (redN c (bndL l) = 0)
theorem bndB_iff (l : List Int) (c : Nat) : bndB l c = true ↔ Span (Bds l) (cvN c) := by
  obtain ⟨h1, h2⟩ := bnd_facts l [] ⟨List.Pairwise.nil, fun o ho => by cases ho⟩
  unfold bndB
  rw [decide_eq_true_eq, show bndL l = l.foldl bndS [] from rfl, red_zero _ h1, h2]
  exact ⟨fun h => h.trans fun s hs => by
    rcases hs with ⟨o, ho, _⟩ | hs
    · cases ho
    · exact Span.of hs, fun h => h.trans fun s hs => Span.of (.inr hs)⟩
/-- The row of a chain; the reference's answer. -/
def rowC (cs xs : List Int) : List Int := cs.map fun g => if g ∈ xs then 1 else 0
theorem rowC_bits (cs xs : List Int) (hx : xs.Pairwise (· < ·)) (h0 : ∀ x ∈ xs, 0 ≤ x) (hcs : ∀ x ∈ cs, 0 ≤ x) : toV (rowC cs xs) = pr cs (cvN (chN xs)) := by
  funext n
  rw [toV_at]
  unfold pr
  split
  · rename_i hn
    rw [getD_get _ n 0 (by simp [rowC]; exact hn), getD_get cs n 0 hn]
    simp only [rowC, List.getElem_map]
    unfold cvN
    rw [chN_bits xs hx h0, Int.toNat_of_nonneg (hcs _ (List.getElem_mem hn))]
    by_cases h : cs[n] ∈ xs <;> simp [h]
  · rename_i hn
    rw [List.getD_eq_getElem?_getD, List.getElem?_eq_none (by simp [rowC]; omega)]
    rfl
theorem rowC_good (cs xs : List Int) : (rowC cs xs).length = cs.length ∧ ∀ y ∈ rowC cs xs, 0 ≤ y ∧ y < 2 := by
  refine ⟨by simp [rowC], fun y hy => ?_⟩
  obtain ⟨g, _, rfl⟩ := List.mem_map.1 hy
  split <;> omega
/-- The rank grows just where the chain does not bound. -/
theorem bndB_rank {n : Int} {l : List Int} (hi : isC n l = true) (d : Int) (xs : List Int) (hx : xs.Pairwise (· < ·)) (hm : ∀ x ∈ xs, x ∈ ofL l d) :
    bndB l (chN xs) = decide (rankM 2 (ofL l d).length (rowsL l (d + 1) 2 ++ [rowC (ofL l d) xs]) = rankL l (d + 1) 2) := by
  have hd1 : d + 1 - 1 = d := by omega
  have hn : ∀ x ∈ ofL l d, 0 ≤ x := fun x h => (isC_of hi x (List.mem_filter.1 h).1).1
  have hg := rowsL_good l (d + 1) 2 (by omega)
  rw [hd1] at hg
  have h1 := rank_more hg (rowC_good (ofL l d) xs)
  rw [rowC_bits _ xs hx (fun x h => hn x (hm x h)) hn] at h1
  have h2 := bounds_iff hi d (chN xs) (fun b hb => by
    rw [chN_bits xs hx (fun x h => hn x (hm x h))] at hb
    exact hm _ (of_decide_eq_true hb))
  have h3 : rankL l (d + 1) 2 = rankM 2 (ofL l d).length (rowsL l (d + 1) 2) := by unfold rankL; rw [hd1]
  rw [h3]
  have h4 := bndB_iff l (chN xs)
  cases hb : bndB l (chN xs) with
  | true => exact (decide_eq_true (h1.2 (h2.1 (h4.1 hb)))).symm
  | false => exact (decide_eq_false fun h => by rw [h4.2 (h2.2 (h1.1 h))] at hb; cases hb).symm

end Go.Proofs.Ytjoggjgmpoaaiaa.K
end

section
/- Written by a program of this session (myprint.py over the kit's print). -/
namespace Go.Proofs.Ytjoggjgmpoaaiaa.Q
open Go.RowKit Go.Proofs.YtjoggjgmpoaaiaaW.PrintWords Go.Proofs.YtjoggjgmpoaaiaaW.PrintLast Go.Proofs.YtjoggjgmpoaaiaaW.PrintMore
attribute [local go_sem] max2_int min2_int max_two min_two max_three min_three max_four min_four   -- for this text's walks alone
set_option linter.unusedVariables false
set_option linter.unusedSimpArgs false

/-! ### impl_size: function 46 -/
def impl_size.f (a0 : Int) : Option (Int) := (bits_OnesCount64.f (IntKind.u64.wrap (a0))).bind fun t359 => (some t359)
set_option maxHeartbeats 8000000 in
set_option maxRecDepth 100000 in
theorem impl_size.calls (a0 : Int) (r : Int) (w : World) (h : impl_size.f a0 = some r) :
    Calls Try.prog 46 #[.int .i64 a0] w fun e w' => e = .returned (.int .i64 r) ∧ Drawn0 w w' := by
  have H : ((bits_OnesCount64.f (IntKind.u64.wrap (a0))).bind fun t359 => (some t359)) = some r := h
  clear h
  replace H := Option.bind_eq_some_iff.mp H
  obtain ⟨t359, A20, H⟩ := H
  replace H : (some t359) = some r := H
  have A2 := Aside0.mk A20
  clear A20
  obtain rfl := Option.some.inj H
  go_enter Try.func46, Try.ntmps46
  go_wp2_with (first | ((with_reducible refine gate_callee (f := 75) rfl ?_); refine goesL_ (some 5) rfl rfl Try.func75 (by kernel_rfl) rfl #[.int .u64 (IntKind.u64.wrap (a0))] rfl (by (try simp only [List.map_toArray, List.map_cons, List.map_nil]); first | done | rfl | (simp only [List.length_drop, List.length_take]; rfl)) ?_; (with_reducible refine (bits_OnesCount64.calls (IntKind.u64.wrap (a0)) t359 _ A2.out).mono ?_); rintro e w' ⟨rfl, ⟨nd, rfl⟩⟩; refine ⟨_, rfl, ?_⟩))
  go_ret
  exact ⟨by first | rfl | (simp; done) | (simp [*]; done), by repeat (first | exact Drawn0.refl _ | apply Drawn0.step)⟩

/-! ### impl_chainOf: function 43 -/
def impl_chainOf.l0 : Nat → Int → List Int → Int → Int → Option (Int)
  | 0, _, _, _, _ => none
  | k + 1, x3, x6, x7, x8 => if x8 < x7 then (if 0 ≤ x8 then (if x8 < (x6.length : Int) then (if 0 ≤ (rd x6 x8) then (impl_chainOf.l0 k (Go.bits .xor .u64 x3 (shl .u64 1 (rd x6 x8))) x6 x7 (wrap64 (x8 + 1))) else (none)) else (none)) else (none)) else (some x3)
def impl_chainOf.f (k : Nat) (l0 : List Int) : Option (Int) := impl_chainOf.l0 k 0 l0 (l0.length : Int) 0
theorem impl_chainOf.mono_l : ∀ k, (∀ y0 y1 y2 y3, LeO (impl_chainOf.l0 k y0 y1 y2 y3) (impl_chainOf.l0 (k + 1) y0 y1 y2 y3))
  | 0 => fun _ _ _ _ r h => by simp [impl_chainOf.l0] at h
  | k + 1 => by
    have ih0 := impl_chainOf.mono_l k
    · intro y0 y1 y2 y3
      unfold impl_chainOf.l0
      repeat' first
      | (with_reducible exact ih0 _ _ _ _)
      | (with_reducible exact LeO.refl _)
      | (with_reducible exact LeO.none _)
      | (with_reducible refine LeO.ite ?_ ?_)
      | (with_reducible refine LeO.bind ?_ (fun _ => ?_))
      | exact ih0 _ _ _ _
      | exact LeO.none _
      | refine LeO.ite ?_ ?_
      | refine LeO.bind ?_ (fun _ => ?_)
theorem impl_chainOf.mono : ∀ a0 k, LeO (impl_chainOf.f k a0) (impl_chainOf.f (k + 1) a0) := by
  intro a0 k
  have ih0 := impl_chainOf.mono_l k
  unfold impl_chainOf.f
  repeat' first
      | (with_reducible exact ih0 _ _ _ _)
      | (with_reducible exact LeO.refl _)
      | (with_reducible exact LeO.none _)
      | (with_reducible refine LeO.ite ?_ ?_)
      | (with_reducible refine LeO.bind ?_ (fun _ => ?_))
      | exact ih0 _ _ _ _
      | exact LeO.none _
      | refine LeO.ite ?_ ?_
      | refine LeO.bind ?_ (fun _ => ?_)
set_option maxHeartbeats 8000000 in
set_option maxRecDepth 100000 in
theorem impl_chainOf.calls (k : Nat) (A0 : Option Addr) (c0 : Nat) (l0 : List Int) (r : Int) (w : World) (hr0 : Kd.C (Kd.int .i64) w A0 l0.length l0) (hc0 : l0.length ≤ c0) (h : impl_chainOf.f k l0 = some r) :
    Calls Try.prog 43 #[.slice A0 l0.length c0] w fun e w' => e = .returned (.int .u64 r) ∧ Drawn0 w w' := by
  have HR0 := Aside0.mk hr0
  have HC0 := Aside0.mk hc0
  clear hr0 hc0
  have H : (impl_chainOf.l0 k 0 l0 (l0.length : Int) 0) = some r := h
  clear h
  have H' := Aside0.mk H
  clear H
  go_enter Try.func43, Try.ntmps43
  go_wp2
  go_loopg [3, 8] k (fun kq v3 v8 w' => ∃ (x3_1 : Int) (x8_1 : Int), v3 = .int .u64 x3_1 ∧ v8 = .int .i64 x8_1 ∧ Aside0 (impl_chainOf.l0 kq x3_1 l0 (l0.length : Int) x8_1 = some r) ∧ Aside0 (kq ≤ k) ∧ Drawn0 w w')
  case atStart => exact ⟨(0), (0), (by first | rfl | (simp; done) | (simp [*]; done)), (by first | rfl | (simp; done) | (simp [*]; done)), H', ⟨Nat.le_refl _⟩, by repeat (first | exact Drawn0.refl _ | apply Drawn0.step)⟩
  case round =>
    clear H'
    obtain ⟨x3_1, x8_1, rfl, rfl, HA, HK1, ⟨m1, rfl⟩⟩ := hrel
    cases gk with
    | zero => exact absurd HA.out (by simp [impl_chainOf.l0])
    | succ k1 =>
      have H := HA.out
      clear HA
      simp only [impl_chainOf.l0] at H
      by_cases c2 : x8_1 < (l0.length : Int)
      · rw [if_pos c2] at H
        have c2b0 : decide (x8_1 < (l0.length : Int)) = true := decide_eq_true c2
        clear c2
        by_cases c3 : 0 ≤ x8_1
        · rw [if_pos c3] at H
          have c3b0 : decide (0 ≤ x8_1) = true := decide_eq_true c3
          clear c3
          by_cases c4 : x8_1 < (l0.length : Int)
          · rw [if_pos c4] at H
            have c4b0 : decide (x8_1 < (l0.length : Int)) = true := decide_eq_true c4
            clear c4
            by_cases c5 : 0 ≤ (rd l0 x8_1)
            · rw [if_pos c5] at H
              have c5b0 := eq_true c5
              have c5b1 : decide (0 ≤ (rd l0 x8_1)) = true := decide_eq_true c5
              clear c5
              obtain ⟨ji6, hji6⟩ : ∃ j_ : Int, (shl .u64 1 (rd l0 x8_1)) = j_ := ⟨_, rfl⟩
              replace H : (impl_chainOf.l0 k1 (Go.bits .xor .u64 x3_1 (ji6)) l0 (l0.length : Int) (wrap64 (x8_1 + 1))) = some r := by first | (rw [hji6] at H; exact H) | (simp only [hji6] at H ⊢; exact H)
              have hji6_ : (IntKind.u64.wrap (1 * 2 ^ min (rd l0 x8_1).toNat 64)) = ji6 := hji6
              have hji6z : (rd l0 x8_1) ≤ 64 → (IntKind.u64.wrap (1 * 2 ^ (rd l0 x8_1).toNat)) = ji6 := shl_small hji6
              have hji6u : (IntKind.u64.wrap (2 ^ min (rd l0 x8_1).toNat 64)) = ji6 := by have h_ := hji6_; rw [Int.one_mul] at h_; exact h_
              have hji6v : (rd l0 x8_1) ≤ 64 → (IntKind.u64.wrap (2 ^ (rd l0 x8_1).toNat)) = ji6 := fun hle_ => by have h_ := hji6z hle_; rw [Int.one_mul] at h_; exact h_
              have H' := Aside0.mk H
              clear H
              have p360 : 0 ≤ (x8_1 : Int) := of_decide_eq_true (by first | (with_reducible assumption) | assumption)
              have q360 : x8_1 < (l0.length : Int) := of_decide_eq_true (by first | (with_reducible assumption) | assumption)
              obtain ⟨ad360, e360, hx360_0⟩ := Kd.at_int HR0.out x8_1 p360 q360
              cases e360
              replace p360 := eq_true p360
              replace q360 := eq_true q360
              go_wp2
              go_roundg k1
              case measure => have := HK1.out; omega
              case rel => exact ⟨(Go.bits .xor .u64 x3_1 (ji6)), (wrap64 (x8_1 + 1)), (by first | rfl | (simp; done) | (simp only [← hji6] <;> (first | rfl | simp)) | (simp [*]; done)), (by first | rfl | (simp; done) | (simp [*]; done)), H', ⟨by have := HK1.out; omega⟩, by repeat (first | exact Drawn0.refl _ | apply Drawn0.step)⟩
            · rw [if_neg c5] at H
              exact absurd H (by simp)
          · rw [if_neg c4] at H
            exact absurd H (by simp)
        · rw [if_neg c3] at H
          exact absurd H (by simp)
      · rw [if_neg c2] at H
        have c2b0 : decide (x8_1 < (l0.length : Int)) = false := decide_eq_false c2
        clear c2
        obtain rfl := Option.some.inj H
        go_wp2
        go_ret
        exact ⟨by first | rfl | (simp; done) | (simp [*]; done), by repeat (first | exact Drawn0.refl _ | apply Drawn0.step)⟩

/-! ### impl_reduced: function 73 -/
def impl_reduced.l0 : Nat → Int → List Int → Int → Int → Option (Int)
  | 0, _, _, _, _ => none
  | k + 1, x0, x7, x8, x9 => if x9 < x8 then (if 0 ≤ x9 then (if x9 < (x7.length : Int) then (impl_reduced.l0 k (mn x0 (Go.bits .xor .u64 x0 (rd x7 x9))) x7 x8 (wrap64 (x9 + 1))) else (none)) else (none)) else (some x0)
def impl_reduced.f (k : Nat) (a0 : Int) (l1 : List Int) : Option (Int) := impl_reduced.l0 k a0 l1 (l1.length : Int) 0
theorem impl_reduced.mono_l : ∀ k, (∀ y0 y1 y2 y3, LeO (impl_reduced.l0 k y0 y1 y2 y3) (impl_reduced.l0 (k + 1) y0 y1 y2 y3))
  | 0 => fun _ _ _ _ r h => by simp [impl_reduced.l0] at h
  | k + 1 => by
    have ih0 := impl_reduced.mono_l k
    · intro y0 y1 y2 y3
      unfold impl_reduced.l0
      repeat' first
      | (with_reducible exact ih0 _ _ _ _)
      | (with_reducible exact LeO.refl _)
      | (with_reducible exact LeO.none _)
      | (with_reducible refine LeO.ite ?_ ?_)
      | (with_reducible refine LeO.bind ?_ (fun _ => ?_))
      | exact ih0 _ _ _ _
      | exact LeO.none _
      | refine LeO.ite ?_ ?_
      | refine LeO.bind ?_ (fun _ => ?_)
theorem impl_reduced.mono : ∀ a0 a1 k, LeO (impl_reduced.f k a0 a1) (impl_reduced.f (k + 1) a0 a1) := by
  intro a0 a1 k
  have ih0 := impl_reduced.mono_l k
  unfold impl_reduced.f
  repeat' first
      | (with_reducible exact ih0 _ _ _ _)
      | (with_reducible exact LeO.refl _)
      | (with_reducible exact LeO.none _)
      | (with_reducible refine LeO.ite ?_ ?_)
      | (with_reducible refine LeO.bind ?_ (fun _ => ?_))
      | exact ih0 _ _ _ _
      | exact LeO.none _
      | refine LeO.ite ?_ ?_
      | refine LeO.bind ?_ (fun _ => ?_)
set_option maxHeartbeats 8000000 in
set_option maxRecDepth 100000 in
theorem impl_reduced.calls (k : Nat) (a0 : Int) (A1 : Option Addr) (c1 : Nat) (l1 : List Int) (r : Int) (w : World) (hr1 : Kd.C (Kd.int .u64) w A1 l1.length l1) (hc1 : l1.length ≤ c1) (h : impl_reduced.f k a0 l1 = some r) :
    Calls Try.prog 73 #[.int .u64 a0, .slice A1 l1.length c1] w fun e w' => e = .returned (.int .u64 r) ∧ Below w.heap.size w w' := by
  have HR1 := Aside0.mk hr1
  have HC1 := Aside0.mk hc1
  clear hr1 hc1
  have HB := Aside0.mk (Below.refl w.heap.size w)
  have H : (impl_reduced.l0 k a0 l1 (l1.length : Int) 0) = some r := h
  clear h
  have H' := Aside0.mk H
  clear H
  go_enter Try.func73, Try.ntmps73
  go_wp2
  go_loopg [0, 9] k (fun kq v0 v9 w' => ∃ (x0_1 : Int) (x9_1 : Int), v0 = .int .u64 x0_1 ∧ v9 = .int .i64 x9_1 ∧ Aside0 (impl_reduced.l0 kq x0_1 l1 (l1.length : Int) x9_1 = some r) ∧ Aside0 (kq ≤ k) ∧ Aside0 (Below w.heap.size w w'))
  case atStart => exact ⟨(a0), (0), (by first | rfl | (simp; done) | (simp [*]; done)), (by first | rfl | (simp; done) | (simp [*]; done)), H', ⟨Nat.le_refl _⟩, ⟨by repeat (first | (with_reducible first | exact HB.out | apply below_alloc | apply pw_below_drewN | apply below_drew1) | exact HB.out)⟩⟩
  case round =>
    clear H'
    try clear c1
    try clear p2
    obtain ⟨x0_1, x9_1, rfl, rfl, HA, HK1, HB⟩ := hrel
    cases gk with
    | zero => exact absurd HA.out (by simp [impl_reduced.l0])
    | succ k1 =>
      have H := HA.out
      clear HA
      simp only [impl_reduced.l0] at H
      by_cases c3 : x9_1 < (l1.length : Int)
      · rw [if_pos c3] at H
        have c3b0 : decide (x9_1 < (l1.length : Int)) = true := decide_eq_true c3
        clear c3
        by_cases c4 : 0 ≤ x9_1
        · rw [if_pos c4] at H
          have c4b0 : decide (0 ≤ x9_1) = true := decide_eq_true c4
          clear c4
          by_cases c5 : x9_1 < (l1.length : Int)
          · rw [if_pos c5] at H
            have c5b0 : decide (x9_1 < (l1.length : Int)) = true := decide_eq_true c5
            clear c5
            obtain ⟨ji6, hji6⟩ : ∃ j_ : Int, (mn x0_1 (Go.bits .xor .u64 x0_1 (rd l1 x9_1))) = j_ := ⟨_, rfl⟩
            replace H : (impl_reduced.l0 k1 ji6 l1 (l1.length : Int) (wrap64 (x9_1 + 1))) = some r := by first | (rw [hji6] at H; exact H) | (simp only [hji6] at H ⊢; exact H)
            have hji6_ : (if (Go.bits .xor .u64 x0_1 (rd l1 x9_1)) < x0_1 then (Go.bits .xor .u64 x0_1 (rd l1 x9_1)) else x0_1) = ji6 := hji6
            have H' := Aside0.mk H
            clear H
            have p361 : 0 ≤ (x9_1 : Int) := of_decide_eq_true (by first | (with_reducible assumption) | assumption)
            have q361 : x9_1 < (l1.length : Int) := of_decide_eq_true (by first | (with_reducible assumption) | assumption)
            obtain ⟨ad361, e361, hx361_0⟩ := Kd.at_int HR1.out x9_1 p361 q361
            cases e361
            replace hx361_0 := (HB.out.cell (World.block_lt_of_cell? w _ hx361_0)).trans hx361_0
            replace p361 := eq_true p361
            replace q361 := eq_true q361
            go_wp2
            go_roundg k1
            case measure => have := HK1.out; omega
            case rel => exact ⟨(ji6), (wrap64 (x9_1 + 1)), (by first | rfl | (simp; done) | (simp only [← hji6] <;> (first | rfl | simp)) | (simp [*]; done)), (by first | rfl | (simp; done) | (simp [*]; done)), H', ⟨by have := HK1.out; omega⟩, ⟨by repeat (first | (with_reducible first | exact HB.out | apply below_alloc | apply pw_below_drewN | apply below_drew1) | exact HB.out)⟩⟩
          · rw [if_neg c5] at H
            exact absurd H (by simp)
        · rw [if_neg c4] at H
          exact absurd H (by simp)
      · rw [if_neg c3] at H
        have c3b0 : decide (x9_1 < (l1.length : Int)) = false := decide_eq_false c3
        clear c3
        obtain rfl := Option.some.inj H
        go_wp2
        go_ret
        exact ⟨by first | rfl | (simp [errW_none, errW_some] <;> rfl) | (simp [*, errW_none, errW_some] <;> rfl), by repeat (first | (with_reducible first | exact HB.out | apply below_alloc | apply pw_below_drewN | apply below_drew1) | exact HB.out)⟩

end Go.Proofs.Ytjoggjgmpoaaiaa.Q
end

section
/- Chains as numbers of 64 bits: chainOf and reduced, plain. -/
namespace Go.Proofs.Ytjoggjgmpoaaiaa.K
open Go.RowKit Go.Shelf Go.Proofs.Ytjoggjgmpoaaiaa.Q Go.Proofs.YtjoggjgmpoaaiaaW.PrintWords Go.Proofs.YtjoggjgmpoaaiaaW.PrintLast Go.Proofs.YtjoggjgmpoaaiaaW.PrintMore
set_option linter.unusedVariables false
set_option linter.unusedSimpArgs false

theorem wrap_u64s (n : Int) (h0 : 0 ≤ n) (h1 : n < 2 ^ 64) : IntKind.u64.wrap n = n := by
  simp [IntKind.wrap, IntKind.bits, IntKind.signed]
  omega
theorem xor_lt64 {a b : Nat} (ha : a < 2 ^ 64) (hb : b < 2 ^ 64) : a ^^^ b < 2 ^ 64 := Nat.xor_lt_two_pow ha hb
theorem xor_u64 (a b : Nat) (ha : a < 2 ^ 64) (hb : b < 2 ^ 64) : Go.bits .xor .u64 (a : Int) (b : Int) = ((a ^^^ b : Nat) : Int) := by
  have ha' : a % 2 ^ IntKind.u64.bits = a := Nat.mod_eq_of_lt ha
  have hb' : b % 2 ^ IntKind.u64.bits = b := Nat.mod_eq_of_lt hb
  simp only [Go.bits, BitVec.ofInt_natCast, BitVec.toNat_xor, BitVec.toNat_ofNat, ha', hb']
  refine wrap_u64s _ (Int.natCast_nonneg _) ?_
  have h := xor_lt64 ha hb
  exact_mod_cast h
theorem shl_u64 (f : Int) (h0 : 0 ≤ f) (h1 : f ≤ 63) : shl .u64 1 f = ((2 ^ f.toNat : Nat) : Int) ∧ 2 ^ f.toNat < 2 ^ 64 := by
  have hp : 2 ^ f.toNat < 2 ^ 64 := Nat.pow_lt_pow_right (by decide) (by omega)
  refine ⟨?_, hp⟩
  unfold shl
  rw [Int.one_mul, Nat.min_eq_left (show f.toNat ≤ IntKind.u64.bits by show f.toNat ≤ 64; omega)]
  have e : ((2 : Int) ^ f.toNat) = ((2 ^ f.toNat : Nat) : Int) := by simp
  rw [e]
  refine wrap_u64s _ (Int.natCast_nonneg _) ?_
  have h3 : ((2 ^ f.toNat : Nat) : Int) < ((2 ^ 64 : Nat) : Int) := Int.ofNat_lt.2 hp
  exact h3
theorem chS_lt {c : Nat} (hc : c < 2 ^ 64) {g : Int} (h0 : 0 ≤ g) (h1 : g ≤ 63) : chS c g < 2 ^ 64 := xor_lt64 hc (shl_u64 g h0 h1).2
theorem chN_lt (xs : List Int) (h : ∀ x ∈ xs, 0 ≤ x ∧ x ≤ 63) : ∀ c, c < 2 ^ 64 → xs.foldl chS c < 2 ^ 64 := by
  induction xs with
  | nil => exact fun c hc => hc
  | cons x r ih => exact fun c hc => ih (fun y hy => h y (List.mem_cons_of_mem _ hy)) _ (chS_lt hc (h x List.mem_cons_self).1 (h x List.mem_cons_self).2)
theorem chainOf_l0 (xs : List Int) (hl : xs.length ≤ 1000000000) (h : ∀ x ∈ xs, 0 ≤ x ∧ x ≤ 63) : ∀ (m i k c : Nat), i + m = xs.length → m < k → c < 2 ^ 64 →
    impl_chainOf.l0 k (c : Int) xs (xs.length : Int) (i : Int) = some (((xs.drop i).foldl chS c : Nat) : Int) := by
  intro m
  induction m with
  | zero =>
    intro i k c him hk hc
    obtain ⟨k, rfl⟩ : ∃ q, k = q + 1 := ⟨k - 1, by omega⟩
    simp only [impl_chainOf.l0]
    rw [if_neg (by omega), List.drop_eq_nil_of_le (by omega)]
    rfl
  | succ m ih =>
    intro i k c him hk hc
    obtain ⟨k, rfl⟩ : ∃ q, k = q + 1 := ⟨k - 1, by omega⟩
    have hil : i < xs.length := by omega
    have hx := h _ (List.getElem_mem hil)
    have hs := shl_u64 xs[i] hx.1 hx.2
    simp only [impl_chainOf.l0]
    rw [if_pos (by omega), if_pos (by omega), if_pos (by omega), rd_nat xs i hil, if_pos (by omega), hs.1, xor_u64 c _ hc hs.2, w64 ((i : Int) + 1) (by omega) (by omega), nat_succ]
    rw [ih (i + 1) k _ (by omega) (by omega) (xor_lt64 hc hs.2), List.drop_eq_getElem_cons hil, List.foldl_cons]
    rfl
theorem chainOf_is (xs : List Int) (hl : xs.length ≤ 1000000000) (h : ∀ x ∈ xs, 0 ≤ x ∧ x ≤ 63) : impl_chainOf.f (xs.length + 1) xs = some (chN xs : Int) := by
  unfold impl_chainOf.f
  have := chainOf_l0 xs hl h xs.length 0 (xs.length + 1) 0 (by omega) (by omega) (by decide)
  exact this
/-- Chains as they lie in memory. -/
def chI (L : List Nat) : List Int := L.map (fun (a : Nat) => (a : Int))
theorem reduced_l0 (L : List Nat) (hl : L.length ≤ 1000000000) (h : ∀ o ∈ L, o < 2 ^ 64) : ∀ (m i k c : Nat), i + m = L.length → m < k → c < 2 ^ 64 →
    impl_reduced.l0 k (c : Int) (chI L) ((chI L).length : Int) (i : Int) = some (((L.drop i).foldl redS c : Nat) : Int) ∧ (L.drop i).foldl redS c < 2 ^ 64 := by
  have hcl : (chI L).length = L.length := by simp [chI]
  intro m
  induction m with
  | zero =>
    intro i k c him hk hc
    obtain ⟨k, rfl⟩ : ∃ q, k = q + 1 := ⟨k - 1, by omega⟩
    simp only [impl_reduced.l0]
    rw [if_neg (by omega), List.drop_eq_nil_of_le (by omega)]
    exact ⟨rfl, hc⟩
  | succ m ih =>
    intro i k c him hk hc
    obtain ⟨k, rfl⟩ : ∃ q, k = q + 1 := ⟨k - 1, by omega⟩
    have hil : i < L.length := by omega
    have hx := h _ (List.getElem_mem hil)
    have hrd : rd (chI L) (i : Int) = ((L[i] : Nat) : Int) := by rw [rd_nat (chI L) i (by omega)]; simp [chI]
    have hr : redS c L[i] < 2 ^ 64 := by unfold redS; have := xor_lt64 hc hx; omega
    have hmn : mn (c : Int) ((c ^^^ L[i] : Nat) : Int) = ((redS c L[i] : Nat) : Int) := by
      unfold mn redS
      split <;> omega
    simp only [impl_reduced.l0]
    rw [if_pos (by omega), if_pos (by omega), if_pos (by omega), hrd, xor_u64 c _ hc hx, hmn, w64 ((i : Int) + 1) (by omega) (by omega), nat_succ]
    rw [List.drop_eq_getElem_cons hil, List.foldl_cons]
    exact ih (i + 1) k _ (by omega) (by omega) hr
theorem reduced_is (L : List Nat) (hl : L.length ≤ 1000000000) (h : ∀ o ∈ L, o < 2 ^ 64) (c : Nat) (hc : c < 2 ^ 64) : impl_reduced.f (L.length + 1) (c : Int) (chI L) = some (redN c L : Int) ∧ redN c L < 2 ^ 64 := by
  unfold impl_reduced.f
  exact reduced_l0 L hl h L.length 0 (L.length + 1) c (by omega) (by omega) hc

end Go.Proofs.Ytjoggjgmpoaaiaa.K
end

section
/- The program's bounding chains: bounding, bounds. -/
namespace Go.Proofs.Ytjoggjgmpoaaiaa.K
open Go.RowKit Go.Shelf Go.Proofs.Ytjoggjgmpoaaiaa.Q Go.Proofs.YtjoggjgmpoaaiaaW.PrintWords Go.Proofs.YtjoggjgmpoaaiaaW.PrintLast Go.Proofs.YtjoggjgmpoaaiaaW.PrintMore
set_option linter.unusedVariables false
set_option linter.unusedSimpArgs false

theorem ins_perm (c : Nat) : ∀ L, (insD c L).Perm (c :: L)
  | [] => List.Perm.refl _
  | x :: L => by
    simp only [insD]
    split
    · exact ((ins_perm c L).cons x).trans (List.Perm.swap c x L)
    · exact List.Perm.refl _
theorem ins_length (c : Nat) (L : List Nat) : (insD c L).length = L.length + 1 := by rw [(ins_perm c L).length_eq]; rfl
theorem ins_sorted (c : Nat) : ∀ L : List Nat, L.Pairwise (fun a b => b ≤ a) → (insD c L).Pairwise (fun a b => b ≤ a)
  | [], _ => by simp [insD]
  | x :: L, h => by
    rw [List.pairwise_cons] at h
    simp only [insD]
    split
    · rename_i hc
      rw [List.pairwise_cons]
      refine ⟨fun y hy => ?_, ins_sorted c L h.2⟩
      rcases (mem_ins c y L).1 hy with rfl | hy
      · omega
      · exact h.1 y hy
    · rename_i hc
      rw [List.pairwise_cons]
      refine ⟨fun y hy => ?_, List.pairwise_cons.2 h⟩
      rcases List.mem_cons.1 hy with rfl | hy
      · omega
      · have := h.1 y hy; omega
theorem desc_sorted {L : List Nat} (h : Desc L) : L.Pairwise (fun a b => b ≤ a) := h.1.imp (fun ⟨s, t, h1, h2, h3⟩ => Nat.le_of_lt (top_lt h1 h2 h3))
theorem sort_ins (c : Nat) (L : List Nat) (h : L.Pairwise (fun a b => b ≤ a)) : (chI L ++ [(c : Int)]).mergeSort (fun x y => decide (y ≤ x)) = chI (insD c L) := by
  have tr : ∀ a b d : Int, decide (b ≤ a) = true → decide (d ≤ b) = true → decide (d ≤ a) = true := fun a b d h1 h2 => by simp at *; omega
  have tot : ∀ a b : Int, (decide (b ≤ a) || decide (a ≤ b)) = true := fun a b => by simp; omega
  refine List.Perm.eq_of_pairwise (le := fun a b : Int => decide (b ≤ a) = true) (fun a b _ _ h1 h2 => ?_) (List.pairwise_mergeSort tr tot _) ?_ ?_
  · simp at h1 h2; omega
  · unfold chI
    rw [List.pairwise_map]
    exact (ins_sorted c L h).imp (fun h => by simp; omega)
  · refine (List.mergeSort_perm _ _).trans ?_
    have h1 : (chI L ++ [(c : Int)]).Perm (chI (c :: L)) := by
      show (chI L ++ [(c : Int)]).Perm ([(c : Int)] ++ chI L)
      exact List.perm_append_comm
    exact h1.trans ((ins_perm c L).map _).symm
theorem bnd_small (y : Int) (h0 : 0 ≤ y) (h1 : y ≤ 63) : chN (bords y) < 2 ^ 64 := chN_lt _ (fun x hx => by have := (bords_dim y h0 h1 x hx).2; omega) 0 (by decide)
theorem infoU : (Try.prog.info? 58).map (fun i => (i.zero, i.size, i.bytes)) = some (some (.int .u64 0), 1, 8) := by kernel_rfl
section
variable {ops : Array Oper} {o : Oper} {rest : List Oper} {a : Act} {Q : Exit → Act → World → Prop}
theorem append_u {W : World} (base : Nat) (hgd : o.guard = none) (s x : Operand)
    (ho : o.op = .call { callee := .builtin .append, args := #[s, x], argTypes := #[85, 85] })
    (v : Value) (xs : List Int) (p : Int) (hs : a.eval s = v) (hx : a.eval x = .slice (some ⟨W.heap.size, 0, none⟩) 1 1)
    (HO : Ku.R 58 W base (fun _ => True) v xs) (hbase : base ≤ W.heap.size) (hl : xs.length ≤ 1000000000000)
    (h : ∀ A c w1, Ku.R 58 w1 base (fun _ => True) (.slice A (xs.length + 1) c) (xs ++ [p]) → Below base W w1 → wpList Try.prog ops Q rest (a.put o.dst (.slice A (xs.length + 1) c)) w1) :
    wpList Try.prog ops Q (o :: rest) a (W.alloc (.cells #[.int .u64 p] 58)) := by
  refine Kd.R_append Ku (w0 := W) base hgd s x 85 58 (.int .u64 0) 8 ho Try.underlying85 infoU rfl (by decide) (by omega) v xs p [.int .u64 p] (fun _ => True) (fun _ => False) hs hx rfl (fun _ hk => hk.elim) (fun _ _ => trivial) HO (Below.refl _ _) hbase (by omega) ?_
  intro v1 w1 hR hB hg _
  obtain ⟨A, c, e⟩ := Kd.R_slice hR
  rw [List.length_append] at e
  subst e
  exact h A c w1 hR hB
end

set_option maxRecDepth 100000 in
set_option maxHeartbeats 1000000 in
theorem bounding_calls (n : Int) (A : Option Addr) (c : Nat) (l : List Int) (w : World) (hk : Kx w A c l) (hi : isC n l = true) :
    Calls Try.prog 74 #[.agg #[I n, .slice A l.length c]] w fun e w' => ∃ v, e = .returned v ∧ Ku.R 58 w' w.heap.size (fun _ => True) v (chI (bndL l)) ∧ (bndL l).length ≤ 63 ∧ (∀ o ∈ bndL l, o < 2 ^ 64) ∧ Grew w w' := by
  have hf := isC_faces hi
  have hl := hf.2.2.2
  have HF := Aside0.mk (isC_of hi)
  have hB : CB (w.alloc (.cells #[I n, .slice A l.length c] 26)) w.heap.size n (.slice A l.length c) := blk_new w _
  have HG : Aside0 (Grew w (w.alloc (.cells #[I n, .slice A l.length c] 26))) := ⟨below_alloc (Grew.refl w) _⟩
  have HK := Aside0.mk hk
  have k0 := hB.c0
  have k1 := hB.c1
  clear hk hB hf hi
  go_enter Try.func74, Try.ntmps74
  go_wp2_with fail
  go_loopg [3, 10] l.length (fun gg s3 s10 wr => ∃ (kk : Nat) (A3 : Option Addr) (c3 : Nat) (L : List Nat), kk ≤ l.length ∧ l.length - kk ≤ gg ∧ s3 = .slice A3 (chI L).length c3 ∧ s10 = .int .i64 kk ∧ L.length ≤ kk ∧ Aside0 ((l.take kk).foldl bndS [] = L) ∧ Aside0 (Desc L ∧ ∀ o ∈ L, o < 2 ^ 64) ∧ Aside0 (Ku.R 58 wr w.heap.size (fun _ => True) (.slice A3 (chI L).length c3) (chI L)) ∧ Aside0 (Grew w wr))
  case atStart => exact ⟨0, none, 0, [], Nat.zero_le _, by omega, rfl, rfl, Nat.le_refl _, ⟨rfl⟩, ⟨⟨List.Pairwise.nil, fun o ho => by cases ho⟩, fun o ho => by cases ho⟩, ⟨Kd.R_nil _ _ _ _ _⟩, HG⟩
  case round =>
    clear HG k0 k1
    obtain ⟨kk, A3, c3, L, hkk, hg, rfl, rfl, hLk, HL, HD, HR, HGr⟩ := hrel
    by_cases hlt : kk < l.length
    · have hltz : (kk : Int) < (l.length : Int) := by omega
      obtain ⟨ad, e0, hx⟩ := Kd.at_int (HK.out.later HGr.out).r (kk : Int) (by omega) (by omega)
      cases e0
      have hy := HF.out _ (List.getElem_mem hlt)
      rw [rd_nat l kk hlt, Int.toNat_natCast] at hx
      have HN : Aside0 ((l.take (kk + 1)).foldl bndS [] = bndS L l[kk]) := ⟨by rw [List.take_succ_eq_append_getElem hlt, List.foldl_append, HL.out]; rfl⟩
      have HDn := Aside0.mk (bndS_facts L HD.out.1 l[kk]).1
      generalize l[kk] = y at hx hy HN HDn
      have hcy := bnd_small y hy.1 hy.2
      have hrd := reduced_is L (by omega) HD.out.2 (chN (bords y)) hcy
      have HC := Aside0.mk (chainOf_is (bords y) (by have := bords_length y; omega) (fun x hx => by have := (bords_dim y hy.1 hy.2 x hx).2; omega))
      have H1 := Aside0.mk (borders_calls y wr)
      have HCL : Aside0 ((chI L).length = L.length) := ⟨by simp [chI]⟩
      have hs0 := HGr.out.size
      unfold bndS at HN HDn
      generalize chN (bords y) = q at hrd HC hcy HN HDn
      generalize redN q L = r at hrd HN HDn
      have HRD := Aside0.mk hrd
      have HBL := Aside0.mk (bords_length y)
      clear hrd HL
      go_wp2_with fail
      refine H1.out.mono ?_
      rintro e w1 ⟨vb, rfl, hRb, hG1⟩
      obtain ⟨Ab, cb, eb, hcb, hrb⟩ := Kd.R_reads hRb
      subst eb
      have H2 := Aside0.mk (impl_chainOf.calls _ Ab cb (bords y) _ w1 hrb hcb HC.out)
      have HR1 := Aside0.mk (Kd.R_below HR.out hG1)
      have HG1 := Aside0.mk (Grew.trans HGr.out hG1)
      clear hRb hG1 hrb hcb H1 HR HGr
      go_wp2_with fail
      refine H2.out.mono ?_
      rintro e w2 ⟨rfl, hd2⟩
      have hG2 : Grew w1 w2 := hd2.below
      have HR2 := Aside0.mk (Kd.R_below HR1.out hG2)
      have HG2 := Aside0.mk (Grew.trans HG1.out hG2)
      obtain ⟨_, hc3, hr3⟩ := Kd.R_reads' HR2.out
      have H3 := Aside0.mk (impl_reduced.calls _ _ A3 c3 (chI L) _ w2 hr3 hc3 HRD.out.1)
      clear hd2 hG2 HR1 HG1 H2 hr3 hc3
      go_wp2_with fail
      refine H3.out.mono ?_
      rintro e w3 ⟨rfl, hG3⟩
      have HR3 := Aside0.mk (Kd.R_below HR2.out hG3)
      have HG3 := Aside0.mk (Grew.trans HG2.out hG3)
      have hs3 := HG3.out.size
      clear hG3 HR2 HG2 H3
      by_cases hz : r = 0
      · have hzz : (r : Int) = 0 := by omega
        rw [if_pos hz] at HN HDn
        have HZ := Aside0.mk hz
        clear hz
        go_wp2_with fail
        go_roundg (l.length - (kk + 1))
        case measure => omega
        case rel => exact ⟨kk + 1, A3, c3, L, by omega, by omega, rfl, by go_num, by omega, HN, HD, HR3, HG3⟩
      · have hzz : ¬ (r : Int) = 0 := by omega
        rw [if_neg hz] at HN HDn
        have HZ := Aside0.mk hz
        have HSI := Aside0.mk (sort_ins r L (desc_sorted HD.out.1))
        clear hz
        go_wp2_with (at_builtin; refine append_u w.heap.size rfl (.tmp 21) (.tmp 23) rfl _ (chI L) (r : Int) rfl rfl HR3.out hs3 (by rw [HCL.out]; omega) ?_; intro A9 c9 w9 hR9 hB9; have HR9 := Aside0.mk hR9; have HG9 : Aside0 (Grew w w9) := ⟨Below.trans HG3.out hB9⟩; clear hR9 hB9)
        obtain ⟨g9, c9', e9, _⟩ := Kd.R_form HR9.out (by simp)
        injection e9 with e1 e2 e3
        subst e1 e3
        have hl9 : (chI L ++ [(r : Int)]).length = (chI L).length + 1 := by simp
        have HR9' : Aside0 (Ku.R 58 w9 w.heap.size (fun _ => True) (.slice (some ⟨g9, 0, none⟩) (chI L ++ [(r : Int)]).length c9) (chI L ++ [(r : Int)])) := ⟨by rw [hl9]; exact HR9.out⟩
        have h4 := SortC_calls (chI L ++ [(r : Int)]) w9 HR9'.out (by rw [hl9, HCL.out]; omega)
        rw [hl9, HSI.out] at h4
        have H4 := Aside0.mk h4
        have HLL : Aside0 ((chI (insD r L)).length = (chI L).length + 1) := ⟨by simp [chI, ins_length]⟩
        have HIL : Aside0 ((insD r L).length ≤ kk + 1) := ⟨by rw [ins_length]; omega⟩
        have hs9 := HG9.out.size
        clear hl9 h4 HR9 HR9' e2
        refine H4.out.mono ?_
        rintro e w4 ⟨rfl, hR4, hB4⟩
        have HR4 : Aside0 (Ku.R 58 w4 w.heap.size (fun _ => True) (.slice (some ⟨g9, 0, none⟩) (chI (insD r L)).length c9) (chI (insD r L))) := ⟨by rw [HLL.out]; exact hR4⟩
        have HG4 : Aside0 (Grew w w4) := ⟨Below.trans HG9.out hB4⟩
        have HDD : Aside0 (Desc (insD r L) ∧ ∀ o ∈ insD r L, o < 2 ^ 64) := ⟨HDn.out, fun o ho => by
          rcases (mem_ins r o L).1 ho with rfl | h
          · exact HRD.out.2
          · exact HD.out.2 o h⟩
        clear hR4 hB4 H4
        go_wp2_with fail
        go_roundg (l.length - (kk + 1))
        case measure => omega
        case rel => exact ⟨kk + 1, _, c9, insD r L, by omega, by omega, by rw [HLL.out], by go_num, HIL.out, HN, HDD, HR4, HG4⟩
    · obtain rfl : kk = l.length := by omega
      rw [List.take_length] at HL
      have hltz : ¬ (l.length : Int) < (l.length : Int) := by omega
      have HBL : Aside0 (bndL l = L) := HL
      go_wp2_with fail
      go_ret
      exact ⟨_, rfl, by rw [HBL.out]; exact HR.out, by rw [HBL.out]; omega, by rw [HBL.out]; exact HD.out.2, HGr.out⟩

set_option maxHeartbeats 2000000 in
theorem bounds_calls (n : Int) (A : Option Addr) (c : Nat) (l : List Int) (q : Nat) (hq : q < 2 ^ 64) (w : World) (hk : Kx w A c l) (hi : isC n l = true) :
    Calls Try.prog 42 #[.agg #[I n, .slice A l.length c], .int .u64 (q : Int)] w fun e w' => e = .returned (.bool (bndB l q)) ∧ Grew w w' := by
  have hB : CB (w.alloc (.cells #[I n, .slice A l.length c] 26)) w.heap.size n (.slice A l.length c) := blk_new w _
  have HG : Aside0 (Grew w (w.alloc (.cells #[I n, .slice A l.length c] 26))) := ⟨below_alloc (Grew.refl w) _⟩
  have H1 := Aside0.mk (bounding_calls n A c l _ (hk.later HG.out) hi)
  have k0 := hB.c0
  have k1 := hB.c1
  have HV : Aside0 (bndB l q = decide (redN q (bndL l) = 0)) := ⟨rfl⟩
  generalize bndL l = L at H1 HV
  have HQ := Aside0.mk hq
  clear hk hi hB hq
  go_enter Try.func42, Try.ntmps42
  go_wp2_with fail
  refine H1.out.mono ?_
  rintro e w1 ⟨v, rfl, hR, hl, hsm, hG1⟩
  obtain ⟨A3, c3, e3, hc3, hr3⟩ := Kd.R_reads hR
  subst e3
  obtain ⟨h1, _⟩ := reduced_is L (by omega) hsm q HQ.out
  have H2 := Aside0.mk (impl_reduced.calls _ _ A3 c3 (chI L) _ w1 hr3 hc3 h1)
  have HG1 := Aside0.mk (Grew.trans HG.out hG1)
  generalize redN q L = r at H2 HV
  clear hR hl hsm hG1 hc3 hr3 h1 k0 k1
  go_wp2_with fail
  refine H2.out.mono ?_
  rintro e w2 ⟨rfl, hG2⟩
  by_cases hz : r = 0
  · subst hz
    go_wp2_with fail
    go_ret
    exact ⟨by rw [HV.out]; rfl, Grew.trans HG1.out hG2⟩
  · have hzz : ¬ (r : Int) = 0 := by omega
    go_wp2_with fail
    go_ret
    exact ⟨by rw [HV.out]; simp [hz], Grew.trans HG1.out hG2⟩

end Go.Proofs.Ytjoggjgmpoaaiaa.K
end

section
/- A complex has a face just where the face is in its list; sizes. -/
namespace Go.Proofs.Ytjoggjgmpoaaiaa.K
open Go.RowKit Go.Shelf Go.Proofs.Ytjoggjgmpoaaiaa.Q Go.Proofs.YtjoggjgmpoaaiaaW.PrintWords Go.Proofs.YtjoggjgmpoaaiaaW.PrintLast Go.Proofs.YtjoggjgmpoaaiaaW.PrintMore
set_option linter.unusedVariables false
set_option linter.unusedSimpArgs false

theorem has_mem {l : List Int} {n : Int} (hi : isC n l = true) {f : Int} (h : hasB l f = true) : f ∈ l ∧ 1 ≤ f ∧ f ≤ 63 := by
  obtain ⟨hn, hs, hr, h63⟩ := isC_faces hi
  have h2 : f ∈ l := by
    rw [has_asc l f (by omega) hs] at h
    exact of_decide_eq_true h
  have := hr f h2
  exact ⟨h2, by omega, by omega⟩
theorem size_64 : ∀ m : Fin 64, impl_size.f (m.val : Int) = some (onesI (m.val : Int)) := by decide +kernel
theorem size_is (f : Int) (h0 : 0 ≤ f) (h1 : f ≤ 63) : impl_size.f f = some (onesI f) := by
  obtain ⟨m, rfl⟩ := Int.eq_ofNat_of_zero_le h0
  exact size_64 ⟨m, by omega⟩

end Go.Proofs.Ytjoggjgmpoaaiaa.K
end

section
/- Written by a program of this session (myprint.py over the kit's print). -/
namespace Go.Proofs.Ytjoggjgmpoaaiaa.Q
open Go.RowKit Go.Proofs.YtjoggjgmpoaaiaaW.PrintWords Go.Proofs.YtjoggjgmpoaaiaaW.PrintLast Go.Proofs.YtjoggjgmpoaaiaaW.PrintMore
attribute [local go_sem] max2_int min2_int max_two min_two max_three min_three max_four min_four   -- for this text's walks alone
set_option linter.unusedVariables false
set_option linter.unusedSimpArgs false

/-! ### impl_Complex_isChain: function 72 -/
def impl_Complex_isChain.l0 : Nat → List Int → List Int → Int → Int → Int → List Int → Option (Bool)
 | 0, _, _, _, _, _, _ => none
 | k + 1, x1, x7, x8, x9, x363000, x363001 => if x9 < x8 then (if 0 ≤ x9 then (if x9 < (x7.length : Int) then ((impl_Complex_has.f k x363000 x363001 (rd x7 x9)).bind fun t364 => (if t364 = true then ((impl_size.f (rd x7 x9)).bind fun t365 => (if 0 < (x1.length : Int) then ((impl_size.f (rd x1 0)).bind fun t367 => (if t365 = t367 then (if x9 > 0 then (if 0 ≤ (wrap64 (x9 - 1)) then (if (wrap64 (x9 - 1)) < (x1.length : Int) then (if (rd x7 x9) ≤ (rd x1 (wrap64 (x9 - 1))) then (some false) else (impl_Complex_isChain.l0 k x1 x7 x8 (wrap64 (x9 + 1)) x363000 x363001)) else (none)) else (none)) else (impl_Complex_isChain.l0 k x1 x7 x8 (wrap64 (x9 + 1)) x363000 x363001)) else (some false))) else (none))) else (some false))) else (none)) else (none)) else (some true)
def impl_Complex_isChain.f (k : Nat) (a0_0 : Int) (l0_1 : List Int) (l1 : List Int) : Option (Bool) := impl_Complex_isChain.l0 k l1 l1 (l1.length : Int) 0 a0_0 l0_1
theorem impl_Complex_isChain.mono_l : ∀ k, (∀ y0 y1 y2 y3 y4 y5, LeO (impl_Complex_isChain.l0 k y0 y1 y2 y3 y4 y5) (impl_Complex_isChain.l0 (k + 1) y0 y1 y2 y3 y4 y5))
 | 0 => fun _ _ _ _ _ _ r h => by simp [impl_Complex_isChain.l0] at h
 | k + 1 => by
  have ih0 := impl_Complex_isChain.mono_l k
  ·intro y0 y1 y2 y3 y4 y5
   unfold impl_Complex_isChain.l0
   repeat' first
   | (with_reducible exact ih0 _ _ _ _ _ _)
   | (with_reducible exact impl_Complex_has.mono _ _ _ _)
   | (with_reducible exact LeO.refl _)
   | (with_reducible exact LeO.none _)
   | (with_reducible refine LeO.ite ?_ ?_)
   | (with_reducible refine LeO.bind ?_ (fun _ => ?_))
   | exact ih0 _ _ _ _ _ _
   | exact impl_Complex_has.mono _ _ _ _
   | exact LeO.none _
   | refine LeO.ite ?_ ?_
   | refine LeO.bind ?_ (fun _ => ?_)
theorem impl_Complex_isChain.mono : ∀ a0 a1 a2 k, LeO (impl_Complex_isChain.f k a0 a1 a2) (impl_Complex_isChain.f (k + 1) a0 a1 a2) := by
 intro a0 a1 a2 k
 have ih0 := impl_Complex_isChain.mono_l k
 unfold impl_Complex_isChain.f
 repeat' first
   | (with_reducible exact ih0 _ _ _ _ _ _)
   | (with_reducible exact impl_Complex_has.mono _ _ _ _)
   | (with_reducible exact LeO.refl _)
   | (with_reducible exact LeO.none _)
   | (with_reducible refine LeO.ite ?_ ?_)
   | (with_reducible refine LeO.bind ?_ (fun _ => ?_))
   | exact ih0 _ _ _ _ _ _
   | exact impl_Complex_has.mono _ _ _ _
   | exact LeO.none _
   | refine LeO.ite ?_ ?_
   | refine LeO.bind ?_ (fun _ => ?_)
def impl_Complex_isChain.T4 : Bool × List (List Nat × List Nat) := (true, [([], []), ([], []), ([0, 1], [0, 1]), ([2], [2]), ([3, 2], [3]), ([4], [4]), ([5, 4, 4], [4, 5]), ([4], [4]), ([7, 4], [4, 7]), ([8, 4], [4, 8]), ([9, 6, 4], [4, 9]), ([6, 10, 4], [4, 6, 10]), ([4, 11], [4, 11]), ([12, 10], [12]), ([13], [13]), ([14, 13], [13, 14]), ([15, 13, 13], [13, 15]), ([16], [16]), ([16], [16]), ([16], [16]), ([19, 16], [16, 19]), ([18, 20, 16], [16, 18, 20]), ([21, 16], [16, 21]), ([17, 22, 16], [16, 17, 22]), ([16, 23, 13], [13, 16, 23]), ([13, 24], [13, 24])])
def impl_Complex_isChain.B4 : List Nat := [0, 0, 3, 7, 15, 31, 63, 31, 159, 415, 1023, 2047, 4095, 8191, 16383, 32767, 65535, 131071, 131071, 131071, 655359, 1966079, 4063231, 8388607, 16777215, 33554431]
theorem impl_Complex_isChain.tab4 : rtab .any (opsOf Try.f72 4) = impl_Complex_isChain.T4 := by kernel_rfl
theorem impl_Complex_isChain.bits4 : waitsOk impl_Complex_isChain.T4.2 impl_Complex_isChain.B4 = true := by kernel_rfl
set_option maxHeartbeats 8000000 in
set_option maxRecDepth 100000 in
theorem impl_Complex_isChain.calls (k : Nat) (a0_0 : Int) (A0_1 : Option Addr) (c0_1 : Nat) (l0_1 : List Int) (A1 : Option Addr) (c1 : Nat) (l1 : List Int) (r : Bool) (w : World) (hr0_1 : Kd.C (Kd.int .i64) w A0_1 l0_1.length l0_1) (hc0_1 : l0_1.length ≤ c0_1) (hr1 : Kd.C (Kd.int .i64) w A1 l1.length l1) (hc1 : l1.length ≤ c1) (h : impl_Complex_isChain.f k a0_0 l0_1 l1 = some r) :
  Calls Try.prog 72 #[.agg #[.int .i64 a0_0, .slice A0_1 l0_1.length c0_1], .slice A1 l1.length c1] w fun e w' => e = .returned (.bool r) ∧ Below w.heap.size w w' := by
 have hu26 := Try.underlying26
 have HR0_1 := Aside0.mk hr0_1
 have HC0_1 := Aside0.mk hc0_1
 clear hr0_1 hc0_1
 have HR1 := Aside0.mk hr1
 have HC1 := Aside0.mk hc1
 clear hr1 hc1
 have HB := Aside0.mk (Below.refl w.heap.size w)
 have H : (impl_Complex_isChain.l0 k l1 l1 (l1.length : Int) 0 a0_0 l0_1) = some r := h
 clear h
 have H' := Aside0.mk H
 clear H
 go_enter Try.func72, Try.ntmps72
 go_wp2_with (first | ((with_reducible refine gate_dst (N := 2) rfl ?_); refine box_event ?hg (N := 2) ?hd (cs := #[.int .i64 a0_0, .slice A0_1 l0_1.length c0_1]) (t := 26) ?hr ?_; (case hd => rfl); (case hg => rfl); (case hr => first | (go_simp; done) | (go_simp; rfl)); intro gb362 hg w3 hbox hb; have n0_ := Aside0.mk (below_step (by repeat (first | (with_reducible first | exact HB.out | apply below_alloc | apply pw_below_drewN | apply below_drew1) | exact HB.out)) hb); have n1_ := Aside0.mk (hbox); have n2_ := Aside0.mk ((by rw [hg]; exact (below_size (by repeat (first | (with_reducible first | exact HB.out | apply below_alloc | apply pw_below_drewN | apply below_drew1) | exact HB.out))) : w.heap.size ≤ gb362)); have n3_ := Aside0.mk ((by rw [hg]; exact (below_size (by repeat (first | (with_reducible first | exact HB.out | apply below_alloc | apply pw_below_drewN | apply below_drew1) | exact HB.out))) : w.heap.size ≤ gb362)); clear HB; have HB := n0_; have BK362 := n1_; have GW362 := n2_; have GE362 := n3_; clear n0_ n1_ n2_ n3_; clear hb hbox hg))
 go_loopg [9] k (fun kq v9 w' => ∃ (x9_1 : Int), v9 = .int .i64 x9_1 ∧ Aside0 (impl_Complex_isChain.l0 kq l1 l1 (l1.length : Int) x9_1 a0_0 l0_1 = some r) ∧ Aside0 (kq ≤ k) ∧ Aside0 (w'.heap[gb362]? = some (.cells #[.int .i64 a0_0, (.slice A0_1 l0_1.length c0_1)] 26 (0, 0))) ∧ Aside0 (Below w.heap.size w w'))
 case atStart => exact ⟨(0), (by first | rfl | (simp; done) | (simp [*]; done)), H', ⟨Nat.le_refl _⟩, ⟨by (with_reducible repeat (first | refine blk_drewN ?_ _ | refine blk_drew ?_ | refine blk_alloc ?_ _)); exact BK362.out⟩, ⟨by repeat (first | (with_reducible first | exact HB.out | apply below_alloc | apply pw_below_drewN | apply below_drew1 | refine below_set ?_ GE362.out) | exact HB.out)⟩⟩
 case round =>
  clear H'
  try clear c1
  try clear p2
  obtain ⟨x9_1, rfl, HA, HK1, BK362, HB⟩ := hrel
  cases gk with
  | zero => exact absurd HA.out (by simp [impl_Complex_isChain.l0])
  | succ k1 =>
   have H := HA.out
   clear HA
   simp only [impl_Complex_isChain.l0] at H
   by_cases c4 : x9_1 < (l1.length : Int)
   ·rw [if_pos c4] at H
    have c4b0 : decide (x9_1 < (l1.length : Int)) = true := decide_eq_true c4
    clear c4
    by_cases c5 : 0 ≤ x9_1
    ·rw [if_pos c5] at H
     have c5b0 : decide (0 ≤ x9_1) = true := decide_eq_true c5
     clear c5
     by_cases c6 : x9_1 < (l1.length : Int)
     ·rw [if_pos c6] at H
      have c6b0 : decide (x9_1 < (l1.length : Int)) = true := decide_eq_true c6
      clear c6
      replace H := Option.bind_eq_some_iff.mp H
      obtain ⟨t364, A70, H⟩ := H
      replace H : (if t364 = true then ((impl_size.f (rd l1 x9_1)).bind fun t365 => (if 0 < (l1.length : Int) then ((impl_size.f (rd l1 0)).bind fun t367 => (if t365 = t367 then (if x9_1 > 0 then (if 0 ≤ (wrap64 (x9_1 - 1)) then (if (wrap64 (x9_1 - 1)) < (l1.length : Int) then (if (rd l1 x9_1) ≤ (rd l1 (wrap64 (x9_1 - 1))) then (some false) else (impl_Complex_isChain.l0 k1 l1 l1 (l1.length : Int) (wrap64 (x9_1 + 1)) a0_0 l0_1)) else (none)) else (none)) else (impl_Complex_isChain.l0 k1 l1 l1 (l1.length : Int) (wrap64 (x9_1 + 1)) a0_0 l0_1)) else (some false))) else (none))) else (some false)) = some r := H
      have A7 := Aside0.mk A70
      clear A70
      by_cases c8 : t364 = true
      ·subst c8
       have H1 : ((impl_size.f (rd l1 x9_1)).bind fun t365 => (if 0 < (l1.length : Int) then ((impl_size.f (rd l1 0)).bind fun t367 => (if t365 = t367 then (if x9_1 > 0 then (if 0 ≤ (wrap64 (x9_1 - 1)) then (if (wrap64 (x9_1 - 1)) < (l1.length : Int) then (if (rd l1 x9_1) ≤ (rd l1 (wrap64 (x9_1 - 1))) then (some false) else (impl_Complex_isChain.l0 k1 l1 l1 (l1.length : Int) (wrap64 (x9_1 + 1)) a0_0 l0_1)) else (none)) else (none)) else (impl_Complex_isChain.l0 k1 l1 l1 (l1.length : Int) (wrap64 (x9_1 + 1)) a0_0 l0_1)) else (some false))) else (none))) = some r := by rw [if_pos rfl] at H; exact H
       clear H
       have H := H1
       clear H1
       replace H := Option.bind_eq_some_iff.mp H
       obtain ⟨t365, A90, H⟩ := H
       replace H : (if 0 < (l1.length : Int) then ((impl_size.f (rd l1 0)).bind fun t367 => (if t365 = t367 then (if x9_1 > 0 then (if 0 ≤ (wrap64 (x9_1 - 1)) then (if (wrap64 (x9_1 - 1)) < (l1.length : Int) then (if (rd l1 x9_1) ≤ (rd l1 (wrap64 (x9_1 - 1))) then (some false) else (impl_Complex_isChain.l0 k1 l1 l1 (l1.length : Int) (wrap64 (x9_1 + 1)) a0_0 l0_1)) else (none)) else (none)) else (impl_Complex_isChain.l0 k1 l1 l1 (l1.length : Int) (wrap64 (x9_1 + 1)) a0_0 l0_1)) else (some false))) else (none)) = some r := H
       have A9 := Aside0.mk A90
       clear A90
       by_cases c10 : 0 < (l1.length : Int)
       ·rw [if_pos c10] at H
        have c10b0 : decide (0 < (l1.length : Int)) = true := decide_eq_true c10
        have c10b1 : decide (0 < l1.length) = true := decide_eq_true (by omega)
        clear c10
        replace H := Option.bind_eq_some_iff.mp H
        obtain ⟨t367, A110, H⟩ := H
        replace H : (if t365 = t367 then (if x9_1 > 0 then (if 0 ≤ (wrap64 (x9_1 - 1)) then (if (wrap64 (x9_1 - 1)) < (l1.length : Int) then (if (rd l1 x9_1) ≤ (rd l1 (wrap64 (x9_1 - 1))) then (some false) else (impl_Complex_isChain.l0 k1 l1 l1 (l1.length : Int) (wrap64 (x9_1 + 1)) a0_0 l0_1)) else (none)) else (none)) else (impl_Complex_isChain.l0 k1 l1 l1 (l1.length : Int) (wrap64 (x9_1 + 1)) a0_0 l0_1)) else (some false)) = some r := H
        have A11 := Aside0.mk A110
        clear A110
        by_cases c12 : t365 = t367
        ·rw [if_pos c12] at H
         have c12b0 : (t365 == t367) = true := beq_iff_eq.mpr c12
         have c12b1 : (t365 != t367) = false := bne_eq_false_iff_eq.mpr c12
         clear c12
         by_cases c13 : x9_1 > 0
         ·rw [if_pos c13] at H
          have c13b0 : decide (0 < x9_1) = true := decide_eq_true c13
          clear c13
          obtain ⟨ji14, hji14⟩ : ∃ j_ : Int, (wrap64 (x9_1 - 1)) = j_ := ⟨_, rfl⟩
          replace H : (if 0 ≤ (ji14) then (if (ji14) < (l1.length : Int) then (if (rd l1 x9_1) ≤ (rd l1 (ji14)) then (some false) else (impl_Complex_isChain.l0 k1 l1 l1 (l1.length : Int) (wrap64 (x9_1 + 1)) a0_0 l0_1)) else (none)) else (none)) = some r := by first | (rw [hji14] at H; exact H) | (simp only [hji14] at H ⊢; exact H)
          (try rw [hji14] at A7)
          (try rw [hji14] at A9)
          (try rw [hji14] at A11)
          have hji14w : (IntKind.i64.wrap (x9_1 - 1)) = ji14 := (i64_w _).trans hji14
          by_cases c15 : 0 ≤ (ji14)
          ·rw [if_pos c15] at H
           have c15b0 : decide (0 ≤ (ji14)) = true := decide_eq_true c15
           clear c15
           by_cases c16 : (ji14) < (l1.length : Int)
           ·rw [if_pos c16] at H
            have c16b0 : decide ((ji14) < (l1.length : Int)) = true := decide_eq_true c16
            clear c16
            by_cases c17 : (rd l1 x9_1) ≤ (rd l1 (ji14))
            ·rw [if_pos c17] at H
             have c17b0 : decide ((rd l1 x9_1) ≤ (rd l1 (ji14))) = true := decide_eq_true c17
             clear c17
             obtain rfl := Option.some.inj H
             have p363 : 0 ≤ (x9_1 : Int) := of_decide_eq_true (by first | (with_reducible assumption) | assumption)
             have q363 : x9_1 < (l1.length : Int) := of_decide_eq_true (by first | (with_reducible assumption) | assumption)
             obtain ⟨ad363, e363, hx363_0⟩ := Kd.at_int HR1.out x9_1 p363 q363
             cases e363
             replace hx363_0 := (HB.out.cell (World.block_lt_of_cell? w _ hx363_0)).trans hx363_0
             replace p363 := eq_true p363
             replace q363 := eq_true q363
             try go_wp2
             have n0_ := Aside0.mk (blk_drew BK362.out)
             have n1_ := Aside0.mk (below_drew1 HB.out)
             clear BK362
             clear HB
             have BK362 := n0_
             have HB := n1_
             clear n0_ n1_
             have p366 : 0 ≤ (0 : Int) := (by omega)
             have q366 : 0 < (l1.length : Int) := of_decide_eq_true (by first | (with_reducible assumption) | assumption)
             obtain ⟨ad366, e366, hx366_0⟩ := Kd.at_int HR1.out 0 p366 q366
             have hw366_0 := hx366_0
             (try rw [show ((0 : Int)).toNat = 0 from rfl] at hw366_0)
             (try rw [show 0 * 1 = 0 from rfl] at hw366_0)
             (try rw [Addr.add_zero'] at hw366_0)
             obtain rfl : ad363 = ad366 := (by injection e366)
             have qi366 : (0 < l1.length) = True := eq_true (by omega)
             (try rw [show ((0 : Int)).toNat = 0 from rfl] at hx366_0)
             (try rw [Addr.add_zero'] at hx366_0)
             replace hx366_0 := (HB.out.cell (World.block_lt_of_cell? w _ hx366_0)).trans hx366_0
             replace p366 := eq_true p366
             replace q366 := eq_true q366
             have p368 : 0 ≤ ((ji14) : Int) := of_decide_eq_true (by first | (with_reducible assumption) | assumption)
             have q368 : (ji14) < (l1.length : Int) := of_decide_eq_true (by first | (with_reducible assumption) | assumption)
             obtain ⟨ad368, e368, hx368_0⟩ := Kd.at_int HR1.out (ji14) p368 q368
             have hw368_0 := hx368_0
             obtain rfl : ad363 = ad368 := (by injection e368)
             replace hx368_0 := (HB.out.cell (World.block_lt_of_cell? w _ hx368_0)).trans hx368_0
             replace p368 := eq_true p368
             replace q368 := eq_true q368
             refine start_ (n := 26) (S := fun w' => w'.cell? ⟨gb362, 0, none⟩ = some (.int .i64 a0_0) ∧ w'.cell? ⟨gb362, 1, none⟩ = some (.slice A0_1 l0_1.length c0_1) ∧ w'.cell? ad363 = some (.int .i64 (rd l1 0)) ∧ w'.cell? (ad363.add ((ji14)).toNat) = some (.int .i64 (rd l1 (ji14)))) (ds := []) #[false,false,false,false,false,false,false,false,false,false,false,false,false,false,false,false,false,false,false,false,false,false,false,false,false,false] (by kernel_rfl) rfl rfl ⟨(blk_cell BK362.out 0).trans rfl, (blk_cell BK362.out 1).trans rfl, ((HB.out.cell (World.block_lt_of_cell? w _ hw366_0)).trans hw366_0), ((HB.out.cell (World.block_lt_of_cell? w _ hw368_0)).trans hw368_0)⟩ (fun hHeld => ?_); refine with_tabW impl_Complex_isChain.tab4 impl_Complex_isChain.bits4 (fun HT_ HW_ => ?_)
             generalize wr.drew = w18 at BK362 HB hx366_0 hx368_0 hHeld ⊢
             refine pure_ (i := 1) (N := some 15) (v := ?_) (a' := ?_) #[false,true,false,false,false,false,false,false,false,false,false,false,false,false,false,false,false,false,false,false,false,false,false,false,false,false] rfl rfl (any_of HT_.out (by kernel_rfl)) (fun _ _ _ h => h) (Or.inl ⟨by rfl, ?_⟩) ?_ ?_
             rotate_left; · intro w'; go_simp; with_reducible rfl
             rotate_left; · simp only [Act.put, List.setIfInBounds_toArray, List.set_cons_zero, List.set_cons_succ, i64_w, i32_w]; rfl
             refine take_ (i := 0) (N := some 14) (v := ?_) (a' := ?_) #[true,true,false,false,false,false,false,false,false,false,false,false,false,false,false,false,false,false,false,false,false,false,false,false,false,false] rfl rfl (take_ofW HT_.out HW_.out (by kernel_rfl)) (fun _ _ _ h => h) (Or.inl ⟨by rfl, ?_⟩) hHeld ?_ ?_
             rotate_left; · rintro w' ⟨s0, s1, s2, s3⟩; go_simp; with_reducible rfl
             rotate_left; · simp only [Act.put, List.setIfInBounds_toArray, List.set_cons_zero, List.set_cons_succ, i64_w, i32_w]; rfl
             refine one_ (i := 2) (N := some 16) #[true,true,true,false,false,false,false,false,false,false,false,false,false,false,false,false,false,false,false,false,false,false,false,false,false,false] rfl rfl (one_of HT_.out (by kernel_rfl)) (by decide) (fun K hK => ?_)
             refine goes_ Try.func38 (by kernel_rfl) rfl #[.agg #[.int .i64 a0_0, .slice A0_1 l0_1.length c0_1], .int .i64 (rd l1 x9_1)] (by rfl) rfl rfl (by (try simp only [List.map_toArray, List.map_cons, List.map_nil]); first | done | rfl | (simp only [List.length_drop, List.length_take]; rfl)) ?_
             with_reducible refine (impl_Complex_has.calls k1 a0_0 _ _ l0_1 (rd l1 x9_1) true _ ?side1 ?side2 A7.out).mono ?_
             (case side1 => repeat (first | exact (Kd.C_below HR0_1.out HB.out) | (with_reducible refine Kd.C_alloc ?_ _) | (with_reducible refine Kd.C_drewN ?_ _) | (with_reducible refine Kd.C_drew ?_)))
             (case side2 => exact HC0_1.out)
             rintro e w19 ⟨rfl, hb⟩
             refine ⟨_, rfl, ?_⟩
             have n0_ := Aside0.mk (blk_below (g := gb362) (o := .cells #[.int .i64 a0_0, .slice A0_1 l0_1.length c0_1] 26 (0, 0)) (by (with_reducible repeat (first | refine blk_drewN ?_ _ | refine blk_drew ?_ | refine blk_alloc ?_ _)); exact BK362.out) hb)
             have n1_ := Aside0.mk (below_step (by repeat (first | (with_reducible first | exact HB.out | apply below_alloc | apply pw_below_drewN | apply below_drew1 | refine below_set ?_ GE362.out) | exact HB.out)) hb)
             clear BK362
             clear HB
             have BK362 := n0_
             have HB := n1_
             clear n0_ n1_
             (try clear hb)
             (try clear hb2)
             (try clear hk)
             (try clear hi)
             refine hK.out _ _ ⟨(blk_cell BK362.out 0).trans rfl, (blk_cell BK362.out 1).trans rfl, ((HB.out.cell (World.block_lt_of_cell? w _ hw366_0)).trans hw366_0), ((HB.out.cell (World.block_lt_of_cell? w _ hw368_0)).trans hw368_0)⟩ (fun hHeld => ?_)
             clear hK K
             refine norm_ (a' := ?_) ?_ ?_
             rotate_left
             ·show Act.put _ (some 16) _ = _
              simp only [Act.put, List.setIfInBounds_toArray, List.set_cons_zero, List.set_cons_succ, i64_w, i32_w]
              rfl
             refine pure_ (i := 3) (N := some 17) (v := ?_) (a' := ?_) #[true,true,true,true,false,false,false,false,false,false,false,false,false,false,false,false,false,false,false,false,false,false,false,false,false,false] rfl rfl (any_of HT_.out (by kernel_rfl)) (fun _ _ _ h => h) (Or.inl ⟨by rfl, ?_⟩) ?_ ?_
             rotate_left; · intro w'; go_simp; with_reducible rfl
             rotate_left; · simp only [Act.put, List.setIfInBounds_toArray, List.set_cons_zero, List.set_cons_succ, i64_w, i32_w]; rfl
             refine pure_ (i := 4) (N := some 18) (v := ?_) (a' := ?_) #[true,true,true,true,true,false,false,false,false,false,false,false,false,false,false,false,false,false,false,false,false,false,false,false,false,false] rfl rfl (any_of HT_.out (by kernel_rfl)) (fun _ _ _ h => h) (Or.inl ⟨by rfl, ?_⟩) ?_ ?_
             rotate_left; · intro w'; go_simp; with_reducible rfl
             rotate_left; · simp only [Act.put, List.setIfInBounds_toArray, List.set_cons_zero, List.set_cons_succ, i64_w, i32_w]; rfl
             refine pure_ (i := 5) (N := some 19) (v := ?_) (a' := ?_) #[true,true,true,true,true,true,false,false,false,false,false,false,false,false,false,false,false,false,false,false,false,false,false,false,false,false] rfl rfl (any_of HT_.out (by kernel_rfl)) (fun _ _ _ h => h) (Or.inl ⟨by rfl, ?_⟩) ?_ ?_
             rotate_left; · intro w'; go_simp; with_reducible rfl
             rotate_left; · simp only [Act.put, List.setIfInBounds_toArray, List.set_cons_zero, List.set_cons_succ, i64_w, i32_w]; rfl
             refine pure_ (i := 7) (N := some 21) (v := ?_) (a' := ?_) #[true,true,true,true,true,true,false,true,false,false,false,false,false,false,false,false,false,false,false,false,false,false,false,false,false,false] rfl rfl (any_of HT_.out (by kernel_rfl)) (fun _ _ _ h => h) (Or.inl ⟨by rfl, ?_⟩) ?_ ?_
             rotate_left; · intro w'; go_simp; with_reducible rfl
             rotate_left; · simp only [Act.put, List.setIfInBounds_toArray, List.set_cons_zero, List.set_cons_succ, i64_w, i32_w]; rfl
             refine pure_ (i := 8) (N := some 22) (v := ?_) (a' := ?_) #[true,true,true,true,true,true,false,true,true,false,false,false,false,false,false,false,false,false,false,false,false,false,false,false,false,false] rfl rfl (any_of HT_.out (by kernel_rfl)) (fun _ _ _ h => h) (Or.inl ⟨by rfl, ?_⟩) ?_ ?_
             rotate_left; · intro w'; go_simp; with_reducible rfl
             rotate_left; · simp only [Act.put, List.setIfInBounds_toArray, List.set_cons_zero, List.set_cons_succ, i64_w, i32_w]; rfl
             refine take_ (i := 9) (N := some 23) (v := ?_) (a' := ?_) #[true,true,true,true,true,true,false,true,true,true,false,false,false,false,false,false,false,false,false,false,false,false,false,false,false,false] rfl rfl (take_ofW HT_.out HW_.out (by kernel_rfl)) (fun _ _ _ h => h) (Or.inl ⟨by rfl, ?_⟩) hHeld ?_ ?_
             rotate_left; · rintro w' ⟨s0, s1, s2, s3⟩; go_simp; with_reducible rfl
             rotate_left; · simp only [Act.put, List.setIfInBounds_toArray, List.set_cons_zero, List.set_cons_succ, i64_w, i32_w]; rfl
             refine one_ (i := 6) (N := some 20) #[true,true,true,true,true,true,true,true,true,true,false,false,false,false,false,false,false,false,false,false,false,false,false,false,false,false] rfl rfl (one_of HT_.out (by kernel_rfl)) (by decide) (fun K hK => ?_)
             refine goes_ Try.func46 (by kernel_rfl) rfl #[.int .i64 (rd l1 x9_1)] (by rfl) rfl rfl (by (try simp only [List.map_toArray, List.map_cons, List.map_nil]); first | done | rfl | (simp only [List.length_drop, List.length_take]; rfl)) ?_
             with_reducible refine (impl_size.calls (rd l1 x9_1) t365 _ A9.out).mono ?_
             rintro e w' ⟨rfl, ⟨nd, rfl⟩⟩
             refine ⟨_, rfl, ?_⟩
             refine hK.out _ _ ⟨(blk_cell BK362.out 0).trans rfl, (blk_cell BK362.out 1).trans rfl, ((HB.out.cell (World.block_lt_of_cell? w _ hw366_0)).trans hw366_0), ((HB.out.cell (World.block_lt_of_cell? w _ hw368_0)).trans hw368_0)⟩ (fun hHeld => ?_)
             clear hK K
             refine norm_ (a' := ?_) ?_ ?_
             rotate_left
             ·show Act.put _ (some 20) _ = _
              simp only [Act.put, List.setIfInBounds_toArray, List.set_cons_zero, List.set_cons_succ, i64_w, i32_w]
              rfl
             refine one_ (i := 10) (N := some 24) #[true,true,true,true,true,true,true,true,true,true,true,false,false,false,false,false,false,false,false,false,false,false,false,false,false,false] rfl rfl (one_of HT_.out (by kernel_rfl)) (by decide) (fun K hK => ?_)
             refine goes_ Try.func46 (by kernel_rfl) rfl #[.int .i64 (rd l1 0)] (by rfl) rfl rfl (by (try simp only [List.map_toArray, List.map_cons, List.map_nil]); first | done | rfl | (simp only [List.length_drop, List.length_take]; rfl)) ?_
             with_reducible refine (impl_size.calls (rd l1 0) t367 _ A11.out).mono ?_
             rintro e w' ⟨rfl, ⟨nd, rfl⟩⟩
             refine ⟨_, rfl, ?_⟩
             refine hK.out _ _ ⟨(blk_cell BK362.out 0).trans rfl, (blk_cell BK362.out 1).trans rfl, ((HB.out.cell (World.block_lt_of_cell? w _ hw366_0)).trans hw366_0), ((HB.out.cell (World.block_lt_of_cell? w _ hw368_0)).trans hw368_0)⟩ (fun hHeld => ?_)
             clear hK K
             refine norm_ (a' := ?_) ?_ ?_
             rotate_left
             ·show Act.put _ (some 24) _ = _
              simp only [Act.put, List.setIfInBounds_toArray, List.set_cons_zero, List.set_cons_succ, i64_w, i32_w]
              rfl
             refine pure_ (i := 11) (N := some 25) (v := ?_) (a' := ?_) #[true,true,true,true,true,true,true,true,true,true,true,true,false,false,false,false,false,false,false,false,false,false,false,false,false,false] rfl rfl (any_of HT_.out (by kernel_rfl)) (fun _ _ _ h => h) (Or.inl ⟨by rfl, ?_⟩) ?_ ?_
             rotate_left; · intro w'; go_simp; with_reducible rfl
             rotate_left; · simp only [Act.put, List.setIfInBounds_toArray, List.set_cons_zero, List.set_cons_succ, i64_w, i32_w]; rfl
             refine pure_ (i := 12) (N := some 26) (v := ?_) (a' := ?_) #[true,true,true,true,true,true,true,true,true,true,true,true,true,false,false,false,false,false,false,false,false,false,false,false,false,false] rfl rfl (any_of HT_.out (by kernel_rfl)) (fun _ _ _ h => h) (Or.inl ⟨by rfl, ?_⟩) ?_ ?_
             rotate_left; · intro w'; go_simp; with_reducible rfl
             rotate_left; · simp only [Act.put, List.setIfInBounds_toArray, List.set_cons_zero, List.set_cons_succ, i64_w, i32_w]; rfl
             refine pure_ (i := 13) (N := some 27) (v := ?_) (a' := ?_) #[true,true,true,true,true,true,true,true,true,true,true,true,true,true,false,false,false,false,false,false,false,false,false,false,false,false] rfl rfl (any_of HT_.out (by kernel_rfl)) (fun _ _ _ h => h) (Or.inl ⟨by rfl, ?_⟩) ?_ ?_
             rotate_left; · intro w'; go_simp; with_reducible rfl
             rotate_left; · simp only [Act.put, List.setIfInBounds_toArray, List.set_cons_zero, List.set_cons_succ, i64_w, i32_w]; rfl
             refine pure_ (i := 14) (N := some 28) (v := ?_) (a' := ?_) #[true,true,true,true,true,true,true,true,true,true,true,true,true,true,true,false,false,false,false,false,false,false,false,false,false,false] rfl rfl (any_of HT_.out (by kernel_rfl)) (fun _ _ _ h => h) (Or.inl ⟨by rfl, ?_⟩) ?_ ?_
             rotate_left; · intro w'; go_simp; with_reducible rfl
             rotate_left; · simp only [Act.put, List.setIfInBounds_toArray, List.set_cons_zero, List.set_cons_succ, i64_w, i32_w]; rfl
             refine pure_ (i := 15) (N := some 29) (v := ?_) (a' := ?_) #[true,true,true,true,true,true,true,true,true,true,true,true,true,true,true,true,false,false,false,false,false,false,false,false,false,false] rfl rfl (any_of HT_.out (by kernel_rfl)) (fun _ _ _ h => h) (Or.inl ⟨by rfl, ?_⟩) ?_ ?_
             rotate_left; · intro w'; go_simp; with_reducible rfl
             rotate_left; · simp only [Act.put, List.setIfInBounds_toArray, List.set_cons_zero, List.set_cons_succ, i64_w, i32_w]; rfl
             refine pure_ (i := 16) (N := some 30) (v := ?_) (a' := ?_) #[true,true,true,true,true,true,true,true,true,true,true,true,true,true,true,true,true,false,false,false,false,false,false,false,false,false] rfl rfl (any_of HT_.out (by kernel_rfl)) (fun _ _ _ h => h) (Or.inl ⟨by rfl, ?_⟩) ?_ ?_
             rotate_left; · intro w'; go_simp; with_reducible rfl
             rotate_left; · simp only [Act.put, List.setIfInBounds_toArray, List.set_cons_zero, List.set_cons_succ, i64_w, i32_w]; rfl
             refine pure_ (i := 17) (N := some 31) (v := ?_) (a' := ?_) #[true,true,true,true,true,true,true,true,true,true,true,true,true,true,true,true,true,true,false,false,false,false,false,false,false,false] rfl rfl (any_of HT_.out (by kernel_rfl)) (fun _ _ _ h => h) (Or.inl ⟨by rfl, ?_⟩) ?_ ?_
             rotate_left; · intro w'; go_simp; with_reducible rfl
             rotate_left; · simp only [Act.put, List.setIfInBounds_toArray, List.set_cons_zero, List.set_cons_succ, i64_w, i32_w]; rfl
             refine pure_ (i := 18) (N := some 32) (v := ?_) (a' := ?_) #[true,true,true,true,true,true,true,true,true,true,true,true,true,true,true,true,true,true,true,false,false,false,false,false,false,false] rfl rfl (any_of HT_.out (by kernel_rfl)) (fun _ _ _ h => h) (Or.inl ⟨by rfl, ?_⟩) ?_ ?_
             rotate_left; · intro w'; go_simp; with_reducible rfl
             rotate_left; · simp only [Act.put, List.setIfInBounds_toArray, List.set_cons_zero, List.set_cons_succ, i64_w, i32_w]; rfl
             refine pure_ (i := 19) (N := some 33) (v := ?_) (a' := ?_) #[true,true,true,true,true,true,true,true,true,true,true,true,true,true,true,true,true,true,true,true,false,false,false,false,false,false] rfl rfl (any_of HT_.out (by kernel_rfl)) (fun _ _ _ h => h) (Or.inl ⟨by rfl, ?_⟩) ?_ ?_
             rotate_left; · intro w'; go_simp; with_reducible rfl
             rotate_left; · simp only [Act.put, List.setIfInBounds_toArray, List.set_cons_zero, List.set_cons_succ, i64_w, i32_w]; rfl
             refine pure_ (i := 20) (N := some 34) (v := ?_) (a' := ?_) #[true,true,true,true,true,true,true,true,true,true,true,true,true,true,true,true,true,true,true,true,true,false,false,false,false,false] rfl rfl (any_of HT_.out (by kernel_rfl)) (fun _ _ _ h => h) (Or.inl ⟨by rfl, ?_⟩) ?_ ?_
             rotate_left; · intro w'; go_simp; with_reducible rfl
             rotate_left; · simp only [Act.put, List.setIfInBounds_toArray, List.set_cons_zero, List.set_cons_succ, i64_w, i32_w]; rfl
             refine pure_ (i := 21) (N := some 35) (v := ?_) (a' := ?_) #[true,true,true,true,true,true,true,true,true,true,true,true,true,true,true,true,true,true,true,true,true,true,false,false,false,false] rfl rfl (any_of HT_.out (by kernel_rfl)) (fun _ _ _ h => h) (Or.inl ⟨by rfl, ?_⟩) ?_ ?_
             rotate_left; · intro w'; go_simp; with_reducible rfl
             rotate_left; · simp only [Act.put, List.setIfInBounds_toArray, List.set_cons_zero, List.set_cons_succ, i64_w, i32_w]; rfl
             refine take_ (i := 22) (N := some 36) (v := ?_) (a' := ?_) #[true,true,true,true,true,true,true,true,true,true,true,true,true,true,true,true,true,true,true,true,true,true,true,false,false,false] rfl rfl (take_ofW HT_.out HW_.out (by kernel_rfl)) (fun _ _ _ h => h) (Or.inl ⟨by rfl, ?_⟩) hHeld ?_ ?_
             rotate_left; · rintro w' ⟨s0, s1, s2, s3⟩; go_simp; with_reducible rfl
             rotate_left; · simp only [Act.put, List.setIfInBounds_toArray, List.set_cons_zero, List.set_cons_succ, i64_w, i32_w]; rfl
             refine pure_ (i := 23) (N := some 37) (v := ?_) (a' := ?_) #[true,true,true,true,true,true,true,true,true,true,true,true,true,true,true,true,true,true,true,true,true,true,true,true,false,false] rfl rfl (any_of HT_.out (by kernel_rfl)) (fun _ _ _ h => h) (Or.inl ⟨by rfl, ?_⟩) ?_ ?_
             rotate_left; · intro w'; go_simp; with_reducible rfl
             rotate_left; · simp only [Act.put, List.setIfInBounds_toArray, List.set_cons_zero, List.set_cons_succ, i64_w, i32_w]; rfl
             refine pure_ (i := 24) (N := some 38) (v := ?_) (a' := ?_) #[true,true,true,true,true,true,true,true,true,true,true,true,true,true,true,true,true,true,true,true,true,true,true,true,true,false] rfl rfl (any_of HT_.out (by kernel_rfl)) (fun _ _ _ h => h) (Or.inl ⟨by rfl, ?_⟩) ?_ ?_
             rotate_left; · intro w'; go_simp; with_reducible rfl
             rotate_left; · simp only [Act.put, List.setIfInBounds_toArray, List.set_cons_zero, List.set_cons_succ, i64_w, i32_w]; rfl
             refine pure_ (i := 25) (N := some 39) (v := ?_) (a' := ?_) #[true,true,true,true,true,true,true,true,true,true,true,true,true,true,true,true,true,true,true,true,true,true,true,true,true,true] rfl rfl (any_of HT_.out (by kernel_rfl)) (fun _ _ _ h => h) (Or.inl ⟨by rfl, ?_⟩) ?_ ?_
             rotate_left; · intro w'; go_simp; with_reducible rfl
             rotate_left; · simp only [Act.put, List.setIfInBounds_toArray, List.set_cons_zero, List.set_cons_succ, i64_w, i32_w]; rfl
             refine done_ (done_of HT_.out (by kernel_rfl)) ?_
             try go_wp2
             go_ret
             exact ⟨by first | rfl | (simp [errW_none, errW_some] <;> rfl) | (simp only [← hji14]; first | rfl | (simp [errW_none, errW_some] <;> rfl)) | (simp [*, errW_none, errW_some] <;> rfl), by repeat (first | (with_reducible first | exact HB.out | apply below_alloc | apply pw_below_drewN | apply below_drew1 | refine below_set ?_ GE362.out) | exact HB.out)⟩
            ·rw [if_neg c17] at H
             have c17b0 : decide ((rd l1 x9_1) ≤ (rd l1 (ji14))) = false := decide_eq_false c17
             clear c17
             have H' := Aside0.mk H
             clear H
             have p363 : 0 ≤ (x9_1 : Int) := of_decide_eq_true (by first | (with_reducible assumption) | assumption)
             have q363 : x9_1 < (l1.length : Int) := of_decide_eq_true (by first | (with_reducible assumption) | assumption)
             obtain ⟨ad363, e363, hx363_0⟩ := Kd.at_int HR1.out x9_1 p363 q363
             cases e363
             replace hx363_0 := (HB.out.cell (World.block_lt_of_cell? w _ hx363_0)).trans hx363_0
             replace p363 := eq_true p363
             replace q363 := eq_true q363
             try go_wp2
             have n0_ := Aside0.mk (blk_drew BK362.out)
             have n1_ := Aside0.mk (below_drew1 HB.out)
             clear BK362
             clear HB
             have BK362 := n0_
             have HB := n1_
             clear n0_ n1_
             have p366 : 0 ≤ (0 : Int) := (by omega)
             have q366 : 0 < (l1.length : Int) := of_decide_eq_true (by first | (with_reducible assumption) | assumption)
             obtain ⟨ad366, e366, hx366_0⟩ := Kd.at_int HR1.out 0 p366 q366
             have hw366_0 := hx366_0
             (try rw [show ((0 : Int)).toNat = 0 from rfl] at hw366_0)
             (try rw [show 0 * 1 = 0 from rfl] at hw366_0)
             (try rw [Addr.add_zero'] at hw366_0)
             obtain rfl : ad363 = ad366 := (by injection e366)
             have qi366 : (0 < l1.length) = True := eq_true (by omega)
             (try rw [show ((0 : Int)).toNat = 0 from rfl] at hx366_0)
             (try rw [Addr.add_zero'] at hx366_0)
             replace hx366_0 := (HB.out.cell (World.block_lt_of_cell? w _ hx366_0)).trans hx366_0
             replace p366 := eq_true p366
             replace q366 := eq_true q366
             have p368 : 0 ≤ ((ji14) : Int) := of_decide_eq_true (by first | (with_reducible assumption) | assumption)
             have q368 : (ji14) < (l1.length : Int) := of_decide_eq_true (by first | (with_reducible assumption) | assumption)
             obtain ⟨ad368, e368, hx368_0⟩ := Kd.at_int HR1.out (ji14) p368 q368
             have hw368_0 := hx368_0
             obtain rfl : ad363 = ad368 := (by injection e368)
             replace hx368_0 := (HB.out.cell (World.block_lt_of_cell? w _ hx368_0)).trans hx368_0
             replace p368 := eq_true p368
             replace q368 := eq_true q368
             refine start_ (n := 26) (S := fun w' => w'.cell? ⟨gb362, 0, none⟩ = some (.int .i64 a0_0) ∧ w'.cell? ⟨gb362, 1, none⟩ = some (.slice A0_1 l0_1.length c0_1) ∧ w'.cell? ad363 = some (.int .i64 (rd l1 0)) ∧ w'.cell? (ad363.add ((ji14)).toNat) = some (.int .i64 (rd l1 (ji14)))) (ds := []) #[false,false,false,false,false,false,false,false,false,false,false,false,false,false,false,false,false,false,false,false,false,false,false,false,false,false] (by kernel_rfl) rfl rfl ⟨(blk_cell BK362.out 0).trans rfl, (blk_cell BK362.out 1).trans rfl, ((HB.out.cell (World.block_lt_of_cell? w _ hw366_0)).trans hw366_0), ((HB.out.cell (World.block_lt_of_cell? w _ hw368_0)).trans hw368_0)⟩ (fun hHeld => ?_); refine with_tabW impl_Complex_isChain.tab4 impl_Complex_isChain.bits4 (fun HT_ HW_ => ?_)
             generalize wr.drew = w20 at BK362 HB hx366_0 hx368_0 hHeld ⊢
             refine pure_ (i := 1) (N := some 15) (v := ?_) (a' := ?_) #[false,true,false,false,false,false,false,false,false,false,false,false,false,false,false,false,false,false,false,false,false,false,false,false,false,false] rfl rfl (any_of HT_.out (by kernel_rfl)) (fun _ _ _ h => h) (Or.inl ⟨by rfl, ?_⟩) ?_ ?_
             rotate_left; · intro w'; go_simp; with_reducible rfl
             rotate_left; · simp only [Act.put, List.setIfInBounds_toArray, List.set_cons_zero, List.set_cons_succ, i64_w, i32_w]; rfl
             refine take_ (i := 0) (N := some 14) (v := ?_) (a' := ?_) #[true,true,false,false,false,false,false,false,false,false,false,false,false,false,false,false,false,false,false,false,false,false,false,false,false,false] rfl rfl (take_ofW HT_.out HW_.out (by kernel_rfl)) (fun _ _ _ h => h) (Or.inl ⟨by rfl, ?_⟩) hHeld ?_ ?_
             rotate_left; · rintro w' ⟨s0, s1, s2, s3⟩; go_simp; with_reducible rfl
             rotate_left; · simp only [Act.put, List.setIfInBounds_toArray, List.set_cons_zero, List.set_cons_succ, i64_w, i32_w]; rfl
             refine one_ (i := 2) (N := some 16) #[true,true,true,false,false,false,false,false,false,false,false,false,false,false,false,false,false,false,false,false,false,false,false,false,false,false] rfl rfl (one_of HT_.out (by kernel_rfl)) (by decide) (fun K hK => ?_)
             refine goes_ Try.func38 (by kernel_rfl) rfl #[.agg #[.int .i64 a0_0, .slice A0_1 l0_1.length c0_1], .int .i64 (rd l1 x9_1)] (by rfl) rfl rfl (by (try simp only [List.map_toArray, List.map_cons, List.map_nil]); first | done | rfl | (simp only [List.length_drop, List.length_take]; rfl)) ?_
             with_reducible refine (impl_Complex_has.calls k1 a0_0 _ _ l0_1 (rd l1 x9_1) true _ ?side1 ?side2 A7.out).mono ?_
             (case side1 => repeat (first | exact (Kd.C_below HR0_1.out HB.out) | (with_reducible refine Kd.C_alloc ?_ _) | (with_reducible refine Kd.C_drewN ?_ _) | (with_reducible refine Kd.C_drew ?_)))
             (case side2 => exact HC0_1.out)
             rintro e w21 ⟨rfl, hb⟩
             refine ⟨_, rfl, ?_⟩
             have n0_ := Aside0.mk (blk_below (g := gb362) (o := .cells #[.int .i64 a0_0, .slice A0_1 l0_1.length c0_1] 26 (0, 0)) (by (with_reducible repeat (first | refine blk_drewN ?_ _ | refine blk_drew ?_ | refine blk_alloc ?_ _)); exact BK362.out) hb)
             have n1_ := Aside0.mk (below_step (by repeat (first | (with_reducible first | exact HB.out | apply below_alloc | apply pw_below_drewN | apply below_drew1 | refine below_set ?_ GE362.out) | exact HB.out)) hb)
             clear BK362
             clear HB
             have BK362 := n0_
             have HB := n1_
             clear n0_ n1_
             (try clear hb)
             (try clear hb2)
             (try clear hk)
             (try clear hi)
             refine hK.out _ _ ⟨(blk_cell BK362.out 0).trans rfl, (blk_cell BK362.out 1).trans rfl, ((HB.out.cell (World.block_lt_of_cell? w _ hw366_0)).trans hw366_0), ((HB.out.cell (World.block_lt_of_cell? w _ hw368_0)).trans hw368_0)⟩ (fun hHeld => ?_)
             clear hK K
             refine norm_ (a' := ?_) ?_ ?_
             rotate_left
             ·show Act.put _ (some 16) _ = _
              simp only [Act.put, List.setIfInBounds_toArray, List.set_cons_zero, List.set_cons_succ, i64_w, i32_w]
              rfl
             refine pure_ (i := 3) (N := some 17) (v := ?_) (a' := ?_) #[true,true,true,true,false,false,false,false,false,false,false,false,false,false,false,false,false,false,false,false,false,false,false,false,false,false] rfl rfl (any_of HT_.out (by kernel_rfl)) (fun _ _ _ h => h) (Or.inl ⟨by rfl, ?_⟩) ?_ ?_
             rotate_left; · intro w'; go_simp; with_reducible rfl
             rotate_left; · simp only [Act.put, List.setIfInBounds_toArray, List.set_cons_zero, List.set_cons_succ, i64_w, i32_w]; rfl
             refine pure_ (i := 4) (N := some 18) (v := ?_) (a' := ?_) #[true,true,true,true,true,false,false,false,false,false,false,false,false,false,false,false,false,false,false,false,false,false,false,false,false,false] rfl rfl (any_of HT_.out (by kernel_rfl)) (fun _ _ _ h => h) (Or.inl ⟨by rfl, ?_⟩) ?_ ?_
             rotate_left; · intro w'; go_simp; with_reducible rfl
             rotate_left; · simp only [Act.put, List.setIfInBounds_toArray, List.set_cons_zero, List.set_cons_succ, i64_w, i32_w]; rfl
             refine pure_ (i := 5) (N := some 19) (v := ?_) (a' := ?_) #[true,true,true,true,true,true,false,false,false,false,false,false,false,false,false,false,false,false,false,false,false,false,false,false,false,false] rfl rfl (any_of HT_.out (by kernel_rfl)) (fun _ _ _ h => h) (Or.inl ⟨by rfl, ?_⟩) ?_ ?_
             rotate_left; · intro w'; go_simp; with_reducible rfl
             rotate_left; · simp only [Act.put, List.setIfInBounds_toArray, List.set_cons_zero, List.set_cons_succ, i64_w, i32_w]; rfl
             refine pure_ (i := 7) (N := some 21) (v := ?_) (a' := ?_) #[true,true,true,true,true,true,false,true,false,false,false,false,false,false,false,false,false,false,false,false,false,false,false,false,false,false] rfl rfl (any_of HT_.out (by kernel_rfl)) (fun _ _ _ h => h) (Or.inl ⟨by rfl, ?_⟩) ?_ ?_
             rotate_left; · intro w'; go_simp; with_reducible rfl
             rotate_left; · simp only [Act.put, List.setIfInBounds_toArray, List.set_cons_zero, List.set_cons_succ, i64_w, i32_w]; rfl
             refine pure_ (i := 8) (N := some 22) (v := ?_) (a' := ?_) #[true,true,true,true,true,true,false,true,true,false,false,false,false,false,false,false,false,false,false,false,false,false,false,false,false,false] rfl rfl (any_of HT_.out (by kernel_rfl)) (fun _ _ _ h => h) (Or.inl ⟨by rfl, ?_⟩) ?_ ?_
             rotate_left; · intro w'; go_simp; with_reducible rfl
             rotate_left; · simp only [Act.put, List.setIfInBounds_toArray, List.set_cons_zero, List.set_cons_succ, i64_w, i32_w]; rfl
             refine take_ (i := 9) (N := some 23) (v := ?_) (a' := ?_) #[true,true,true,true,true,true,false,true,true,true,false,false,false,false,false,false,false,false,false,false,false,false,false,false,false,false] rfl rfl (take_ofW HT_.out HW_.out (by kernel_rfl)) (fun _ _ _ h => h) (Or.inl ⟨by rfl, ?_⟩) hHeld ?_ ?_
             rotate_left; · rintro w' ⟨s0, s1, s2, s3⟩; go_simp; with_reducible rfl
             rotate_left; · simp only [Act.put, List.setIfInBounds_toArray, List.set_cons_zero, List.set_cons_succ, i64_w, i32_w]; rfl
             refine one_ (i := 6) (N := some 20) #[true,true,true,true,true,true,true,true,true,true,false,false,false,false,false,false,false,false,false,false,false,false,false,false,false,false] rfl rfl (one_of HT_.out (by kernel_rfl)) (by decide) (fun K hK => ?_)
             refine goes_ Try.func46 (by kernel_rfl) rfl #[.int .i64 (rd l1 x9_1)] (by rfl) rfl rfl (by (try simp only [List.map_toArray, List.map_cons, List.map_nil]); first | done | rfl | (simp only [List.length_drop, List.length_take]; rfl)) ?_
             with_reducible refine (impl_size.calls (rd l1 x9_1) t365 _ A9.out).mono ?_
             rintro e w' ⟨rfl, ⟨nd, rfl⟩⟩
             refine ⟨_, rfl, ?_⟩
             refine hK.out _ _ ⟨(blk_cell BK362.out 0).trans rfl, (blk_cell BK362.out 1).trans rfl, ((HB.out.cell (World.block_lt_of_cell? w _ hw366_0)).trans hw366_0), ((HB.out.cell (World.block_lt_of_cell? w _ hw368_0)).trans hw368_0)⟩ (fun hHeld => ?_)
             clear hK K
             refine norm_ (a' := ?_) ?_ ?_
             rotate_left
             ·show Act.put _ (some 20) _ = _
              simp only [Act.put, List.setIfInBounds_toArray, List.set_cons_zero, List.set_cons_succ, i64_w, i32_w]
              rfl
             refine one_ (i := 10) (N := some 24) #[true,true,true,true,true,true,true,true,true,true,true,false,false,false,false,false,false,false,false,false,false,false,false,false,false,false] rfl rfl (one_of HT_.out (by kernel_rfl)) (by decide) (fun K hK => ?_)
             refine goes_ Try.func46 (by kernel_rfl) rfl #[.int .i64 (rd l1 0)] (by rfl) rfl rfl (by (try simp only [List.map_toArray, List.map_cons, List.map_nil]); first | done | rfl | (simp only [List.length_drop, List.length_take]; rfl)) ?_
             with_reducible refine (impl_size.calls (rd l1 0) t367 _ A11.out).mono ?_
             rintro e w' ⟨rfl, ⟨nd, rfl⟩⟩
             refine ⟨_, rfl, ?_⟩
             refine hK.out _ _ ⟨(blk_cell BK362.out 0).trans rfl, (blk_cell BK362.out 1).trans rfl, ((HB.out.cell (World.block_lt_of_cell? w _ hw366_0)).trans hw366_0), ((HB.out.cell (World.block_lt_of_cell? w _ hw368_0)).trans hw368_0)⟩ (fun hHeld => ?_)
             clear hK K
             refine norm_ (a' := ?_) ?_ ?_
             rotate_left
             ·show Act.put _ (some 24) _ = _
              simp only [Act.put, List.setIfInBounds_toArray, List.set_cons_zero, List.set_cons_succ, i64_w, i32_w]
              rfl
             refine pure_ (i := 11) (N := some 25) (v := ?_) (a' := ?_) #[true,true,true,true,true,true,true,true,true,true,true,true,false,false,false,false,false,false,false,false,false,false,false,false,false,false] rfl rfl (any_of HT_.out (by kernel_rfl)) (fun _ _ _ h => h) (Or.inl ⟨by rfl, ?_⟩) ?_ ?_
             rotate_left; · intro w'; go_simp; with_reducible rfl
             rotate_left; · simp only [Act.put, List.setIfInBounds_toArray, List.set_cons_zero, List.set_cons_succ, i64_w, i32_w]; rfl
             refine pure_ (i := 12) (N := some 26) (v := ?_) (a' := ?_) #[true,true,true,true,true,true,true,true,true,true,true,true,true,false,false,false,false,false,false,false,false,false,false,false,false,false] rfl rfl (any_of HT_.out (by kernel_rfl)) (fun _ _ _ h => h) (Or.inl ⟨by rfl, ?_⟩) ?_ ?_
             rotate_left; · intro w'; go_simp; with_reducible rfl
             rotate_left; · simp only [Act.put, List.setIfInBounds_toArray, List.set_cons_zero, List.set_cons_succ, i64_w, i32_w]; rfl
             refine pure_ (i := 13) (N := some 27) (v := ?_) (a' := ?_) #[true,true,true,true,true,true,true,true,true,true,true,true,true,true,false,false,false,false,false,false,false,false,false,false,false,false] rfl rfl (any_of HT_.out (by kernel_rfl)) (fun _ _ _ h => h) (Or.inl ⟨by rfl, ?_⟩) ?_ ?_
             rotate_left; · intro w'; go_simp; with_reducible rfl
             rotate_left; · simp only [Act.put, List.setIfInBounds_toArray, List.set_cons_zero, List.set_cons_succ, i64_w, i32_w]; rfl
             refine pure_ (i := 14) (N := some 28) (v := ?_) (a' := ?_) #[true,true,true,true,true,true,true,true,true,true,true,true,true,true,true,false,false,false,false,false,false,false,false,false,false,false] rfl rfl (any_of HT_.out (by kernel_rfl)) (fun _ _ _ h => h) (Or.inl ⟨by rfl, ?_⟩) ?_ ?_
             rotate_left; · intro w'; go_simp; with_reducible rfl
             rotate_left; · simp only [Act.put, List.setIfInBounds_toArray, List.set_cons_zero, List.set_cons_succ, i64_w, i32_w]; rfl
             refine pure_ (i := 15) (N := some 29) (v := ?_) (a' := ?_) #[true,true,true,true,true,true,true,true,true,true,true,true,true,true,true,true,false,false,false,false,false,false,false,false,false,false] rfl rfl (any_of HT_.out (by kernel_rfl)) (fun _ _ _ h => h) (Or.inl ⟨by rfl, ?_⟩) ?_ ?_
             rotate_left; · intro w'; go_simp; with_reducible rfl
             rotate_left; · simp only [Act.put, List.setIfInBounds_toArray, List.set_cons_zero, List.set_cons_succ, i64_w, i32_w]; rfl
             refine pure_ (i := 16) (N := some 30) (v := ?_) (a' := ?_) #[true,true,true,true,true,true,true,true,true,true,true,true,true,true,true,true,true,false,false,false,false,false,false,false,false,false] rfl rfl (any_of HT_.out (by kernel_rfl)) (fun _ _ _ h => h) (Or.inl ⟨by rfl, ?_⟩) ?_ ?_
             rotate_left; · intro w'; go_simp; with_reducible rfl
             rotate_left; · simp only [Act.put, List.setIfInBounds_toArray, List.set_cons_zero, List.set_cons_succ, i64_w, i32_w]; rfl
             refine pure_ (i := 17) (N := some 31) (v := ?_) (a' := ?_) #[true,true,true,true,true,true,true,true,true,true,true,true,true,true,true,true,true,true,false,false,false,false,false,false,false,false] rfl rfl (any_of HT_.out (by kernel_rfl)) (fun _ _ _ h => h) (Or.inl ⟨by rfl, ?_⟩) ?_ ?_
             rotate_left; · intro w'; go_simp; with_reducible rfl
             rotate_left; · simp only [Act.put, List.setIfInBounds_toArray, List.set_cons_zero, List.set_cons_succ, i64_w, i32_w]; rfl
             refine pure_ (i := 18) (N := some 32) (v := ?_) (a' := ?_) #[true,true,true,true,true,true,true,true,true,true,true,true,true,true,true,true,true,true,true,false,false,false,false,false,false,false] rfl rfl (any_of HT_.out (by kernel_rfl)) (fun _ _ _ h => h) (Or.inl ⟨by rfl, ?_⟩) ?_ ?_
             rotate_left; · intro w'; go_simp; with_reducible rfl
             rotate_left; · simp only [Act.put, List.setIfInBounds_toArray, List.set_cons_zero, List.set_cons_succ, i64_w, i32_w]; rfl
             refine pure_ (i := 19) (N := some 33) (v := ?_) (a' := ?_) #[true,true,true,true,true,true,true,true,true,true,true,true,true,true,true,true,true,true,true,true,false,false,false,false,false,false] rfl rfl (any_of HT_.out (by kernel_rfl)) (fun _ _ _ h => h) (Or.inl ⟨by rfl, ?_⟩) ?_ ?_
             rotate_left; · intro w'; go_simp; with_reducible rfl
             rotate_left; · simp only [Act.put, List.setIfInBounds_toArray, List.set_cons_zero, List.set_cons_succ, i64_w, i32_w]; rfl
             refine pure_ (i := 20) (N := some 34) (v := ?_) (a' := ?_) #[true,true,true,true,true,true,true,true,true,true,true,true,true,true,true,true,true,true,true,true,true,false,false,false,false,false] rfl rfl (any_of HT_.out (by kernel_rfl)) (fun _ _ _ h => h) (Or.inl ⟨by rfl, ?_⟩) ?_ ?_
             rotate_left; · intro w'; go_simp; with_reducible rfl
             rotate_left; · simp only [Act.put, List.setIfInBounds_toArray, List.set_cons_zero, List.set_cons_succ, i64_w, i32_w]; rfl
             refine pure_ (i := 21) (N := some 35) (v := ?_) (a' := ?_) #[true,true,true,true,true,true,true,true,true,true,true,true,true,true,true,true,true,true,true,true,true,true,false,false,false,false] rfl rfl (any_of HT_.out (by kernel_rfl)) (fun _ _ _ h => h) (Or.inl ⟨by rfl, ?_⟩) ?_ ?_
             rotate_left; · intro w'; go_simp; with_reducible rfl
             rotate_left; · simp only [Act.put, List.setIfInBounds_toArray, List.set_cons_zero, List.set_cons_succ, i64_w, i32_w]; rfl
             refine take_ (i := 22) (N := some 36) (v := ?_) (a' := ?_) #[true,true,true,true,true,true,true,true,true,true,true,true,true,true,true,true,true,true,true,true,true,true,true,false,false,false] rfl rfl (take_ofW HT_.out HW_.out (by kernel_rfl)) (fun _ _ _ h => h) (Or.inl ⟨by rfl, ?_⟩) hHeld ?_ ?_
             rotate_left; · rintro w' ⟨s0, s1, s2, s3⟩; go_simp; with_reducible rfl
             rotate_left; · simp only [Act.put, List.setIfInBounds_toArray, List.set_cons_zero, List.set_cons_succ, i64_w, i32_w]; rfl
             refine pure_ (i := 23) (N := some 37) (v := ?_) (a' := ?_) #[true,true,true,true,true,true,true,true,true,true,true,true,true,true,true,true,true,true,true,true,true,true,true,true,false,false] rfl rfl (any_of HT_.out (by kernel_rfl)) (fun _ _ _ h => h) (Or.inl ⟨by rfl, ?_⟩) ?_ ?_
             rotate_left; · intro w'; go_simp; with_reducible rfl
             rotate_left; · simp only [Act.put, List.setIfInBounds_toArray, List.set_cons_zero, List.set_cons_succ, i64_w, i32_w]; rfl
             refine pure_ (i := 24) (N := some 38) (v := ?_) (a' := ?_) #[true,true,true,true,true,true,true,true,true,true,true,true,true,true,true,true,true,true,true,true,true,true,true,true,true,false] rfl rfl (any_of HT_.out (by kernel_rfl)) (fun _ _ _ h => h) (Or.inl ⟨by rfl, ?_⟩) ?_ ?_
             rotate_left; · intro w'; go_simp; with_reducible rfl
             rotate_left; · simp only [Act.put, List.setIfInBounds_toArray, List.set_cons_zero, List.set_cons_succ, i64_w, i32_w]; rfl
             refine pure_ (i := 25) (N := some 39) (v := ?_) (a' := ?_) #[true,true,true,true,true,true,true,true,true,true,true,true,true,true,true,true,true,true,true,true,true,true,true,true,true,true] rfl rfl (any_of HT_.out (by kernel_rfl)) (fun _ _ _ h => h) (Or.inl ⟨by rfl, ?_⟩) ?_ ?_
             rotate_left; · intro w'; go_simp; with_reducible rfl
             rotate_left; · simp only [Act.put, List.setIfInBounds_toArray, List.set_cons_zero, List.set_cons_succ, i64_w, i32_w]; rfl
             refine done_ (done_of HT_.out (by kernel_rfl)) ?_
             try go_wp2
             go_roundg k1
             case measure => have := HK1.out; omega
             case rel => exact ⟨(wrap64 (x9_1 + 1)), (by first | rfl | (simp; done) | (simp [*]; done)), H', ⟨by have := HK1.out; omega⟩, ⟨by (with_reducible repeat (first | refine blk_drewN ?_ _ | refine blk_drew ?_ | refine blk_alloc ?_ _)); exact BK362.out⟩, ⟨by repeat (first | (with_reducible first | exact HB.out | apply below_alloc | apply pw_below_drewN | apply below_drew1 | refine below_set ?_ GE362.out) | exact HB.out)⟩⟩
           ·rw [if_neg c16] at H
            exact absurd H (by simp)
          ·rw [if_neg c15] at H
           exact absurd H (by simp)
         ·rw [if_neg c13] at H
          have c13b0 : decide (0 < x9_1) = false := decide_eq_false c13
          clear c13
          have H' := Aside0.mk H
          clear H
          have p363 : 0 ≤ (x9_1 : Int) := of_decide_eq_true (by first | (with_reducible assumption) | assumption)
          have q363 : x9_1 < (l1.length : Int) := of_decide_eq_true (by first | (with_reducible assumption) | assumption)
          obtain ⟨ad363, e363, hx363_0⟩ := Kd.at_int HR1.out x9_1 p363 q363
          cases e363
          replace hx363_0 := (HB.out.cell (World.block_lt_of_cell? w _ hx363_0)).trans hx363_0
          replace p363 := eq_true p363
          replace q363 := eq_true q363
          try go_wp2
          have n0_ := Aside0.mk (blk_drew BK362.out)
          have n1_ := Aside0.mk (below_drew1 HB.out)
          clear BK362
          clear HB
          have BK362 := n0_
          have HB := n1_
          clear n0_ n1_
          have p366 : 0 ≤ (0 : Int) := (by omega)
          have q366 : 0 < (l1.length : Int) := of_decide_eq_true (by first | (with_reducible assumption) | assumption)
          obtain ⟨ad366, e366, hx366_0⟩ := Kd.at_int HR1.out 0 p366 q366
          have hw366_0 := hx366_0
          (try rw [show ((0 : Int)).toNat = 0 from rfl] at hw366_0)
          (try rw [show 0 * 1 = 0 from rfl] at hw366_0)
          (try rw [Addr.add_zero'] at hw366_0)
          obtain rfl : ad363 = ad366 := (by injection e366)
          have qi366 : (0 < l1.length) = True := eq_true (by omega)
          (try rw [show ((0 : Int)).toNat = 0 from rfl] at hx366_0)
          (try rw [Addr.add_zero'] at hx366_0)
          replace hx366_0 := (HB.out.cell (World.block_lt_of_cell? w _ hx366_0)).trans hx366_0
          replace p366 := eq_true p366
          replace q366 := eq_true q366
          refine start_ (n := 26) (S := fun w' => w'.cell? ⟨gb362, 0, none⟩ = some (.int .i64 a0_0) ∧ w'.cell? ⟨gb362, 1, none⟩ = some (.slice A0_1 l0_1.length c0_1) ∧ w'.cell? ad363 = some (.int .i64 (rd l1 0))) (ds := []) #[false,false,false,false,false,false,false,false,false,false,false,false,false,false,false,false,false,false,false,false,false,false,false,false,false,false] (by kernel_rfl) rfl rfl ⟨(blk_cell BK362.out 0).trans rfl, (blk_cell BK362.out 1).trans rfl, ((HB.out.cell (World.block_lt_of_cell? w _ hw366_0)).trans hw366_0)⟩ (fun hHeld => ?_); refine with_tabW impl_Complex_isChain.tab4 impl_Complex_isChain.bits4 (fun HT_ HW_ => ?_)
          generalize wr.drew = w22 at BK362 HB hx366_0 hHeld ⊢
          refine pure_ (i := 1) (N := some 15) (v := ?_) (a' := ?_) #[false,true,false,false,false,false,false,false,false,false,false,false,false,false,false,false,false,false,false,false,false,false,false,false,false,false] rfl rfl (any_of HT_.out (by kernel_rfl)) (fun _ _ _ h => h) (Or.inl ⟨by rfl, ?_⟩) ?_ ?_
          rotate_left; · intro w'; go_simp; with_reducible rfl
          rotate_left; · simp only [Act.put, List.setIfInBounds_toArray, List.set_cons_zero, List.set_cons_succ, i64_w, i32_w]; rfl
          refine take_ (i := 0) (N := some 14) (v := ?_) (a' := ?_) #[true,true,false,false,false,false,false,false,false,false,false,false,false,false,false,false,false,false,false,false,false,false,false,false,false,false] rfl rfl (take_ofW HT_.out HW_.out (by kernel_rfl)) (fun _ _ _ h => h) (Or.inl ⟨by rfl, ?_⟩) hHeld ?_ ?_
          rotate_left; · rintro w' ⟨s0, s1, s2⟩; go_simp; with_reducible rfl
          rotate_left; · simp only [Act.put, List.setIfInBounds_toArray, List.set_cons_zero, List.set_cons_succ, i64_w, i32_w]; rfl
          refine one_ (i := 2) (N := some 16) #[true,true,true,false,false,false,false,false,false,false,false,false,false,false,false,false,false,false,false,false,false,false,false,false,false,false] rfl rfl (one_of HT_.out (by kernel_rfl)) (by decide) (fun K hK => ?_)
          refine goes_ Try.func38 (by kernel_rfl) rfl #[.agg #[.int .i64 a0_0, .slice A0_1 l0_1.length c0_1], .int .i64 (rd l1 x9_1)] (by rfl) rfl rfl (by (try simp only [List.map_toArray, List.map_cons, List.map_nil]); first | done | rfl | (simp only [List.length_drop, List.length_take]; rfl)) ?_
          with_reducible refine (impl_Complex_has.calls k1 a0_0 _ _ l0_1 (rd l1 x9_1) true _ ?side1 ?side2 A7.out).mono ?_
          (case side1 => repeat (first | exact (Kd.C_below HR0_1.out HB.out) | (with_reducible refine Kd.C_alloc ?_ _) | (with_reducible refine Kd.C_drewN ?_ _) | (with_reducible refine Kd.C_drew ?_)))
          (case side2 => exact HC0_1.out)
          rintro e w23 ⟨rfl, hb⟩
          refine ⟨_, rfl, ?_⟩
          have n0_ := Aside0.mk (blk_below (g := gb362) (o := .cells #[.int .i64 a0_0, .slice A0_1 l0_1.length c0_1] 26 (0, 0)) (by (with_reducible repeat (first | refine blk_drewN ?_ _ | refine blk_drew ?_ | refine blk_alloc ?_ _)); exact BK362.out) hb)
          have n1_ := Aside0.mk (below_step (by repeat (first | (with_reducible first | exact HB.out | apply below_alloc | apply pw_below_drewN | apply below_drew1 | refine below_set ?_ GE362.out) | exact HB.out)) hb)
          clear BK362
          clear HB
          have BK362 := n0_
          have HB := n1_
          clear n0_ n1_
          (try clear hb)
          (try clear hb2)
          (try clear hk)
          (try clear hi)
          refine hK.out _ _ ⟨(blk_cell BK362.out 0).trans rfl, (blk_cell BK362.out 1).trans rfl, ((HB.out.cell (World.block_lt_of_cell? w _ hw366_0)).trans hw366_0)⟩ (fun hHeld => ?_)
          clear hK K
          refine norm_ (a' := ?_) ?_ ?_
          rotate_left
          ·show Act.put _ (some 16) _ = _
           simp only [Act.put, List.setIfInBounds_toArray, List.set_cons_zero, List.set_cons_succ, i64_w, i32_w]
           rfl
          refine pure_ (i := 3) (N := some 17) (v := ?_) (a' := ?_) #[true,true,true,true,false,false,false,false,false,false,false,false,false,false,false,false,false,false,false,false,false,false,false,false,false,false] rfl rfl (any_of HT_.out (by kernel_rfl)) (fun _ _ _ h => h) (Or.inl ⟨by rfl, ?_⟩) ?_ ?_
          rotate_left; · intro w'; go_simp; with_reducible rfl
          rotate_left; · simp only [Act.put, List.setIfInBounds_toArray, List.set_cons_zero, List.set_cons_succ, i64_w, i32_w]; rfl
          refine pure_ (i := 4) (N := some 18) (v := ?_) (a' := ?_) #[true,true,true,true,true,false,false,false,false,false,false,false,false,false,false,false,false,false,false,false,false,false,false,false,false,false] rfl rfl (any_of HT_.out (by kernel_rfl)) (fun _ _ _ h => h) (Or.inl ⟨by rfl, ?_⟩) ?_ ?_
          rotate_left; · intro w'; go_simp; with_reducible rfl
          rotate_left; · simp only [Act.put, List.setIfInBounds_toArray, List.set_cons_zero, List.set_cons_succ, i64_w, i32_w]; rfl
          refine pure_ (i := 5) (N := some 19) (v := ?_) (a' := ?_) #[true,true,true,true,true,true,false,false,false,false,false,false,false,false,false,false,false,false,false,false,false,false,false,false,false,false] rfl rfl (any_of HT_.out (by kernel_rfl)) (fun _ _ _ h => h) (Or.inl ⟨by rfl, ?_⟩) ?_ ?_
          rotate_left; · intro w'; go_simp; with_reducible rfl
          rotate_left; · simp only [Act.put, List.setIfInBounds_toArray, List.set_cons_zero, List.set_cons_succ, i64_w, i32_w]; rfl
          refine pure_ (i := 7) (N := some 21) (v := ?_) (a' := ?_) #[true,true,true,true,true,true,false,true,false,false,false,false,false,false,false,false,false,false,false,false,false,false,false,false,false,false] rfl rfl (any_of HT_.out (by kernel_rfl)) (fun _ _ _ h => h) (Or.inl ⟨by rfl, ?_⟩) ?_ ?_
          rotate_left; · intro w'; go_simp; with_reducible rfl
          rotate_left; · simp only [Act.put, List.setIfInBounds_toArray, List.set_cons_zero, List.set_cons_succ, i64_w, i32_w]; rfl
          refine pure_ (i := 8) (N := some 22) (v := ?_) (a' := ?_) #[true,true,true,true,true,true,false,true,true,false,false,false,false,false,false,false,false,false,false,false,false,false,false,false,false,false] rfl rfl (any_of HT_.out (by kernel_rfl)) (fun _ _ _ h => h) (Or.inl ⟨by rfl, ?_⟩) ?_ ?_
          rotate_left; · intro w'; go_simp; with_reducible rfl
          rotate_left; · simp only [Act.put, List.setIfInBounds_toArray, List.set_cons_zero, List.set_cons_succ, i64_w, i32_w]; rfl
          refine take_ (i := 9) (N := some 23) (v := ?_) (a' := ?_) #[true,true,true,true,true,true,false,true,true,true,false,false,false,false,false,false,false,false,false,false,false,false,false,false,false,false] rfl rfl (take_ofW HT_.out HW_.out (by kernel_rfl)) (fun _ _ _ h => h) (Or.inl ⟨by rfl, ?_⟩) hHeld ?_ ?_
          rotate_left; · rintro w' ⟨s0, s1, s2⟩; go_simp; with_reducible rfl
          rotate_left; · simp only [Act.put, List.setIfInBounds_toArray, List.set_cons_zero, List.set_cons_succ, i64_w, i32_w]; rfl
          refine one_ (i := 6) (N := some 20) #[true,true,true,true,true,true,true,true,true,true,false,false,false,false,false,false,false,false,false,false,false,false,false,false,false,false] rfl rfl (one_of HT_.out (by kernel_rfl)) (by decide) (fun K hK => ?_)
          refine goes_ Try.func46 (by kernel_rfl) rfl #[.int .i64 (rd l1 x9_1)] (by rfl) rfl rfl (by (try simp only [List.map_toArray, List.map_cons, List.map_nil]); first | done | rfl | (simp only [List.length_drop, List.length_take]; rfl)) ?_
          with_reducible refine (impl_size.calls (rd l1 x9_1) t365 _ A9.out).mono ?_
          rintro e w' ⟨rfl, ⟨nd, rfl⟩⟩
          refine ⟨_, rfl, ?_⟩
          refine hK.out _ _ ⟨(blk_cell BK362.out 0).trans rfl, (blk_cell BK362.out 1).trans rfl, ((HB.out.cell (World.block_lt_of_cell? w _ hw366_0)).trans hw366_0)⟩ (fun hHeld => ?_)
          clear hK K
          refine norm_ (a' := ?_) ?_ ?_
          rotate_left
          ·show Act.put _ (some 20) _ = _
           simp only [Act.put, List.setIfInBounds_toArray, List.set_cons_zero, List.set_cons_succ, i64_w, i32_w]
           rfl
          refine one_ (i := 10) (N := some 24) #[true,true,true,true,true,true,true,true,true,true,true,false,false,false,false,false,false,false,false,false,false,false,false,false,false,false] rfl rfl (one_of HT_.out (by kernel_rfl)) (by decide) (fun K hK => ?_)
          refine goes_ Try.func46 (by kernel_rfl) rfl #[.int .i64 (rd l1 0)] (by rfl) rfl rfl (by (try simp only [List.map_toArray, List.map_cons, List.map_nil]); first | done | rfl | (simp only [List.length_drop, List.length_take]; rfl)) ?_
          with_reducible refine (impl_size.calls (rd l1 0) t367 _ A11.out).mono ?_
          rintro e w' ⟨rfl, ⟨nd, rfl⟩⟩
          refine ⟨_, rfl, ?_⟩
          refine hK.out _ _ ⟨(blk_cell BK362.out 0).trans rfl, (blk_cell BK362.out 1).trans rfl, ((HB.out.cell (World.block_lt_of_cell? w _ hw366_0)).trans hw366_0)⟩ (fun hHeld => ?_)
          clear hK K
          refine norm_ (a' := ?_) ?_ ?_
          rotate_left
          ·show Act.put _ (some 24) _ = _
           simp only [Act.put, List.setIfInBounds_toArray, List.set_cons_zero, List.set_cons_succ, i64_w, i32_w]
           rfl
          refine pure_ (i := 11) (N := some 25) (v := ?_) (a' := ?_) #[true,true,true,true,true,true,true,true,true,true,true,true,false,false,false,false,false,false,false,false,false,false,false,false,false,false] rfl rfl (any_of HT_.out (by kernel_rfl)) (fun _ _ _ h => h) (Or.inl ⟨by rfl, ?_⟩) ?_ ?_
          rotate_left; · intro w'; go_simp; with_reducible rfl
          rotate_left; · simp only [Act.put, List.setIfInBounds_toArray, List.set_cons_zero, List.set_cons_succ, i64_w, i32_w]; rfl
          refine pure_ (i := 12) (N := some 26) (v := ?_) (a' := ?_) #[true,true,true,true,true,true,true,true,true,true,true,true,true,false,false,false,false,false,false,false,false,false,false,false,false,false] rfl rfl (any_of HT_.out (by kernel_rfl)) (fun _ _ _ h => h) (Or.inl ⟨by rfl, ?_⟩) ?_ ?_
          rotate_left; · intro w'; go_simp; with_reducible rfl
          rotate_left; · simp only [Act.put, List.setIfInBounds_toArray, List.set_cons_zero, List.set_cons_succ, i64_w, i32_w]; rfl
          refine pure_ (i := 13) (N := some 27) (v := ?_) (a' := ?_) #[true,true,true,true,true,true,true,true,true,true,true,true,true,true,false,false,false,false,false,false,false,false,false,false,false,false] rfl rfl (any_of HT_.out (by kernel_rfl)) (fun _ _ _ h => h) (Or.inl ⟨by rfl, ?_⟩) ?_ ?_
          rotate_left; · intro w'; go_simp; with_reducible rfl
          rotate_left; · simp only [Act.put, List.setIfInBounds_toArray, List.set_cons_zero, List.set_cons_succ, i64_w, i32_w]; rfl
          refine pure_ (i := 14) (N := some 28) (v := ?_) (a' := ?_) #[true,true,true,true,true,true,true,true,true,true,true,true,true,true,true,false,false,false,false,false,false,false,false,false,false,false] rfl rfl (any_of HT_.out (by kernel_rfl)) (fun _ _ _ h => h) (Or.inl ⟨by rfl, ?_⟩) ?_ ?_
          rotate_left; · intro w'; go_simp; with_reducible rfl
          rotate_left; · simp only [Act.put, List.setIfInBounds_toArray, List.set_cons_zero, List.set_cons_succ, i64_w, i32_w]; rfl
          refine pure_ (i := 15) (N := some 29) (v := ?_) (a' := ?_) #[true,true,true,true,true,true,true,true,true,true,true,true,true,true,true,true,false,false,false,false,false,false,false,false,false,false] rfl rfl (any_of HT_.out (by kernel_rfl)) (fun _ _ _ h => h) (Or.inl ⟨by rfl, ?_⟩) ?_ ?_
          rotate_left; · intro w'; go_simp; with_reducible rfl
          rotate_left; · simp only [Act.put, List.setIfInBounds_toArray, List.set_cons_zero, List.set_cons_succ, i64_w, i32_w]; rfl
          refine pure_ (i := 16) (N := some 30) (v := ?_) (a' := ?_) #[true,true,true,true,true,true,true,true,true,true,true,true,true,true,true,true,true,false,false,false,false,false,false,false,false,false] rfl rfl (any_of HT_.out (by kernel_rfl)) (fun _ _ _ h => h) (Or.inl ⟨by rfl, ?_⟩) ?_ ?_
          rotate_left; · intro w'; go_simp; with_reducible rfl
          rotate_left; · simp only [Act.put, List.setIfInBounds_toArray, List.set_cons_zero, List.set_cons_succ, i64_w, i32_w]; rfl
          refine pure_ (i := 17) (N := some 31) (v := undef) (a' := ?_) #[true,true,true,true,true,true,true,true,true,true,true,true,true,true,true,true,true,true,false,false,false,false,false,false,false,false] rfl rfl (any_of HT_.out (by kernel_rfl)) (fun _ _ _ h => h) (Or.inr ⟨by rfl, rfl⟩) ?_ ?_
          rotate_left; · simp only [Act.put, List.setIfInBounds_toArray, List.set_cons_zero, List.set_cons_succ, i64_w, i32_w]; rfl
          refine pure_ (i := 18) (N := some 32) (v := undef) (a' := ?_) #[true,true,true,true,true,true,true,true,true,true,true,true,true,true,true,true,true,true,true,false,false,false,false,false,false,false] rfl rfl (any_of HT_.out (by kernel_rfl)) (fun _ _ _ h => h) (Or.inr ⟨by rfl, rfl⟩) ?_ ?_
          rotate_left; · simp only [Act.put, List.setIfInBounds_toArray, List.set_cons_zero, List.set_cons_succ, i64_w, i32_w]; rfl
          refine pure_ (i := 19) (N := some 33) (v := undef) (a' := ?_) #[true,true,true,true,true,true,true,true,true,true,true,true,true,true,true,true,true,true,true,true,false,false,false,false,false,false] rfl rfl (any_of HT_.out (by kernel_rfl)) (fun _ _ _ h => h) (Or.inr ⟨by rfl, rfl⟩) ?_ ?_
          rotate_left; · simp only [Act.put, List.setIfInBounds_toArray, List.set_cons_zero, List.set_cons_succ, i64_w, i32_w]; rfl
          refine pure_ (i := 20) (N := some 34) (v := undef) (a' := ?_) #[true,true,true,true,true,true,true,true,true,true,true,true,true,true,true,true,true,true,true,true,true,false,false,false,false,false] rfl rfl (any_of HT_.out (by kernel_rfl)) (fun _ _ _ h => h) (Or.inr ⟨by rfl, rfl⟩) ?_ ?_
          rotate_left; · simp only [Act.put, List.setIfInBounds_toArray, List.set_cons_zero, List.set_cons_succ, i64_w, i32_w]; rfl
          refine pure_ (i := 21) (N := some 35) (v := undef) (a' := ?_) #[true,true,true,true,true,true,true,true,true,true,true,true,true,true,true,true,true,true,true,true,true,true,false,false,false,false] rfl rfl (any_of HT_.out (by kernel_rfl)) (fun _ _ _ h => h) (Or.inr ⟨by rfl, rfl⟩) ?_ ?_
          rotate_left; · simp only [Act.put, List.setIfInBounds_toArray, List.set_cons_zero, List.set_cons_succ, i64_w, i32_w]; rfl
          refine pure_ (i := 22) (N := some 36) (v := undef) (a' := ?_) #[true,true,true,true,true,true,true,true,true,true,true,true,true,true,true,true,true,true,true,true,true,true,true,false,false,false] rfl rfl (any_of HT_.out (by kernel_rfl)) (fun _ _ _ h => h) (Or.inr ⟨by rfl, rfl⟩) ?_ ?_
          rotate_left; · simp only [Act.put, List.setIfInBounds_toArray, List.set_cons_zero, List.set_cons_succ, i64_w, i32_w]; rfl
          refine pure_ (i := 23) (N := some 37) (v := undef) (a' := ?_) #[true,true,true,true,true,true,true,true,true,true,true,true,true,true,true,true,true,true,true,true,true,true,true,true,false,false] rfl rfl (any_of HT_.out (by kernel_rfl)) (fun _ _ _ h => h) (Or.inr ⟨by rfl, rfl⟩) ?_ ?_
          rotate_left; · simp only [Act.put, List.setIfInBounds_toArray, List.set_cons_zero, List.set_cons_succ, i64_w, i32_w]; rfl
          refine pure_ (i := 24) (N := some 38) (v := ?_) (a' := ?_) #[true,true,true,true,true,true,true,true,true,true,true,true,true,true,true,true,true,true,true,true,true,true,true,true,true,false] rfl rfl (any_of HT_.out (by kernel_rfl)) (fun _ _ _ h => h) (Or.inl ⟨by rfl, ?_⟩) ?_ ?_
          rotate_left; · intro w'; go_simp; with_reducible rfl
          rotate_left; · simp only [Act.put, List.setIfInBounds_toArray, List.set_cons_zero, List.set_cons_succ, i64_w, i32_w]; rfl
          refine pure_ (i := 25) (N := some 39) (v := ?_) (a' := ?_) #[true,true,true,true,true,true,true,true,true,true,true,true,true,true,true,true,true,true,true,true,true,true,true,true,true,true] rfl rfl (any_of HT_.out (by kernel_rfl)) (fun _ _ _ h => h) (Or.inl ⟨by rfl, ?_⟩) ?_ ?_
          rotate_left; · intro w'; go_simp; with_reducible rfl
          rotate_left; · simp only [Act.put, List.setIfInBounds_toArray, List.set_cons_zero, List.set_cons_succ, i64_w, i32_w]; rfl
          refine done_ (done_of HT_.out (by kernel_rfl)) ?_
          try go_wp2
          go_roundg k1
          case measure => have := HK1.out; omega
          case rel => exact ⟨(wrap64 (x9_1 + 1)), (by first | rfl | (simp; done) | (simp [*]; done)), H', ⟨by have := HK1.out; omega⟩, ⟨by (with_reducible repeat (first | refine blk_drewN ?_ _ | refine blk_drew ?_ | refine blk_alloc ?_ _)); exact BK362.out⟩, ⟨by repeat (first | (with_reducible first | exact HB.out | apply below_alloc | apply pw_below_drewN | apply below_drew1 | refine below_set ?_ GE362.out) | exact HB.out)⟩⟩
        ·rw [if_neg c12] at H
         have c12b0 : (t365 == t367) = false := beq_eq_false_iff_ne.mpr c12
         have c12b1 : (t365 != t367) = true := bne_iff_ne.mpr c12
         obtain rfl := Option.some.inj H
         have p363 : 0 ≤ (x9_1 : Int) := of_decide_eq_true (by first | (with_reducible assumption) | assumption)
         have q363 : x9_1 < (l1.length : Int) := of_decide_eq_true (by first | (with_reducible assumption) | assumption)
         obtain ⟨ad363, e363, hx363_0⟩ := Kd.at_int HR1.out x9_1 p363 q363
         cases e363
         replace hx363_0 := (HB.out.cell (World.block_lt_of_cell? w _ hx363_0)).trans hx363_0
         replace p363 := eq_true p363
         replace q363 := eq_true q363
         try go_wp2
         have n0_ := Aside0.mk (blk_drew BK362.out)
         have n1_ := Aside0.mk (below_drew1 HB.out)
         clear BK362
         clear HB
         have BK362 := n0_
         have HB := n1_
         clear n0_ n1_
         have p366 : 0 ≤ (0 : Int) := (by omega)
         have q366 : 0 < (l1.length : Int) := of_decide_eq_true (by first | (with_reducible assumption) | assumption)
         obtain ⟨ad366, e366, hx366_0⟩ := Kd.at_int HR1.out 0 p366 q366
         have hw366_0 := hx366_0
         (try rw [show ((0 : Int)).toNat = 0 from rfl] at hw366_0)
         (try rw [show 0 * 1 = 0 from rfl] at hw366_0)
         (try rw [Addr.add_zero'] at hw366_0)
         obtain rfl : ad363 = ad366 := (by injection e366)
         have qi366 : (0 < l1.length) = True := eq_true (by omega)
         (try rw [show ((0 : Int)).toNat = 0 from rfl] at hx366_0)
         (try rw [Addr.add_zero'] at hx366_0)
         replace hx366_0 := (HB.out.cell (World.block_lt_of_cell? w _ hx366_0)).trans hx366_0
         replace p366 := eq_true p366
         replace q366 := eq_true q366
         refine start_ (n := 26) (S := fun w' => w'.cell? ⟨gb362, 0, none⟩ = some (.int .i64 a0_0) ∧ w'.cell? ⟨gb362, 1, none⟩ = some (.slice A0_1 l0_1.length c0_1) ∧ w'.cell? ad363 = some (.int .i64 (rd l1 0))) (ds := []) #[false,false,false,false,false,false,false,false,false,false,false,false,false,false,false,false,false,false,false,false,false,false,false,false,false,false] (by kernel_rfl) rfl rfl ⟨(blk_cell BK362.out 0).trans rfl, (blk_cell BK362.out 1).trans rfl, ((HB.out.cell (World.block_lt_of_cell? w _ hw366_0)).trans hw366_0)⟩ (fun hHeld => ?_); refine with_tabW impl_Complex_isChain.tab4 impl_Complex_isChain.bits4 (fun HT_ HW_ => ?_)
         generalize wr.drew = w24 at BK362 HB hx366_0 hHeld ⊢
         refine pure_ (i := 1) (N := some 15) (v := ?_) (a' := ?_) #[false,true,false,false,false,false,false,false,false,false,false,false,false,false,false,false,false,false,false,false,false,false,false,false,false,false] rfl rfl (any_of HT_.out (by kernel_rfl)) (fun _ _ _ h => h) (Or.inl ⟨by rfl, ?_⟩) ?_ ?_
         rotate_left; · intro w'; go_simp; with_reducible rfl
         rotate_left; · simp only [Act.put, List.setIfInBounds_toArray, List.set_cons_zero, List.set_cons_succ, i64_w, i32_w]; rfl
         refine take_ (i := 0) (N := some 14) (v := ?_) (a' := ?_) #[true,true,false,false,false,false,false,false,false,false,false,false,false,false,false,false,false,false,false,false,false,false,false,false,false,false] rfl rfl (take_ofW HT_.out HW_.out (by kernel_rfl)) (fun _ _ _ h => h) (Or.inl ⟨by rfl, ?_⟩) hHeld ?_ ?_
         rotate_left; · rintro w' ⟨s0, s1, s2⟩; go_simp; with_reducible rfl
         rotate_left; · simp only [Act.put, List.setIfInBounds_toArray, List.set_cons_zero, List.set_cons_succ, i64_w, i32_w]; rfl
         refine one_ (i := 2) (N := some 16) #[true,true,true,false,false,false,false,false,false,false,false,false,false,false,false,false,false,false,false,false,false,false,false,false,false,false] rfl rfl (one_of HT_.out (by kernel_rfl)) (by decide) (fun K hK => ?_)
         refine goes_ Try.func38 (by kernel_rfl) rfl #[.agg #[.int .i64 a0_0, .slice A0_1 l0_1.length c0_1], .int .i64 (rd l1 x9_1)] (by rfl) rfl rfl (by (try simp only [List.map_toArray, List.map_cons, List.map_nil]); first | done | rfl | (simp only [List.length_drop, List.length_take]; rfl)) ?_
         with_reducible refine (impl_Complex_has.calls k1 a0_0 _ _ l0_1 (rd l1 x9_1) true _ ?side1 ?side2 A7.out).mono ?_
         (case side1 => repeat (first | exact (Kd.C_below HR0_1.out HB.out) | (with_reducible refine Kd.C_alloc ?_ _) | (with_reducible refine Kd.C_drewN ?_ _) | (with_reducible refine Kd.C_drew ?_)))
         (case side2 => exact HC0_1.out)
         rintro e w25 ⟨rfl, hb⟩
         refine ⟨_, rfl, ?_⟩
         have n0_ := Aside0.mk (blk_below (g := gb362) (o := .cells #[.int .i64 a0_0, .slice A0_1 l0_1.length c0_1] 26 (0, 0)) (by (with_reducible repeat (first | refine blk_drewN ?_ _ | refine blk_drew ?_ | refine blk_alloc ?_ _)); exact BK362.out) hb)
         have n1_ := Aside0.mk (below_step (by repeat (first | (with_reducible first | exact HB.out | apply below_alloc | apply pw_below_drewN | apply below_drew1 | refine below_set ?_ GE362.out) | exact HB.out)) hb)
         clear BK362
         clear HB
         have BK362 := n0_
         have HB := n1_
         clear n0_ n1_
         (try clear hb)
         (try clear hb2)
         (try clear hk)
         (try clear hi)
         refine hK.out _ _ ⟨(blk_cell BK362.out 0).trans rfl, (blk_cell BK362.out 1).trans rfl, ((HB.out.cell (World.block_lt_of_cell? w _ hw366_0)).trans hw366_0)⟩ (fun hHeld => ?_)
         clear hK K
         refine norm_ (a' := ?_) ?_ ?_
         rotate_left
         ·show Act.put _ (some 16) _ = _
          simp only [Act.put, List.setIfInBounds_toArray, List.set_cons_zero, List.set_cons_succ, i64_w, i32_w]
          rfl
         refine pure_ (i := 3) (N := some 17) (v := ?_) (a' := ?_) #[true,true,true,true,false,false,false,false,false,false,false,false,false,false,false,false,false,false,false,false,false,false,false,false,false,false] rfl rfl (any_of HT_.out (by kernel_rfl)) (fun _ _ _ h => h) (Or.inl ⟨by rfl, ?_⟩) ?_ ?_
         rotate_left; · intro w'; go_simp; with_reducible rfl
         rotate_left; · simp only [Act.put, List.setIfInBounds_toArray, List.set_cons_zero, List.set_cons_succ, i64_w, i32_w]; rfl
         refine pure_ (i := 4) (N := some 18) (v := ?_) (a' := ?_) #[true,true,true,true,true,false,false,false,false,false,false,false,false,false,false,false,false,false,false,false,false,false,false,false,false,false] rfl rfl (any_of HT_.out (by kernel_rfl)) (fun _ _ _ h => h) (Or.inl ⟨by rfl, ?_⟩) ?_ ?_
         rotate_left; · intro w'; go_simp; with_reducible rfl
         rotate_left; · simp only [Act.put, List.setIfInBounds_toArray, List.set_cons_zero, List.set_cons_succ, i64_w, i32_w]; rfl
         refine pure_ (i := 5) (N := some 19) (v := ?_) (a' := ?_) #[true,true,true,true,true,true,false,false,false,false,false,false,false,false,false,false,false,false,false,false,false,false,false,false,false,false] rfl rfl (any_of HT_.out (by kernel_rfl)) (fun _ _ _ h => h) (Or.inl ⟨by rfl, ?_⟩) ?_ ?_
         rotate_left; · intro w'; go_simp; with_reducible rfl
         rotate_left; · simp only [Act.put, List.setIfInBounds_toArray, List.set_cons_zero, List.set_cons_succ, i64_w, i32_w]; rfl
         refine pure_ (i := 7) (N := some 21) (v := ?_) (a' := ?_) #[true,true,true,true,true,true,false,true,false,false,false,false,false,false,false,false,false,false,false,false,false,false,false,false,false,false] rfl rfl (any_of HT_.out (by kernel_rfl)) (fun _ _ _ h => h) (Or.inl ⟨by rfl, ?_⟩) ?_ ?_
         rotate_left; · intro w'; go_simp; with_reducible rfl
         rotate_left; · simp only [Act.put, List.setIfInBounds_toArray, List.set_cons_zero, List.set_cons_succ, i64_w, i32_w]; rfl
         refine pure_ (i := 8) (N := some 22) (v := ?_) (a' := ?_) #[true,true,true,true,true,true,false,true,true,false,false,false,false,false,false,false,false,false,false,false,false,false,false,false,false,false] rfl rfl (any_of HT_.out (by kernel_rfl)) (fun _ _ _ h => h) (Or.inl ⟨by rfl, ?_⟩) ?_ ?_
         rotate_left; · intro w'; go_simp; with_reducible rfl
         rotate_left; · simp only [Act.put, List.setIfInBounds_toArray, List.set_cons_zero, List.set_cons_succ, i64_w, i32_w]; rfl
         refine take_ (i := 9) (N := some 23) (v := ?_) (a' := ?_) #[true,true,true,true,true,true,false,true,true,true,false,false,false,false,false,false,false,false,false,false,false,false,false,false,false,false] rfl rfl (take_ofW HT_.out HW_.out (by kernel_rfl)) (fun _ _ _ h => h) (Or.inl ⟨by rfl, ?_⟩) hHeld ?_ ?_
         rotate_left; · rintro w' ⟨s0, s1, s2⟩; go_simp; with_reducible rfl
         rotate_left; · simp only [Act.put, List.setIfInBounds_toArray, List.set_cons_zero, List.set_cons_succ, i64_w, i32_w]; rfl
         refine one_ (i := 6) (N := some 20) #[true,true,true,true,true,true,true,true,true,true,false,false,false,false,false,false,false,false,false,false,false,false,false,false,false,false] rfl rfl (one_of HT_.out (by kernel_rfl)) (by decide) (fun K hK => ?_)
         refine goes_ Try.func46 (by kernel_rfl) rfl #[.int .i64 (rd l1 x9_1)] (by rfl) rfl rfl (by (try simp only [List.map_toArray, List.map_cons, List.map_nil]); first | done | rfl | (simp only [List.length_drop, List.length_take]; rfl)) ?_
         with_reducible refine (impl_size.calls (rd l1 x9_1) t365 _ A9.out).mono ?_
         rintro e w' ⟨rfl, ⟨nd, rfl⟩⟩
         refine ⟨_, rfl, ?_⟩
         refine hK.out _ _ ⟨(blk_cell BK362.out 0).trans rfl, (blk_cell BK362.out 1).trans rfl, ((HB.out.cell (World.block_lt_of_cell? w _ hw366_0)).trans hw366_0)⟩ (fun hHeld => ?_)
         clear hK K
         refine norm_ (a' := ?_) ?_ ?_
         rotate_left
         ·show Act.put _ (some 20) _ = _
          simp only [Act.put, List.setIfInBounds_toArray, List.set_cons_zero, List.set_cons_succ, i64_w, i32_w]
          rfl
         refine one_ (i := 10) (N := some 24) #[true,true,true,true,true,true,true,true,true,true,true,false,false,false,false,false,false,false,false,false,false,false,false,false,false,false] rfl rfl (one_of HT_.out (by kernel_rfl)) (by decide) (fun K hK => ?_)
         refine goes_ Try.func46 (by kernel_rfl) rfl #[.int .i64 (rd l1 0)] (by rfl) rfl rfl (by (try simp only [List.map_toArray, List.map_cons, List.map_nil]); first | done | rfl | (simp only [List.length_drop, List.length_take]; rfl)) ?_
         with_reducible refine (impl_size.calls (rd l1 0) t367 _ A11.out).mono ?_
         rintro e w' ⟨rfl, ⟨nd, rfl⟩⟩
         refine ⟨_, rfl, ?_⟩
         refine hK.out _ _ ⟨(blk_cell BK362.out 0).trans rfl, (blk_cell BK362.out 1).trans rfl, ((HB.out.cell (World.block_lt_of_cell? w _ hw366_0)).trans hw366_0)⟩ (fun hHeld => ?_)
         clear hK K
         refine norm_ (a' := ?_) ?_ ?_
         rotate_left
         ·show Act.put _ (some 24) _ = _
          simp only [Act.put, List.setIfInBounds_toArray, List.set_cons_zero, List.set_cons_succ, i64_w, i32_w]
          rfl
         refine pure_ (i := 11) (N := some 25) (v := ?_) (a' := ?_) #[true,true,true,true,true,true,true,true,true,true,true,true,false,false,false,false,false,false,false,false,false,false,false,false,false,false] rfl rfl (any_of HT_.out (by kernel_rfl)) (fun _ _ _ h => h) (Or.inl ⟨by rfl, ?_⟩) ?_ ?_
         rotate_left; · intro w'; go_simp; with_reducible rfl
         rotate_left; · simp only [Act.put, List.setIfInBounds_toArray, List.set_cons_zero, List.set_cons_succ, i64_w, i32_w]; rfl
         refine pure_ (i := 12) (N := some 26) (v := ?_) (a' := ?_) #[true,true,true,true,true,true,true,true,true,true,true,true,true,false,false,false,false,false,false,false,false,false,false,false,false,false] rfl rfl (any_of HT_.out (by kernel_rfl)) (fun _ _ _ h => h) (Or.inl ⟨by rfl, ?_⟩) ?_ ?_
         rotate_left; · intro w'; go_simp; with_reducible rfl
         rotate_left; · simp only [Act.put, List.setIfInBounds_toArray, List.set_cons_zero, List.set_cons_succ, i64_w, i32_w]; rfl
         refine pure_ (i := 13) (N := some 27) (v := ?_) (a' := ?_) #[true,true,true,true,true,true,true,true,true,true,true,true,true,true,false,false,false,false,false,false,false,false,false,false,false,false] rfl rfl (any_of HT_.out (by kernel_rfl)) (fun _ _ _ h => h) (Or.inl ⟨by rfl, ?_⟩) ?_ ?_
         rotate_left; · intro w'; go_simp; with_reducible rfl
         rotate_left; · simp only [Act.put, List.setIfInBounds_toArray, List.set_cons_zero, List.set_cons_succ, i64_w, i32_w]; rfl
         refine pure_ (i := 14) (N := some 28) (v := undef) (a' := ?_) #[true,true,true,true,true,true,true,true,true,true,true,true,true,true,true,false,false,false,false,false,false,false,false,false,false,false] rfl rfl (any_of HT_.out (by kernel_rfl)) (fun _ _ _ h => h) (Or.inr ⟨by rfl, rfl⟩) ?_ ?_
         rotate_left; · simp only [Act.put, List.setIfInBounds_toArray, List.set_cons_zero, List.set_cons_succ, i64_w, i32_w]; rfl
         refine pure_ (i := 15) (N := some 29) (v := undef) (a' := ?_) #[true,true,true,true,true,true,true,true,true,true,true,true,true,true,true,true,false,false,false,false,false,false,false,false,false,false] rfl rfl (any_of HT_.out (by kernel_rfl)) (fun _ _ _ h => h) (Or.inr ⟨by rfl, rfl⟩) ?_ ?_
         rotate_left; · simp only [Act.put, List.setIfInBounds_toArray, List.set_cons_zero, List.set_cons_succ, i64_w, i32_w]; rfl
         refine pure_ (i := 16) (N := some 30) (v := undef) (a' := ?_) #[true,true,true,true,true,true,true,true,true,true,true,true,true,true,true,true,true,false,false,false,false,false,false,false,false,false] rfl rfl (any_of HT_.out (by kernel_rfl)) (fun _ _ _ h => h) (Or.inr ⟨by rfl, rfl⟩) ?_ ?_
         rotate_left; · simp only [Act.put, List.setIfInBounds_toArray, List.set_cons_zero, List.set_cons_succ, i64_w, i32_w]; rfl
         refine pure_ (i := 17) (N := some 31) (v := undef) (a' := ?_) #[true,true,true,true,true,true,true,true,true,true,true,true,true,true,true,true,true,true,false,false,false,false,false,false,false,false] rfl rfl (any_of HT_.out (by kernel_rfl)) (fun _ _ _ h => h) (Or.inr ⟨by rfl, rfl⟩) ?_ ?_
         rotate_left; · simp only [Act.put, List.setIfInBounds_toArray, List.set_cons_zero, List.set_cons_succ, i64_w, i32_w]; rfl
         refine pure_ (i := 18) (N := some 32) (v := undef) (a' := ?_) #[true,true,true,true,true,true,true,true,true,true,true,true,true,true,true,true,true,true,true,false,false,false,false,false,false,false] rfl rfl (any_of HT_.out (by kernel_rfl)) (fun _ _ _ h => h) (Or.inr ⟨by rfl, rfl⟩) ?_ ?_
         rotate_left; · simp only [Act.put, List.setIfInBounds_toArray, List.set_cons_zero, List.set_cons_succ, i64_w, i32_w]; rfl
         refine pure_ (i := 19) (N := some 33) (v := undef) (a' := ?_) #[true,true,true,true,true,true,true,true,true,true,true,true,true,true,true,true,true,true,true,true,false,false,false,false,false,false] rfl rfl (any_of HT_.out (by kernel_rfl)) (fun _ _ _ h => h) (Or.inr ⟨by rfl, rfl⟩) ?_ ?_
         rotate_left; · simp only [Act.put, List.setIfInBounds_toArray, List.set_cons_zero, List.set_cons_succ, i64_w, i32_w]; rfl
         refine pure_ (i := 20) (N := some 34) (v := undef) (a' := ?_) #[true,true,true,true,true,true,true,true,true,true,true,true,true,true,true,true,true,true,true,true,true,false,false,false,false,false] rfl rfl (any_of HT_.out (by kernel_rfl)) (fun _ _ _ h => h) (Or.inr ⟨by rfl, rfl⟩) ?_ ?_
         rotate_left; · simp only [Act.put, List.setIfInBounds_toArray, List.set_cons_zero, List.set_cons_succ, i64_w, i32_w]; rfl
         refine pure_ (i := 21) (N := some 35) (v := undef) (a' := ?_) #[true,true,true,true,true,true,true,true,true,true,true,true,true,true,true,true,true,true,true,true,true,true,false,false,false,false] rfl rfl (any_of HT_.out (by kernel_rfl)) (fun _ _ _ h => h) (Or.inr ⟨by rfl, rfl⟩) ?_ ?_
         rotate_left; · simp only [Act.put, List.setIfInBounds_toArray, List.set_cons_zero, List.set_cons_succ, i64_w, i32_w]; rfl
         refine pure_ (i := 22) (N := some 36) (v := undef) (a' := ?_) #[true,true,true,true,true,true,true,true,true,true,true,true,true,true,true,true,true,true,true,true,true,true,true,false,false,false] rfl rfl (any_of HT_.out (by kernel_rfl)) (fun _ _ _ h => h) (Or.inr ⟨by rfl, rfl⟩) ?_ ?_
         rotate_left; · simp only [Act.put, List.setIfInBounds_toArray, List.set_cons_zero, List.set_cons_succ, i64_w, i32_w]; rfl
         refine pure_ (i := 23) (N := some 37) (v := undef) (a' := ?_) #[true,true,true,true,true,true,true,true,true,true,true,true,true,true,true,true,true,true,true,true,true,true,true,true,false,false] rfl rfl (any_of HT_.out (by kernel_rfl)) (fun _ _ _ h => h) (Or.inr ⟨by rfl, rfl⟩) ?_ ?_
         rotate_left; · simp only [Act.put, List.setIfInBounds_toArray, List.set_cons_zero, List.set_cons_succ, i64_w, i32_w]; rfl
         refine pure_ (i := 24) (N := some 38) (v := undef) (a' := ?_) #[true,true,true,true,true,true,true,true,true,true,true,true,true,true,true,true,true,true,true,true,true,true,true,true,true,false] rfl rfl (any_of HT_.out (by kernel_rfl)) (fun _ _ _ h => h) (Or.inr ⟨by rfl, rfl⟩) ?_ ?_
         rotate_left; · simp only [Act.put, List.setIfInBounds_toArray, List.set_cons_zero, List.set_cons_succ, i64_w, i32_w]; rfl
         refine pure_ (i := 25) (N := some 39) (v := ?_) (a' := ?_) #[true,true,true,true,true,true,true,true,true,true,true,true,true,true,true,true,true,true,true,true,true,true,true,true,true,true] rfl rfl (any_of HT_.out (by kernel_rfl)) (fun _ _ _ h => h) (Or.inl ⟨by rfl, ?_⟩) ?_ ?_
         rotate_left; · intro w'; go_simp; with_reducible rfl
         rotate_left; · simp only [Act.put, List.setIfInBounds_toArray, List.set_cons_zero, List.set_cons_succ, i64_w, i32_w]; rfl
         refine done_ (done_of HT_.out (by kernel_rfl)) ?_
         try go_wp2
         go_ret
         exact ⟨by first | rfl | (simp [errW_none, errW_some] <;> rfl) | (simp [*, errW_none, errW_some] <;> rfl), by repeat (first | (with_reducible first | exact HB.out | apply below_alloc | apply pw_below_drewN | apply below_drew1 | refine below_set ?_ GE362.out) | exact HB.out)⟩
       ·rw [if_neg c10] at H
        exact absurd H (by simp)
      ·replace c8 := Bool.eq_false_iff.mpr c8
       subst c8
       have H1 : (some false) = some r := by rw [if_neg (show ¬ (false = true) by decide)] at H; exact H
       clear H
       have H := H1
       clear H1
       obtain rfl := Option.some.inj H
       have p363 : 0 ≤ (x9_1 : Int) := of_decide_eq_true (by first | (with_reducible assumption) | assumption)
       have q363 : x9_1 < (l1.length : Int) := of_decide_eq_true (by first | (with_reducible assumption) | assumption)
       obtain ⟨ad363, e363, hx363_0⟩ := Kd.at_int HR1.out x9_1 p363 q363
       cases e363
       replace hx363_0 := (HB.out.cell (World.block_lt_of_cell? w _ hx363_0)).trans hx363_0
       replace p363 := eq_true p363
       replace q363 := eq_true q363
       try go_wp2
       have n0_ := Aside0.mk (blk_drew BK362.out)
       have n1_ := Aside0.mk (below_drew1 HB.out)
       clear BK362
       clear HB
       have BK362 := n0_
       have HB := n1_
       clear n0_ n1_
       refine start_ (n := 26) (S := fun w' => w'.cell? ⟨gb362, 0, none⟩ = some (.int .i64 a0_0) ∧ w'.cell? ⟨gb362, 1, none⟩ = some (.slice A0_1 l0_1.length c0_1)) (ds := []) #[false,false,false,false,false,false,false,false,false,false,false,false,false,false,false,false,false,false,false,false,false,false,false,false,false,false] (by kernel_rfl) rfl rfl ⟨(blk_cell BK362.out 0).trans rfl, (blk_cell BK362.out 1).trans rfl⟩ (fun hHeld => ?_); refine with_tabW impl_Complex_isChain.tab4 impl_Complex_isChain.bits4 (fun HT_ HW_ => ?_)
       generalize wr.drew = w26 at BK362 HB hHeld ⊢
       refine pure_ (i := 1) (N := some 15) (v := ?_) (a' := ?_) #[false,true,false,false,false,false,false,false,false,false,false,false,false,false,false,false,false,false,false,false,false,false,false,false,false,false] rfl rfl (any_of HT_.out (by kernel_rfl)) (fun _ _ _ h => h) (Or.inl ⟨by rfl, ?_⟩) ?_ ?_
       rotate_left; · intro w'; go_simp; with_reducible rfl
       rotate_left; · simp only [Act.put, List.setIfInBounds_toArray, List.set_cons_zero, List.set_cons_succ, i64_w, i32_w]; rfl
       refine take_ (i := 0) (N := some 14) (v := ?_) (a' := ?_) #[true,true,false,false,false,false,false,false,false,false,false,false,false,false,false,false,false,false,false,false,false,false,false,false,false,false] rfl rfl (take_ofW HT_.out HW_.out (by kernel_rfl)) (fun _ _ _ h => h) (Or.inl ⟨by rfl, ?_⟩) hHeld ?_ ?_
       rotate_left; · rintro w' ⟨s0, s1⟩; go_simp; with_reducible rfl
       rotate_left; · simp only [Act.put, List.setIfInBounds_toArray, List.set_cons_zero, List.set_cons_succ, i64_w, i32_w]; rfl
       refine one_ (i := 2) (N := some 16) #[true,true,true,false,false,false,false,false,false,false,false,false,false,false,false,false,false,false,false,false,false,false,false,false,false,false] rfl rfl (one_of HT_.out (by kernel_rfl)) (by decide) (fun K hK => ?_)
       refine goes_ Try.func38 (by kernel_rfl) rfl #[.agg #[.int .i64 a0_0, .slice A0_1 l0_1.length c0_1], .int .i64 (rd l1 x9_1)] (by rfl) rfl rfl (by (try simp only [List.map_toArray, List.map_cons, List.map_nil]); first | done | rfl | (simp only [List.length_drop, List.length_take]; rfl)) ?_
       with_reducible refine (impl_Complex_has.calls k1 a0_0 _ _ l0_1 (rd l1 x9_1) false _ ?side1 ?side2 A7.out).mono ?_
       (case side1 => repeat (first | exact (Kd.C_below HR0_1.out HB.out) | (with_reducible refine Kd.C_alloc ?_ _) | (with_reducible refine Kd.C_drewN ?_ _) | (with_reducible refine Kd.C_drew ?_)))
       (case side2 => exact HC0_1.out)
       rintro e w27 ⟨rfl, hb⟩
       refine ⟨_, rfl, ?_⟩
       have n0_ := Aside0.mk (blk_below (g := gb362) (o := .cells #[.int .i64 a0_0, .slice A0_1 l0_1.length c0_1] 26 (0, 0)) (by (with_reducible repeat (first | refine blk_drewN ?_ _ | refine blk_drew ?_ | refine blk_alloc ?_ _)); exact BK362.out) hb)
       have n1_ := Aside0.mk (below_step (by repeat (first | (with_reducible first | exact HB.out | apply below_alloc | apply pw_below_drewN | apply below_drew1 | refine below_set ?_ GE362.out) | exact HB.out)) hb)
       clear BK362
       clear HB
       have BK362 := n0_
       have HB := n1_
       clear n0_ n1_
       (try clear hb)
       (try clear hb2)
       (try clear hk)
       (try clear hi)
       refine hK.out _ _ ⟨(blk_cell BK362.out 0).trans rfl, (blk_cell BK362.out 1).trans rfl⟩ (fun hHeld => ?_)
       clear hK K
       refine norm_ (a' := ?_) ?_ ?_
       rotate_left
       ·show Act.put _ (some 16) _ = _
        simp only [Act.put, List.setIfInBounds_toArray, List.set_cons_zero, List.set_cons_succ, i64_w, i32_w]
        rfl
       refine pure_ (i := 3) (N := some 17) (v := ?_) (a' := ?_) #[true,true,true,true,false,false,false,false,false,false,false,false,false,false,false,false,false,false,false,false,false,false,false,false,false,false] rfl rfl (any_of HT_.out (by kernel_rfl)) (fun _ _ _ h => h) (Or.inl ⟨by rfl, ?_⟩) ?_ ?_
       rotate_left; · intro w'; go_simp; with_reducible rfl
       rotate_left; · simp only [Act.put, List.setIfInBounds_toArray, List.set_cons_zero, List.set_cons_succ, i64_w, i32_w]; rfl
       refine pure_ (i := 4) (N := some 18) (v := ?_) (a' := ?_) #[true,true,true,true,true,false,false,false,false,false,false,false,false,false,false,false,false,false,false,false,false,false,false,false,false,false] rfl rfl (any_of HT_.out (by kernel_rfl)) (fun _ _ _ h => h) (Or.inl ⟨by rfl, ?_⟩) ?_ ?_
       rotate_left; · intro w'; go_simp; with_reducible rfl
       rotate_left; · simp only [Act.put, List.setIfInBounds_toArray, List.set_cons_zero, List.set_cons_succ, i64_w, i32_w]; rfl
       refine pure_ (i := 5) (N := some 19) (v := undef) (a' := ?_) #[true,true,true,true,true,true,false,false,false,false,false,false,false,false,false,false,false,false,false,false,false,false,false,false,false,false] rfl rfl (any_of HT_.out (by kernel_rfl)) (fun _ _ _ h => h) (Or.inr ⟨by rfl, rfl⟩) ?_ ?_
       rotate_left; · simp only [Act.put, List.setIfInBounds_toArray, List.set_cons_zero, List.set_cons_succ, i64_w, i32_w]; rfl
       refine pure_ (i := 6) (N := some 20) (v := undef) (a' := ?_) #[true,true,true,true,true,true,true,false,false,false,false,false,false,false,false,false,false,false,false,false,false,false,false,false,false,false] rfl rfl (any_of HT_.out (by kernel_rfl)) (fun _ _ _ h => h) (Or.inr ⟨by rfl, rfl⟩) ?_ ?_
       rotate_left; · simp only [Act.put, List.setIfInBounds_toArray, List.set_cons_zero, List.set_cons_succ, i64_w, i32_w]; rfl
       refine pure_ (i := 7) (N := some 21) (v := undef) (a' := ?_) #[true,true,true,true,true,true,true,true,false,false,false,false,false,false,false,false,false,false,false,false,false,false,false,false,false,false] rfl rfl (any_of HT_.out (by kernel_rfl)) (fun _ _ _ h => h) (Or.inr ⟨by rfl, rfl⟩) ?_ ?_
       rotate_left; · simp only [Act.put, List.setIfInBounds_toArray, List.set_cons_zero, List.set_cons_succ, i64_w, i32_w]; rfl
       refine pure_ (i := 8) (N := some 22) (v := undef) (a' := ?_) #[true,true,true,true,true,true,true,true,true,false,false,false,false,false,false,false,false,false,false,false,false,false,false,false,false,false] rfl rfl (any_of HT_.out (by kernel_rfl)) (fun _ _ _ h => h) (Or.inr ⟨by rfl, rfl⟩) ?_ ?_
       rotate_left; · simp only [Act.put, List.setIfInBounds_toArray, List.set_cons_zero, List.set_cons_succ, i64_w, i32_w]; rfl
       refine pure_ (i := 9) (N := some 23) (v := undef) (a' := ?_) #[true,true,true,true,true,true,true,true,true,true,false,false,false,false,false,false,false,false,false,false,false,false,false,false,false,false] rfl rfl (any_of HT_.out (by kernel_rfl)) (fun _ _ _ h => h) (Or.inr ⟨by rfl, rfl⟩) ?_ ?_
       rotate_left; · simp only [Act.put, List.setIfInBounds_toArray, List.set_cons_zero, List.set_cons_succ, i64_w, i32_w]; rfl
       refine pure_ (i := 10) (N := some 24) (v := undef) (a' := ?_) #[true,true,true,true,true,true,true,true,true,true,true,false,false,false,false,false,false,false,false,false,false,false,false,false,false,false] rfl rfl (any_of HT_.out (by kernel_rfl)) (fun _ _ _ h => h) (Or.inr ⟨by rfl, rfl⟩) ?_ ?_
       rotate_left; · simp only [Act.put, List.setIfInBounds_toArray, List.set_cons_zero, List.set_cons_succ, i64_w, i32_w]; rfl
       refine pure_ (i := 11) (N := some 25) (v := undef) (a' := ?_) #[true,true,true,true,true,true,true,true,true,true,true,true,false,false,false,false,false,false,false,false,false,false,false,false,false,false] rfl rfl (any_of HT_.out (by kernel_rfl)) (fun _ _ _ h => h) (Or.inr ⟨by rfl, rfl⟩) ?_ ?_
       rotate_left; · simp only [Act.put, List.setIfInBounds_toArray, List.set_cons_zero, List.set_cons_succ, i64_w, i32_w]; rfl
       refine pure_ (i := 12) (N := some 26) (v := ?_) (a' := ?_) #[true,true,true,true,true,true,true,true,true,true,true,true,true,false,false,false,false,false,false,false,false,false,false,false,false,false] rfl rfl (any_of HT_.out (by kernel_rfl)) (fun _ _ _ h => h) (Or.inl ⟨by rfl, ?_⟩) ?_ ?_
       rotate_left; · intro w'; go_simp; with_reducible rfl
       rotate_left; · simp only [Act.put, List.setIfInBounds_toArray, List.set_cons_zero, List.set_cons_succ, i64_w, i32_w]; rfl
       refine pure_ (i := 13) (N := some 27) (v := ?_) (a' := ?_) #[true,true,true,true,true,true,true,true,true,true,true,true,true,true,false,false,false,false,false,false,false,false,false,false,false,false] rfl rfl (any_of HT_.out (by kernel_rfl)) (fun _ _ _ h => h) (Or.inl ⟨by rfl, ?_⟩) ?_ ?_
       rotate_left; · intro w'; go_simp; with_reducible rfl
       rotate_left; · simp only [Act.put, List.setIfInBounds_toArray, List.set_cons_zero, List.set_cons_succ, i64_w, i32_w]; rfl
       refine pure_ (i := 14) (N := some 28) (v := undef) (a' := ?_) #[true,true,true,true,true,true,true,true,true,true,true,true,true,true,true,false,false,false,false,false,false,false,false,false,false,false] rfl rfl (any_of HT_.out (by kernel_rfl)) (fun _ _ _ h => h) (Or.inr ⟨by rfl, rfl⟩) ?_ ?_
       rotate_left; · simp only [Act.put, List.setIfInBounds_toArray, List.set_cons_zero, List.set_cons_succ, i64_w, i32_w]; rfl
       refine pure_ (i := 15) (N := some 29) (v := undef) (a' := ?_) #[true,true,true,true,true,true,true,true,true,true,true,true,true,true,true,true,false,false,false,false,false,false,false,false,false,false] rfl rfl (any_of HT_.out (by kernel_rfl)) (fun _ _ _ h => h) (Or.inr ⟨by rfl, rfl⟩) ?_ ?_
       rotate_left; · simp only [Act.put, List.setIfInBounds_toArray, List.set_cons_zero, List.set_cons_succ, i64_w, i32_w]; rfl
       refine pure_ (i := 16) (N := some 30) (v := undef) (a' := ?_) #[true,true,true,true,true,true,true,true,true,true,true,true,true,true,true,true,true,false,false,false,false,false,false,false,false,false] rfl rfl (any_of HT_.out (by kernel_rfl)) (fun _ _ _ h => h) (Or.inr ⟨by rfl, rfl⟩) ?_ ?_
       rotate_left; · simp only [Act.put, List.setIfInBounds_toArray, List.set_cons_zero, List.set_cons_succ, i64_w, i32_w]; rfl
       refine pure_ (i := 17) (N := some 31) (v := undef) (a' := ?_) #[true,true,true,true,true,true,true,true,true,true,true,true,true,true,true,true,true,true,false,false,false,false,false,false,false,false] rfl rfl (any_of HT_.out (by kernel_rfl)) (fun _ _ _ h => h) (Or.inr ⟨by rfl, rfl⟩) ?_ ?_
       rotate_left; · simp only [Act.put, List.setIfInBounds_toArray, List.set_cons_zero, List.set_cons_succ, i64_w, i32_w]; rfl
       refine pure_ (i := 18) (N := some 32) (v := undef) (a' := ?_) #[true,true,true,true,true,true,true,true,true,true,true,true,true,true,true,true,true,true,true,false,false,false,false,false,false,false] rfl rfl (any_of HT_.out (by kernel_rfl)) (fun _ _ _ h => h) (Or.inr ⟨by rfl, rfl⟩) ?_ ?_
       rotate_left; · simp only [Act.put, List.setIfInBounds_toArray, List.set_cons_zero, List.set_cons_succ, i64_w, i32_w]; rfl
       refine pure_ (i := 19) (N := some 33) (v := undef) (a' := ?_) #[true,true,true,true,true,true,true,true,true,true,true,true,true,true,true,true,true,true,true,true,false,false,false,false,false,false] rfl rfl (any_of HT_.out (by kernel_rfl)) (fun _ _ _ h => h) (Or.inr ⟨by rfl, rfl⟩) ?_ ?_
       rotate_left; · simp only [Act.put, List.setIfInBounds_toArray, List.set_cons_zero, List.set_cons_succ, i64_w, i32_w]; rfl
       refine pure_ (i := 20) (N := some 34) (v := undef) (a' := ?_) #[true,true,true,true,true,true,true,true,true,true,true,true,true,true,true,true,true,true,true,true,true,false,false,false,false,false] rfl rfl (any_of HT_.out (by kernel_rfl)) (fun _ _ _ h => h) (Or.inr ⟨by rfl, rfl⟩) ?_ ?_
       rotate_left; · simp only [Act.put, List.setIfInBounds_toArray, List.set_cons_zero, List.set_cons_succ, i64_w, i32_w]; rfl
       refine pure_ (i := 21) (N := some 35) (v := undef) (a' := ?_) #[true,true,true,true,true,true,true,true,true,true,true,true,true,true,true,true,true,true,true,true,true,true,false,false,false,false] rfl rfl (any_of HT_.out (by kernel_rfl)) (fun _ _ _ h => h) (Or.inr ⟨by rfl, rfl⟩) ?_ ?_
       rotate_left; · simp only [Act.put, List.setIfInBounds_toArray, List.set_cons_zero, List.set_cons_succ, i64_w, i32_w]; rfl
       refine pure_ (i := 22) (N := some 36) (v := undef) (a' := ?_) #[true,true,true,true,true,true,true,true,true,true,true,true,true,true,true,true,true,true,true,true,true,true,true,false,false,false] rfl rfl (any_of HT_.out (by kernel_rfl)) (fun _ _ _ h => h) (Or.inr ⟨by rfl, rfl⟩) ?_ ?_
       rotate_left; · simp only [Act.put, List.setIfInBounds_toArray, List.set_cons_zero, List.set_cons_succ, i64_w, i32_w]; rfl
       refine pure_ (i := 23) (N := some 37) (v := undef) (a' := ?_) #[true,true,true,true,true,true,true,true,true,true,true,true,true,true,true,true,true,true,true,true,true,true,true,true,false,false] rfl rfl (any_of HT_.out (by kernel_rfl)) (fun _ _ _ h => h) (Or.inr ⟨by rfl, rfl⟩) ?_ ?_
       rotate_left; · simp only [Act.put, List.setIfInBounds_toArray, List.set_cons_zero, List.set_cons_succ, i64_w, i32_w]; rfl
       refine pure_ (i := 24) (N := some 38) (v := undef) (a' := ?_) #[true,true,true,true,true,true,true,true,true,true,true,true,true,true,true,true,true,true,true,true,true,true,true,true,true,false] rfl rfl (any_of HT_.out (by kernel_rfl)) (fun _ _ _ h => h) (Or.inr ⟨by rfl, rfl⟩) ?_ ?_
       rotate_left; · simp only [Act.put, List.setIfInBounds_toArray, List.set_cons_zero, List.set_cons_succ, i64_w, i32_w]; rfl
       refine pure_ (i := 25) (N := some 39) (v := ?_) (a' := ?_) #[true,true,true,true,true,true,true,true,true,true,true,true,true,true,true,true,true,true,true,true,true,true,true,true,true,true] rfl rfl (any_of HT_.out (by kernel_rfl)) (fun _ _ _ h => h) (Or.inl ⟨by rfl, ?_⟩) ?_ ?_
       rotate_left; · intro w'; go_simp; with_reducible rfl
       rotate_left; · simp only [Act.put, List.setIfInBounds_toArray, List.set_cons_zero, List.set_cons_succ, i64_w, i32_w]; rfl
       refine done_ (done_of HT_.out (by kernel_rfl)) ?_
       try go_wp2
       go_ret
       exact ⟨by first | rfl | (simp [errW_none, errW_some] <;> rfl) | (simp [*, errW_none, errW_some] <;> rfl), by repeat (first | (with_reducible first | exact HB.out | apply below_alloc | apply pw_below_drewN | apply below_drew1 | refine below_set ?_ GE362.out) | exact HB.out)⟩
     ·rw [if_neg c6] at H
      exact absurd H (by simp)
    ·rw [if_neg c5] at H
     exact absurd H (by simp)
   ·rw [if_neg c4] at H
    have c4b0 : decide (x9_1 < (l1.length : Int)) = false := decide_eq_false c4
    clear c4
    obtain rfl := Option.some.inj H
    go_wp2
    go_ret
    exact ⟨by first | rfl | (simp [errW_none, errW_some] <;> rfl) | (simp [*, errW_none, errW_some] <;> rfl), by repeat (first | (with_reducible first | exact HB.out | apply below_alloc | apply pw_below_drewN | apply below_drew1 | refine below_set ?_ GE362.out) | exact HB.out)⟩

end Go.Proofs.Ytjoggjgmpoaaiaa.Q
end
