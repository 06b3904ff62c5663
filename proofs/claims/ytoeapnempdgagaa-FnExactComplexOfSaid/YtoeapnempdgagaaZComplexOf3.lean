/- The row of the law FnExactComplexOf: for every input the law answers true, and the arguments read as before. No conditions. -/
import Derived.Test.YtoeapnempdgagaaZComplexOf2
import Derived.Below
import Derived.Deep.Draws
import Derived.Deep.AppendLies
import Derived.Maps.AppendAt
import Derived.OwnWalk
import Derived.Laws.BytesArg
import Derived.Laws.MakeOwn
import Derived.Laws.OwnMore
import Derived.Deep.OwnRows
import Derived.Tactics
import Derived.Lib.ConvBytes
import Derived.Laws.Slices
import Derived.WalkKit
import Derived.KernelRfl
import Derived.RowKit3
import Derived.Deep.LoopGhost
import Derived.Deep.QuietTactic
import Derived.BigQuiet
import Derived.WideLaws
import Derived.Deep.DeepCutAuto
import Derived.Deep.CutBlock
import Derived.Deep.RegionHeld3
import Derived.Laws.Rows
import Derived.Lib.AppendStr
import Derived.ArgAppend
import Derived.Laws.IdiomCopy
import Derived.RowKit
import Derived.OrdersHeld
import Derived.Laws.BitsLemmas
import Derived.Test.YtoeapnempdgagaaProg
import Derived.Shelf.Abstract
import Derived.RangeFuncBox
import Derived.RangeFuncLeaves
import Derived.OwnWalkIn
import Derived.TacticsInMore
import Derived.LoopNIn
import Derived.LoopIn
import Derived.Laws.StructEq
import Derived.Lib.SliceRun
import Derived.Test.YtoeapnempdgagaaRows
import Derived.ProofKit
import Derived.OpenShut
import Derived.ShutString
import Derived.ChangeOld
import Derived.SizedLaws
import Derived.Lib.SmallJoins
section
/- IsComplex. -/
namespace Go.Proofs.Ytoeapnempdgagaa.K
open Go.RowKit Go.Shelf Go.Proofs.YtoeapnempdgagaaW.PrintWords Go.Proofs.YtoeapnempdgagaaW.PrintLast Go.Proofs.YtoeapnempdgagaaW.PrintMore
set_option linter.unusedVariables false
set_option linter.unusedSimpArgs false

/-- All borders of f are in l (as has tells it). -/
def closedAt (l : List Int) (f : Int) : Bool := (bords f).all (hasB l)

theorem bords_length (f : Int) : (bords f).length ≤ 6 := by
  have h1 := bordsOf_length f (verts f).reverse
  have h2 := verts_length f
  unfold bords
  simp at h1; omega

theorem has_answers (n : Int) (A : Option Addr) (c : Nat) (l : List Int) (w : World) (hr : Ki.C w A l.length l) (hc : l.length ≤ c) (hl : l.length ≤ 2305843009213693952) (x : Int) :
    Answers w 59 (#[.agg #[I n, .slice A l.length c]].push (I x) ++ #[]) (.bool (hasB l x)) :=
  fun W hW => has_calls n A c l x W (Kd.C_below hr hW) hc hl

set_option maxHeartbeats 2000000 in
theorem IsComplex1_calls (n f : Int) (B : Nat) (A : Option Addr) (c : Nat) (l : List Int) (w : World) (hb : w.heap[B]? = some (.cells #[I n, .slice A l.length c] 25 (0, 0)))
    (hr : Ki.C w A l.length l) (hc : l.length ≤ c) (hl : l.length ≤ 2305843009213693952) :
    Calls Try.prog 57 #[I f, .pointer (some ⟨B, 0, none⟩)] w fun e w' => e = .returned (.bool (closedAt l f)) ∧ Grew w w' := by
  have hlt : B < w.heap.size := (Array.getElem?_eq_some_iff.1 hb).1
  have h0 : w.cell? ⟨B, 0, none⟩ = some (I n) := blk_cell hb 0
  have h1 : w.cell? ⟨B, 1, none⟩ = some (.slice A l.length c) := blk_cell hb 1
  have HR := Aside0.mk hr
  have HC := Aside0.mk hc
  clear hr hc hb
  go_enter Try.func57, Try.ntmps57
  go_wp2_with fail
  go_region_held3 (fun w' => w'.cell? ⟨B, 0, none⟩ = some (I n) ∧ w'.cell? ⟨B, 1, none⟩ = some (.slice A l.length c))
    (first | exact ⟨(HG2.out.cell (p := ⟨B, 0, none⟩) hlt).trans h0, (HG2.out.cell (p := ⟨B, 1, none⟩) hlt).trans h1⟩ | exact ⟨(HG.out.cell (p := ⟨B, 0, none⟩) hlt).trans h0, (HG.out.cell (p := ⟨B, 1, none⟩) hlt).trans h1⟩ | go_keep)
    (first
      | (go_at_call 58; refine (borders_calls f _).mono ?_; rintro e w1 ⟨v, rfl, hR, hG⟩; obtain ⟨A1, c1, hv, hle, hCr⟩ := Kd.R_reads hR; subst hv; have HG : Aside0 (Grew w w1) := ⟨Below.trans ((Below.refl _ w).drew) hG⟩; have HL := Aside0.mk hle; have HCR := Aside0.mk hCr; clear hR hle hCr)
      | (go_at_call 50; refine (areAll_int (hasB l) A1 c1 (bords f) _ _ _ _ HCR.out HL.out (by have := bords_length f; omega) (enters_of Try.func59 (by kernel_rfl) rfl) (fun x _ => has_answers n A c l _ (Kd.C_below HR.out HG.out) HC.out hl x)).mono ?_; rintro e w2 ⟨rfl, hG2⟩; have HG2 : Aside0 (Grew w w2) := ⟨Grew.trans HG.out hG2⟩; clear hG2))
  all_goals (go_wp2_with fail; go_ret; exact ⟨rfl, HG2.out⟩)

/-- The face at place j is in range, and behind the one before it. -/
def goodAt (n : Int) (l : List Int) (j : Nat) : Prop := ∀ (h : j < l.length), 1 ≤ l[j] ∧ l[j] ≤ fullOf n ∧ (∀ (h0 : 0 < j), l[j - 1]'(by omega) < l[j])
instance (n : Int) (l : List Int) (j : Nat) : Decidable (goodAt n l j) := by unfold goodAt; infer_instance
def rangeAsc (n : Int) (l : List Int) : Bool := decide (∀ j, j < l.length → goodAt n l j)
/-- What IsComplex answers. -/
def isC (n : Int) (l : List Int) : Bool := decide (1 ≤ n ∧ n ≤ 6) && (rangeAsc n l && l.all (closedAt l))

theorem rangeAsc_false (n : Int) (l : List Int) (j : Nat) (h : j < l.length) (hb : ¬ goodAt n l j) : rangeAsc n l = false := by
  unfold rangeAsc
  exact decide_eq_false fun hall => hb (hall j h)

set_option maxRecDepth 100000 in
set_option maxHeartbeats 4000000 in
theorem IsComplex_calls (n : Int) (A : Option Addr) (c : Nat) (l : List Int) (w : World) (hr : Ki.C w A l.length l) (hc : l.length ≤ c) (hl : l.length ≤ 1152921504606846976) :
    Calls Try.prog 26 #[.agg #[I n, .slice A l.length c]] w fun e w' => e = .returned (.bool (isC n l)) ∧ Grew w w' := by
  have HR := Aside0.mk hr
  have HC := Aside0.mk hc
  clear hr hc
  by_cases hn : 1 ≤ n ∧ n ≤ 6
  · have hF := full_range n hn
    have HI := Aside0.mk (show isC n l = (rangeAsc n l && l.all (closedAt l)) by simp [isC, hn])
    go_enter Try.func26, Try.ntmps26
    go_wp2_with fail
    refine (isSize_calls n true (by simp [hn]) _).mono ?_
    rintro e w1 ⟨rfl, hG1⟩
    have HB1 : Aside0 (w1.heap[w.heap.size]? = some (.cells #[I n, .slice A l.length c] 25 (0, 0))) := ⟨blk_below (blk_new w _) hG1⟩
    have HG1 : Aside0 (Grew w w1) := ⟨Grew.trans (below_alloc (Grew.refl w) _) hG1⟩
    clear hG1
    have h0 : w1.cell? ⟨w.heap.size, 0, none⟩ = some (I n) := blk_cell HB1.out 0
    have h1 : w1.cell? ⟨w.heap.size, 1, none⟩ = some (.slice A l.length c) := blk_cell HB1.out 1
    go_wp2_with fail
    clear h0 h1
    go_loopg [12] l.length (fun gg s12 wr => ∃ kk : Nat, kk ≤ l.length ∧ l.length - kk ≤ gg ∧ s12 = .int .i64 kk ∧ Aside0 (Grew w1 wr) ∧ Aside0 (∀ j, j < kk → goodAt n l j))
    case atStart => exact ⟨0, Nat.zero_le _, by omega, rfl, ⟨Below.refl _ _⟩, ⟨fun j hj => absurd hj (Nat.not_lt_zero _)⟩⟩
    case round =>
      obtain ⟨kk, hkk, hg, rfl, BW, A0⟩ := hrel
      have HBr : Aside0 (wr.heap[w.heap.size]? = some (.cells #[I n, .slice A l.length c] 25 (0, 0))) := ⟨blk_below HB1.out BW.out⟩
      have HGr : Aside0 (Grew w wr) := ⟨Grew.trans HG1.out BW.out⟩
      have h0 : wr.cell? ⟨w.heap.size, 0, none⟩ = some (I n) := blk_cell HBr.out 0
      have h1 : wr.cell? ⟨w.heap.size, 1, none⟩ = some (.slice A l.length c) := blk_cell HBr.out 1
      by_cases hlt : kk < l.length
      · have hltz : (kk : Int) < (l.length : Int) := by omega
        obtain ⟨ad, e0, hx⟩ := Kd.at_int (Kd.C_below HR.out HGr.out) (kk : Int) (by omega) (by omega)
        cases e0
        have hrd : rd l (kk : Int) = l[kk] := by simp [rd, hlt]
        rw [hrd, Int.toNat_natCast] at hx
        clear hrd
        obtain ⟨y, hy⟩ : ∃ y, y = l[kk] := ⟨_, rfl⟩
        rw [← hy] at hx
        have HY := Aside0.mk hy
        clear hy
        go_wp2_with fail
        refine (full_calls n _ c l _ (by omega) (by omega) (Kd.C_below HR.out HGr.out) HC.out).mono ?_
        rintro e w2 ⟨rfl, hG2⟩
        go_wp2_with fail
        by_cases hin : 1 ≤ y ∧ y ≤ fullOf n
        · refine (within_calls y 1 (fullOf n) true (by simp [hin]) _).mono ?_
          rintro e w3 ⟨rfl, hG3⟩
          have HG3 : Aside0 (Grew wr w3) := ⟨Grew.trans hG2 hG3⟩
          have HB3 := Aside0.mk (blk_below HBr.out HG3.out)
          have h03 : w3.cell? ⟨w.heap.size, 0, none⟩ = some (I n) := blk_cell HB3.out 0
          have h13 : w3.cell? ⟨w.heap.size, 1, none⟩ = some (.slice (some ad) l.length c) := blk_cell HB3.out 1
          clear hG2 hG3 h0 h1 hx
          rcases Nat.eq_zero_or_pos kk with rfl | hpos
          · go_wp2_with fail
            go_roundg (l.length - 1)
            case measure => omega
            case rel => exact ⟨1, by omega, by omega, rfl, ⟨Grew.trans BW.out HG3.out⟩, ⟨fun j hj h => by
              obtain rfl : j = 0 := by omega
              have := HY.out
              exact ⟨by omega, by omega, fun h0 => absurd h0 (Nat.lt_irrefl 0)⟩⟩⟩
          · obtain ⟨m, rfl⟩ : ∃ m, kk = m + 1 := ⟨kk - 1, by omega⟩
            obtain ⟨ad', e0, hx'⟩ := Kd.at_int (Kd.C_below HR.out (Grew.trans HGr.out HG3.out)) (m : Int) (by omega) (by omega)
            cases e0
            have hrd : rd l (m : Int) = l[m] := by simp [rd, show m < l.length by omega]
            rw [hrd, Int.toNat_natCast] at hx'
            clear hrd
            obtain ⟨z, hz⟩ : ∃ z, z = l[m] := ⟨_, rfl⟩
            rw [← hz] at hx'
            have HZ := Aside0.mk hz
            clear hz
            by_cases hyz : y ≤ z
            · have HF : Aside0 (isC n l = false) := ⟨by
                rw [HI.out, rangeAsc_false n l (m + 1) hlt (fun hg => by
                  have h2 := (hg hlt).2.2 (by omega)
                  have e1 := HY.out
                  have e2 := HZ.out
                  simp only [Nat.add_sub_cancel] at h2
                  omega)]
                rfl⟩
              go_wp2_with fail
              go_ret
              exact ⟨by rw [HF.out]; rfl, Grew.trans HGr.out HG3.out⟩
            · go_wp2_with fail
              go_roundg (l.length - (m + 1 + 1))
              case measure => omega
              case rel => exact ⟨m + 1 + 1, by omega, by omega, by go_num, ⟨Grew.trans BW.out HG3.out⟩, ⟨fun j hj h => by
                rcases Nat.lt_or_ge j (m + 1) with h' | h'
                · exact A0.out j h' h
                · obtain rfl : j = m + 1 := by omega
                  have e1 := HY.out
                  have e2 := HZ.out
                  exact ⟨by omega, by omega, fun _ => by simp only [Nat.add_sub_cancel]; omega⟩⟩⟩
        · have HF : Aside0 (isC n l = false) := ⟨by
            rw [HI.out, rangeAsc_false n l kk hlt (fun hg => by
              have h2 := hg hlt
              have e1 := HY.out
              omega)]
            rfl⟩
          refine (within_calls y 1 (fullOf n) false (by simpa using hin) _).mono ?_
          rintro e w3 ⟨rfl, hG3⟩
          have HG3 : Aside0 (Grew wr w3) := ⟨Grew.trans hG2 hG3⟩
          clear hG2 hG3 h0 h1 hx
          go_wp2_with fail
          go_ret
          exact ⟨by rw [HF.out]; rfl, Grew.trans HGr.out HG3.out⟩
      · obtain rfl : kk = l.length := by omega
        have HT : Aside0 (isC n l = l.all (closedAt l)) := ⟨by
          rw [HI.out, show rangeAsc n l = true from decide_eq_true fun j hj => A0.out j hj]
          rfl⟩
        have H := Aside0.mk (areAll_int (closedAt l) A c l 57 #[] #[.pointer (some ⟨w.heap.size, 0, none⟩)] wr (Kd.C_below HR.out HGr.out) HC.out (by omega)
          (enters_of Try.func57 (by kernel_rfl) rfl)
          (fun x hx W hW => IsComplex1_calls n x w.heap.size A c l W (blk_below HBr.out hW) (Kd.C_below HR.out (Grew.trans HGr.out hW)) HC.out (by omega)))
        generalize l.all (closedAt l) = b at H HT
        go_wp2_with fail
        refine H.out.mono ?_
        rintro e w4 ⟨rfl, hG4⟩
        go_wp2_with fail
        go_ret
        exact ⟨by rw [HT.out]; rfl, Grew.trans HGr.out hG4⟩
  · have HF : Aside0 (isC n l = false) := ⟨by simp only [isC, decide_eq_false hn, Bool.false_and]⟩
    go_enter Try.func26, Try.ntmps26
    go_wp2_with fail
    refine (isSize_calls n false (by simpa using hn) _).mono ?_
    rintro e w1 ⟨rfl, hG1⟩
    have HG1 : Aside0 (Grew w w1) := ⟨Grew.trans (below_alloc (Grew.refl w) _) hG1⟩
    clear hG1
    go_wp2_with fail
    go_ret
    exact ⟨by rw [HF.out]; rfl, HG1.out⟩

end Go.Proofs.Ytoeapnempdgagaa.K
end

section
/- complexCode and always. -/
namespace Go.Proofs.Ytoeapnempdgagaa.K
open Go.RowKit Go.Shelf Go.Proofs.YtoeapnempdgagaaW.PrintWords Go.Proofs.YtoeapnempdgagaaW.PrintLast Go.Proofs.YtoeapnempdgagaaW.PrintMore
set_option linter.unusedVariables false
set_option linter.unusedSimpArgs false

theorem CB.later {w w' : World} {g : Nat} {n : Int} {v : Value} (h : CB w g n v) (hb : Grew w w') : CB w' g n v := blk_below h hb

/-- The faces' row of a complex as it lies. -/
structure Kx (w : World) (A : Option Addr) (c : Nat) (l : List Int) : Prop where
  r : Ki.C w A l.length l
  c : l.length ≤ c
  b : l.length ≤ 1152921504606846976
theorem Kx.later {w w' : World} {A : Option Addr} {c : Nat} {l : List Int} (h : Kx w A c l) (hb : Grew w w') : Kx w' A c l := ⟨Kd.C_below h.r hb, h.c, h.b⟩
/-- The code of a complex and of a range. -/
def codeOf (n : Int) (l : List Int) (b : Bool) : Int := if isC n l then (if b then 0 else 2) else 1

set_option maxHeartbeats 1000000 in
theorem complexCode_calls (b : Bool) (n : Int) (A : Option Addr) (c : Nat) (l : List Int) (g : Nat) (first caps : Array Value) (w : World) (hk : Kx w A c l) (eg : EntersG g)
    (ha : isC n l = true → Answers w g (first ++ caps) (.bool b)) :
    Calls Try.prog 64 #[.agg #[I n, .slice A l.length c], .func (.func g) first caps] w fun e w' => e = .returned (I (codeOf n l b)) ∧ Grew w w' := by
  have hg : Grew w (w.alloc (.cells #[I n, .slice A l.length c] 25)) := below_alloc (Grew.refl w) _
  have H := Aside0.mk (IsComplex_calls n A c l _ (hk.later hg).r hk.c hk.b)
  have HA := Aside0.mk ha
  have HG := Aside0.mk hg
  clear hk ha hg
  obtain ⟨i, hi⟩ : ∃ i, i = isC n l := ⟨_, rfl⟩
  rw [← hi] at H
  cases i with
  | false =>
    have HV : Aside0 (codeOf n l b = 1) := ⟨by simp [codeOf, ← hi]⟩
    clear hi
    go_enter Try.func64, Try.ntmps64
    go_wp2_with fail
    refine H.out.mono ?_
    rintro e w1 ⟨rfl, hG1⟩
    go_wp2_with fail
    go_ret
    exact ⟨by rw [HV.out]; rfl, Grew.trans HG.out hG1⟩
  | true =>
    have HA2 := Aside0.mk (HA.out hi.symm)
    have HI := Aside0.mk hi
    clear hi HA
    cases b with
    | false =>
      have HV : Aside0 (codeOf n l false = 2) := ⟨by simp [codeOf, ← HI.out]⟩
      go_enter Try.func64, Try.ntmps64
      go_wp2_with fail
      refine H.out.mono ?_
      rintro e w1 ⟨rfl, hG1⟩
      have HG1 := Aside0.mk (Grew.trans HG.out hG1)
      have hcall := HA2.out w1 HG1.out
      clear hG1
      go_wp2_with fail
      refine hcall.mono ?_
      rintro e w2 ⟨rfl, hG2⟩
      clear hcall
      go_wp2_with fail
      go_ret
      exact ⟨by rw [HV.out]; rfl, Grew.trans HG1.out hG2⟩
    | true =>
      have HV : Aside0 (codeOf n l true = 0) := ⟨by simp [codeOf, ← HI.out]⟩
      go_enter Try.func64, Try.ntmps64
      go_wp2_with fail
      refine H.out.mono ?_
      rintro e w1 ⟨rfl, hG1⟩
      have HG1 := Aside0.mk (Grew.trans HG.out hG1)
      have hcall := HA2.out w1 HG1.out
      clear hG1
      go_wp2_with fail
      refine hcall.mono ?_
      rintro e w2 ⟨rfl, hG2⟩
      clear hcall
      go_wp2_with fail
      go_ret
      exact ⟨by rw [HV.out]; rfl, Grew.trans HG1.out hG2⟩

end Go.Proofs.Ytoeapnempdgagaa.K
end

section
/- Plain laws of the laws' own helpers: copies, comparisons, marks. -/
namespace Go.Proofs.Ytoeapnempdgagaa.K
open Go.RowKit Go.Shelf Go.Proofs.Ytoeapnempdgagaa.Q Go.Proofs.YtoeapnempdgagaaW.PrintWords Go.Proofs.YtoeapnempdgagaaW.PrintLast Go.Proofs.YtoeapnempdgagaaW.PrintMore
set_option linter.unusedVariables false
set_option linter.unusedSimpArgs false

theorem w64 (x : Int) (h0 : -9223372036854775808 ≤ x) (h1 : x ≤ 9223372036854775807) : wrap64 x = x := by unfold wrap64; omega
theorem rd_nat (l : List Int) (i : Nat) (h : i < l.length) : rd l (i : Int) = l[i] := by simp [rd, h]
theorem nat_succ (i : Nat) : (i : Int) + 1 = ((i + 1 : Nat) : Int) := by omega

theorem set_take (l : List Int) (i : Nat) (h : i < l.length) : (l.take i ++ List.replicate (l.length - i) 0).set i l[i] = l.take (i + 1) ++ List.replicate (l.length - (i + 1)) 0 := by
  rw [List.set_append_right _ _ (by simp; omega)]
  rw [List.take_succ_eq_append_getElem h, List.append_assoc]
  congr 1
  obtain ⟨m, hm⟩ : ∃ m, l.length - i = m + 1 := ⟨l.length - i - 1, by omega⟩
  rw [hm, List.replicate_succ]
  simp
  have e1 : i - min i l.length = 0 := by omega
  rw [e1]
  simp
  omega

theorem toInt64S_loop (l : List Int) (hl : l.length ≤ 2097152) : ∀ (d i k : Nat), l.length - i = d → i ≤ l.length → d < k → laws_toInt64S.l0 k l (l.take i ++ List.replicate (l.length - i) 0) (i : Int) = some l := by
  intro d
  induction d with
  | zero =>
    intro i k hd hi hk
    obtain ⟨k, rfl⟩ : ∃ m, k = m + 1 := ⟨k - 1, by omega⟩
    obtain rfl : i = l.length := by omega
    simp only [laws_toInt64S.l0]
    rw [if_neg (by omega)]
    simp
  | succ d ih =>
    intro i k hd hi hk
    obtain ⟨k, rfl⟩ : ∃ m, k = m + 1 := ⟨k - 1, by omega⟩
    simp only [laws_toInt64S.l0]
    have hil : i < l.length := by omega
    rw [if_pos (by omega), if_pos (by omega), if_pos (by simp; omega), rd_nat l i hil, w64 _ (by omega) (by omega), nat_succ, Int.toNat_natCast, set_take l i hil]
    exact ih (i + 1) k (by omega) (by omega) (by omega)
theorem toInt64S_is (l : List Int) (hl : l.length ≤ 2097152) (k : Nat) (hk : l.length < k) : laws_toInt64S.f k l = some l := by
  unfold laws_toInt64S.f
  rw [if_pos (by omega), if_pos (by simp; omega)]
  have := toInt64S_loop l hl l.length 0 k (by omega) (by omega) hk
  simpa using this
theorem eqInt64S_loop (a b : List Int) (hab : a.length = b.length) (hl : a.length ≤ 9223372036854775807) : ∀ (d i k : Nat), a.length - i = d → i ≤ a.length → d < k →
    laws_eqInt64S.l0 k a b (i : Int) = some (decide (a.drop i = b.drop i)) := by
  intro d
  induction d with
  | zero =>
    intro i k hd hi hk
    obtain ⟨k, rfl⟩ : ∃ m, k = m + 1 := ⟨k - 1, by omega⟩
    obtain rfl : i = a.length := by omega
    simp only [laws_eqInt64S.l0]
    rw [if_neg (by omega)]
    have : b.drop a.length = [] := by rw [hab]; simp
    simp [this]
  | succ d ih =>
    intro i k hd hi hk
    obtain ⟨k, rfl⟩ : ∃ m, k = m + 1 := ⟨k - 1, by omega⟩
    simp only [laws_eqInt64S.l0]
    have hia : i < a.length := by omega
    have hib : i < b.length := by omega
    rw [if_pos (by omega), if_pos (by omega), if_pos (by omega), rd_nat a i hia, rd_nat b i hib, w64 _ (by omega) (by omega), nat_succ]
    rw [List.drop_eq_getElem_cons hia, List.drop_eq_getElem_cons hib]
    by_cases h : a[i] = b[i]
    · rw [if_pos h, ih (i + 1) k (by omega) (by omega) (by omega)]
      exact congrArg some (decide_eq_decide.2 (by rw [List.cons.injEq]; simp only [h, true_and]))
    · rw [if_neg h]
      exact congrArg some (decide_eq_false (by rw [List.cons.injEq]; exact fun e => h e.1)).symm
theorem eqInt64S_is (a b : List Int) (hl : a.length ≤ 9223372036854775807) (k : Nat) (hk : a.length < k) : laws_eqInt64S.f k a b = some (decide (a = b)) := by
  unfold laws_eqInt64S.f
  by_cases h : a.length = b.length
  · rw [if_pos (by omega)]
    have := eqInt64S_loop a b h hl a.length 0 k (by omega) (by omega) hk
    simpa using this
  · rw [if_neg (by omega)]
    have : a ≠ b := fun e => h (by rw [e])
    simp [this]
theorem eqComplex_is (n : Int) (a : List Int) (m : Int) (b : List Int) (hl : a.length ≤ 9223372036854775807) (k : Nat) (hk : a.length < k) : laws_eqComplex.f k n a m b = some (decide (n = m ∧ a = b)) := by
  unfold laws_eqComplex.f
  by_cases h : n = m
  · rw [if_pos h, eqInt64S_is a b hl k hk]
    by_cases h2 : a = b <;> simp [h, h2]
  · rw [if_neg h]
    simp [h]

/-- The marks from a on. -/
def marks (a : Int) (m : Nat) : List Int := (List.range m).map fun (i : Nat) => a + (i : Int)
theorem marks_length (a : Int) (m : Nat) : (marks a m).length = m := by simp [marks]
theorem marks_get (a : Int) (m i : Nat) (h : i < m) : (marks a m)[i]'(by rw [marks_length]; exact h) = a + i := by simp [marks]

theorem mark_loop (l : List Int) (a : Int) (ha : 0 ≤ a ∧ a ≤ 1000000000) (hl : l.length ≤ 100000000) : ∀ (d i k : Nat), l.length - i = d → i ≤ l.length → d < k →
    laws_markInt64S.l0 k (marks a i ++ l.drop i) (a + i) (i : Int) = some (a + l.length, marks a l.length) := by
  intro d
  induction d with
  | zero =>
    intro i k hd hi hk
    obtain ⟨k, rfl⟩ : ∃ m, k = m + 1 := ⟨k - 1, by omega⟩
    obtain rfl : i = l.length := by omega
    simp only [laws_markInt64S.l0]
    rw [if_neg (by simp [marks_length])]
    simp
  | succ d ih =>
    intro i k hd hi hk
    obtain ⟨k, rfl⟩ : ∃ m, k = m + 1 := ⟨k - 1, by omega⟩
    simp only [laws_markInt64S.l0]
    have hil : i < l.length := by omega
    rw [if_pos (by simp [marks_length]; omega), if_pos (by omega), w64 _ (by omega) (by omega), w64 _ (by omega) (by omega), nat_succ, Int.toNat_natCast]
    have e : (marks a i ++ l.drop i).set i (a + i) = marks a (i + 1) ++ l.drop (i + 1) := by
      rw [List.set_append_right _ _ (by simp [marks_length]), marks_length, Nat.sub_self, List.drop_eq_getElem_cons hil, List.set_cons_zero, show marks a (i + 1) = marks a i ++ [a + (i : Int)] by simp [marks, List.range_succ], List.append_assoc]
      rfl
    rw [e, show a + (i : Int) + 1 = a + ((i + 1 : Nat) : Int) by omega]
    exact ih (i + 1) k (by omega) (by omega) (by omega)
theorem markInt64S_is (l : List Int) (a : Int) (ha : 0 ≤ a ∧ a ≤ 1000000000) (hl : l.length ≤ 100000000) (k : Nat) (hk : l.length < k) : laws_markInt64S.f k l a = some (a + l.length, marks a l.length) := by
  unfold laws_markInt64S.f
  have := mark_loop l a ha hl l.length 0 k (by omega) (by omega) hk
  simpa [marks] using this
theorem markComplex_is (n : Int) (l : List Int) (a : Int) (ha : 0 ≤ a ∧ a ≤ 1000000000) (hl : l.length ≤ 100000000) (k : Nat) (hk : l.length < k) : laws_markComplex.f k n l a = some (a + l.length, marks a l.length) := by
  unfold laws_markComplex.f
  rw [markInt64S_is l a ha hl k hk]
  rfl

theorem held_loop (m : Nat) (a : Int) (ha : 0 ≤ a ∧ a ≤ 1000000000) (hl : m ≤ 100000000) : ∀ (d i k : Nat), m - i = d → i ≤ m → d < k →
    laws_heldInt64S.l0 k (marks a m) (a + i) (i : Int) = some (a + m) := by
  intro d
  induction d with
  | zero =>
    intro i k hd hi hk
    obtain ⟨k, rfl⟩ : ∃ m, k = m + 1 := ⟨k - 1, by omega⟩
    obtain rfl : i = m := by omega
    simp only [laws_heldInt64S.l0]
    rw [if_neg (by simp [marks_length])]
  | succ d ih =>
    intro i k hd hi hk
    obtain ⟨k, rfl⟩ : ∃ m, k = m + 1 := ⟨k - 1, by omega⟩
    simp only [laws_heldInt64S.l0]
    have him : i < m := by omega
    rw [if_pos (by simp [marks_length]; omega), if_pos (by omega), rd_nat _ i (by rw [marks_length]; exact him), marks_get a m i him, if_pos rfl, w64 _ (by omega) (by omega), w64 _ (by omega) (by omega), nat_succ,
      show a + (i : Int) + 1 = a + ((i + 1 : Nat) : Int) by omega]
    exact ih (i + 1) k (by omega) (by omega) (by omega)
theorem heldInt64S_is (m : Nat) (a : Int) (ha : 0 ≤ a ∧ a ≤ 1000000000) (hl : m ≤ 100000000) (k : Nat) (hk : m < k) : laws_heldInt64S.f k (marks a m) a = some (a + m) := by
  unfold laws_heldInt64S.f
  have := held_loop m a ha hl m 0 k (by omega) (by omega) hk
  simpa using this
theorem heldComplex_is (n : Int) (m : Nat) (a : Int) (ha : 0 ≤ a ∧ a ≤ 1000000000) (hl : m ≤ 100000000) (k : Nat) (hk : m < k) : laws_heldComplex.f k n (marks a m) a = some (a + m) := by
  unfold laws_heldComplex.f
  rw [heldInt64S_is m a ha hl k hk]
  simp only [Option.bind_some]
  rw [if_neg (by omega)]

end Go.Proofs.Ytoeapnempdgagaa.K
end

section
/- The reference's small functions: ranges, all vertices, numbers of vertices. -/
namespace Go.Proofs.Ytoeapnempdgagaa.K
open Go.RowKit Go.Shelf Go.Proofs.Ytoeapnempdgagaa.Q Go.Proofs.YtoeapnempdgagaaW.PrintWords Go.Proofs.YtoeapnempdgagaaW.PrintLast Go.Proofs.YtoeapnempdgagaaW.PrintMore
set_option linter.unusedVariables false
set_option linter.unusedSimpArgs false

theorem specIn_is (a b c : Int) : spec_l01In.f a b c = some (decide (b ≤ a ∧ a ≤ c)) := by
  unfold spec_l01In.f
  by_cases h : b ≤ a
  · rw [if_pos (by omega)]; simp [h]
  · rw [if_neg (by omega)]; simp [h]
theorem u64_id (n : Int) (h0 : 0 ≤ n) (h1 : n ≤ 9223372036854775807) : IntKind.u64.wrap n = n := by
  simp [IntKind.wrap, IntKind.signed, IntKind.bits]; omega
theorem specAll_is (n : Int) (h0 : 0 ≤ n) (h6 : n ≤ 62) : spec_l01All.f n = some (fullOf n) := by
  unfold spec_l01All.f fullOf
  have h := two_pow n.toNat 62 (by omega)
  rw [u64_id n h0 (by omega), if_pos h0, shl_one n h0 h6, w64 _ (by omega) (by omega)]

end Go.Proofs.Ytoeapnempdgagaa.K
end

section
/- Written by a program of this session (myprint.py over the kit's print). -/
namespace Go.Proofs.Ytoeapnempdgagaa.Q
open Go.RowKit Go.Proofs.YtoeapnempdgagaaW.PrintWords Go.Proofs.YtoeapnempdgagaaW.PrintLast Go.Proofs.YtoeapnempdgagaaW.PrintMore
attribute [local go_sem] max2_int min2_int max_two min_two max_three min_three max_four min_four   -- for this text's walks alone
set_option linter.unusedVariables false
set_option linter.unusedSimpArgs false

/-! ### spec_l01On: function 63 -/
def spec_l01On.l0 : Nat → Int → Int → Int → List Int → Int → List Int → Option (Int × List Int)
  | 0, _, _, _, _, _, _ => none
  | k + 1, x1, x6, x184000, x184001, x189000, x189001 => if x6 < (x184001.length : Int) then (if 0 ≤ x6 then (if (Go.bits .and .i64 (rd x184001 x6) x1) = (rd x184001 x6) then (if x189001.length < 17592186044416 then (spec_l01On.l0 k x1 (wrap64 (x6 + 1)) x184000 x184001 x189000 (x189001 ++ [rd x184001 x6])) else (none)) else (spec_l01On.l0 k x1 (wrap64 (x6 + 1)) x184000 x184001 x189000 x189001)) else (none)) else (some (x189000, x189001))
def spec_l01On.f (k : Nat) (a0_0 : Int) (l0_1 : List Int) (a1 : Int) : Option (Int × List Int) := spec_l01On.l0 k a1 0 a0_0 l0_1 a0_0 (([] : List Int))
theorem spec_l01On.mono_l : ∀ k, (∀ y0 y1 y2 y3 y4 y5, LeO (spec_l01On.l0 k y0 y1 y2 y3 y4 y5) (spec_l01On.l0 (k + 1) y0 y1 y2 y3 y4 y5))
  | 0 => fun _ _ _ _ _ _ r h => by simp [spec_l01On.l0] at h
  | k + 1 => by
    have ih0 := spec_l01On.mono_l k
    · intro y0 y1 y2 y3 y4 y5
      unfold spec_l01On.l0
      repeat' first
      | (with_reducible exact ih0 _ _ _ _ _ _)
      | (with_reducible exact LeO.refl _)
      | (with_reducible exact LeO.none _)
      | (with_reducible refine LeO.ite ?_ ?_)
      | (with_reducible refine LeO.bind ?_ (fun _ => ?_))
      | exact ih0 _ _ _ _ _ _
      | exact LeO.none _
      | refine LeO.ite ?_ ?_
      | refine LeO.bind ?_ (fun _ => ?_)
theorem spec_l01On.mono : ∀ a0 a1 a2 k, LeO (spec_l01On.f k a0 a1 a2) (spec_l01On.f (k + 1) a0 a1 a2) := by
  intro a0 a1 a2 k
  have ih0 := spec_l01On.mono_l k
  unfold spec_l01On.f
  repeat' first
      | (with_reducible exact ih0 _ _ _ _ _ _)
      | (with_reducible exact LeO.refl _)
      | (with_reducible exact LeO.none _)
      | (with_reducible refine LeO.ite ?_ ?_)
      | (with_reducible refine LeO.bind ?_ (fun _ => ?_))
      | exact ih0 _ _ _ _ _ _
      | exact LeO.none _
      | refine LeO.ite ?_ ?_
      | refine LeO.bind ?_ (fun _ => ?_)
def spec_l01On.T5 : Bool × List (List Nat × List Nat) := (true, [([], []), ([0], [0]), ([], []), ([1, 2], [1, 2]), ([3], [3]), ([], []), ([4, 5], [4, 5]), ([], []), ([7], [7]), ([], []), ([8, 9], [8, 9]), ([10], [10]), ([6, 11], [6, 11])])
def spec_l01On.B5 : List Nat := [0, 1, 0, 7, 15, 0, 63, 0, 128, 0, 896, 1920, 4095]
theorem spec_l01On.tab5 : rtab .any (opsOf Try.f63 5) = spec_l01On.T5 := by kernel_rfl
theorem spec_l01On.bits5 : waitsOk spec_l01On.T5.2 spec_l01On.B5 = true := by kernel_rfl
def spec_l01On.T6 : Bool × List (List Nat × List Nat) := (true, [([], []), ([0], [0]), ([], []), ([2], [2]), ([], []), ([3, 4], [3, 4]), ([5], [5]), ([6], [6]), ([1, 7], [1, 7]), ([0, 1, 2, 3, 4, 5, 6, 7, 8], []), ([9, 8, 8, 0, 1, 2, 3, 4, 5, 6, 7, 8], [8, 9])])
def spec_l01On.B6 : List Nat := [0, 1, 0, 4, 0, 28, 60, 124, 255, 511, 1023]
theorem spec_l01On.tab6 : rtab .any (opsOf Try.f63 6) = spec_l01On.T6 := by kernel_rfl
theorem spec_l01On.bits6 : waitsOk spec_l01On.T6.2 spec_l01On.B6 = true := by kernel_rfl
set_option maxHeartbeats 8000000 in
set_option maxRecDepth 100000 in
theorem spec_l01On.calls (k : Nat) (a0_0 : Int) (A0_1 : Option Addr) (c0_1 : Nat) (l0_1 : List Int) (a1 : Int) (r1 : Int) (r2 : List Int) (w : World) (hr0_1 : Kd.C (Kd.int .i64) w A0_1 l0_1.length l0_1) (hc0_1 : l0_1.length ≤ c0_1) (h : spec_l01On.f k a0_0 l0_1 a1 = some (r1, r2)) :
    Calls Try.prog 63 #[.agg #[.int .i64 a0_0, .slice A0_1 l0_1.length c0_1], .int .i64 a1] w fun e w' => ∃ v1_ : Value, e = .returned (.agg #[.int .i64 r1, v1_]) ∧ Kd.R (Kd.int .i64) 2 w' w.heap.size (fun _ => True) v1_ r2 ∧ Below w.heap.size w w' := by
  have hu25 := Try.underlying25
  have HR0_1 := Aside0.mk hr0_1
  have HC0_1 := Aside0.mk hc0_1
  clear hr0_1 hc0_1
  have HB := Aside0.mk (Below.refl w.heap.size w)
  have H : (spec_l01On.l0 k a1 0 a0_0 l0_1 a0_0 (([] : List Int))) = some (r1, r2) := h
  clear h
  obtain ⟨y185, hy185⟩ : ∃ y_ : List Int, y_ = (([] : List Int)) := ⟨_, rfl⟩
  replace H : (spec_l01On.l0 k a1 0 a0_0 l0_1 a0_0 y185) = some (r1, r2) := by first | (rw [hy185]; with_reducible exact H) | (have H2_ := (Option.bind_some _ _).symm.trans H; rw [hy185]; with_reducible exact H2_) | (have H2_ := (Option.bind_some _ _).symm.trans H; with_reducible exact H2_) | with_reducible exact H | (rw [hy185]; exact H) | exact H
  have Ny185 := Aside0.mk hy185
  clear hy185
  have H' := Aside0.mk H
  clear H
  go_enter Try.func63, Try.ntmps63
  go_wp2_with (first | ((with_reducible refine gate_dst (N := 2) rfl ?_); refine box_event ?hg (N := 2) ?hd (cs := #[.int .i64 a0_0, .slice A0_1 l0_1.length c0_1]) (t := 25) ?hr ?_; (case hd => rfl); (case hg => rfl); (case hr => first | (go_simp; done) | (go_simp; rfl)); intro gb183 hg w3 hbox hb; have n0_ := Aside0.mk (below_step (by repeat (first | (with_reducible first | exact HB.out | apply below_alloc | apply pw_below_drewN | apply below_drew1) | exact HB.out)) hb); have n1_ := Aside0.mk (hbox); have n2_ := Aside0.mk ((by rw [hg]; exact (below_size (by repeat (first | (with_reducible first | exact HB.out | apply below_alloc | apply pw_below_drewN | apply below_drew1) | exact HB.out))) : w.heap.size ≤ gb183)); have n3_ := Aside0.mk ((by rw [hg]; exact (below_size (by repeat (first | (with_reducible first | exact HB.out | apply below_alloc | apply pw_below_drewN | apply below_drew1) | exact HB.out))) : w.heap.size ≤ gb183)); clear HB; have HB := n0_; have BK183 := n1_; have GW183 := n2_; have GE183 := n3_; clear n0_ n1_ n2_ n3_; clear hb hbox hg) | ((with_reducible refine gate_dst (N := 4) rfl ?_); refine box_event ?hg (N := 4) ?hd (cs := #[.int .i64 0, .slice none 0 0]) (t := 25) ?hr ?_; (case hd => rfl); (case hg => rfl); (case hr => first | (go_simp; done) | (go_simp; rfl)); intro gb184 hg w4 hbox hb; have n0_ := Aside0.mk (blk_below (g := gb183) (o := .cells #[.int .i64 a0_0, .slice A0_1 l0_1.length c0_1] 25 (0, 0)) (by (with_reducible repeat (first | refine blk_drewN ?_ _ | refine blk_drew ?_ | refine blk_alloc ?_ _)); exact BK183.out) hb); have n1_ := Aside0.mk (below_step (by repeat (first | (with_reducible first | exact HB.out | apply below_alloc | apply pw_below_drewN | apply below_drew1 | refine below_set ?_ GE183.out) | exact HB.out)) hb); have n2_ := Aside0.mk (hbox); have n3_ := Aside0.mk ((by rw [hg]; exact (below_size (by repeat (first | (with_reducible first | exact HB.out | apply below_alloc | apply pw_below_drewN | apply below_drew1 | refine below_set ?_ GE183.out) | exact HB.out))) : w.heap.size ≤ gb184)); have n4_ := Aside0.mk ((by rw [hg]; exact (below_size (by repeat (first | (with_reducible first | exact HB.out | apply below_alloc | apply pw_below_drewN | apply below_drew1 | refine below_set ?_ GE183.out) | exact HB.out))) : w.heap.size ≤ gb184)); have n5_ := Aside0.mk ((by rw [hg]; exact Nat.ne_of_lt (blk_lt (g := gb183) (o := .cells #[.int .i64 a0_0, .slice A0_1 l0_1.length c0_1] 25 (0, 0)) (by (with_reducible repeat (first | refine blk_drewN ?_ _ | refine blk_drew ?_ | refine blk_alloc ?_ _)); exact BK183.out)) : gb183 ≠ gb184)); have n6_ := Aside0.mk ((by rw [hg]; exact Nat.ne_of_gt (blk_lt (g := gb183) (o := .cells #[.int .i64 a0_0, .slice A0_1 l0_1.length c0_1] 25 (0, 0)) (by (with_reducible repeat (first | refine blk_drewN ?_ _ | refine blk_drew ?_ | refine blk_alloc ?_ _)); exact BK183.out)) : gb184 ≠ gb183)); clear BK183; clear HB; have BK183 := n0_; have HB := n1_; have BK184 := n2_; have GW184 := n3_; have GE184 := n4_; have NB183_184 := n5_; have NB184_183 := n6_; clear n0_ n1_ n2_ n3_ n4_ n5_ n6_; clear hb hbox hg; have hnb5 := NB183_184.out; have hnc5 := NB184_183.out; have hcz6_0 : w4.cell? ⟨gb183, 0, none⟩ = some (.int .i64 a0_0) := (blk_cell BK183.out 0).trans rfl; have hcz6_1 : w4.cell? ⟨gb183, 1, none⟩ = some (.slice A0_1 l0_1.length c0_1) := (blk_cell BK183.out 1).trans rfl; have hfz6_0 := blk_frozen BK183.out 0; have hfz6_1 := blk_frozen BK183.out 1) | ((with_reducible refine gate_dst (N := 9) rfl ?_); refine Kd.R_lit (Kd.int .i64) _ 2 ?hg (N := 9) ?hd (xs := ([] : List Int)) (inner := []) (ok := fun _ => True) (okp := fun _ => True) ?hr ?hp (fun _ hk => hk) trivial (Below.refl _ _) (Nat.le_refl _) (by simp) ?_; (case hd => rfl); (case hg => rfl); (case hr => first | (go_simp; done) | (go_simp; rfl)); (case hp => exact (Reps.none _ _)); intro v186 w7 ho8 hb hg_ hnew_; clear hg_ hnew_; (first | rw [← Ny185.out] at ho8 | (simp only [Int.reduceToNat] at ho8; rw [← Ny185.out] at ho8)); have n0_ := Aside0.mk (Kd.R_lower ho8 (below_size (by repeat (first | (with_reducible first | exact HB.out | apply below_alloc | apply pw_below_drewN | apply below_drew1 | refine below_set ?_ GE183.out | refine below_set ?_ GE184.out) | exact HB.out)))); have n1_ := Aside0.mk (blk_below (g := gb183) (o := .cells #[.int .i64 a0_0, .slice A0_1 l0_1.length c0_1] 25 (0, 0)) (by (with_reducible repeat (first | refine blk_drewN ?_ _ | refine blk_drew ?_ | refine blk_alloc ?_ _)); exact BK183.out) hb); have n2_ := Aside0.mk (blk_below (g := gb184) (o := .cells #[.int .i64 0, .slice none 0 0] 25 (0, 0)) (by (with_reducible repeat (first | refine blk_drewN ?_ _ | refine blk_drew ?_ | refine blk_alloc ?_ _)); exact BK184.out) hb); have n3_ := Aside0.mk (below_step (by repeat (first | (with_reducible first | exact HB.out | apply below_alloc | apply pw_below_drewN | apply below_drew1 | refine below_set ?_ GE183.out | refine below_set ?_ GE184.out) | exact HB.out)) hb); clear BK183; clear BK184; clear HB; have HO187 := n0_; have BK183 := n1_; have BK184 := n2_; have HB := n3_; clear n0_ n1_ n2_ n3_; clear hb ho8; obtain ⟨Ao9, co9, eo9⟩ := Kd.R_slice HO187.out; subst eo9) | ((with_reducible refine gate_dst (N := 5) rfl ?_); refine box_event ?hg (N := 5) ?hd (cs := #[.int .i64 0, .slice none 0 0]) (t := 25) ?hr ?_; (case hd => rfl); (case hg => rfl); (case hr => first | (go_simp; done) | (go_simp; rfl)); intro gb188 hg w10 hbox hb; have n0_ := Aside0.mk (Kd.R_below (by (with_reducible repeat (first | apply Kd.R_alloc | apply Kd.R_drewN | apply Kd.R_drew)); exact HO187.out) hb); have n1_ := Aside0.mk (blk_below (g := gb183) (o := .cells #[.int .i64 a0_0, .slice A0_1 l0_1.length c0_1] 25 (0, 0)) (by (with_reducible repeat (first | refine blk_drewN ?_ _ | refine blk_drew ?_ | refine blk_alloc ?_ _)); exact BK183.out) hb); have n2_ := Aside0.mk (blk_below (g := gb184) (o := .cells #[.int .i64 0, .slice none 0 0] 25 (0, 0)) (by (with_reducible repeat (first | refine blk_drewN ?_ _ | refine blk_drew ?_ | refine blk_alloc ?_ _)); exact BK184.out) hb); have n3_ := Aside0.mk (below_step (by repeat (first | (with_reducible first | exact HB.out | apply below_alloc | apply pw_below_drewN | apply below_drew1 | refine below_set ?_ GE183.out | refine below_set ?_ GE184.out) | exact HB.out)) hb); have n4_ := Aside0.mk (hbox); have n5_ := Aside0.mk ((by rw [hg]; exact (below_size (by repeat (first | (with_reducible first | exact HB.out | apply below_alloc | apply pw_below_drewN | apply below_drew1 | refine below_set ?_ GE183.out | refine below_set ?_ GE184.out) | exact HB.out))) : w.heap.size ≤ gb188)); have n6_ := Aside0.mk ((by rw [hg]; exact (below_size (by repeat (first | (with_reducible first | exact HB.out | apply below_alloc | apply pw_below_drewN | apply below_drew1 | refine below_set ?_ GE183.out | refine below_set ?_ GE184.out) | exact HB.out))) : w.heap.size ≤ gb188)); have n7_ := Aside0.mk ((by rw [hg]; exact Nat.ne_of_lt (blk_lt (g := gb183) (o := .cells #[.int .i64 a0_0, .slice A0_1 l0_1.length c0_1] 25 (0, 0)) (by (with_reducible repeat (first | refine blk_drewN ?_ _ | refine blk_drew ?_ | refine blk_alloc ?_ _)); exact BK183.out)) : gb183 ≠ gb188)); have n8_ := Aside0.mk ((by rw [hg]; exact Nat.ne_of_gt (blk_lt (g := gb183) (o := .cells #[.int .i64 a0_0, .slice A0_1 l0_1.length c0_1] 25 (0, 0)) (by (with_reducible repeat (first | refine blk_drewN ?_ _ | refine blk_drew ?_ | refine blk_alloc ?_ _)); exact BK183.out)) : gb188 ≠ gb183)); have n9_ := Aside0.mk ((by rw [hg]; exact Nat.ne_of_lt (blk_lt (g := gb184) (o := .cells #[.int .i64 0, .slice none 0 0] 25 (0, 0)) (by (with_reducible repeat (first | refine blk_drewN ?_ _ | refine blk_drew ?_ | refine blk_alloc ?_ _)); exact BK184.out)) : gb184 ≠ gb188)); have n10_ := Aside0.mk ((by rw [hg]; exact Nat.ne_of_gt (blk_lt (g := gb184) (o := .cells #[.int .i64 0, .slice none 0 0] 25 (0, 0)) (by (with_reducible repeat (first | refine blk_drewN ?_ _ | refine blk_drew ?_ | refine blk_alloc ?_ _)); exact BK184.out)) : gb188 ≠ gb184)); clear HO187; clear BK183; clear BK184; clear HB; have HO187 := n0_; have BK183 := n1_; have BK184 := n2_; have HB := n3_; have BK188 := n4_; have GW188 := n5_; have GE188 := n6_; have NB183_188 := n7_; have NB188_183 := n8_; have NB184_188 := n9_; have NB188_184 := n10_; clear n0_ n1_ n2_ n3_ n4_ n5_ n6_ n7_ n8_ n9_ n10_; clear hb hbox hg; have hnb11 := NB188_183.out; have hnc11 := NB183_188.out; have hnb12 := NB188_184.out; have hnc12 := NB184_188.out; have hcz13_0 : w10.cell? ⟨gb188, 0, none⟩ = some (.int .i64 0) := (blk_cell BK188.out 0).trans rfl; have hcz13_1 : w10.cell? ⟨gb188, 1, none⟩ = some (.slice none 0 0) := (blk_cell BK188.out 1).trans rfl; have hfz13_0 := blk_frozen BK188.out 0; have hfz13_1 := blk_frozen BK188.out 1))
  go_loopg [6] k (fun kq v6 w' => ∃ (x6_1 : Int) (x189001_1 : List Int) (u189001 : Value), v6 = .int .i64 x6_1 ∧ Aside0 (spec_l01On.l0 kq a1 x6_1 a0_0 l0_1 a0_0 x189001_1 = some (r1, r2)) ∧ Aside0 (kq ≤ k) ∧ Aside0 (Kd.R (Kd.int .i64) 2 w' w.heap.size (fun _ => True) u189001 x189001_1) ∧ Aside0 (w'.heap[gb183]? = some (.cells #[.int .i64 a0_0, (.slice A0_1 l0_1.length c0_1)] 25 (0, 0))) ∧ Aside0 (w'.heap[gb184]? = some (.cells #[.int .i64 0, (.slice none 0 0)] 25 (0, 0))) ∧ Aside0 (w'.heap[gb188]? = some (.cells #[.int .i64 a0_0, u189001] 25 (0, 0))) ∧ Aside0 (Below w.heap.size w w'))
  case atStart => exact ⟨(0), (y185), (.slice Ao9 y185.length co9), (by first | rfl | (simp; done) | (simp [*]; done)), H', ⟨Nat.le_refl _⟩, ⟨by (with_reducible repeat (first | apply Kd.R_alloc | apply Kd.R_drewN | apply Kd.R_drew)); exact Kd.R_mono (Kd.R_far (p := ⟨gb188, 1, none⟩) (Kd.R_far (p := ⟨gb188, 0, none⟩) (Kd.R_types HO187.out BK188.out (by decide)) (fun _ hk => hk.2) (.int .i64 a0_0)) (fun _ hk => hk.2) (.slice Ao9 y185.length co9)) (fun _ hk => trivial)⟩, ⟨by (with_reducible repeat (first | refine blk_drewN ?_ _ | refine blk_drew ?_ | refine blk_alloc ?_ _)); refine blk_far ?_ NB183_188.out _; (with_reducible repeat (first | refine blk_drewN ?_ _ | refine blk_drew ?_ | refine blk_alloc ?_ _)); refine blk_far ?_ NB183_188.out _; (with_reducible repeat (first | refine blk_drewN ?_ _ | refine blk_drew ?_ | refine blk_alloc ?_ _)); exact BK183.out⟩, ⟨by (with_reducible repeat (first | refine blk_drewN ?_ _ | refine blk_drew ?_ | refine blk_alloc ?_ _)); refine blk_far ?_ NB184_188.out _; (with_reducible repeat (first | refine blk_drewN ?_ _ | refine blk_drew ?_ | refine blk_alloc ?_ _)); refine blk_far ?_ NB184_188.out _; (with_reducible repeat (first | refine blk_drewN ?_ _ | refine blk_drew ?_ | refine blk_alloc ?_ _)); exact BK184.out⟩, ⟨by (with_reducible repeat (first | refine blk_drewN ?_ _ | refine blk_drew ?_ | refine blk_alloc ?_ _)); refine blk_put (cs := #[.int .i64 a0_0, .slice none 0 0]) ?_ 1 _ rfl; (with_reducible repeat (first | refine blk_drewN ?_ _ | refine blk_drew ?_ | refine blk_alloc ?_ _)); refine blk_put (cs := #[.int .i64 0, .slice none 0 0]) ?_ 0 _ rfl; (with_reducible repeat (first | refine blk_drewN ?_ _ | refine blk_drew ?_ | refine blk_alloc ?_ _)); exact BK188.out⟩, ⟨by repeat (first | (with_reducible first | exact HB.out | apply below_alloc | apply pw_below_drewN | apply below_drew1 | refine below_set ?_ GE183.out | refine below_set ?_ GE184.out | refine below_set ?_ GE188.out) | exact HB.out)⟩⟩
  case round =>
    clear H'
    try clear c1
    try clear p2
    try clear c5
    try clear c6
    try clear c11
    try clear c12
    try clear hcz13_0
    try clear hcz13_1
    try clear hcz6_0
    try clear hcz6_1
    try clear hfz13_0
    try clear hfz13_1
    try clear hfz6_0
    try clear hfz6_1
    obtain ⟨x6_1, x189001_1, u189001, rfl, HA, HK1, HO_189001, BK183, BK184, BK188, HB⟩ := hrel
    cases gk with
    | zero => exact absurd HA.out (by simp [spec_l01On.l0])
    | succ k1 =>
      have H := HA.out
      clear HA
      simp only [spec_l01On.l0] at H
      by_cases c14 : x6_1 < (l0_1.length : Int)
      · rw [if_pos c14] at H
        have c14b0 : decide (x6_1 < (l0_1.length : Int)) = true := decide_eq_true c14
        clear c14
        by_cases c15 : 0 ≤ x6_1
        · rw [if_pos c15] at H
          have c15b0 : decide (0 ≤ x6_1) = true := decide_eq_true c15
          clear c15
          by_cases c16 : (Go.bits .and .i64 (rd l0_1 x6_1) a1) = (rd l0_1 x6_1)
          · rw [if_pos c16] at H
            have c16b0 : ((Go.bits .and .i64 (rd l0_1 x6_1) a1) == (rd l0_1 x6_1)) = true := beq_iff_eq.mpr c16
            have c16b1 : ((Go.bits .and .i64 (rd l0_1 x6_1) a1) != (rd l0_1 x6_1)) = false := bne_eq_false_iff_eq.mpr c16
            clear c16
            by_cases c17 : x189001_1.length < 17592186044416
            · rw [if_pos c17] at H
              have LMc17 := Aside0.mk c17
              clear c17
              obtain ⟨y192, hy192⟩ : ∃ y_ : List Int, y_ = (x189001_1 ++ [rd l0_1 x6_1]) := ⟨_, rfl⟩
              replace H : (spec_l01On.l0 k1 a1 (wrap64 (x6_1 + 1)) a0_0 l0_1 a0_0 y192) = some (r1, r2) := by first | (rw [hy192]; with_reducible exact H) | (have H2_ := (Option.bind_some _ _).symm.trans H; rw [hy192]; with_reducible exact H2_) | (have H2_ := (Option.bind_some _ _).symm.trans H; with_reducible exact H2_) | with_reducible exact H | (rw [hy192]; exact H) | exact H
              have Ny192 := Aside0.mk hy192
              clear hy192
              have H' := Aside0.mk H
              clear H
              have hnb18 := NB183_184.out
              have hnc18 := NB184_183.out
              have hnb19 := NB183_188.out
              have hnc19 := NB188_183.out
              have hcz20_0 : wr.cell? ⟨gb183, 0, none⟩ = some (.int .i64 a0_0) := (blk_cell BK183.out 0).trans rfl
              have hcz20_1 : wr.cell? ⟨gb183, 1, none⟩ = some (.slice A0_1 l0_1.length c0_1) := (blk_cell BK183.out 1).trans rfl
              have hfz20_0 := blk_frozen BK183.out 0
              have hfz20_1 := blk_frozen BK183.out 1
              try go_wp2
              have n0_ := Aside0.mk (Kd.R_drew HO_189001.out)
              have n1_ := Aside0.mk (blk_drew BK183.out)
              have n2_ := Aside0.mk (blk_drew BK184.out)
              have n3_ := Aside0.mk (blk_drew BK188.out)
              have n4_ := Aside0.mk (below_drew1 HB.out)
              clear HO_189001
              clear BK183
              clear BK184
              clear BK188
              clear HB
              have HO_189001 := n0_
              have BK183 := n1_
              have BK184 := n2_
              have BK188 := n3_
              have HB := n4_
              clear n0_ n1_ n2_ n3_ n4_
              have p189 : 0 ≤ (x6_1 : Int) := of_decide_eq_true (by first | (with_reducible assumption) | assumption)
              have q189 : x6_1 < (l0_1.length : Int) := of_decide_eq_true (by first | (with_reducible assumption) | assumption)
              obtain ⟨ad189, e189, hx189_0⟩ := Kd.at_int HR0_1.out x6_1 p189 q189
              have hw189_0 := hx189_0
              cases e189
              replace hx189_0 := (HB.out.cell (World.block_lt_of_cell? w _ hx189_0)).trans hx189_0
              replace p189 := eq_true p189
              replace q189 := eq_true q189
              have p190 : 0 ≤ (x6_1 : Int) := of_decide_eq_true (by first | (with_reducible assumption) | assumption)
              have q190 : x6_1 < (l0_1.length : Int) := of_decide_eq_true (by first | (with_reducible assumption) | assumption)
              obtain ⟨ad190, e190, hx190_0⟩ := Kd.at_int HR0_1.out x6_1 p190 q190
              have hw190_0 := hx190_0
              obtain rfl : ad189 = ad190 := (by injection e190)
              replace hx190_0 := (HB.out.cell (World.block_lt_of_cell? w _ hx190_0)).trans hx190_0
              replace p190 := eq_true p190
              replace q190 := eq_true q190
              refine start_ (n := 13) (S := fun w' => w'.cell? ⟨gb183, 0, none⟩ = some (.int .i64 a0_0) ∧ w'.cell? ⟨gb183, 1, none⟩ = some (.slice (some ad189) l0_1.length c0_1) ∧ w'.cell? (ad189.add (x6_1).toNat) = some (.int .i64 (rd l0_1 x6_1)) ∧ w'.cell? (ad189.add (x6_1).toNat) = some (.int .i64 (rd l0_1 x6_1))) (ds := []) #[false, false, false, false, false, false, false, false, false, false, false, false, false] (by kernel_rfl) rfl rfl ⟨(blk_cell BK183.out 0).trans rfl, (blk_cell BK183.out 1).trans rfl, ((HB.out.cell (World.block_lt_of_cell? w _ hw189_0)).trans hw189_0), ((HB.out.cell (World.block_lt_of_cell? w _ hw190_0)).trans hw190_0)⟩ (fun hHeld => ?_); refine with_tabW spec_l01On.tab5 spec_l01On.bits5 (fun HT_ HW_ => ?_)
              generalize wr.drew = w21 at HO_189001 BK183 BK184 BK188 HB hx189_0 hx190_0 hHeld ⊢
              refine pure_ (i := 0) (N := some 18) (v := ?_) (a' := ?_) #[true, false, false, false, false, false, false, false, false, false, false, false, false] rfl rfl (any_of HT_.out (by kernel_rfl)) (fun _ _ _ h => h) (Or.inl ⟨by rfl, ?_⟩) ?_ ?_
              rotate_left
              · intro w'
                go_simp
                with_reducible rfl
              rotate_left
              · simp only [Act.put, List.setIfInBounds_toArray, List.set_cons_zero, List.set_cons_succ, i64_w, i32_w]
                rfl
              refine pure_ (i := 2) (N := some 20) (v := ?_) (a' := ?_) #[true, false, true, false, false, false, false, false, false, false, false, false, false] rfl rfl (any_of HT_.out (by kernel_rfl)) (fun _ _ _ h => h) (Or.inl ⟨by rfl, ?_⟩) ?_ ?_
              rotate_left
              · intro w'
                go_simp
                with_reducible rfl
              rotate_left
              · simp only [Act.put, List.setIfInBounds_toArray, List.set_cons_zero, List.set_cons_succ, i64_w, i32_w]
                rfl
              refine pure_ (i := 5) (N := some 23) (v := ?_) (a' := ?_) #[true, false, true, false, false, true, false, false, false, false, false, false, false] rfl rfl (any_of HT_.out (by kernel_rfl)) (fun _ _ _ h => h) (Or.inl ⟨by rfl, ?_⟩) ?_ ?_
              rotate_left
              · intro w'
                go_simp
                with_reducible rfl
              rotate_left
              · simp only [Act.put, List.setIfInBounds_toArray, List.set_cons_zero, List.set_cons_succ, i64_w, i32_w]
                rfl
              refine pure_ (i := 7) (N := some 25) (v := ?_) (a' := ?_) #[true, false, true, false, false, true, false, true, false, false, false, false, false] rfl rfl (any_of HT_.out (by kernel_rfl)) (fun _ _ _ h => h) (Or.inl ⟨by rfl, ?_⟩) ?_ ?_
              rotate_left
              · intro w'
                go_simp
                with_reducible rfl
              rotate_left
              · simp only [Act.put, List.setIfInBounds_toArray, List.set_cons_zero, List.set_cons_succ, i64_w, i32_w]
                rfl
              refine pure_ (i := 9) (N := some 27) (v := ?_) (a' := ?_) #[true, false, true, false, false, true, false, true, false, true, false, false, false] rfl rfl (any_of HT_.out (by kernel_rfl)) (fun _ _ _ h => h) (Or.inl ⟨by rfl, ?_⟩) ?_ ?_
              rotate_left
              · intro w'
                go_simp
                with_reducible rfl
              rotate_left
              · simp only [Act.put, List.setIfInBounds_toArray, List.set_cons_zero, List.set_cons_succ, i64_w, i32_w]
                rfl
              refine take_ (i := 1) (N := some 19) (v := ?_) (a' := ?_) #[true, true, true, false, false, true, false, true, false, true, false, false, false] rfl rfl (take_ofW HT_.out HW_.out (by kernel_rfl)) (fun _ _ _ h => h) (Or.inl ⟨by rfl, ?_⟩) hHeld ?_ ?_
              rotate_left
              · rintro w' ⟨s0, s1, s2, s3⟩
                go_simp
                with_reducible rfl
              rotate_left
              · simp only [Act.put, List.setIfInBounds_toArray, List.set_cons_zero, List.set_cons_succ, i64_w, i32_w]
                rfl
              refine pure_ (i := 3) (N := some 21) (v := ?_) (a' := ?_) #[true, true, true, true, false, true, false, true, false, true, false, false, false] rfl rfl (any_of HT_.out (by kernel_rfl)) (fun _ _ _ h => h) (Or.inl ⟨by rfl, ?_⟩) ?_ ?_
              rotate_left
              · intro w'
                go_simp
                with_reducible rfl
              rotate_left
              · simp only [Act.put, List.setIfInBounds_toArray, List.set_cons_zero, List.set_cons_succ, i64_w, i32_w]
                rfl
              refine take_ (i := 4) (N := some 22) (v := ?_) (a' := ?_) #[true, true, true, true, true, true, false, true, false, true, false, false, false] rfl rfl (take_ofW HT_.out HW_.out (by kernel_rfl)) (fun _ _ _ h => h) (Or.inl ⟨by rfl, ?_⟩) hHeld ?_ ?_
              rotate_left
              · rintro w' ⟨s0, s1, s2, s3⟩
                go_simp
                with_reducible rfl
              rotate_left
              · simp only [Act.put, List.setIfInBounds_toArray, List.set_cons_zero, List.set_cons_succ, i64_w, i32_w]
                rfl
              refine pure_ (i := 6) (N := some 24) (v := ?_) (a' := ?_) #[true, true, true, true, true, true, true, true, false, true, false, false, false] rfl rfl (any_of HT_.out (by kernel_rfl)) (fun _ _ _ h => h) (Or.inl ⟨by rfl, ?_⟩) ?_ ?_
              rotate_left
              · intro w'
                go_simp
                with_reducible rfl
              rotate_left
              · simp only [Act.put, List.setIfInBounds_toArray, List.set_cons_zero, List.set_cons_succ, i64_w, i32_w]
                rfl
              refine take_ (i := 8) (N := some 26) (v := ?_) (a' := ?_) #[true, true, true, true, true, true, true, true, true, true, false, false, false] rfl rfl (take_ofW HT_.out HW_.out (by kernel_rfl)) (fun _ _ _ h => h) (Or.inl ⟨by rfl, ?_⟩) hHeld ?_ ?_
              rotate_left
              · rintro w' ⟨s0, s1, s2, s3⟩
                go_simp
                with_reducible rfl
              rotate_left
              · simp only [Act.put, List.setIfInBounds_toArray, List.set_cons_zero, List.set_cons_succ, i64_w, i32_w]
                rfl
              refine pure_ (i := 10) (N := some 28) (v := ?_) (a' := ?_) #[true, true, true, true, true, true, true, true, true, true, true, false, false] rfl rfl (any_of HT_.out (by kernel_rfl)) (fun _ _ _ h => h) (Or.inl ⟨by rfl, ?_⟩) ?_ ?_
              rotate_left
              · intro w'
                go_simp
                with_reducible rfl
              rotate_left
              · simp only [Act.put, List.setIfInBounds_toArray, List.set_cons_zero, List.set_cons_succ, i64_w, i32_w]
                rfl
              refine take_ (i := 11) (N := some 29) (v := ?_) (a' := ?_) #[true, true, true, true, true, true, true, true, true, true, true, true, false] rfl rfl (take_ofW HT_.out HW_.out (by kernel_rfl)) (fun _ _ _ h => h) (Or.inl ⟨by rfl, ?_⟩) hHeld ?_ ?_
              rotate_left
              · rintro w' ⟨s0, s1, s2, s3⟩
                go_simp
                with_reducible rfl
              rotate_left
              · simp only [Act.put, List.setIfInBounds_toArray, List.set_cons_zero, List.set_cons_succ, i64_w, i32_w]
                rfl
              refine pure_ (i := 12) (N := some 30) (v := ?_) (a' := ?_) #[true, true, true, true, true, true, true, true, true, true, true, true, true] rfl rfl (any_of HT_.out (by kernel_rfl)) (fun _ _ _ h => h) (Or.inl ⟨by rfl, ?_⟩) ?_ ?_
              rotate_left
              · intro w'
                go_simp
                with_reducible rfl
              rotate_left
              · simp only [Act.put, List.setIfInBounds_toArray, List.set_cons_zero, List.set_cons_succ, i64_w, i32_w]
                rfl
              refine done_ (done_of HT_.out (by kernel_rfl)) ?_
              try go_wp2
              have n0_ := Aside0.mk (Kd.R_drew HO_189001.out)
              have n1_ := Aside0.mk (blk_drew BK183.out)
              have n2_ := Aside0.mk (blk_drew BK184.out)
              have n3_ := Aside0.mk (blk_drew BK188.out)
              have n4_ := Aside0.mk (below_drew1 HB.out)
              clear HO_189001
              clear BK183
              clear BK184
              clear BK188
              clear HB
              have HO_189001 := n0_
              have BK183 := n1_
              have BK184 := n2_
              have BK188 := n3_
              have HB := n4_
              clear n0_ n1_ n2_ n3_ n4_
              have p191 : 0 ≤ (x6_1 : Int) := of_decide_eq_true (by first | (with_reducible assumption) | assumption)
              have q191 : x6_1 < (l0_1.length : Int) := of_decide_eq_true (by first | (with_reducible assumption) | assumption)
              obtain ⟨ad191, e191, hx191_0⟩ := Kd.at_int HR0_1.out x6_1 p191 q191
              have hw191_0 := hx191_0
              obtain rfl : ad189 = ad191 := (by injection e191)
              replace hx191_0 := (HB.out.cell (World.block_lt_of_cell? w _ hx191_0)).trans hx191_0
              replace p191 := eq_true p191
              replace q191 := eq_true q191
              refine start_ (n := 11) (S := fun w' => w'.cell? ⟨gb188, 0, none⟩ = some (.int .i64 a0_0) ∧ w'.cell? ⟨gb188, 1, none⟩ = some (u189001) ∧ w'.cell? ⟨gb183, 0, none⟩ = some (.int .i64 a0_0) ∧ w'.cell? ⟨gb183, 1, none⟩ = some (.slice (some ad189) l0_1.length c0_1) ∧ w'.cell? (ad189.add (x6_1).toNat) = some (.int .i64 (rd l0_1 x6_1))) (ds := [10]) #[false, false, false, false, false, false, false, false, false, false, false] (by kernel_rfl) rfl rfl ⟨(blk_cell BK188.out 0).trans rfl, (blk_cell BK188.out 1).trans rfl, (blk_cell BK183.out 0).trans rfl, (blk_cell BK183.out 1).trans rfl, ((HB.out.cell (World.block_lt_of_cell? w _ hw191_0)).trans hw191_0)⟩ (fun hHeld => ?_); refine with_tabW spec_l01On.tab6 spec_l01On.bits6 (fun HT_ HW_ => ?_)
              generalize w21.drew = w22 at HO_189001 BK183 BK184 BK188 HB hx191_0 hHeld ⊢
              refine pure_ (i := 0) (N := some 31) (v := ?_) (a' := ?_) #[true, false, false, false, false, false, false, false, false, false, false] rfl rfl (any_of HT_.out (by kernel_rfl)) (fun _ _ _ h => h) (Or.inl ⟨by rfl, ?_⟩) ?_ ?_
              rotate_left
              · intro w'
                go_simp
                with_reducible rfl
              rotate_left
              · simp only [Act.put, List.setIfInBounds_toArray, List.set_cons_zero, List.set_cons_succ, i64_w, i32_w]
                rfl
              refine pure_ (i := 2) (N := some 33) (v := ?_) (a' := ?_) #[true, false, true, false, false, false, false, false, false, false, false] rfl rfl (any_of HT_.out (by kernel_rfl)) (fun _ _ _ h => h) (Or.inl ⟨by rfl, ?_⟩) ?_ ?_
              rotate_left
              · intro w'
                go_simp
                with_reducible rfl
              rotate_left
              · simp only [Act.put, List.setIfInBounds_toArray, List.set_cons_zero, List.set_cons_succ, i64_w, i32_w]
                rfl
              refine pure_ (i := 4) (N := some 35) (v := ?_) (a' := ?_) #[true, false, true, false, true, false, false, false, false, false, false] rfl rfl (any_of HT_.out (by kernel_rfl)) (fun _ _ _ h => h) (Or.inl ⟨by rfl, ?_⟩) ?_ ?_
              rotate_left
              · intro w'
                go_simp
                with_reducible rfl
              rotate_left
              · simp only [Act.put, List.setIfInBounds_toArray, List.set_cons_zero, List.set_cons_succ, i64_w, i32_w]
                rfl
              refine take_ (i := 1) (N := some 32) (v := ?_) (a' := ?_) #[true, true, true, false, true, false, false, false, false, false, false] rfl rfl (take_ofW HT_.out HW_.out (by kernel_rfl)) (fun _ _ _ h => h) (Or.inl ⟨by rfl, ?_⟩) hHeld ?_ ?_
              rotate_left
              · rintro w' ⟨s0, s1, s2, s3, s4⟩
                go_simp
                with_reducible rfl
              rotate_left
              · simp only [Act.put, List.setIfInBounds_toArray, List.set_cons_zero, List.set_cons_succ, i64_w, i32_w]
                rfl
              refine take_ (i := 3) (N := some 34) (v := ?_) (a' := ?_) #[true, true, true, true, true, false, false, false, false, false, false] rfl rfl (take_ofW HT_.out HW_.out (by kernel_rfl)) (fun _ _ _ h => h) (Or.inl ⟨by rfl, ?_⟩) hHeld ?_ ?_
              rotate_left
              · rintro w' ⟨s0, s1, s2, s3, s4⟩
                go_simp
                with_reducible rfl
              rotate_left
              · simp only [Act.put, List.setIfInBounds_toArray, List.set_cons_zero, List.set_cons_succ, i64_w, i32_w]
                rfl
              refine pure_ (i := 5) (N := some 36) (v := ?_) (a' := ?_) #[true, true, true, true, true, true, false, false, false, false, false] rfl rfl (any_of HT_.out (by kernel_rfl)) (fun _ _ _ h => h) (Or.inl ⟨by rfl, ?_⟩) ?_ ?_
              rotate_left
              · intro w'
                go_simp
                with_reducible rfl
              rotate_left
              · simp only [Act.put, List.setIfInBounds_toArray, List.set_cons_zero, List.set_cons_succ, i64_w, i32_w]
                rfl
              refine take_ (i := 6) (N := some 37) (v := ?_) (a' := ?_) #[true, true, true, true, true, true, true, false, false, false, false] rfl rfl (take_ofW HT_.out HW_.out (by kernel_rfl)) (fun _ _ _ h => h) (Or.inl ⟨by rfl, ?_⟩) hHeld ?_ ?_
              rotate_left
              · rintro w' ⟨s0, s1, s2, s3, s4⟩
                go_simp
                with_reducible rfl
              rotate_left
              · simp only [Act.put, List.setIfInBounds_toArray, List.set_cons_zero, List.set_cons_succ, i64_w, i32_w]
                rfl
              refine one_ (i := 7) (N := some 38) #[true, true, true, true, true, true, true, true, false, false, false] rfl rfl (one_of HT_.out (by kernel_rfl)) (by decide) (fun K hK => ?_)
              refine value_ (w1 := ?_) (v := ?_) (by rfl) rfl ?_ ?_
              rotate_left 2
              · go_simp
                constructor
                · rfl
                · rfl
              refine hK.out _ _ ⟨(blk_cell (blk_alloc BK188.out _) 0).trans rfl, (blk_cell (blk_alloc BK188.out _) 1).trans rfl, (blk_cell (blk_alloc BK183.out _) 0).trans rfl, (blk_cell (blk_alloc BK183.out _) 1).trans rfl, (World.cell?_alloc_lt _ _ _ (World.block_lt_of_cell? _ _ (((HB.out.cell (World.block_lt_of_cell? w _ hw191_0)).trans hw191_0)))).trans (((HB.out.cell (World.block_lt_of_cell? w _ hw191_0)).trans hw191_0))⟩ (fun hHeld => ?_)
              clear hK K
              refine norm_ (a' := ?_) ?_ ?_
              rotate_left
              · show Act.put _ (some 38) _ = _
                simp only [Act.put, List.setIfInBounds_toArray, List.set_cons_zero, List.set_cons_succ, i64_w, i32_w]
                rfl
              refine one_ (i := 8) (N := some 39) #[true, true, true, true, true, true, true, true, true, false, false] rfl rfl (one_of HT_.out (by kernel_rfl)) (by decide) (fun K hK => ?_)
              refine Kd.R_append_step (Kd.int .i64) (w0 := w) w.heap.size (by rfl) (.tmp 32) (.tmp 38) 23 2 (.int .i64 0) 8 rfl Try.underlying23 info2 rfl (by decide) (by omega) u189001 x189001_1 (rd l0_1 x6_1) [.int .i64 (rd l0_1 x6_1)] (fun _ => True) (fun _ => False) rfl rfl ?aP (fun _ hk => hk.elim) ?aF ?aO ?aB ?aS ?aL ?_
              (case aP => exact rfl)
              (case aB => exact (by repeat (first | (with_reducible first | exact HB.out | apply below_alloc | apply pw_below_drewN | apply below_drew1 | refine below_set ?_ GE183.out | refine below_set ?_ GE184.out | refine below_set ?_ GE188.out) | exact HB.out)))
              (case aF => exact (fun _ _ => trivial))
              (case aO => exact (by (with_reducible repeat (first | apply Kd.R_alloc | apply Kd.R_drewN | apply Kd.R_drew)); exact HO_189001.out))
              (case aS => exact (below_size (by repeat (first | (with_reducible first | exact HB.out | apply below_alloc | apply pw_below_drewN | apply below_drew1 | refine below_set ?_ GE183.out | refine below_set ?_ GE184.out | refine below_set ?_ GE188.out) | exact HB.out))))
              (case aL => have := LMc17.out; omega)
              intro v193 w23 ho hb hg hat
              rw [← Ny192.out] at ho
              have n0_ := Aside0.mk (blk_grown (g := gb183) (o := .cells #[.int .i64 a0_0, .slice (some ad189) l0_1.length c0_1] 25 (0, 0)) (by (with_reducible repeat (first | refine blk_drewN ?_ _ | refine blk_drew ?_ | refine blk_alloc ?_ _)); exact BK183.out) hg (Kd.R_ne HO_189001.out BK183.out (by decide)))
              have n1_ := Aside0.mk (blk_grown (g := gb184) (o := .cells #[.int .i64 0, .slice none 0 0] 25 (0, 0)) (by (with_reducible repeat (first | refine blk_drewN ?_ _ | refine blk_drew ?_ | refine blk_alloc ?_ _)); exact BK184.out) hg (Kd.R_ne HO_189001.out BK184.out (by decide)))
              have n2_ := Aside0.mk (blk_grown (g := gb188) (o := .cells #[.int .i64 a0_0, u189001] 25 (0, 0)) (by (with_reducible repeat (first | refine blk_drewN ?_ _ | refine blk_drew ?_ | refine blk_alloc ?_ _)); exact BK188.out) hg (Kd.R_ne HO_189001.out BK188.out (by decide)))
              have n3_ := Aside0.mk (hb)
              have n4_ := Aside0.mk (ho)
              clear BK183
              clear BK184
              clear BK188
              clear HB
              clear HO_189001
              have BK183 := n0_
              have BK184 := n1_
              have BK188 := n2_
              have HB := n3_
              have HO194 := n4_
              clear n0_ n1_ n2_ n3_ n4_
              clear ho hb hg hat
              obtain ⟨Ao24, co24, eo24⟩ := Kd.R_slice HO194.out
              (first | subst eo24 | (injection eo24 with f1_ f2_ f3_; have f4_ := f1_.symm; have f5_ := f3_.symm; clear f1_ f2_ f3_; subst f4_; subst f5_))
              refine hK.out _ _ ⟨(blk_cell BK188.out 0).trans rfl, (blk_cell BK188.out 1).trans rfl, (blk_cell BK183.out 0).trans rfl, (blk_cell BK183.out 1).trans rfl, ((HB.out.cell (World.block_lt_of_cell? w _ hw191_0)).trans hw191_0)⟩ (fun hHeld => ?_)
              clear hK K
              refine norm_ (a' := ?_) ?_ ?_
              rotate_left
              · show Act.put _ (some 39) _ = _
                simp only [Act.put, List.setIfInBounds_toArray, List.set_cons_zero, List.set_cons_succ, i64_w, i32_w]
                rfl
              refine pure_ (i := 9) (N := some 40) (v := ?_) (a' := ?_) #[true, true, true, true, true, true, true, true, true, true, false] rfl rfl (any_of HT_.out (by kernel_rfl)) (fun _ _ _ h => h) (Or.inl ⟨by rfl, ?_⟩) ?_ ?_
              rotate_left
              · intro w'
                go_simp
                with_reducible rfl
              rotate_left
              · simp only [Act.put, List.setIfInBounds_toArray, List.set_cons_zero, List.set_cons_succ, i64_w, i32_w]
                rfl
              refine last_ (i := 10) (N := none) #[true, true, true, true, true, true, true, true, true, true, true] rfl rfl (one_of HT_.out (by kernel_rfl)) (by decide) (fun K hK => ?_)
              have hs25 : w23.cell? ⟨gb188, 1, none⟩ = some (u189001) := (blk_cell BK188.out 1).trans rfl
              have hfs25 := blk_frozen BK188.out 1
              have hns25_0 := NB183_188.out
              have hns25_1 := NB184_188.out
              have hms25_0 := NB188_183.out
              have hms25_1 := NB188_184.out
              refine skip_ (w1 := ?_) (by rfl) rfl ?_ ?_
              rotate_left
              · go_simp
                rfl
              refine hK.out _ _ ?_
              clear hK K
              refine done_ (done_of HT_.out (by kernel_rfl)) ?_
              try go_wp2
              go_roundg k1
              case measure => have := HK1.out; omega
              case rel => exact ⟨(wrap64 (x6_1 + 1)), (y192), (.slice Ao24 y192.length co24), (by first | rfl | (simp; done) | (simp [*]; done)), H', ⟨by have := HK1.out; omega⟩, ⟨by (with_reducible repeat (first | apply Kd.R_alloc | apply Kd.R_drewN | apply Kd.R_drew)); exact Kd.R_mono (Kd.R_far (p := ⟨gb188, 1, none⟩) (Kd.R_types HO194.out BK188.out (by decide)) (fun _ hk => hk.2) (.slice Ao24 y192.length co24)) (fun _ hk => trivial)⟩, ⟨by (with_reducible repeat (first | refine blk_drewN ?_ _ | refine blk_drew ?_ | refine blk_alloc ?_ _)); refine blk_far ?_ NB183_188.out _; (with_reducible repeat (first | refine blk_drewN ?_ _ | refine blk_drew ?_ | refine blk_alloc ?_ _)); exact BK183.out⟩, ⟨by (with_reducible repeat (first | refine blk_drewN ?_ _ | refine blk_drew ?_ | refine blk_alloc ?_ _)); refine blk_far ?_ NB184_188.out _; (with_reducible repeat (first | refine blk_drewN ?_ _ | refine blk_drew ?_ | refine blk_alloc ?_ _)); exact BK184.out⟩, ⟨by (with_reducible repeat (first | refine blk_drewN ?_ _ | refine blk_drew ?_ | refine blk_alloc ?_ _)); refine blk_put (cs := #[.int .i64 a0_0, u189001]) ?_ 1 _ rfl; (with_reducible repeat (first | refine blk_drewN ?_ _ | refine blk_drew ?_ | refine blk_alloc ?_ _)); exact BK188.out⟩, ⟨by repeat (first | (with_reducible first | exact HB.out | apply below_alloc | apply pw_below_drewN | apply below_drew1 | refine below_set ?_ GE183.out | refine below_set ?_ GE184.out | refine below_set ?_ GE188.out) | exact HB.out)⟩⟩
            · rw [if_neg c17] at H
              exact absurd H (by simp)
          · rw [if_neg c16] at H
            have c16b0 : ((Go.bits .and .i64 (rd l0_1 x6_1) a1) == (rd l0_1 x6_1)) = false := beq_eq_false_iff_ne.mpr c16
            have c16b1 : ((Go.bits .and .i64 (rd l0_1 x6_1) a1) != (rd l0_1 x6_1)) = true := bne_iff_ne.mpr c16
            have H' := Aside0.mk H
            clear H
            have hnb26 := NB183_184.out
            have hnc26 := NB184_183.out
            have hnb27 := NB183_188.out
            have hnc27 := NB188_183.out
            have hcz28_0 : wr.cell? ⟨gb183, 0, none⟩ = some (.int .i64 a0_0) := (blk_cell BK183.out 0).trans rfl
            have hcz28_1 : wr.cell? ⟨gb183, 1, none⟩ = some (.slice A0_1 l0_1.length c0_1) := (blk_cell BK183.out 1).trans rfl
            have hfz28_0 := blk_frozen BK183.out 0
            have hfz28_1 := blk_frozen BK183.out 1
            try go_wp2
            have n0_ := Aside0.mk (Kd.R_drew HO_189001.out)
            have n1_ := Aside0.mk (blk_drew BK183.out)
            have n2_ := Aside0.mk (blk_drew BK184.out)
            have n3_ := Aside0.mk (blk_drew BK188.out)
            have n4_ := Aside0.mk (below_drew1 HB.out)
            clear HO_189001
            clear BK183
            clear BK184
            clear BK188
            clear HB
            have HO_189001 := n0_
            have BK183 := n1_
            have BK184 := n2_
            have BK188 := n3_
            have HB := n4_
            clear n0_ n1_ n2_ n3_ n4_
            have p189 : 0 ≤ (x6_1 : Int) := of_decide_eq_true (by first | (with_reducible assumption) | assumption)
            have q189 : x6_1 < (l0_1.length : Int) := of_decide_eq_true (by first | (with_reducible assumption) | assumption)
            obtain ⟨ad189, e189, hx189_0⟩ := Kd.at_int HR0_1.out x6_1 p189 q189
            have hw189_0 := hx189_0
            cases e189
            replace hx189_0 := (HB.out.cell (World.block_lt_of_cell? w _ hx189_0)).trans hx189_0
            replace p189 := eq_true p189
            replace q189 := eq_true q189
            have p190 : 0 ≤ (x6_1 : Int) := of_decide_eq_true (by first | (with_reducible assumption) | assumption)
            have q190 : x6_1 < (l0_1.length : Int) := of_decide_eq_true (by first | (with_reducible assumption) | assumption)
            obtain ⟨ad190, e190, hx190_0⟩ := Kd.at_int HR0_1.out x6_1 p190 q190
            have hw190_0 := hx190_0
            obtain rfl : ad189 = ad190 := (by injection e190)
            replace hx190_0 := (HB.out.cell (World.block_lt_of_cell? w _ hx190_0)).trans hx190_0
            replace p190 := eq_true p190
            replace q190 := eq_true q190
            refine start_ (n := 13) (S := fun w' => w'.cell? ⟨gb183, 0, none⟩ = some (.int .i64 a0_0) ∧ w'.cell? ⟨gb183, 1, none⟩ = some (.slice (some ad189) l0_1.length c0_1) ∧ w'.cell? (ad189.add (x6_1).toNat) = some (.int .i64 (rd l0_1 x6_1)) ∧ w'.cell? (ad189.add (x6_1).toNat) = some (.int .i64 (rd l0_1 x6_1))) (ds := []) #[false, false, false, false, false, false, false, false, false, false, false, false, false] (by kernel_rfl) rfl rfl ⟨(blk_cell BK183.out 0).trans rfl, (blk_cell BK183.out 1).trans rfl, ((HB.out.cell (World.block_lt_of_cell? w _ hw189_0)).trans hw189_0), ((HB.out.cell (World.block_lt_of_cell? w _ hw190_0)).trans hw190_0)⟩ (fun hHeld => ?_); refine with_tabW spec_l01On.tab5 spec_l01On.bits5 (fun HT_ HW_ => ?_)
            generalize wr.drew = w29 at HO_189001 BK183 BK184 BK188 HB hx189_0 hx190_0 hHeld ⊢
            refine pure_ (i := 0) (N := some 18) (v := ?_) (a' := ?_) #[true, false, false, false, false, false, false, false, false, false, false, false, false] rfl rfl (any_of HT_.out (by kernel_rfl)) (fun _ _ _ h => h) (Or.inl ⟨by rfl, ?_⟩) ?_ ?_
            rotate_left
            · intro w'
              go_simp
              with_reducible rfl
            rotate_left
            · simp only [Act.put, List.setIfInBounds_toArray, List.set_cons_zero, List.set_cons_succ, i64_w, i32_w]
              rfl
            refine pure_ (i := 2) (N := some 20) (v := ?_) (a' := ?_) #[true, false, true, false, false, false, false, false, false, false, false, false, false] rfl rfl (any_of HT_.out (by kernel_rfl)) (fun _ _ _ h => h) (Or.inl ⟨by rfl, ?_⟩) ?_ ?_
            rotate_left
            · intro w'
              go_simp
              with_reducible rfl
            rotate_left
            · simp only [Act.put, List.setIfInBounds_toArray, List.set_cons_zero, List.set_cons_succ, i64_w, i32_w]
              rfl
            refine pure_ (i := 5) (N := some 23) (v := ?_) (a' := ?_) #[true, false, true, false, false, true, false, false, false, false, false, false, false] rfl rfl (any_of HT_.out (by kernel_rfl)) (fun _ _ _ h => h) (Or.inl ⟨by rfl, ?_⟩) ?_ ?_
            rotate_left
            · intro w'
              go_simp
              with_reducible rfl
            rotate_left
            · simp only [Act.put, List.setIfInBounds_toArray, List.set_cons_zero, List.set_cons_succ, i64_w, i32_w]
              rfl
            refine pure_ (i := 7) (N := some 25) (v := ?_) (a' := ?_) #[true, false, true, false, false, true, false, true, false, false, false, false, false] rfl rfl (any_of HT_.out (by kernel_rfl)) (fun _ _ _ h => h) (Or.inl ⟨by rfl, ?_⟩) ?_ ?_
            rotate_left
            · intro w'
              go_simp
              with_reducible rfl
            rotate_left
            · simp only [Act.put, List.setIfInBounds_toArray, List.set_cons_zero, List.set_cons_succ, i64_w, i32_w]
              rfl
            refine pure_ (i := 9) (N := some 27) (v := ?_) (a' := ?_) #[true, false, true, false, false, true, false, true, false, true, false, false, false] rfl rfl (any_of HT_.out (by kernel_rfl)) (fun _ _ _ h => h) (Or.inl ⟨by rfl, ?_⟩) ?_ ?_
            rotate_left
            · intro w'
              go_simp
              with_reducible rfl
            rotate_left
            · simp only [Act.put, List.setIfInBounds_toArray, List.set_cons_zero, List.set_cons_succ, i64_w, i32_w]
              rfl
            refine take_ (i := 1) (N := some 19) (v := ?_) (a' := ?_) #[true, true, true, false, false, true, false, true, false, true, false, false, false] rfl rfl (take_ofW HT_.out HW_.out (by kernel_rfl)) (fun _ _ _ h => h) (Or.inl ⟨by rfl, ?_⟩) hHeld ?_ ?_
            rotate_left
            · rintro w' ⟨s0, s1, s2, s3⟩
              go_simp
              with_reducible rfl
            rotate_left
            · simp only [Act.put, List.setIfInBounds_toArray, List.set_cons_zero, List.set_cons_succ, i64_w, i32_w]
              rfl
            refine pure_ (i := 3) (N := some 21) (v := ?_) (a' := ?_) #[true, true, true, true, false, true, false, true, false, true, false, false, false] rfl rfl (any_of HT_.out (by kernel_rfl)) (fun _ _ _ h => h) (Or.inl ⟨by rfl, ?_⟩) ?_ ?_
            rotate_left
            · intro w'
              go_simp
              with_reducible rfl
            rotate_left
            · simp only [Act.put, List.setIfInBounds_toArray, List.set_cons_zero, List.set_cons_succ, i64_w, i32_w]
              rfl
            refine take_ (i := 4) (N := some 22) (v := ?_) (a' := ?_) #[true, true, true, true, true, true, false, true, false, true, false, false, false] rfl rfl (take_ofW HT_.out HW_.out (by kernel_rfl)) (fun _ _ _ h => h) (Or.inl ⟨by rfl, ?_⟩) hHeld ?_ ?_
            rotate_left
            · rintro w' ⟨s0, s1, s2, s3⟩
              go_simp
              with_reducible rfl
            rotate_left
            · simp only [Act.put, List.setIfInBounds_toArray, List.set_cons_zero, List.set_cons_succ, i64_w, i32_w]
              rfl
            refine pure_ (i := 6) (N := some 24) (v := ?_) (a' := ?_) #[true, true, true, true, true, true, true, true, false, true, false, false, false] rfl rfl (any_of HT_.out (by kernel_rfl)) (fun _ _ _ h => h) (Or.inl ⟨by rfl, ?_⟩) ?_ ?_
            rotate_left
            · intro w'
              go_simp
              with_reducible rfl
            rotate_left
            · simp only [Act.put, List.setIfInBounds_toArray, List.set_cons_zero, List.set_cons_succ, i64_w, i32_w]
              rfl
            refine take_ (i := 8) (N := some 26) (v := ?_) (a' := ?_) #[true, true, true, true, true, true, true, true, true, true, false, false, false] rfl rfl (take_ofW HT_.out HW_.out (by kernel_rfl)) (fun _ _ _ h => h) (Or.inl ⟨by rfl, ?_⟩) hHeld ?_ ?_
            rotate_left
            · rintro w' ⟨s0, s1, s2, s3⟩
              go_simp
              with_reducible rfl
            rotate_left
            · simp only [Act.put, List.setIfInBounds_toArray, List.set_cons_zero, List.set_cons_succ, i64_w, i32_w]
              rfl
            refine pure_ (i := 10) (N := some 28) (v := ?_) (a' := ?_) #[true, true, true, true, true, true, true, true, true, true, true, false, false] rfl rfl (any_of HT_.out (by kernel_rfl)) (fun _ _ _ h => h) (Or.inl ⟨by rfl, ?_⟩) ?_ ?_
            rotate_left
            · intro w'
              go_simp
              with_reducible rfl
            rotate_left
            · simp only [Act.put, List.setIfInBounds_toArray, List.set_cons_zero, List.set_cons_succ, i64_w, i32_w]
              rfl
            refine take_ (i := 11) (N := some 29) (v := ?_) (a' := ?_) #[true, true, true, true, true, true, true, true, true, true, true, true, false] rfl rfl (take_ofW HT_.out HW_.out (by kernel_rfl)) (fun _ _ _ h => h) (Or.inl ⟨by rfl, ?_⟩) hHeld ?_ ?_
            rotate_left
            · rintro w' ⟨s0, s1, s2, s3⟩
              go_simp
              with_reducible rfl
            rotate_left
            · simp only [Act.put, List.setIfInBounds_toArray, List.set_cons_zero, List.set_cons_succ, i64_w, i32_w]
              rfl
            refine pure_ (i := 12) (N := some 30) (v := ?_) (a' := ?_) #[true, true, true, true, true, true, true, true, true, true, true, true, true] rfl rfl (any_of HT_.out (by kernel_rfl)) (fun _ _ _ h => h) (Or.inl ⟨by rfl, ?_⟩) ?_ ?_
            rotate_left
            · intro w'
              go_simp
              with_reducible rfl
            rotate_left
            · simp only [Act.put, List.setIfInBounds_toArray, List.set_cons_zero, List.set_cons_succ, i64_w, i32_w]
              rfl
            refine done_ (done_of HT_.out (by kernel_rfl)) ?_
            try go_wp2
            go_roundg k1
            case measure => have := HK1.out; omega
            case rel => exact ⟨(wrap64 (x6_1 + 1)), (x189001_1), (u189001), (by first | rfl | (simp; done) | (simp [*]; done)), H', ⟨by have := HK1.out; omega⟩, ⟨by (with_reducible repeat (first | apply Kd.R_alloc | apply Kd.R_drewN | apply Kd.R_drew)); exact HO_189001.out⟩, ⟨by (with_reducible repeat (first | refine blk_drewN ?_ _ | refine blk_drew ?_ | refine blk_alloc ?_ _)); exact BK183.out⟩, ⟨by (with_reducible repeat (first | refine blk_drewN ?_ _ | refine blk_drew ?_ | refine blk_alloc ?_ _)); exact BK184.out⟩, ⟨by (with_reducible repeat (first | refine blk_drewN ?_ _ | refine blk_drew ?_ | refine blk_alloc ?_ _)); exact BK188.out⟩, ⟨by repeat (first | (with_reducible first | exact HB.out | apply below_alloc | apply pw_below_drewN | apply below_drew1 | refine below_set ?_ GE183.out | refine below_set ?_ GE184.out | refine below_set ?_ GE188.out) | exact HB.out)⟩⟩
        · rw [if_neg c15] at H
          exact absurd H (by simp)
      · rw [if_neg c14] at H
        have c14b0 : decide (x6_1 < (l0_1.length : Int)) = false := decide_eq_false c14
        clear c14
        simp only [Option.some.injEq, Prod.mk.injEq] at H
        obtain ⟨rfl, rfl⟩ := H
        have hnb30 := NB183_184.out
        have hnc30 := NB184_183.out
        have hnb31 := NB183_188.out
        have hnc31 := NB188_183.out
        have hcz32_0 : wr.cell? ⟨gb183, 0, none⟩ = some (.int .i64 a0_0) := (blk_cell BK183.out 0).trans rfl
        have hcz32_1 : wr.cell? ⟨gb183, 1, none⟩ = some (.slice A0_1 l0_1.length c0_1) := (blk_cell BK183.out 1).trans rfl
        have hfz32_0 := blk_frozen BK183.out 0
        have hfz32_1 := blk_frozen BK183.out 1
        have hnb33 := NB188_184.out
        have hnc33 := NB184_188.out
        have hcz34_0 : wr.cell? ⟨gb188, 0, none⟩ = some (.int .i64 a0_0) := (blk_cell BK188.out 0).trans rfl
        have hcz34_1 : wr.cell? ⟨gb188, 1, none⟩ = some (u189001) := (blk_cell BK188.out 1).trans rfl
        have hfz34_0 := blk_frozen BK188.out 0
        have hfz34_1 := blk_frozen BK188.out 1
        have hcz35_0 : wr.cell? ⟨gb184, 0, none⟩ = some (.int .i64 0) := (blk_cell BK184.out 0).trans rfl
        have hcz35_1 : wr.cell? ⟨gb184, 1, none⟩ = some (.slice none 0 0) := (blk_cell BK184.out 1).trans rfl
        have hfz35_0 := blk_frozen BK184.out 0
        have hfz35_1 := blk_frozen BK184.out 1
        obtain ⟨Ao36, co36, eo36⟩ := Kd.R_slice HO_189001.out
        subst eo36
        go_wp2
        refine bodyPost_ret (results_cell_row rfl _ _ gb184 25 #[.int .i64 a0_0, .slice Ao36 x189001_1.length co36] (0, 0) _ rfl (by (with_reducible repeat (first | refine blk_drewN ?_ _ | refine blk_drew ?_ | refine blk_alloc ?_ _)); refine blk_put (cs := #[.int .i64 a0_0, .slice none 0 0]) ?_ 1 _ rfl; (with_reducible repeat (first | refine blk_drewN ?_ _ | refine blk_drew ?_ | refine blk_alloc ?_ _)); refine blk_put (cs := #[.int .i64 0, .slice none 0 0]) ?_ 0 _ rfl; (with_reducible repeat (first | refine blk_drewN ?_ _ | refine blk_drew ?_ | refine blk_alloc ?_ _)); exact BK184.out) Try.underlying25 rfl (by kernel_rfl)) rfl ?_
        exact ⟨_, by first | rfl | (simp [errW_none, errW_some] <;> rfl) | (simp [*, errW_none, errW_some] <;> rfl), by (with_reducible repeat (first | apply Kd.R_alloc | apply Kd.R_drewN | apply Kd.R_drew)); exact Kd.R_mono (Kd.R_far (p := ⟨gb184, 1, none⟩) (Kd.R_far (p := ⟨gb184, 0, none⟩) (Kd.R_types HO_189001.out BK184.out (by decide)) (fun _ hk => hk.2) (.int .i64 a0_0)) (fun _ hk => hk.2) (.slice Ao36 x189001_1.length co36)) (fun _ hk => trivial), by repeat (first | (with_reducible first | exact HB.out | apply below_alloc | apply pw_below_drewN | apply below_drew1 | refine below_set ?_ GE183.out | refine below_set ?_ GE184.out | refine below_set ?_ GE188.out) | exact HB.out)⟩

end Go.Proofs.Ytoeapnempdgagaa.Q
end

section
/- ComplexOf. -/
namespace Go.Proofs.Ytoeapnempdgagaa.K
open Go.RowKit Go.Shelf Go.Proofs.YtoeapnempdgagaaW.PrintWords Go.Proofs.YtoeapnempdgagaaW.PrintLast Go.Proofs.YtoeapnempdgagaaW.PrintMore
set_option linter.unusedVariables false
set_option linter.unusedSimpArgs false

set_option maxHeartbeats 1000000 in
theorem ComplexOf1_calls (s n : Int) (B : Nat) (w : World) (hn : 1 ≤ n ∧ n ≤ 6) (hb : w.cell? ⟨B, 0, none⟩ = some (I n)) :
    Calls Try.prog 51 #[I s, .pointer (some ⟨B, 0, none⟩)] w fun e w' => e = .returned (.bool (decide (1 ≤ s ∧ s ≤ fullOf n))) ∧ Grew w w' := by
  generalize hr : decide (1 ≤ s ∧ s ≤ fullOf n) = r
  have HR := Aside0.mk hr
  have hp := two_pow n.toNat 6 (by omega)
  obtain ⟨F, hF⟩ : ∃ F, F = fullOf n := ⟨_, rfl⟩
  have hpow : (2 : Int) ^ n.toNat = F + 1 := by rw [hF]; unfold fullOf; omega
  have HF := Aside0.mk hF
  have hFb : 0 ≤ F ∧ F ≤ 63 := by omega
  clear hr hF hp
  go_enter Try.func51, Try.ntmps51
  go_wp2_with fail
  refine (within_calls s 1 F r (by rw [HF.out]; exact HR.out) _).mono ?_
  rintro e w' ⟨rfl, hb'⟩
  go_wp2_with fail
  go_ret
  exact ⟨rfl, hb'⟩

/-- What ComplexOf answers. -/
def okSets (n : Int) (l : List Int) : Bool := l.all fun s => decide (1 ≤ s ∧ s ≤ fullOf n)
def cOf (n : Int) (l : List Int) : Int × List Int × Int := if (1 ≤ n ∧ n ≤ 6) ∧ l.length ≤ 64 ∧ okSets n l = true then (n, madeL n l, 0) else (0, [], 2)

set_option maxHeartbeats 2000000 in
theorem ComplexOf_calls (n : Int) (A : Option Addr) (c : Nat) (l : List Int) (w : World) (hr : Ki.C w A l.length l) (hc : l.length ≤ c) :
    Calls Try.prog 17 #[I n, .slice A l.length c] w fun e w' => ∃ v, e = .returned (.tuple #[.agg #[I (cOf n l).1, v], I (cOf n l).2.2]) ∧ Ki.R 2 w' w.heap.size (fun _ => True) v (cOf n l).2.1 ∧ Grew w w' := by
  have hbig := hr.2.1
  have HR := Aside0.mk hr
  have HC := Aside0.mk hc
  clear hr hc
  have hB0 : CB ((w.alloc (.cells #[I n] 2)).alloc (.cells #[I 0, .slice none 0 0] 25)) (w.heap.size + 1) 0 (.slice none 0 0) := by
    have := blk_new (w.alloc (.cells #[I n] 2)) (.cells #[I 0, .slice none 0 0] 25)
    rwa [World.size_alloc] at this
  have hg0 : Grew w ((w.alloc (.cells #[I n] 2)).alloc (.cells #[I 0, .slice none 0 0] 25)) := below_alloc (below_alloc (Grew.refl w) _) _
  have hn0 : ((w.alloc (.cells #[I n] 2)).alloc (.cells #[I 0, .slice none 0 0] 25)).heap[w.heap.size]? = some (.cells #[I n] 2 (0, 0)) := blk_alloc (blk_new w _) _
  have HB0 := Aside0.mk hB0
  have HG0 := Aside0.mk hg0
  have HN0 := Aside0.mk hn0
  clear hB0 hg0 hn0
  by_cases hn : 1 ≤ n ∧ n ≤ 6
  · by_cases h64 : l.length ≤ 64
    · go_enter Try.func17, Try.ntmps17
      go_wp2_with fail
      refine (isSize_calls n true (by simp [hn]) _).mono ?_
      rintro e w1 ⟨rfl, hG1⟩
      have HB1 : Aside0 (CB w1 (w.heap.size + 1) 0 (.slice none 0 0)) := ⟨blk_below HB0.out hG1⟩
      have HN1 : Aside0 (w1.heap[w.heap.size]? = some (.cells #[I n] 2 (0, 0))) := ⟨blk_below HN0.out hG1⟩
      have HG1 : Aside0 (Grew w w1) := ⟨Grew.trans HG0.out hG1⟩
      clear hG1
      have hcmp : ¬ (64 : Int) < (l.length : Int) := by omega
      go_wp2_with fail
      have hall : okSets n l = l.all (fun s => decide (1 ≤ s ∧ s ≤ fullOf n)) := rfl
      refine (areAll_int (fun s => decide (1 ≤ s ∧ s ≤ fullOf n)) A c l 51 #[] #[.pointer (some ⟨w.heap.size, 0, none⟩)] _ (Kd.C_below HR.out HG1.out) HC.out hbig (enters_of Try.func51 (by kernel_rfl) rfl)
        (fun x _ W hW => ComplexOf1_calls x n w.heap.size W hn (blk_cell (blk_below HN1.out hW) 0))).mono ?_
      rw [← hall]
      clear hall
      rintro e w2 ⟨rfl, hG2⟩
      have hB2 : CB w2 (w.heap.size + 1) 0 (.slice none 0 0) := blk_below HB1.out hG2
      have hn2 : w2.cell? ⟨w.heap.size, 0, none⟩ = some (I n) := blk_cell (blk_below HN1.out hG2) 0
      have HB2 := Aside0.mk hB2
      have HG2 : Aside0 (Grew w w2) := ⟨Grew.trans HG1.out hG2⟩
      have k0 := hB2.c0
      have k1 := hB2.c1
      have f0 := blk_frozen hB2 0
      have f1 := blk_frozen hB2 1
      clear hB2 hG2
      cases hok : okSets n l with
      | false =>
        have HV : Aside0 (cOf n l = (0, [], 2)) := ⟨by simp [cOf, hok]⟩
        go_wp2_with fail
        refine bodyPost_ret (results_ct rfl _ _ (w.heap.size + 1) 25 #[I 0, .slice none 0 0] (0, 0) _ rfl HB2.out.set Try.underlying25 rfl (by kernel_rfl)) rfl ?_
        rw [HV.out]
        exact ⟨_, rfl, Kd.R_nil _ _ _ _ _, below_set (below_set HG2.out (by omega)) (by omega)⟩
      | true =>
        have HV : Aside0 (cOf n l = (n, madeL n l, 0)) := ⟨by simp [cOf, hok, hn, h64]⟩
        go_wp2_with fail
        refine (madeBy_calls n (by omega) A c l _ (Kd.C_below HR.out HG2.out) HC.out).mono ?_
        rintro e w3 ⟨v, rfl, hR, hG3⟩
        clear k0 k1 f0 f1 hn2
        have hB3 : CB w3 (w.heap.size + 1) 0 (.slice none 0 0) := blk_below HB2.out hG3
        have HB3 := Aside0.mk hB3
        have HR3 := Aside0.mk hR
        have HG3 := Aside0.mk (Grew.trans HG2.out hG3)
        have hsz := HG2.out.size
        have k0 := hB3.c0
        have k1 := hB3.c1
        have f0 := blk_frozen hB3 0
        have f1 := blk_frozen hB3 1
        obtain ⟨A2, c2, e2⟩ := Kd.R_slice hR
        subst e2
        clear hB3 hR hG3
        go_wp2_with fail
        refine bodyPost_ret (results_ct rfl _ _ (w.heap.size + 1) 25 #[I n, _] (0, 0) _ rfl HB3.out.set Try.underlying25 rfl (by kernel_rfl)) rfl ?_
        rw [HV.out]
        exact ⟨_, rfl, Kd.R_lower (Ri.setCB2 HR3.out HB3.out) hsz, below_set (below_set HG3.out (by omega)) (by omega)⟩
    · have HV : Aside0 (cOf n l = (0, [], 2)) := ⟨by simp [cOf, h64]⟩
      go_enter Try.func17, Try.ntmps17
      go_wp2_with fail
      refine (isSize_calls n true (by simp [hn]) _).mono ?_
      rintro e w1 ⟨rfl, hG1⟩
      have hB1 : CB w1 (w.heap.size + 1) 0 (.slice none 0 0) := blk_below HB0.out hG1
      have HB1 := Aside0.mk hB1
      have HG1 : Aside0 (Grew w w1) := ⟨Grew.trans HG0.out hG1⟩
      have k0 := hB1.c0
      have k1 := hB1.c1
      have f0 := blk_frozen hB1 0
      have f1 := blk_frozen hB1 1
      clear hG1 hB1
      have hcmp : (64 : Int) < (l.length : Int) := by omega
      go_wp2_with fail
      refine bodyPost_ret (results_ct rfl _ _ (w.heap.size + 1) 25 #[I 0, .slice none 0 0] (0, 0) _ rfl HB1.out.set Try.underlying25 rfl (by kernel_rfl)) rfl ?_
      rw [HV.out]
      exact ⟨_, rfl, Kd.R_nil _ _ _ _ _, below_set (below_set HG1.out (by omega)) (by omega)⟩
  · have HV : Aside0 (cOf n l = (0, [], 2)) := ⟨by simp only [cOf, hn, false_and, if_false]⟩
    go_enter Try.func17, Try.ntmps17
    go_wp2_with fail
    refine (isSize_calls n false (by simpa using hn) _).mono ?_
    rintro e w1 ⟨rfl, hG1⟩
    have hB1 : CB w1 (w.heap.size + 1) 0 (.slice none 0 0) := blk_below HB0.out hG1
    have HB1 := Aside0.mk hB1
    have HG1 : Aside0 (Grew w w1) := ⟨Grew.trans HG0.out hG1⟩
    have k0 := hB1.c0
    have k1 := hB1.c1
    have f0 := blk_frozen hB1 0
    have f1 := blk_frozen hB1 1
    clear hG1 hB1
    go_wp2_with fail
    refine bodyPost_ret (results_ct rfl _ _ (w.heap.size + 1) 25 #[I 0, .slice none 0 0] (0, 0) _ rfl HB1.out.set Try.underlying25 rfl (by kernel_rfl)) rfl ?_
    rw [HV.out]
    exact ⟨_, rfl, Kd.R_nil _ _ _ _ _, below_set (below_set HG1.out (by omega)) (by omega)⟩

end Go.Proofs.Ytoeapnempdgagaa.K
end

section
/- ComplexOf in the form that the printed law takes. -/
namespace Go.Proofs.Ytoeapnempdgagaa.X
open Go.RowKit Go.Shelf Go.Proofs.Ytoeapnempdgagaa.K Go.Proofs.YtoeapnempdgagaaW.PrintWords Go.Proofs.YtoeapnempdgagaaW.PrintLast Go.Proofs.YtoeapnempdgagaaW.PrintMore
set_option linter.unusedVariables false
set_option linter.unusedSimpArgs false

def impl_ComplexOf.f (a0 : Int) (l1 : List Int) : Option (Int × List Int × Int) := if l1.length ≤ 2097152 then some (cOf a0 l1) else none
theorem impl_ComplexOf.calls (a0 : Int) (A1 : Option Addr) (c1 : Nat) (l1 : List Int) (r1 : Int) (r2 : List Int) (r3 : Int) (w : World) (hr1 : Kd.C (Kd.int .i64) w A1 l1.length l1) (hc1 : l1.length ≤ c1) (h : impl_ComplexOf.f a0 l1 = some (r1, r2, r3)) :
    Calls Try.prog 17 #[.int .i64 a0, .slice A1 l1.length c1] w fun e w' => ∃ v1_ : Value, e = .returned (.tuple #[.agg #[.int .i64 r1, v1_], .int .i64 r3]) ∧ Kd.R (Kd.int .i64) 2 w' w.heap.size (fun _ => True) v1_ r2 ∧ Below w.heap.size w w' := by
  unfold impl_ComplexOf.f at h
  by_cases hl : l1.length ≤ 2097152
  · rw [if_pos hl] at h
    injection h with h
    have H := ComplexOf_calls a0 A1 c1 l1 w hr1 hc1
    rw [h] at H
    exact H
  · rw [if_neg hl] at h
    cases h

end Go.Proofs.Ytoeapnempdgagaa.X
end

section
/- slices.Clone and slices.DeleteFunc over rows of numbers of the call's own. -/
namespace Go.Proofs.Ytoeapnempdgagaa.K
open Go.RowKit Go.Shelf Go.Proofs.YtoeapnempdgagaaW.PrintWords Go.Proofs.YtoeapnempdgagaaW.PrintLast Go.Proofs.YtoeapnempdgagaaW.PrintMore
set_option linter.unusedVariables false
set_option linter.unusedSimpArgs false

theorem below_setCells {base : Nat} {w : World} {G : Nat} (hb : base ≤ G) : ∀ (vs : List Value) (i : Nat) (W : World), Below base w W → Below base w (W.setCells G i vs)
  | [], _, _, h => h
  | v :: r, i, W, h => below_setCells hb r (i + 1) _ (Below.setCell h hb v)
theorem Ri.clear {base : Nat} {ok : Nat → Prop} {G n c : Nat} : ∀ (m i : Nat) (W : World) (xs : List Int), Ki.R 2 W base ok (.slice (some ⟨G, 0, none⟩) n c) xs →
    ∃ ys : List Int, ys.take i = xs.take i ∧ ys.length = xs.length ∧ Ki.R 2 (W.setCells G i (List.replicate m (I 0))) base ok (.slice (some ⟨G, 0, none⟩) n c) ys
  | 0, i, W, xs, h => ⟨xs, rfl, rfl, h⟩
  | m + 1, i, W, xs, h => by
    have h1 := Kd.R_putn h (i : Int) 0
    rw [Int.toNat_natCast] at h1
    obtain ⟨ys, e1, e2, e3⟩ := Ri.clear m (i + 1) _ _ h1
    refine ⟨ys, ?_, by rw [e2, List.length_set], e3⟩
    have := congrArg (List.take i) e1
    rw [List.take_take, List.take_take, List.take_set, List.set_eq_of_length_le (by simp; omega)] at this
    simpa [Nat.min_eq_left (Nat.le_succ i)] using this

theorem del_keep (q : Int → Bool) (l xs : List Int) (i j : Nat) (hij : i < j) (hj : j < l.length) (hx : xs.length = l.length) (h1 : xs.take i = (l.take j).filter q) (h2 : xs.drop j = l.drop j) (hp : q l[j] = true) :
    (xs.set i l[j]).take (i + 1) = (l.take (j + 1)).filter q ∧ (xs.set i l[j]).drop (j + 1) = l.drop (j + 1) := by
  constructor
  · rw [List.take_succ_eq_append_getElem hj, List.filter_append, ← h1, List.take_set, List.take_succ_eq_append_getElem (show i < xs.length by omega), List.set_append_right _ _ (by simp; omega)]
    simp [hp]
    have : i - min i xs.length = 0 := by omega
    rw [this]
    rfl
  · rw [List.drop_set_of_lt (by omega)]
    have := congrArg (List.drop 1) h2
    simpa using this
theorem del_skip (q : Int → Bool) (l xs : List Int) (i j : Nat) (hj : j < l.length) (h1 : xs.take i = (l.take j).filter q) (h2 : xs.drop j = l.drop j) (hp : q l[j] = false) :
    xs.take i = (l.take (j + 1)).filter q ∧ xs.drop (j + 1) = l.drop (j + 1) := by
  constructor
  · rw [List.take_succ_eq_append_getElem hj, List.filter_append, ← h1]
    simp [hp]
  · have := congrArg (List.drop 1) h2
    simpa using this
theorem del_get (l xs : List Int) (j : Nat) (hj : j < l.length) (hx : xs.length = l.length) (h2 : xs.drop j = l.drop j) : xs[j]'(by omega) = l[j] := by
  rw [List.drop_eq_getElem_cons hj, List.drop_eq_getElem_cons (show j < xs.length by omega)] at h2
  injection h2
theorem idx_some {p : Int → Bool} {l : List Int} (h : idx p l ≠ -1) : ∃ i : Nat, idx p l = i ∧ ∃ hi : i < l.length, p l[i] = true ∧ ∀ j (hj : j < i), p (l[j]'(by omega)) = false := by
  unfold idx at h ⊢
  cases hf : l.findIdx? p with
  | none => rw [hf] at h; exact absurd rfl h
  | some i =>
    rw [List.findIdx?_eq_some_iff_getElem] at hf
    obtain ⟨hi, hp, hn⟩ := hf
    exact ⟨i, rfl, hi, hp, fun j hj => by have := hn j hj; simpa using this⟩
theorem idx_none {p : Int → Bool} {l : List Int} (h : idx p l = -1) : l.filter (fun x => !p x) = l := by
  unfold idx at h
  cases hf : l.findIdx? p with
  | some i => rw [hf] at h; have : ((i : Int)) = -1 := h; omega
  | none =>
    rw [List.findIdx?_eq_none_iff] at hf
    rw [List.filter_eq_self]
    intro x hx
    simp [hf x hx]
theorem del_start {p : Int → Bool} {l : List Int} {i : Nat} (hi : i < l.length) (hp : p l[i] = true) (hn : ∀ j (hj : j < i), p (l[j]'(by omega)) = false) : l.take i = (l.take (i + 1)).filter (fun x => !p x) := by
  rw [List.take_succ_eq_append_getElem hi, List.filter_append]
  have : (l.take i).filter (fun x => !p x) = l.take i := by
    rw [List.filter_eq_self]
    intro x hx
    obtain ⟨j, hj, rfl⟩ := List.mem_iff_getElem.1 hx
    rw [List.length_take] at hj
    rw [List.getElem_take, hn j (by omega)]
    rfl
  rw [this]
  simp [hp]

set_option maxRecDepth 100000 in
set_option maxHeartbeats 4000000 in
theorem DeleteFunc_calls (p : Int → Bool) (base : Nat) (v : Value) (l : List Int) (g : Nat) (first caps : Array Value) (w : World) (hbase : base ≤ w.heap.size) (hR : Ki.R 2 w base (fun _ => True) v l) (hbig : l.length ≤ 1000000000) (eg : EntersG g)
    (hp : ∀ x, x ∈ l → ∀ W, Below base w W → Calls Try.prog g (first.push (I x) ++ caps) W fun e w' => e = .returned (.bool (p x)) ∧ Grew W w') :
    Calls Try.prog 99 #[v, .func (.func g) first caps] w fun e w' => ∃ v', e = .returned v' ∧ Ki.R 2 w' base (fun _ => True) v' (l.filter fun x => !p x) ∧ Below base w w' := by
  obtain ⟨A, c, hv, hc, hC⟩ := Kd.R_reads hR
  subst hv
  have H := Aside0.mk (IndexFunc_int p A c l g first caps w hC hc (by omega) eg (fun x hx W hW => hp x hx W (hW.mono hbase)))
  have HR := Aside0.mk hR
  have HP := Aside0.mk hp
  have HC := Aside0.mk hc
  clear hR hp hC hc
  by_cases hi : idx p l = -1
  · have HV := Aside0.mk (idx_none hi)
    rw [hi] at H
    rw [HV.out]
    go_enter Try.func99, Try.ntmps99
    go_wp2_with fail
    refine H.out.mono ?_
    rintro e w1 ⟨rfl, hG1⟩
    go_wp2_with fail
    go_ret
    exact ⟨_, rfl, Kd.R_below HR.out hG1, hG1.mono hbase⟩
  · obtain ⟨i0, he, hi0, hp0, hn0⟩ := idx_some hi
    rw [he] at H hi
    have HS := Aside0.mk (del_start hi0 hp0 hn0)
    clear hn0 hp0 he
    go_enter Try.func99, Try.ntmps99
    go_wp2_with fail
    refine H.out.mono ?_
    rintro e w1 ⟨rfl, hG1⟩
    have HR1 := Aside0.mk (Kd.R_below HR.out hG1)
    have HG1 : Aside0 (Below base w w1) := ⟨hG1.mono hbase⟩
    clear hG1 H HR
    obtain ⟨G, cc, eo, gb, gl, _⟩ := Kd.R_form HR1.out (by omega)
    injection eo with ea en ec
    subst ea ec
    clear en
    go_wp2_with fail
    go_loopg [5, 6] l.length (fun gg s5 s6 wr => ∃ (i j : Nat) (xs : List Int), s5 = .int .i64 i ∧ s6 = .int .i64 j ∧ i < j ∧ j ≤ l.length ∧ l.length - j ≤ gg ∧ xs.length = l.length ∧
      Aside0 (xs.take i = (l.take j).filter (fun x => !p x)) ∧ Aside0 (xs.drop j = l.drop j) ∧ Aside0 (Ki.R 2 wr base (fun _ => True) (.slice (some ⟨G, 0, none⟩) l.length c) xs) ∧ Aside0 (Below base w wr))
    case atStart => exact ⟨i0, i0 + 1, l, rfl, by go_num, by omega, by omega, by omega, rfl, HS, ⟨rfl⟩, HR1, HG1⟩
    case round =>
      obtain ⟨i, j, xs, rfl, rfl, hij, hj, hg, hxl, HT, HD, HRr, HGr⟩ := hrel
      by_cases hlt : j < l.length
      · have hltz : (j : Int) < (l.length : Int) := by omega
        obtain ⟨hx, _⟩ := Kd.R_celln 0 HRr.out (j : Int) (by omega) (by omega)
        obtain ⟨hy, hf⟩ := Kd.R_celln 0 HRr.out (i : Int) (by omega) (by omega)
        have hrd : rdOf 0 xs (j : Int) = l[j] := by rw [← del_get l xs j hlt hxl HD.out]; simp [rdOf, show j < xs.length by omega]
        rw [hrd, Int.toNat_natCast] at hx
        rw [Int.toNat_natCast] at hy hf
        have hcall := HP.out l[j] (List.getElem_mem hlt) wr HGr.out
        have HK := Aside0.mk (fun h => del_keep (fun x => !p x) l xs i j hij hlt hxl HT.out HD.out h)
        have HS2 := Aside0.mk (fun h => del_skip (fun x => !p x) l xs i j hlt HT.out HD.out h)
        clear hrd
        generalize l[j] = y at hx hcall HK HS2
        cases hq : p y with
        | false =>
          rw [hq] at hcall
          have HK2 := Aside0.mk (HK.out (by simp [hq]))
          clear HK HS2
          go_wp2_with fail
          refine hcall.mono ?_
          rintro e w2 ⟨rfl, hG2⟩
          have HR2 := Aside0.mk (Kd.R_below HRr.out hG2)
          have HG2 := Aside0.mk (Below.trans HGr.out (hG2.mono (Nat.le_trans hbase HGr.out.size)))
          obtain ⟨hy, hf⟩ := Kd.R_celln 0 HR2.out (i : Int) (by omega) (by omega)
          rw [Int.toNat_natCast] at hy hf
          have HW := Aside0.mk (Kd.R_putn HR2.out (i : Int) y)
          clear hcall hx hG2
          go_wp2_with fail
          go_roundg (l.length - (j + 1))
          case measure => omega
          case rel => exact ⟨i + 1, j + 1, xs.set i y, by go_num, by go_num, by omega, by omega, by omega, by rw [List.length_set]; exact hxl, ⟨HK2.out.1⟩, ⟨HK2.out.2⟩, HW, ⟨Below.setCell HG2.out gb _⟩⟩
        | true =>
          rw [hq] at hcall
          have HK2 := Aside0.mk (HS2.out (by simp [hq]))
          clear HK HS2
          go_wp2_with fail
          refine hcall.mono ?_
          rintro e w2 ⟨rfl, hG2⟩
          have HR2 := Aside0.mk (Kd.R_below HRr.out hG2)
          have HG2 := Aside0.mk (Below.trans HGr.out (hG2.mono (Nat.le_trans hbase HGr.out.size)))
          clear hcall hx hy hf hG2
          go_wp2_with fail
          go_roundg (l.length - (j + 1))
          case measure => omega
          case rel => exact ⟨i, j + 1, xs, rfl, by go_num, by omega, by omega, by omega, hxl, ⟨HK2.out.1⟩, ⟨HK2.out.2⟩, HR2, HG2⟩
      · obtain rfl : j = l.length := by omega
        have hltz : ¬ (l.length : Int) < (l.length : Int) := by omega
        have HT2 : Aside0 (xs.take i = l.filter (fun x => !p x)) := ⟨by have := HT.out; rwa [List.take_length] at this⟩
        clear HT HD
        have hcl : ∀ ty, (Builtin.clear_ #[23] ty #[.slice (some ⟨G, i, none⟩) (l.length - i) (c - i)]).run Try.prog wr = .ok (.tuple #[]) (wr.setCells G i (List.replicate (l.length - i) (I 0))) :=
          fun ty => Lib.run_clear_slice wr _ _ ty _ Try.underlying23 (fun w => by kernel_rfl) rfl rfl G i _ _ (by omega) (fun t ht => by
            obtain ⟨h1, h2⟩ := Kd.R_celln 0 HRr.out ((i + t : Nat) : Int) (by omega) (by omega)
            rw [Int.toNat_natCast] at h1
            rw [h1]; rfl) (fun t ht => by
            obtain ⟨h1, h2⟩ := Kd.R_celln 0 HRr.out ((i + t : Nat) : Int) (by omega) (by omega)
            rw [Int.toNat_natCast] at h2
            exact h2)
        have hic : i < c := by have := HC.out; omega
        go_wp2_with fail
        go_ret
        obtain ⟨ys, h1, h2, h3⟩ := Ri.clear (l.length - i) i wr xs HRr.out
        refine ⟨_, rfl, ?_, below_setCells gb _ _ _ HGr.out⟩
        have h4 := Kd.R_take h3 (m := i) (by omega)
        rw [h1, HT2.out] at h4
        exact h4

end Go.Proofs.Ytoeapnempdgagaa.K
end

section
/- Written by a program of this session (myprint.py over the kit's print). -/
namespace Go.Proofs.Ytoeapnempdgagaa.RB
open Go.RowKit Go.Proofs.Ytoeapnempdgagaa.Q Go.Proofs.Ytoeapnempdgagaa.X Go.Proofs.YtoeapnempdgagaaW.PrintWords Go.Proofs.YtoeapnempdgagaaW.PrintLast Go.Proofs.YtoeapnempdgagaaW.PrintMore
attribute [local go_sem] max2_int min2_int max_two min_two max_three min_three max_four min_four   -- for this text's walks alone
set_option linter.unusedVariables false
set_option linter.unusedSimpArgs false



def errW : Option Int → Value
  | none => .nilIface
  | some c => .iface 0 (.int .i64 c)
theorem errW_none : errW none = .nilIface := rfl
theorem errW_some (c : Int) : errW (some c) = .iface 0 (.int .i64 c) := rfl

-- the values' own types

end Go.Proofs.Ytoeapnempdgagaa.RB
end

section
/- Written by a program of this session (myprint.py over the kit's print). -/
namespace Go.Proofs.Ytoeapnempdgagaa.RB
open Go.RowKit Go.Proofs.Ytoeapnempdgagaa.Q Go.Proofs.Ytoeapnempdgagaa.X Go.Proofs.YtoeapnempdgagaaW.PrintWords Go.Proofs.YtoeapnempdgagaaW.PrintLast Go.Proofs.YtoeapnempdgagaaW.PrintMore
attribute [local go_sem] max2_int min2_int max_two min_two max_three min_three max_four min_four   -- for this text's walks alone
set_option linter.unusedVariables false
set_option linter.unusedSimpArgs false

/-! ### laws_FnExactComplexOf: function 4 -/
mutual
def laws_FnExactComplexOf.j0 : Nat → Int → List Int → Int → List Int → Int → Bool → Int → List Int → Int → List Int → Option (Bool)
  | 0, _, _, _, _, _, _, _, _, _, _ => none
  | k + 1, x0, x1, x6, x7, x9, x41, x110000, x110001, x119000, x119001 => if x41 = true then (some false) else ((laws_toInt64S.f k x1).bind fun t120 => ((laws_eqInt64S.f k x7 t120).bind fun t123 => (if t123 = true then ((laws_markInt64S.f k x7 1).bind fun bt124 => (if bt124.1 < 0 then (laws_FnExactComplexOf.j1 k x0 x1 x6 true x110000 x110001 x119000 x119001) else ((laws_eqComplex.f k x119000 x119001 x110000 x110001).bind fun t126 => (if t126 = true then (laws_FnExactComplexOf.j1 k x0 x1 x6 (x9 != x6) x110000 x110001 x119000 x119001) else (laws_FnExactComplexOf.j1 k x0 x1 x6 true x110000 x110001 x119000 x119001))))) else (some false))))
def laws_FnExactComplexOf.j1 : Nat → Int → List Int → Int → Bool → Int → List Int → Int → List Int → Option (Bool)
  | 0, _, _, _, _, _, _, _, _ => none
  | k + 1, x0, x1, x6, x62, x110000, x110001, x119000, x119001 => if x62 = true then (some false) else ((laws_markComplex.f k x119000 x119001 1).bind fun bt127 => ((laws_heldComplex.f k x119000 bt127.2 1).bind fun t129 => (if t129 < 0 then (some false) else (if t129 = bt127.1 then ((laws_toInt64S.f k x1).bind fun t130 => ((impl_ComplexOf.f x0 t130).bind fun bt133 => ((laws_eqComplex.f k bt133.1 bt133.2.1 x110000 x110001).bind fun t139 => (if t139 = true then (laws_FnExactComplexOf.j2 k bt127.1 (bt133.2.2 != x6) x119000 bt127.2) else (laws_FnExactComplexOf.j2 k bt127.1 true x119000 bt127.2))))) else (some false)))))
def laws_FnExactComplexOf.j2 : Nat → Int → Bool → Int → List Int → Option (Bool)
  | 0, _, _, _, _ => none
  | k + 1, x11, x89, x119000, x119001 => if x89 = true then (some false) else ((laws_heldComplex.f k x119000 x119001 1).bind fun t140 => (if t140 < 0 then (some false) else (if t140 = x11 then (some true) else (some false))))
end
def laws_FnExactComplexOf.f (k : Nat) (a0 : Int) (l1 : List Int) : Option (Bool) := if (l1.length : Int) > 1048576 then (some true) else ((laws_toInt64S.f k l1).bind fun t101 => ((spec_ComplexOf.f k a0 t101).bind fun bt104 => ((laws_toInt64S.f k l1).bind fun t110 => ((impl_ComplexOf.f a0 t110).bind fun bt113 => ((laws_eqComplex.f k bt113.1 bt113.2.1 bt104.1 bt104.2.1).bind fun t119 => (if t119 = true then (laws_FnExactComplexOf.j0 k a0 l1 bt104.2.2 t110 bt113.2.2 (bt113.2.2 != bt104.2.2) bt104.1 bt104.2.1 bt113.1 bt113.2.1) else (laws_FnExactComplexOf.j0 k a0 l1 bt104.2.2 t110 bt113.2.2 true bt104.1 bt104.2.1 bt113.1 bt113.2.1)))))))
theorem laws_FnExactComplexOf.mono_l : ∀ k, (∀ y0 y1 y2 y3 y4 y5 y6 y7 y8 y9, LeO (laws_FnExactComplexOf.j0 k y0 y1 y2 y3 y4 y5 y6 y7 y8 y9) (laws_FnExactComplexOf.j0 (k + 1) y0 y1 y2 y3 y4 y5 y6 y7 y8 y9)) ∧ (∀ y0 y1 y2 y3 y4 y5 y6 y7, LeO (laws_FnExactComplexOf.j1 k y0 y1 y2 y3 y4 y5 y6 y7) (laws_FnExactComplexOf.j1 (k + 1) y0 y1 y2 y3 y4 y5 y6 y7)) ∧ (∀ y0 y1 y2 y3, LeO (laws_FnExactComplexOf.j2 k y0 y1 y2 y3) (laws_FnExactComplexOf.j2 (k + 1) y0 y1 y2 y3))
  | 0 => ⟨fun _ _ _ _ _ _ _ _ _ _ r h => by simp [laws_FnExactComplexOf.j0] at h, fun _ _ _ _ _ _ _ _ r h => by simp [laws_FnExactComplexOf.j1] at h, fun _ _ _ _ r h => by simp [laws_FnExactComplexOf.j2] at h⟩
  | k + 1 => by
    obtain ⟨ih0, ih1, ih2⟩ := laws_FnExactComplexOf.mono_l k
    refine ⟨?_, ?_, ?_⟩
    · intro y0 y1 y2 y3 y4 y5 y6 y7 y8 y9
      unfold laws_FnExactComplexOf.j0
      repeat' first
      | (with_reducible exact ih0 _ _ _ _ _ _ _ _ _ _)
      | (with_reducible exact ih1 _ _ _ _ _ _ _ _)
      | (with_reducible exact ih2 _ _ _ _)
      | (with_reducible exact laws_eqComplex.mono _ _ _ _ _)
      | (with_reducible exact laws_eqInt64S.mono _ _ _)
      | (with_reducible exact laws_heldComplex.mono _ _ _ _)
      | (with_reducible exact laws_markComplex.mono _ _ _ _)
      | (with_reducible exact laws_markInt64S.mono _ _ _)
      | (with_reducible exact laws_toInt64S.mono _ _)
      | (with_reducible exact spec_ComplexOf.mono _ _ _)
      | (with_reducible exact LeO.refl _)
      | (with_reducible exact LeO.none _)
      | (with_reducible refine LeO.ite ?_ ?_)
      | (with_reducible refine LeO.bind ?_ (fun _ => ?_))
      | exact ih0 _ _ _ _ _ _ _ _ _ _
      | exact ih1 _ _ _ _ _ _ _ _
      | exact ih2 _ _ _ _
      | exact laws_eqComplex.mono _ _ _ _ _
      | exact laws_eqInt64S.mono _ _ _
      | exact laws_heldComplex.mono _ _ _ _
      | exact laws_markComplex.mono _ _ _ _
      | exact laws_markInt64S.mono _ _ _
      | exact laws_toInt64S.mono _ _
      | exact spec_ComplexOf.mono _ _ _
      | exact LeO.none _
      | refine LeO.ite ?_ ?_
      | refine LeO.bind ?_ (fun _ => ?_)
    · intro y0 y1 y2 y3 y4 y5 y6 y7
      unfold laws_FnExactComplexOf.j1
      repeat' first
      | (with_reducible exact ih0 _ _ _ _ _ _ _ _ _ _)
      | (with_reducible exact ih1 _ _ _ _ _ _ _ _)
      | (with_reducible exact ih2 _ _ _ _)
      | (with_reducible exact laws_eqComplex.mono _ _ _ _ _)
      | (with_reducible exact laws_eqInt64S.mono _ _ _)
      | (with_reducible exact laws_heldComplex.mono _ _ _ _)
      | (with_reducible exact laws_markComplex.mono _ _ _ _)
      | (with_reducible exact laws_markInt64S.mono _ _ _)
      | (with_reducible exact laws_toInt64S.mono _ _)
      | (with_reducible exact spec_ComplexOf.mono _ _ _)
      | (with_reducible exact LeO.refl _)
      | (with_reducible exact LeO.none _)
      | (with_reducible refine LeO.ite ?_ ?_)
      | (with_reducible refine LeO.bind ?_ (fun _ => ?_))
      | exact ih0 _ _ _ _ _ _ _ _ _ _
      | exact ih1 _ _ _ _ _ _ _ _
      | exact ih2 _ _ _ _
      | exact laws_eqComplex.mono _ _ _ _ _
      | exact laws_eqInt64S.mono _ _ _
      | exact laws_heldComplex.mono _ _ _ _
      | exact laws_markComplex.mono _ _ _ _
      | exact laws_markInt64S.mono _ _ _
      | exact laws_toInt64S.mono _ _
      | exact spec_ComplexOf.mono _ _ _
      | exact LeO.none _
      | refine LeO.ite ?_ ?_
      | refine LeO.bind ?_ (fun _ => ?_)
    · intro y0 y1 y2 y3
      unfold laws_FnExactComplexOf.j2
      repeat' first
      | (with_reducible exact ih0 _ _ _ _ _ _ _ _ _ _)
      | (with_reducible exact ih1 _ _ _ _ _ _ _ _)
      | (with_reducible exact ih2 _ _ _ _)
      | (with_reducible exact laws_eqComplex.mono _ _ _ _ _)
      | (with_reducible exact laws_eqInt64S.mono _ _ _)
      | (with_reducible exact laws_heldComplex.mono _ _ _ _)
      | (with_reducible exact laws_markComplex.mono _ _ _ _)
      | (with_reducible exact laws_markInt64S.mono _ _ _)
      | (with_reducible exact laws_toInt64S.mono _ _)
      | (with_reducible exact spec_ComplexOf.mono _ _ _)
      | (with_reducible exact LeO.refl _)
      | (with_reducible exact LeO.none _)
      | (with_reducible refine LeO.ite ?_ ?_)
      | (with_reducible refine LeO.bind ?_ (fun _ => ?_))
      | exact ih0 _ _ _ _ _ _ _ _ _ _
      | exact ih1 _ _ _ _ _ _ _ _
      | exact ih2 _ _ _ _
      | exact laws_eqComplex.mono _ _ _ _ _
      | exact laws_eqInt64S.mono _ _ _
      | exact laws_heldComplex.mono _ _ _ _
      | exact laws_markComplex.mono _ _ _ _
      | exact laws_markInt64S.mono _ _ _
      | exact laws_toInt64S.mono _ _
      | exact spec_ComplexOf.mono _ _ _
      | exact LeO.none _
      | refine LeO.ite ?_ ?_
      | refine LeO.bind ?_ (fun _ => ?_)
theorem laws_FnExactComplexOf.mono : ∀ a0 a1 k, LeO (laws_FnExactComplexOf.f k a0 a1) (laws_FnExactComplexOf.f (k + 1) a0 a1) := by
  intro a0 a1 k
  obtain ⟨ih0, ih1, ih2⟩ := laws_FnExactComplexOf.mono_l k
  unfold laws_FnExactComplexOf.f
  repeat' first
      | (with_reducible exact ih0 _ _ _ _ _ _ _ _ _ _)
      | (with_reducible exact ih1 _ _ _ _ _ _ _ _)
      | (with_reducible exact ih2 _ _ _ _)
      | (with_reducible exact laws_eqComplex.mono _ _ _ _ _)
      | (with_reducible exact laws_eqInt64S.mono _ _ _)
      | (with_reducible exact laws_heldComplex.mono _ _ _ _)
      | (with_reducible exact laws_markComplex.mono _ _ _ _)
      | (with_reducible exact laws_markInt64S.mono _ _ _)
      | (with_reducible exact laws_toInt64S.mono _ _)
      | (with_reducible exact spec_ComplexOf.mono _ _ _)
      | (with_reducible exact LeO.refl _)
      | (with_reducible exact LeO.none _)
      | (with_reducible refine LeO.ite ?_ ?_)
      | (with_reducible refine LeO.bind ?_ (fun _ => ?_))
      | exact ih0 _ _ _ _ _ _ _ _ _ _
      | exact ih1 _ _ _ _ _ _ _ _
      | exact ih2 _ _ _ _
      | exact laws_eqComplex.mono _ _ _ _ _
      | exact laws_eqInt64S.mono _ _ _
      | exact laws_heldComplex.mono _ _ _ _
      | exact laws_markComplex.mono _ _ _ _
      | exact laws_markInt64S.mono _ _ _
      | exact laws_toInt64S.mono _ _
      | exact spec_ComplexOf.mono _ _ _
      | exact LeO.none _
      | refine LeO.ite ?_ ?_
      | refine LeO.bind ?_ (fun _ => ?_)
set_option maxHeartbeats 8000000 in
set_option maxRecDepth 100000 in
theorem laws_FnExactComplexOf.calls (k : Nat) (a0 : Int) (A1 : Option Addr) (c1 : Nat) (l1 : List Int) (r : Bool) (w : World) (hr1 : Kd.C (Kd.int .i64) w A1 l1.length l1) (hc1 : l1.length ≤ c1) (h : laws_FnExactComplexOf.f k a0 l1 = some r) :
    Calls Try.prog 4 #[.int .i64 a0, .slice A1 l1.length c1] w fun e w' => e = .returned (.bool r) ∧ Below w.heap.size w w' := by
  have hu25 := Try.underlying25
  have HR1 := Aside0.mk hr1
  have HC1 := Aside0.mk hc1
  clear hr1 hc1
  have HB := Aside0.mk (Below.refl w.heap.size w)
  have H : (if (l1.length : Int) > 1048576 then (some true) else ((laws_toInt64S.f k l1).bind fun t101 => ((spec_ComplexOf.f k a0 t101).bind fun bt104 => ((laws_toInt64S.f k l1).bind fun t110 => ((impl_ComplexOf.f a0 t110).bind fun bt113 => ((laws_eqComplex.f k bt113.1 bt113.2.1 bt104.1 bt104.2.1).bind fun t119 => (if t119 = true then (laws_FnExactComplexOf.j0 k a0 l1 bt104.2.2 t110 bt113.2.2 (bt113.2.2 != bt104.2.2) bt104.1 bt104.2.1 bt113.1 bt113.2.1) else (laws_FnExactComplexOf.j0 k a0 l1 bt104.2.2 t110 bt113.2.2 true bt104.1 bt104.2.1 bt113.1 bt113.2.1)))))))) = some r := h
  clear h
  by_cases c3 : (l1.length : Int) > 1048576
  · rw [if_pos c3] at H
    have c3b0 : decide (1048576 < (l1.length : Int)) = true := decide_eq_true c3
    have c3b1 : decide (1048576 < l1.length) = true := decide_eq_true (by omega)
    clear c3
    obtain rfl := Option.some.inj H
    go_enter Try.func4, Try.ntmps4
    go_wp2
    go_ret
    exact ⟨by first | rfl | (simp [errW_none, errW_some] <;> rfl) | (simp [*, errW_none, errW_some] <;> rfl), by repeat (first | (with_reducible first | exact HB.out | apply below_alloc | apply pw_below_drewN | apply below_drew1) | exact HB.out)⟩
  · rw [if_neg c3] at H
    have c3b0 : decide (1048576 < (l1.length : Int)) = false := decide_eq_false c3
    have c3b1 : decide (1048576 < l1.length) = false := decide_eq_false (by omega)
    clear c3
    replace H := Option.bind_eq_some_iff.mp H
    obtain ⟨t101, A40, H⟩ := H
    replace H : ((spec_ComplexOf.f k a0 t101).bind fun bt104 => ((laws_toInt64S.f k l1).bind fun t110 => ((impl_ComplexOf.f a0 t110).bind fun bt113 => ((laws_eqComplex.f k bt113.1 bt113.2.1 bt104.1 bt104.2.1).bind fun t119 => (if t119 = true then (laws_FnExactComplexOf.j0 k a0 l1 bt104.2.2 t110 bt113.2.2 (bt113.2.2 != bt104.2.2) bt104.1 bt104.2.1 bt113.1 bt113.2.1) else (laws_FnExactComplexOf.j0 k a0 l1 bt104.2.2 t110 bt113.2.2 true bt104.1 bt104.2.1 bt113.1 bt113.2.1)))))) = some r := H
    have A4 := Aside0.mk A40
    clear A40
    replace H := Option.bind_eq_some_iff.mp H
    obtain ⟨⟨t104, t105, t108⟩, A50, H⟩ := H
    replace H : ((laws_toInt64S.f k l1).bind fun t110 => ((impl_ComplexOf.f a0 t110).bind fun bt113 => ((laws_eqComplex.f k bt113.1 bt113.2.1 t104 t105).bind fun t119 => (if t119 = true then (laws_FnExactComplexOf.j0 k a0 l1 t108 t110 bt113.2.2 (bt113.2.2 != t108) t104 t105 bt113.1 bt113.2.1) else (laws_FnExactComplexOf.j0 k a0 l1 t108 t110 bt113.2.2 true t104 t105 bt113.1 bt113.2.1))))) = some r := H
    have A5 := Aside0.mk A50
    clear A50
    replace H := Option.bind_eq_some_iff.mp H
    obtain ⟨t110, A60, H⟩ := H
    replace H : ((impl_ComplexOf.f a0 t110).bind fun bt113 => ((laws_eqComplex.f k bt113.1 bt113.2.1 t104 t105).bind fun t119 => (if t119 = true then (laws_FnExactComplexOf.j0 k a0 l1 t108 t110 bt113.2.2 (bt113.2.2 != t108) t104 t105 bt113.1 bt113.2.1) else (laws_FnExactComplexOf.j0 k a0 l1 t108 t110 bt113.2.2 true t104 t105 bt113.1 bt113.2.1)))) = some r := H
    have A6 := Aside0.mk A60
    clear A60
    replace H := Option.bind_eq_some_iff.mp H
    obtain ⟨⟨t113, t114, t117⟩, A70, H⟩ := H
    replace H : ((laws_eqComplex.f k t113 t114 t104 t105).bind fun t119 => (if t119 = true then (laws_FnExactComplexOf.j0 k a0 l1 t108 t110 t117 (t117 != t108) t104 t105 t113 t114) else (laws_FnExactComplexOf.j0 k a0 l1 t108 t110 t117 true t104 t105 t113 t114))) = some r := H
    have A7 := Aside0.mk A70
    clear A70
    have HC8 := Aside0.mk H
    clear H
    go_enter Try.func4, Try.ntmps4
    go_upto_region 6 with (first | ((with_reducible refine gate_callee (f := 16) rfl ?_); refine goesL_ (some 21) rfl rfl Try.func16 (by kernel_rfl) rfl #[.slice A1 l1.length c1] rfl (by (try simp only [List.map_toArray, List.map_cons, List.map_nil]); first | done | rfl | (simp only [List.length_drop, List.length_take]; rfl)) ?_; (with_reducible refine (laws_toInt64S.calls k _ _ l1 t101 _ ?side1 ?side2 A4.out).mono ?_); (case side1 => repeat (first | exact HR1.out | (with_reducible refine Kd.C_alloc ?_ _) | (with_reducible refine Kd.C_drewN ?_ _) | (with_reducible refine Kd.C_drew ?_))); (case side2 => exact HC1.out); rintro e w9 ⟨v102, rfl, ho0, hb⟩; refine ⟨_, rfl, ?_⟩; have n0_ := Aside0.mk (Kd.R_lower ho0 (below_size (by repeat (first | (with_reducible first | exact HB.out | apply below_alloc | apply pw_below_drewN | apply below_drew1) | exact HB.out)))); have n1_ := Aside0.mk (below_step (by repeat (first | (with_reducible first | exact HB.out | apply below_alloc | apply pw_below_drewN | apply below_drew1) | exact HB.out)) hb); clear HB; have HO103 := n0_; have HB := n1_; clear n0_ n1_; (try clear hb); (try clear hb2); (try clear hk); (try clear hi); (try clear ho0); obtain ⟨Ao10, co10, eo10⟩ := Kd.R_slice HO103.out; subst eo10) | ((with_reducible refine gate_callee (f := 15) rfl ?_); refine goesL_ (some 22) rfl rfl Try.func15 (by kernel_rfl) rfl #[.int .i64 a0, .slice Ao10 t101.length co10] rfl (by (try simp only [List.map_toArray, List.map_cons, List.map_nil]); first | done | rfl | (simp only [List.length_drop, List.length_take]; rfl)) ?_; (with_reducible refine (spec_ComplexOf.calls k a0 _ _ t101 t104 t105 t108 _ ?side1 ?side2 A5.out).mono ?_); (case side1 => repeat (first | exact (Kd.R_reads' HO103.out).2.2 | (with_reducible refine Kd.C_alloc ?_ _) | (with_reducible refine Kd.C_drewN ?_ _) | (with_reducible refine Kd.C_drew ?_))); (case side2 => exact (Kd.R_reads' HO103.out).2.1); rintro e w11 ⟨v106, rfl, ho0, hb⟩; refine ⟨_, rfl, ?_⟩; have n0_ := Aside0.mk (Kd.R_elder' (by (with_reducible repeat (first | apply Kd.R_alloc | apply Kd.R_drewN | apply Kd.R_drew)); exact HO103.out) (Kd.R_base ho0) hb); have n1_ := Aside0.mk (Kd.R_lower (Kd.R_new' ho0 (Kd.R_lt (by (with_reducible repeat (first | apply Kd.R_alloc | apply Kd.R_drewN | apply Kd.R_drew)); exact HO103.out))) (below_size (by repeat (first | (with_reducible first | exact HB.out | apply below_alloc | apply pw_below_drewN | apply below_drew1) | exact HB.out)))); have n2_ := Aside0.mk (below_step (by repeat (first | (with_reducible first | exact HB.out | apply below_alloc | apply pw_below_drewN | apply below_drew1) | exact HB.out)) hb); clear HO103; clear HB; have HO103 := n0_; have HO107 := n1_; have HB := n2_; clear n0_ n1_ n2_; (try clear hb); (try clear hb2); (try clear hk); (try clear hi); (try clear ho0)) | ((with_reducible refine gate_dst (N := 5) rfl ?_); refine box_event ?hg (N := 5) ?hd (cs := #[.int .i64 0, .slice none 0 0]) (t := 25) ?hr ?_; (case hd => rfl); (case hg => rfl); (case hr => first | (go_simp; done) | (go_simp; rfl)); intro gb109 hg w12 hbox hb; have n0_ := Aside0.mk (Kd.R_below (by (with_reducible repeat (first | apply Kd.R_alloc | apply Kd.R_drewN | apply Kd.R_drew)); exact HO103.out) hb); have n1_ := Aside0.mk (Kd.R_below (by (with_reducible repeat (first | apply Kd.R_alloc | apply Kd.R_drewN | apply Kd.R_drew)); exact HO107.out) hb); have n2_ := Aside0.mk (below_step (by repeat (first | (with_reducible first | exact HB.out | apply below_alloc | apply pw_below_drewN | apply below_drew1) | exact HB.out)) hb); have n3_ := Aside0.mk (hbox); have n4_ := Aside0.mk ((by rw [hg]; exact (below_size (by repeat (first | (with_reducible first | exact HB.out | apply below_alloc | apply pw_below_drewN | apply below_drew1) | exact HB.out))) : w.heap.size ≤ gb109)); have n5_ := Aside0.mk ((by rw [hg]; exact (below_size (by repeat (first | (with_reducible first | exact HB.out | apply below_alloc | apply pw_below_drewN | apply below_drew1) | exact HB.out))) : w.heap.size ≤ gb109)); clear HO103; clear HO107; clear HB; have HO103 := n0_; have HO107 := n1_; have HB := n2_; have BK109 := n3_; have GW109 := n4_; have GE109 := n5_; clear n0_ n1_ n2_ n3_ n4_ n5_; clear hb hbox hg; have hcz13_0 : w12.cell? ⟨gb109, 0, none⟩ = some (.int .i64 0) := (blk_cell BK109.out 0).trans rfl; have hcz13_1 : w12.cell? ⟨gb109, 1, none⟩ = some (.slice none 0 0) := (blk_cell BK109.out 1).trans rfl; have hfz13_0 := blk_frozen BK109.out 0; have hfz13_1 := blk_frozen BK109.out 1; obtain ⟨Ao14, co14, eo14⟩ := Kd.R_slice HO107.out; subst eo14) | ((with_reducible refine gate_callee (f := 16) rfl ?_); refine goesL_ (some 26) rfl rfl Try.func16 (by kernel_rfl) rfl #[.slice A1 l1.length c1] rfl (by (try simp only [List.map_toArray, List.map_cons, List.map_nil]); first | done | rfl | (simp only [List.length_drop, List.length_take]; rfl)) ?_; (with_reducible refine (laws_toInt64S.calls k _ _ l1 t110 _ ?side1 ?side2 A6.out).mono ?_); (case side1 => exact Kd.C_below HR1.out (by repeat (first | (with_reducible first | exact HB.out | apply below_alloc | apply pw_below_drewN | apply below_drew1 | refine below_set ?_ GE109.out) | exact HB.out))); (case side2 => exact HC1.out); rintro e w15 ⟨v111, rfl, ho0, hb⟩; refine ⟨_, rfl, ?_⟩; have n0_ := Aside0.mk (Kd.R_elder' (by (with_reducible repeat (first | apply Kd.R_alloc | apply Kd.R_drewN | apply Kd.R_drew)); exact (Kd.R_mono (Kd.R_far (p := ⟨gb109, 1, none⟩) (Kd.R_far (p := ⟨gb109, 0, none⟩) (Kd.R_types HO103.out BK109.out (by decide)) (fun _ hk => hk.2) (.int .i64 t104)) (fun _ hk => hk.2) (.slice Ao14 t105.length co14)) (fun _ h_ => h_.1))) (Kd.R_base ho0) hb); have n1_ := Aside0.mk (Kd.R_elder' (by (with_reducible repeat (first | apply Kd.R_alloc | apply Kd.R_drewN | apply Kd.R_drew)); exact (Kd.R_mono (Kd.R_far (p := ⟨gb109, 1, none⟩) (Kd.R_far (p := ⟨gb109, 0, none⟩) (Kd.R_types HO107.out BK109.out (by decide)) (fun _ hk => hk.2) (.int .i64 t104)) (fun _ hk => hk.2) (.slice Ao14 t105.length co14)) (fun _ h_ => h_.1))) (Kd.R_base ho0) hb); have n2_ := Aside0.mk (Kd.R_lower (Kd.R_new' (Kd.R_new' ho0 (Kd.R_lt (by (with_reducible repeat (first | apply Kd.R_alloc | apply Kd.R_drewN | apply Kd.R_drew)); exact (Kd.R_mono (Kd.R_far (p := ⟨gb109, 1, none⟩) (Kd.R_far (p := ⟨gb109, 0, none⟩) (Kd.R_types HO103.out BK109.out (by decide)) (fun _ hk => hk.2) (.int .i64 t104)) (fun _ hk => hk.2) (.slice Ao14 t105.length co14)) (fun _ h_ => h_.1))))) (Kd.R_lt (by (with_reducible repeat (first | apply Kd.R_alloc | apply Kd.R_drewN | apply Kd.R_drew)); exact (Kd.R_mono (Kd.R_far (p := ⟨gb109, 1, none⟩) (Kd.R_far (p := ⟨gb109, 0, none⟩) (Kd.R_types HO107.out BK109.out (by decide)) (fun _ hk => hk.2) (.int .i64 t104)) (fun _ hk => hk.2) (.slice Ao14 t105.length co14)) (fun _ h_ => h_.1))))) (below_size (by repeat (first | (with_reducible first | exact HB.out | apply below_alloc | apply pw_below_drewN | apply below_drew1 | refine below_set ?_ GE109.out) | exact HB.out)))); have n3_ := Aside0.mk (blk_below (g := gb109) (o := .cells #[.int .i64 t104, .slice Ao14 t105.length co14] 25 (0, 0)) (by (with_reducible repeat (first | refine blk_drewN ?_ _ | refine blk_drew ?_ | refine blk_alloc ?_ _)); refine blk_put (cs := #[.int .i64 t104, .slice none 0 0]) ?_ 1 _ rfl; (with_reducible repeat (first | refine blk_drewN ?_ _ | refine blk_drew ?_ | refine blk_alloc ?_ _)); refine blk_put (cs := #[.int .i64 0, .slice none 0 0]) ?_ 0 _ rfl; (with_reducible repeat (first | refine blk_drewN ?_ _ | refine blk_drew ?_ | refine blk_alloc ?_ _)); exact BK109.out) hb); have n4_ := Aside0.mk (below_step (by repeat (first | (with_reducible first | exact HB.out | apply below_alloc | apply pw_below_drewN | apply below_drew1 | refine below_set ?_ GE109.out) | exact HB.out)) hb); clear HO103; clear HO107; clear BK109; clear HB; have HO103 := n0_; have HO107 := n1_; have HO112 := n2_; have BK109 := n3_; have HB := n4_; clear n0_ n1_ n2_ n3_ n4_; (try clear hb); (try clear hb2); (try clear hk); (try clear hi); (try clear ho0); obtain ⟨Ao16, co16, eo16⟩ := Kd.R_slice HO112.out; subst eo16) | ((with_reducible refine gate_callee (f := 17) rfl ?_); refine goesL_ (some 30) rfl rfl Try.func17 (by kernel_rfl) rfl #[.int .i64 a0, .slice Ao16 t110.length co16] rfl (by (try simp only [List.map_toArray, List.map_cons, List.map_nil]); first | done | rfl | (simp only [List.length_drop, List.length_take]; rfl)) ?_; (with_reducible refine (impl_ComplexOf.calls a0 _ _ t110 t113 t114 t117 _ ?side1 ?side2 A7.out).mono ?_); (case side1 => repeat (first | exact (Kd.R_reads' HO112.out).2.2 | (with_reducible refine Kd.C_alloc ?_ _) | (with_reducible refine Kd.C_drewN ?_ _) | (with_reducible refine Kd.C_drew ?_))); (case side2 => exact (Kd.R_reads' HO112.out).2.1); rintro e w17 ⟨v115, rfl, ho0, hb⟩; refine ⟨_, rfl, ?_⟩; have n0_ := Aside0.mk (Kd.R_elder' (by (with_reducible repeat (first | apply Kd.R_alloc | apply Kd.R_drewN | apply Kd.R_drew)); exact HO103.out) (Kd.R_base ho0) hb); have n1_ := Aside0.mk (Kd.R_elder' (by (with_reducible repeat (first | apply Kd.R_alloc | apply Kd.R_drewN | apply Kd.R_drew)); exact HO107.out) (Kd.R_base ho0) hb); have n2_ := Aside0.mk (Kd.R_elder' (by (with_reducible repeat (first | apply Kd.R_alloc | apply Kd.R_drewN | apply Kd.R_drew)); exact HO112.out) (Kd.R_base ho0) hb); have n3_ := Aside0.mk (Kd.R_lower (Kd.R_new' (Kd.R_new' (Kd.R_new' ho0 (Kd.R_lt (by (with_reducible repeat (first | apply Kd.R_alloc | apply Kd.R_drewN | apply Kd.R_drew)); exact HO103.out))) (Kd.R_lt (by (with_reducible repeat (first | apply Kd.R_alloc | apply Kd.R_drewN | apply Kd.R_drew)); exact HO107.out))) (Kd.R_lt (by (with_reducible repeat (first | apply Kd.R_alloc | apply Kd.R_drewN | apply Kd.R_drew)); exact HO112.out))) (below_size (by repeat (first | (with_reducible first | exact HB.out | apply below_alloc | apply pw_below_drewN | apply below_drew1 | refine below_set ?_ GE109.out) | exact HB.out)))); have n4_ := Aside0.mk (blk_below (g := gb109) (o := .cells #[.int .i64 t104, .slice Ao14 t105.length co14] 25 (0, 0)) (by (with_reducible repeat (first | refine blk_drewN ?_ _ | refine blk_drew ?_ | refine blk_alloc ?_ _)); exact BK109.out) hb); have n5_ := Aside0.mk (below_step (by repeat (first | (with_reducible first | exact HB.out | apply below_alloc | apply pw_below_drewN | apply below_drew1 | refine below_set ?_ GE109.out) | exact HB.out)) hb); clear HO103; clear HO107; clear HO112; clear BK109; clear HB; have HO103 := n0_; have HO107 := n1_; have HO112 := n2_; have HO116 := n3_; have BK109 := n4_; have HB := n5_; clear n0_ n1_ n2_ n3_ n4_ n5_; (try clear hb); (try clear hb2); (try clear hk); (try clear hi); (try clear ho0)) | ((with_reducible refine gate_dst (N := 8) rfl ?_); refine box_event ?hg (N := 8) ?hd (cs := #[.int .i64 0, .slice none 0 0]) (t := 25) ?hr ?_; (case hd => rfl); (case hg => rfl); (case hr => first | (go_simp; done) | (go_simp; rfl)); intro gb118 hg w18 hbox hb; have n0_ := Aside0.mk (Kd.R_below (by (with_reducible repeat (first | apply Kd.R_alloc | apply Kd.R_drewN | apply Kd.R_drew)); exact HO103.out) hb); have n1_ := Aside0.mk (Kd.R_below (by (with_reducible repeat (first | apply Kd.R_alloc | apply Kd.R_drewN | apply Kd.R_drew)); exact HO107.out) hb); have n2_ := Aside0.mk (Kd.R_below (by (with_reducible repeat (first | apply Kd.R_alloc | apply Kd.R_drewN | apply Kd.R_drew)); exact HO112.out) hb); have n3_ := Aside0.mk (Kd.R_below (by (with_reducible repeat (first | apply Kd.R_alloc | apply Kd.R_drewN | apply Kd.R_drew)); exact HO116.out) hb); have n4_ := Aside0.mk (blk_below (g := gb109) (o := .cells #[.int .i64 t104, .slice Ao14 t105.length co14] 25 (0, 0)) (by (with_reducible repeat (first | refine blk_drewN ?_ _ | refine blk_drew ?_ | refine blk_alloc ?_ _)); exact BK109.out) hb); have n5_ := Aside0.mk (below_step (by repeat (first | (with_reducible first | exact HB.out | apply below_alloc | apply pw_below_drewN | apply below_drew1 | refine below_set ?_ GE109.out) | exact HB.out)) hb); have n6_ := Aside0.mk (hbox); have n7_ := Aside0.mk ((by rw [hg]; exact (below_size (by repeat (first | (with_reducible first | exact HB.out | apply below_alloc | apply pw_below_drewN | apply below_drew1 | refine below_set ?_ GE109.out) | exact HB.out))) : w.heap.size ≤ gb118)); have n8_ := Aside0.mk ((by rw [hg]; exact (below_size (by repeat (first | (with_reducible first | exact HB.out | apply below_alloc | apply pw_below_drewN | apply below_drew1 | refine below_set ?_ GE109.out) | exact HB.out))) : w.heap.size ≤ gb118)); have n9_ := Aside0.mk ((by rw [hg]; exact Nat.ne_of_lt (blk_lt (g := gb109) (o := .cells #[.int .i64 t104, .slice Ao14 t105.length co14] 25 (0, 0)) (by (with_reducible repeat (first | refine blk_drewN ?_ _ | refine blk_drew ?_ | refine blk_alloc ?_ _)); exact BK109.out)) : gb109 ≠ gb118)); have n10_ := Aside0.mk ((by rw [hg]; exact Nat.ne_of_gt (blk_lt (g := gb109) (o := .cells #[.int .i64 t104, .slice Ao14 t105.length co14] 25 (0, 0)) (by (with_reducible repeat (first | refine blk_drewN ?_ _ | refine blk_drew ?_ | refine blk_alloc ?_ _)); exact BK109.out)) : gb118 ≠ gb109)); clear HO103; clear HO107; clear HO112; clear HO116; clear BK109; clear HB; have HO103 := n0_; have HO107 := n1_; have HO112 := n2_; have HO116 := n3_; have BK109 := n4_; have HB := n5_; have BK118 := n6_; have GW118 := n7_; have GE118 := n8_; have NB109_118 := n9_; have NB118_109 := n10_; clear n0_ n1_ n2_ n3_ n4_ n5_ n6_ n7_ n8_ n9_ n10_; clear hb hbox hg; have hnb19 := NB118_109.out; have hnc19 := NB109_118.out; have hcz20_0 : w18.cell? ⟨gb118, 0, none⟩ = some (.int .i64 0) := (blk_cell BK118.out 0).trans rfl; have hcz20_1 : w18.cell? ⟨gb118, 1, none⟩ = some (.slice none 0 0) := (blk_cell BK118.out 1).trans rfl; have hfz20_0 := blk_frozen BK118.out 0; have hfz20_1 := blk_frozen BK118.out 1; obtain ⟨Ao21, co21, eo21⟩ := Kd.R_slice HO116.out; subst eo21))
    (try simp only [Act.put, List.setIfInBounds_toArray, List.set_cons_zero, List.set_cons_succ])
    go_cut [41] (fun v41 wc => ∃ (kq : Nat) (x41_7 : Bool), v41 = .bool x41_7 ∧ Aside0 (laws_FnExactComplexOf.j0 kq a0 l1 t108 t110 t117 x41_7 t104 t105 t113 t114 = some r) ∧ Aside0 (kq ≤ k) ∧ Aside0 (Kd.R (Kd.int .i64) 2 wc w.heap.size (fun k_ => some k_ ≠ ((.slice Ao14 t105.length co14) : Value).ownBlock ∧ some k_ ≠ ((.slice Ao21 t114.length co21) : Value).ownBlock) (.slice Ao16 t110.length co16) t110) ∧ Aside0 (Kd.R (Kd.int .i64) 2 wc w.heap.size (fun k_ => some k_ ≠ ((.slice Ao16 t110.length co16) : Value).ownBlock ∧ some k_ ≠ ((.slice Ao21 t114.length co21) : Value).ownBlock) (.slice Ao14 t105.length co14) t105) ∧ Aside0 (Kd.R (Kd.int .i64) 2 wc w.heap.size (fun k_ => some k_ ≠ ((.slice Ao16 t110.length co16) : Value).ownBlock ∧ some k_ ≠ ((.slice Ao14 t105.length co14) : Value).ownBlock) (.slice Ao21 t114.length co21) t114) ∧ Aside0 (wc.heap[gb109]? = some (.cells #[.int .i64 t104, (.slice Ao14 t105.length co14)] 25 (0, 0))) ∧ Aside0 (wc.heap[gb118]? = some (.cells #[.int .i64 t113, (.slice Ao21 t114.length co21)] 25 (0, 0))) ∧ Aside0 (Below w.heap.size w wc))
    case first =>
      have H := HC8.out
      clear HC8
      replace H := Option.bind_eq_some_iff.mp H
      obtain ⟨t119, A220, H⟩ := H
      replace H : (if t119 = true then (laws_FnExactComplexOf.j0 k a0 l1 t108 t110 t117 (t117 != t108) t104 t105 t113 t114) else (laws_FnExactComplexOf.j0 k a0 l1 t108 t110 t117 true t104 t105 t113 t114)) = some r := H
      have A22 := Aside0.mk A220
      clear A220
      by_cases c23 : t119 = true
      · subst c23
        have H1 : (laws_FnExactComplexOf.j0 k a0 l1 t108 t110 t117 (t117 != t108) t104 t105 t113 t114) = some r := by rw [if_pos rfl] at H; exact H
        clear H
        have H := H1
        clear H1
        have H' := Aside0.mk H
        clear H
        have hnb24 := NB118_109.out
        have hnc24 := NB109_118.out
        have hcz25_0 : w18.cell? ⟨gb118, 0, none⟩ = some (.int .i64 0) := (blk_cell BK118.out 0).trans rfl
        have hcz25_1 : w18.cell? ⟨gb118, 1, none⟩ = some (.slice none 0 0) := (blk_cell BK118.out 1).trans rfl
        have hfz25_0 := blk_frozen BK118.out 0
        have hfz25_1 := blk_frozen BK118.out 1
        have hcz26_0 : w18.cell? ⟨gb109, 0, none⟩ = some (.int .i64 t104) := (blk_cell BK109.out 0).trans rfl
        have hcz26_1 : w18.cell? ⟨gb109, 1, none⟩ = some (.slice Ao14 t105.length co14) := (blk_cell BK109.out 1).trans rfl
        have hfz26_0 := blk_frozen BK109.out 0
        have hfz26_1 := blk_frozen BK109.out 1
        go_wp2_with (first | ((with_reducible refine gate_callee (f := 18) rfl ?_); refine goesL_ (some 35) rfl rfl Try.func18 (by kernel_rfl) rfl #[.agg #[.int .i64 t113, .slice Ao21 t114.length co21], .agg #[.int .i64 t104, .slice Ao14 t105.length co14]] rfl (by (try simp only [List.map_toArray, List.map_cons, List.map_nil]); first | done | rfl | (simp only [List.length_drop, List.length_take]; rfl)) ?_; (with_reducible refine (laws_eqComplex.calls k t113 _ _ t114 t104 _ _ t105 true _ ?side1 ?side2 ?side3 ?side4 A22.out).mono ?_); (case side1 => refine (Kd.R_reads' (e := 2) (base := w.heap.size) (ok := fun k_ => (((True ∧ some k_ ≠ (.slice Ao10 t101.length co10 : Value).ownBlock) ∧ some k_ ≠ (.slice Ao14 t105.length co14 : Value).ownBlock) ∧ some k_ ≠ (.slice Ao16 t110.length co16 : Value).ownBlock)) (n := t114.length) (c := co21) ?_).2.2; exact (by (with_reducible repeat (first | apply Kd.R_alloc | apply Kd.R_drewN | apply Kd.R_drew)); exact (Kd.R_mono (Kd.R_far (p := ⟨gb118, 1, none⟩) (Kd.R_far (p := ⟨gb118, 0, none⟩) (Kd.R_types HO116.out BK118.out (by decide)) (fun _ hk => hk.2) (.int .i64 t113)) (fun _ hk => hk.2) (.slice Ao21 t114.length co21)) (fun _ h_ => h_.1)))); (case side2 => exact (Kd.R_reads' HO116.out).2.1); (case side3 => refine (Kd.R_reads' (e := 2) (base := w.heap.size) (ok := fun k_ => (((True ∧ some k_ ≠ (.slice Ao10 t101.length co10 : Value).ownBlock) ∧ some k_ ≠ (.slice Ao16 t110.length co16 : Value).ownBlock) ∧ some k_ ≠ (.slice Ao21 t114.length co21 : Value).ownBlock)) (n := t105.length) (c := co14) ?_).2.2; exact (by (with_reducible repeat (first | apply Kd.R_alloc | apply Kd.R_drewN | apply Kd.R_drew)); exact (Kd.R_mono (Kd.R_far (p := ⟨gb118, 1, none⟩) (Kd.R_far (p := ⟨gb118, 0, none⟩) (Kd.R_types HO107.out BK118.out (by decide)) (fun _ hk => hk.2) (.int .i64 t113)) (fun _ hk => hk.2) (.slice Ao21 t114.length co21)) (fun _ h_ => h_.1)))); (case side4 => exact (Kd.R_reads' HO107.out).2.1); rintro e w27 ⟨rfl, hb⟩; refine ⟨_, rfl, ?_⟩; have n0_ := Aside0.mk (Kd.R_below (by (with_reducible repeat (first | apply Kd.R_alloc | apply Kd.R_drewN | apply Kd.R_drew)); exact (Kd.R_mono (Kd.R_far (p := ⟨gb118, 1, none⟩) (Kd.R_far (p := ⟨gb118, 0, none⟩) (Kd.R_types HO103.out BK118.out (by decide)) (fun _ hk => hk.2) (.int .i64 t113)) (fun _ hk => hk.2) (.slice Ao21 t114.length co21)) (fun _ h_ => h_.1))) hb); have n1_ := Aside0.mk (Kd.R_below (by (with_reducible repeat (first | apply Kd.R_alloc | apply Kd.R_drewN | apply Kd.R_drew)); exact (Kd.R_mono (Kd.R_far (p := ⟨gb118, 1, none⟩) (Kd.R_far (p := ⟨gb118, 0, none⟩) (Kd.R_types HO107.out BK118.out (by decide)) (fun _ hk => hk.2) (.int .i64 t113)) (fun _ hk => hk.2) (.slice Ao21 t114.length co21)) (fun _ h_ => h_.1))) hb); have n2_ := Aside0.mk (Kd.R_below (by (with_reducible repeat (first | apply Kd.R_alloc | apply Kd.R_drewN | apply Kd.R_drew)); exact (Kd.R_mono (Kd.R_far (p := ⟨gb118, 1, none⟩) (Kd.R_far (p := ⟨gb118, 0, none⟩) (Kd.R_types HO112.out BK118.out (by decide)) (fun _ hk => hk.2) (.int .i64 t113)) (fun _ hk => hk.2) (.slice Ao21 t114.length co21)) (fun _ h_ => h_.1))) hb); have n3_ := Aside0.mk (Kd.R_below (by (with_reducible repeat (first | apply Kd.R_alloc | apply Kd.R_drewN | apply Kd.R_drew)); exact (Kd.R_mono (Kd.R_far (p := ⟨gb118, 1, none⟩) (Kd.R_far (p := ⟨gb118, 0, none⟩) (Kd.R_types HO116.out BK118.out (by decide)) (fun _ hk => hk.2) (.int .i64 t113)) (fun _ hk => hk.2) (.slice Ao21 t114.length co21)) (fun _ h_ => h_.1))) hb); have n4_ := Aside0.mk (blk_below (g := gb109) (o := .cells #[.int .i64 t104, .slice Ao14 t105.length co14] 25 (0, 0)) (by (with_reducible repeat (first | refine blk_drewN ?_ _ | refine blk_drew ?_ | refine blk_alloc ?_ _)); refine blk_far ?_ NB109_118.out _; (with_reducible repeat (first | refine blk_drewN ?_ _ | refine blk_drew ?_ | refine blk_alloc ?_ _)); refine blk_far ?_ NB109_118.out _; (with_reducible repeat (first | refine blk_drewN ?_ _ | refine blk_drew ?_ | refine blk_alloc ?_ _)); exact BK109.out) hb); have n5_ := Aside0.mk (blk_below (g := gb118) (o := .cells #[.int .i64 t113, .slice Ao21 t114.length co21] 25 (0, 0)) (by (with_reducible repeat (first | refine blk_drewN ?_ _ | refine blk_drew ?_ | refine blk_alloc ?_ _)); refine blk_put (cs := #[.int .i64 t113, .slice none 0 0]) ?_ 1 _ rfl; (with_reducible repeat (first | refine blk_drewN ?_ _ | refine blk_drew ?_ | refine blk_alloc ?_ _)); refine blk_put (cs := #[.int .i64 0, .slice none 0 0]) ?_ 0 _ rfl; (with_reducible repeat (first | refine blk_drewN ?_ _ | refine blk_drew ?_ | refine blk_alloc ?_ _)); exact BK118.out) hb); have n6_ := Aside0.mk (below_step (by repeat (first | (with_reducible first | exact HB.out | apply below_alloc | apply pw_below_drewN | apply below_drew1 | refine below_set ?_ GE109.out | refine below_set ?_ GE118.out) | exact HB.out)) hb); clear HO103; clear HO107; clear HO112; clear HO116; clear BK109; clear BK118; clear HB; have HO103 := n0_; have HO107 := n1_; have HO112 := n2_; have HO116 := n3_; have BK109 := n4_; have BK118 := n5_; have HB := n6_; clear n0_ n1_ n2_ n3_ n4_ n5_ n6_; (try clear hb); (try clear hb2); (try clear hk); (try clear hi)))
        go_meet
        case rel => exact ⟨_, ((t117 != t108)), (by first | rfl | (simp; done) | (simp [*]; done)), H', ⟨by first | omega | exact Nat.le_refl _⟩, ⟨by (with_reducible repeat (first | apply Kd.R_alloc | apply Kd.R_drewN | apply Kd.R_drew)); exact Kd.R_mono HO112.out (fun _ hk => ⟨hk.1.2, hk.2⟩)⟩, ⟨by (with_reducible repeat (first | apply Kd.R_alloc | apply Kd.R_drewN | apply Kd.R_drew)); exact Kd.R_mono HO107.out (fun _ hk => ⟨hk.1.2, hk.2⟩)⟩, ⟨by (with_reducible repeat (first | apply Kd.R_alloc | apply Kd.R_drewN | apply Kd.R_drew)); exact Kd.R_mono HO116.out (fun _ hk => ⟨hk.2, hk.1.2⟩)⟩, ⟨by (with_reducible repeat (first | refine blk_drewN ?_ _ | refine blk_drew ?_ | refine blk_alloc ?_ _)); exact BK109.out⟩, ⟨by (with_reducible repeat (first | refine blk_drewN ?_ _ | refine blk_drew ?_ | refine blk_alloc ?_ _)); exact BK118.out⟩, ⟨by repeat (first | (with_reducible first | exact HB.out | apply below_alloc | apply pw_below_drewN | apply below_drew1 | refine below_set ?_ GE109.out | refine below_set ?_ GE118.out) | exact HB.out)⟩⟩
      · replace c23 := Bool.eq_false_iff.mpr c23
        subst c23
        have H1 : (laws_FnExactComplexOf.j0 k a0 l1 t108 t110 t117 true t104 t105 t113 t114) = some r := by rw [if_neg (show ¬ (false = true) by decide)] at H; exact H
        clear H
        have H := H1
        clear H1
        have H' := Aside0.mk H
        clear H
        have hnb28 := NB118_109.out
        have hnc28 := NB109_118.out
        have hcz29_0 : w18.cell? ⟨gb118, 0, none⟩ = some (.int .i64 0) := (blk_cell BK118.out 0).trans rfl
        have hcz29_1 : w18.cell? ⟨gb118, 1, none⟩ = some (.slice none 0 0) := (blk_cell BK118.out 1).trans rfl
        have hfz29_0 := blk_frozen BK118.out 0
        have hfz29_1 := blk_frozen BK118.out 1
        have hcz30_0 : w18.cell? ⟨gb109, 0, none⟩ = some (.int .i64 t104) := (blk_cell BK109.out 0).trans rfl
        have hcz30_1 : w18.cell? ⟨gb109, 1, none⟩ = some (.slice Ao14 t105.length co14) := (blk_cell BK109.out 1).trans rfl
        have hfz30_0 := blk_frozen BK109.out 0
        have hfz30_1 := blk_frozen BK109.out 1
        go_wp2_with (first | ((with_reducible refine gate_callee (f := 18) rfl ?_); refine goesL_ (some 35) rfl rfl Try.func18 (by kernel_rfl) rfl #[.agg #[.int .i64 t113, .slice Ao21 t114.length co21], .agg #[.int .i64 t104, .slice Ao14 t105.length co14]] rfl (by (try simp only [List.map_toArray, List.map_cons, List.map_nil]); first | done | rfl | (simp only [List.length_drop, List.length_take]; rfl)) ?_; (with_reducible refine (laws_eqComplex.calls k t113 _ _ t114 t104 _ _ t105 false _ ?side1 ?side2 ?side3 ?side4 A22.out).mono ?_); (case side1 => refine (Kd.R_reads' (e := 2) (base := w.heap.size) (ok := fun k_ => (((True ∧ some k_ ≠ (.slice Ao10 t101.length co10 : Value).ownBlock) ∧ some k_ ≠ (.slice Ao14 t105.length co14 : Value).ownBlock) ∧ some k_ ≠ (.slice Ao16 t110.length co16 : Value).ownBlock)) (n := t114.length) (c := co21) ?_).2.2; exact (by (with_reducible repeat (first | apply Kd.R_alloc | apply Kd.R_drewN | apply Kd.R_drew)); exact (Kd.R_mono (Kd.R_far (p := ⟨gb118, 1, none⟩) (Kd.R_far (p := ⟨gb118, 0, none⟩) (Kd.R_types HO116.out BK118.out (by decide)) (fun _ hk => hk.2) (.int .i64 t113)) (fun _ hk => hk.2) (.slice Ao21 t114.length co21)) (fun _ h_ => h_.1)))); (case side2 => exact (Kd.R_reads' HO116.out).2.1); (case side3 => refine (Kd.R_reads' (e := 2) (base := w.heap.size) (ok := fun k_ => (((True ∧ some k_ ≠ (.slice Ao10 t101.length co10 : Value).ownBlock) ∧ some k_ ≠ (.slice Ao16 t110.length co16 : Value).ownBlock) ∧ some k_ ≠ (.slice Ao21 t114.length co21 : Value).ownBlock)) (n := t105.length) (c := co14) ?_).2.2; exact (by (with_reducible repeat (first | apply Kd.R_alloc | apply Kd.R_drewN | apply Kd.R_drew)); exact (Kd.R_mono (Kd.R_far (p := ⟨gb118, 1, none⟩) (Kd.R_far (p := ⟨gb118, 0, none⟩) (Kd.R_types HO107.out BK118.out (by decide)) (fun _ hk => hk.2) (.int .i64 t113)) (fun _ hk => hk.2) (.slice Ao21 t114.length co21)) (fun _ h_ => h_.1)))); (case side4 => exact (Kd.R_reads' HO107.out).2.1); rintro e w31 ⟨rfl, hb⟩; refine ⟨_, rfl, ?_⟩; have n0_ := Aside0.mk (Kd.R_below (by (with_reducible repeat (first | apply Kd.R_alloc | apply Kd.R_drewN | apply Kd.R_drew)); exact (Kd.R_mono (Kd.R_far (p := ⟨gb118, 1, none⟩) (Kd.R_far (p := ⟨gb118, 0, none⟩) (Kd.R_types HO103.out BK118.out (by decide)) (fun _ hk => hk.2) (.int .i64 t113)) (fun _ hk => hk.2) (.slice Ao21 t114.length co21)) (fun _ h_ => h_.1))) hb); have n1_ := Aside0.mk (Kd.R_below (by (with_reducible repeat (first | apply Kd.R_alloc | apply Kd.R_drewN | apply Kd.R_drew)); exact (Kd.R_mono (Kd.R_far (p := ⟨gb118, 1, none⟩) (Kd.R_far (p := ⟨gb118, 0, none⟩) (Kd.R_types HO107.out BK118.out (by decide)) (fun _ hk => hk.2) (.int .i64 t113)) (fun _ hk => hk.2) (.slice Ao21 t114.length co21)) (fun _ h_ => h_.1))) hb); have n2_ := Aside0.mk (Kd.R_below (by (with_reducible repeat (first | apply Kd.R_alloc | apply Kd.R_drewN | apply Kd.R_drew)); exact (Kd.R_mono (Kd.R_far (p := ⟨gb118, 1, none⟩) (Kd.R_far (p := ⟨gb118, 0, none⟩) (Kd.R_types HO112.out BK118.out (by decide)) (fun _ hk => hk.2) (.int .i64 t113)) (fun _ hk => hk.2) (.slice Ao21 t114.length co21)) (fun _ h_ => h_.1))) hb); have n3_ := Aside0.mk (Kd.R_below (by (with_reducible repeat (first | apply Kd.R_alloc | apply Kd.R_drewN | apply Kd.R_drew)); exact (Kd.R_mono (Kd.R_far (p := ⟨gb118, 1, none⟩) (Kd.R_far (p := ⟨gb118, 0, none⟩) (Kd.R_types HO116.out BK118.out (by decide)) (fun _ hk => hk.2) (.int .i64 t113)) (fun _ hk => hk.2) (.slice Ao21 t114.length co21)) (fun _ h_ => h_.1))) hb); have n4_ := Aside0.mk (blk_below (g := gb109) (o := .cells #[.int .i64 t104, .slice Ao14 t105.length co14] 25 (0, 0)) (by (with_reducible repeat (first | refine blk_drewN ?_ _ | refine blk_drew ?_ | refine blk_alloc ?_ _)); refine blk_far ?_ NB109_118.out _; (with_reducible repeat (first | refine blk_drewN ?_ _ | refine blk_drew ?_ | refine blk_alloc ?_ _)); refine blk_far ?_ NB109_118.out _; (with_reducible repeat (first | refine blk_drewN ?_ _ | refine blk_drew ?_ | refine blk_alloc ?_ _)); exact BK109.out) hb); have n5_ := Aside0.mk (blk_below (g := gb118) (o := .cells #[.int .i64 t113, .slice Ao21 t114.length co21] 25 (0, 0)) (by (with_reducible repeat (first | refine blk_drewN ?_ _ | refine blk_drew ?_ | refine blk_alloc ?_ _)); refine blk_put (cs := #[.int .i64 t113, .slice none 0 0]) ?_ 1 _ rfl; (with_reducible repeat (first | refine blk_drewN ?_ _ | refine blk_drew ?_ | refine blk_alloc ?_ _)); refine blk_put (cs := #[.int .i64 0, .slice none 0 0]) ?_ 0 _ rfl; (with_reducible repeat (first | refine blk_drewN ?_ _ | refine blk_drew ?_ | refine blk_alloc ?_ _)); exact BK118.out) hb); have n6_ := Aside0.mk (below_step (by repeat (first | (with_reducible first | exact HB.out | apply below_alloc | apply pw_below_drewN | apply below_drew1 | refine below_set ?_ GE109.out | refine below_set ?_ GE118.out) | exact HB.out)) hb); clear HO103; clear HO107; clear HO112; clear HO116; clear BK109; clear BK118; clear HB; have HO103 := n0_; have HO107 := n1_; have HO112 := n2_; have HO116 := n3_; have BK109 := n4_; have BK118 := n5_; have HB := n6_; clear n0_ n1_ n2_ n3_ n4_ n5_ n6_; (try clear hb); (try clear hb2); (try clear hk); (try clear hi)))
        go_meet
        case rel => exact ⟨_, (true), (by first | rfl | (simp; done) | (simp [*]; done)), H', ⟨by first | omega | exact Nat.le_refl _⟩, ⟨by (with_reducible repeat (first | apply Kd.R_alloc | apply Kd.R_drewN | apply Kd.R_drew)); exact Kd.R_mono HO112.out (fun _ hk => ⟨hk.1.2, hk.2⟩)⟩, ⟨by (with_reducible repeat (first | apply Kd.R_alloc | apply Kd.R_drewN | apply Kd.R_drew)); exact Kd.R_mono HO107.out (fun _ hk => ⟨hk.1.2, hk.2⟩)⟩, ⟨by (with_reducible repeat (first | apply Kd.R_alloc | apply Kd.R_drewN | apply Kd.R_drew)); exact Kd.R_mono HO116.out (fun _ hk => ⟨hk.2, hk.1.2⟩)⟩, ⟨by (with_reducible repeat (first | refine blk_drewN ?_ _ | refine blk_drew ?_ | refine blk_alloc ?_ _)); exact BK109.out⟩, ⟨by (with_reducible repeat (first | refine blk_drewN ?_ _ | refine blk_drew ?_ | refine blk_alloc ?_ _)); exact BK118.out⟩, ⟨by repeat (first | (with_reducible first | exact HB.out | apply below_alloc | apply pw_below_drewN | apply below_drew1 | refine below_set ?_ GE109.out | refine below_set ?_ GE118.out) | exact HB.out)⟩⟩
    case rest =>
      clear HC8
      try clear c1
      try clear c2
      try clear p2
      try clear c3
      try clear c3b0
      try clear c3b1
      try clear c4
      try clear c15
      try clear c16
      try clear c17
      try clear c18
      try clear c19
      try clear c23
      try clear c24
      try clear c28
      try clear hcz13_0
      try clear hcz13_1
      try clear hcz20_0
      try clear hcz20_1
      try clear hcz25_0
      try clear hcz25_1
      try clear hcz26_0
      try clear hcz26_1
      try clear hcz29_0
      try clear hcz29_1
      try clear hcz30_0
      try clear hcz30_1
      try clear hfz13_0
      try clear hfz13_1
      try clear hfz20_0
      try clear hfz20_1
      try clear hfz25_0
      try clear hfz25_1
      try clear hfz26_0
      try clear hfz26_1
      try clear hfz29_0
      try clear hfz29_1
      try clear hfz30_0
      try clear hfz30_1
      obtain ⟨kq, x41_7, rfl, HA, HJ7, HO_7, HO_110001, HO_119001, BK109, BK118, HB⟩ := hcut
      cases kq with
      | zero => exact absurd HA.out (by simp [laws_FnExactComplexOf.j0])
      | succ kj7 =>
        have H := HA.out
        clear HA
        simp only [laws_FnExactComplexOf.j0] at H
        by_cases c32 : x41_7 = true
        · subst c32
          have H1 : (some false) = some r := by rw [if_pos rfl] at H; exact H
          clear H
          have H := H1
          clear H1
          obtain rfl := Option.some.inj H
          go_wp2
          go_ret
          exact ⟨by first | rfl | (simp [errW_none, errW_some] <;> rfl) | (simp [*, errW_none, errW_some] <;> rfl), by repeat (first | (with_reducible first | exact HB.out | apply below_alloc | apply pw_below_drewN | apply below_drew1 | refine below_set ?_ GE109.out | refine below_set ?_ GE118.out) | exact HB.out)⟩
        · replace c32 := Bool.eq_false_iff.mpr c32
          subst c32
          have H1 : ((laws_toInt64S.f kj7 l1).bind fun t120 => ((laws_eqInt64S.f kj7 t110 t120).bind fun t123 => (if t123 = true then ((laws_markInt64S.f kj7 t110 1).bind fun bt124 => (if bt124.1 < 0 then (laws_FnExactComplexOf.j1 kj7 a0 l1 t108 true t104 t105 t113 t114) else ((laws_eqComplex.f kj7 t113 t114 t104 t105).bind fun t126 => (if t126 = true then (laws_FnExactComplexOf.j1 kj7 a0 l1 t108 (t117 != t108) t104 t105 t113 t114) else (laws_FnExactComplexOf.j1 kj7 a0 l1 t108 true t104 t105 t113 t114))))) else (some false)))) = some r := by rw [if_neg (show ¬ (false = true) by decide)] at H; exact H
          clear H
          have H := H1
          clear H1
          replace H := Option.bind_eq_some_iff.mp H
          obtain ⟨t120, A330, H⟩ := H
          replace H : ((laws_eqInt64S.f kj7 t110 t120).bind fun t123 => (if t123 = true then ((laws_markInt64S.f kj7 t110 1).bind fun bt124 => (if bt124.1 < 0 then (laws_FnExactComplexOf.j1 kj7 a0 l1 t108 true t104 t105 t113 t114) else ((laws_eqComplex.f kj7 t113 t114 t104 t105).bind fun t126 => (if t126 = true then (laws_FnExactComplexOf.j1 kj7 a0 l1 t108 (t117 != t108) t104 t105 t113 t114) else (laws_FnExactComplexOf.j1 kj7 a0 l1 t108 true t104 t105 t113 t114))))) else (some false))) = some r := H
          have A33 := Aside0.mk A330
          clear A330
          replace H := Option.bind_eq_some_iff.mp H
          obtain ⟨t123, A340, H⟩ := H
          replace H : (if t123 = true then ((laws_markInt64S.f kj7 t110 1).bind fun bt124 => (if bt124.1 < 0 then (laws_FnExactComplexOf.j1 kj7 a0 l1 t108 true t104 t105 t113 t114) else ((laws_eqComplex.f kj7 t113 t114 t104 t105).bind fun t126 => (if t126 = true then (laws_FnExactComplexOf.j1 kj7 a0 l1 t108 (t117 != t108) t104 t105 t113 t114) else (laws_FnExactComplexOf.j1 kj7 a0 l1 t108 true t104 t105 t113 t114))))) else (some false)) = some r := H
          have A34 := Aside0.mk A340
          clear A340
          by_cases c35 : t123 = true
          · subst c35
            have H1 : ((laws_markInt64S.f kj7 t110 1).bind fun bt124 => (if bt124.1 < 0 then (laws_FnExactComplexOf.j1 kj7 a0 l1 t108 true t104 t105 t113 t114) else ((laws_eqComplex.f kj7 t113 t114 t104 t105).bind fun t126 => (if t126 = true then (laws_FnExactComplexOf.j1 kj7 a0 l1 t108 (t117 != t108) t104 t105 t113 t114) else (laws_FnExactComplexOf.j1 kj7 a0 l1 t108 true t104 t105 t113 t114))))) = some r := by rw [if_pos rfl] at H; exact H
            clear H
            have H := H1
            clear H1
            replace H := Option.bind_eq_some_iff.mp H
            obtain ⟨⟨t124, t125⟩, A360, H⟩ := H
            replace H : (if t124 < 0 then (laws_FnExactComplexOf.j1 kj7 a0 l1 t108 true t104 t105 t113 t114) else ((laws_eqComplex.f kj7 t113 t114 t104 t105).bind fun t126 => (if t126 = true then (laws_FnExactComplexOf.j1 kj7 a0 l1 t108 (t117 != t108) t104 t105 t113 t114) else (laws_FnExactComplexOf.j1 kj7 a0 l1 t108 true t104 t105 t113 t114)))) = some r := H
            have A36 := Aside0.mk A360
            clear A360
            have HC37 := Aside0.mk H
            clear H
            go_upto_region 12 with (first | ((with_reducible refine gate_callee (f := 16) rfl ?_); refine goesL_ (some 44) rfl rfl Try.func16 (by kernel_rfl) rfl #[.slice A1 l1.length c1] rfl (by (try simp only [List.map_toArray, List.map_cons, List.map_nil]); first | done | rfl | (simp only [List.length_drop, List.length_take]; rfl)) ?_; (with_reducible refine (laws_toInt64S.calls kj7 _ _ l1 t120 _ ?side1 ?side2 A33.out).mono ?_); (case side1 => repeat (first | exact (Kd.C_below HR1.out HB.out) | (with_reducible refine Kd.C_alloc ?_ _) | (with_reducible refine Kd.C_drewN ?_ _) | (with_reducible refine Kd.C_drew ?_))); (case side2 => exact HC1.out); rintro e w38 ⟨v121, rfl, ho0, hb⟩; refine ⟨_, rfl, ?_⟩; have n0_ := Aside0.mk (Kd.R_elder' (by (with_reducible repeat (first | apply Kd.R_alloc | apply Kd.R_drewN | apply Kd.R_drew)); exact HO_7.out) (Kd.R_base ho0) hb); have n1_ := Aside0.mk (Kd.R_elder' (by (with_reducible repeat (first | apply Kd.R_alloc | apply Kd.R_drewN | apply Kd.R_drew)); exact HO_110001.out) (Kd.R_base ho0) hb); have n2_ := Aside0.mk (Kd.R_elder' (by (with_reducible repeat (first | apply Kd.R_alloc | apply Kd.R_drewN | apply Kd.R_drew)); exact HO_119001.out) (Kd.R_base ho0) hb); have n3_ := Aside0.mk (Kd.R_lower (Kd.R_new' (Kd.R_new' (Kd.R_new' ho0 (Kd.R_lt (by (with_reducible repeat (first | apply Kd.R_alloc | apply Kd.R_drewN | apply Kd.R_drew)); exact HO_7.out))) (Kd.R_lt (by (with_reducible repeat (first | apply Kd.R_alloc | apply Kd.R_drewN | apply Kd.R_drew)); exact HO_110001.out))) (Kd.R_lt (by (with_reducible repeat (first | apply Kd.R_alloc | apply Kd.R_drewN | apply Kd.R_drew)); exact HO_119001.out))) (below_size (by repeat (first | (with_reducible first | exact HB.out | apply below_alloc | apply pw_below_drewN | apply below_drew1 | refine below_set ?_ GE109.out | refine below_set ?_ GE118.out) | exact HB.out)))); have n4_ := Aside0.mk (blk_below (g := gb109) (o := .cells #[.int .i64 t104, .slice Ao14 t105.length co14] 25 (0, 0)) (by (with_reducible repeat (first | refine blk_drewN ?_ _ | refine blk_drew ?_ | refine blk_alloc ?_ _)); exact BK109.out) hb); have n5_ := Aside0.mk (blk_below (g := gb118) (o := .cells #[.int .i64 t113, .slice Ao21 t114.length co21] 25 (0, 0)) (by (with_reducible repeat (first | refine blk_drewN ?_ _ | refine blk_drew ?_ | refine blk_alloc ?_ _)); exact BK118.out) hb); have n6_ := Aside0.mk (below_step (by repeat (first | (with_reducible first | exact HB.out | apply below_alloc | apply pw_below_drewN | apply below_drew1 | refine below_set ?_ GE109.out | refine below_set ?_ GE118.out) | exact HB.out)) hb); clear HO_7; clear HO_110001; clear HO_119001; clear BK109; clear BK118; clear HB; have HO_7 := n0_; have HO_110001 := n1_; have HO_119001 := n2_; have HO122 := n3_; have BK109 := n4_; have BK118 := n5_; have HB := n6_; clear n0_ n1_ n2_ n3_ n4_ n5_ n6_; (try clear hb); (try clear hb2); (try clear hk); (try clear hi); (try clear ho0); obtain ⟨Ao39, co39, eo39⟩ := Kd.R_slice HO122.out; subst eo39) | ((with_reducible refine gate_callee (f := 19) rfl ?_); refine goesL_ (some 45) rfl rfl Try.func19 (by kernel_rfl) rfl #[.slice Ao16 t110.length co16, .slice Ao39 t120.length co39] rfl (by (try simp only [List.map_toArray, List.map_cons, List.map_nil]); first | done | rfl | (simp only [List.length_drop, List.length_take]; rfl)) ?_; (with_reducible refine (laws_eqInt64S.calls kj7 _ _ t110 _ _ t120 true _ ?side1 ?side2 ?side3 ?side4 A34.out).mono ?_); (case side1 => repeat (first | exact (Kd.R_reads' HO_7.out).2.2 | (with_reducible refine Kd.C_alloc ?_ _) | (with_reducible refine Kd.C_drewN ?_ _) | (with_reducible refine Kd.C_drew ?_))); (case side2 => exact (Kd.R_reads' HO_7.out).2.1); (case side3 => repeat (first | exact (Kd.R_reads' HO122.out).2.2 | (with_reducible refine Kd.C_alloc ?_ _) | (with_reducible refine Kd.C_drewN ?_ _) | (with_reducible refine Kd.C_drew ?_))); (case side4 => exact (Kd.R_reads' HO122.out).2.1); rintro e w' ⟨rfl, ⟨nd, rfl⟩⟩; refine ⟨_, rfl, ?_⟩) | ((with_reducible refine gate_callee (f := 20) rfl ?_); refine goesL_ (some 49) rfl rfl Try.func20 (by kernel_rfl) rfl #[.slice Ao16 t110.length co16, .int .i64 1] rfl (by (try simp only [List.map_toArray, List.map_cons, List.map_nil]); first | done | rfl | (simp only [List.length_drop, List.length_take]; rfl)) ?_; (with_reducible refine (laws_markInt64S.calls kj7 (fun k_ => some k_ = (.slice Ao16 t110.length co16 : Value).ownBlock) (.slice Ao16 t110.length co16) t110 1 t124 t125 w _ ?side1 ?side2 A36.out).mono ?_); (case side1 => repeat (first | (with_reducible first | exact HB.out | apply below_alloc | apply pw_below_drewN | apply below_drew1 | refine below_set ?_ GE109.out | refine below_set ?_ GE118.out) | exact HB.out)); (case side2 => exact Kd.R_tight rfl HO_7.out); rintro e w40 ⟨rfl, hy0, hb, hkp⟩; refine ⟨_, rfl, ?_⟩; have n0_ := Aside0.mk (Kd.R_reok rfl hy0 (fun k_ e_ => HO_7.out.1 k_ e_)); have n1_ := Aside0.mk (Kd.R_mono (ok' := fun k_ => some k_ ≠ (.slice Ao16 t110.length co16 : Value).ownBlock ∧ some k_ ≠ (.slice Ao21 t114.length co21 : Value).ownBlock ∧ some k_ ≠ (.slice Ao39 t120.length co39 : Value).ownBlock) (Kd.R_keptB (HO_110001.out) hkp (fun k_ hk_ hs_ => (hk_.1.1) hs_)) (fun k_ hk_ => ⟨hk_.1.1.1, hk_.1.1.2, hk_.1.2⟩)); have n2_ := Aside0.mk (Kd.R_mono (ok' := fun k_ => some k_ ≠ (.slice Ao16 t110.length co16 : Value).ownBlock ∧ some k_ ≠ (.slice Ao14 t105.length co14 : Value).ownBlock ∧ some k_ ≠ (.slice Ao39 t120.length co39 : Value).ownBlock) (Kd.R_keptB (HO_119001.out) hkp (fun k_ hk_ hs_ => (hk_.1.1) hs_)) (fun k_ hk_ => ⟨hk_.1.1.1, hk_.1.1.2, hk_.1.2⟩)); have n3_ := Aside0.mk (blk_kept (by (with_reducible repeat (first | refine blk_drewN ?_ _ | refine blk_drew ?_ | refine blk_alloc ?_ _)); exact BK109.out) hkp (fun hs_ => (fun e_ => (Kd.R_ne HO_7.out BK109.out (by decide)) e_) hs_)); have n4_ := Aside0.mk (blk_kept (by (with_reducible repeat (first | refine blk_drewN ?_ _ | refine blk_drew ?_ | refine blk_alloc ?_ _)); exact BK118.out) hkp (fun hs_ => (fun e_ => (Kd.R_ne HO_7.out BK118.out (by decide)) e_) hs_)); have n5_ := Aside0.mk (Kd.R_mono (ok' := fun k_ => some k_ ≠ (.slice Ao16 t110.length co16 : Value).ownBlock ∧ some k_ ≠ (.slice Ao14 t105.length co14 : Value).ownBlock ∧ some k_ ≠ (.slice Ao21 t114.length co21 : Value).ownBlock) (Kd.R_keptB (HO122.out) hkp (fun k_ hk_ hs_ => (hk_.1.1.2) hs_)) (fun k_ hk_ => ⟨hk_.1.1.1.2, hk_.1.1.2, hk_.1.2⟩)); have n6_ := Aside0.mk (hb); clear HO_7; clear HO_110001; clear HO_119001; clear BK109; clear BK118; clear HO122; clear HB; have HO_7 := n0_; have HO_110001 := n1_; have HO_119001 := n2_; have BK109 := n3_; have BK118 := n4_; have HO122 := n5_; have HB := n6_; clear n0_ n1_ n2_ n3_ n4_ n5_ n6_; (try clear hb); (try clear hkp); (try clear hy0)))
            (try simp only [Act.put, List.setIfInBounds_toArray, List.set_cons_zero, List.set_cons_succ])
            go_cut [62] (fun v62 wc => ∃ (kq : Nat) (x62_36 : Bool), v62 = .bool x62_36 ∧ Aside0 (laws_FnExactComplexOf.j1 kq a0 l1 t108 x62_36 t104 t105 t113 t114 = some r) ∧ Aside0 (kq ≤ kj7) ∧ Aside0 (Kd.R (Kd.int .i64) 2 wc w.heap.size (fun k_ => some k_ ≠ ((.slice Ao21 t114.length co21) : Value).ownBlock) (.slice Ao14 t105.length co14) t105) ∧ Aside0 (Kd.R (Kd.int .i64) 2 wc w.heap.size (fun k_ => some k_ ≠ ((.slice Ao14 t105.length co14) : Value).ownBlock) (.slice Ao21 t114.length co21) t114) ∧ Aside0 (wc.heap[gb109]? = some (.cells #[.int .i64 t104, (.slice Ao14 t105.length co14)] 25 (0, 0))) ∧ Aside0 (wc.heap[gb118]? = some (.cells #[.int .i64 t113, (.slice Ao21 t114.length co21)] 25 (0, 0))) ∧ Aside0 (Below w.heap.size w wc))
            case first =>
              have H := HC37.out
              clear HC37
              by_cases c41 : t124 < 0
              · rw [if_pos c41] at H
                have c41b0 : decide (t124 < 0) = true := decide_eq_true c41
                clear c41
                (first | rw [c41b0] | (simp only [i64_w, i32_w]; rw [c41b0]) | skip)
                have H' := Aside0.mk H
                clear H
                go_wp2
                go_meet
                case rel => exact ⟨_, (true), (by first | rfl | (simp; done) | (simp [*]; done)), H', ⟨by have := HJ7.out; first | omega | exact Nat.le_refl _⟩, ⟨by (with_reducible repeat (first | apply Kd.R_alloc | apply Kd.R_drewN | apply Kd.R_drew)); exact Kd.R_mono HO_110001.out (fun _ hk => hk.2.1)⟩, ⟨by (with_reducible repeat (first | apply Kd.R_alloc | apply Kd.R_drewN | apply Kd.R_drew)); exact Kd.R_mono HO_119001.out (fun _ hk => hk.2.1)⟩, ⟨by (with_reducible repeat (first | refine blk_drewN ?_ _ | refine blk_drew ?_ | refine blk_alloc ?_ _)); exact BK109.out⟩, ⟨by (with_reducible repeat (first | refine blk_drewN ?_ _ | refine blk_drew ?_ | refine blk_alloc ?_ _)); exact BK118.out⟩, ⟨by repeat (first | (with_reducible first | exact HB.out | apply below_alloc | apply pw_below_drewN | apply below_drew1 | refine below_set ?_ GE109.out | refine below_set ?_ GE118.out) | exact HB.out)⟩⟩
              · rw [if_neg c41] at H
                have c41b0 : decide (t124 < 0) = false := decide_eq_false c41
                clear c41
                (first | rw [c41b0] | (simp only [i64_w, i32_w]; rw [c41b0]) | skip)
                replace H := Option.bind_eq_some_iff.mp H
                obtain ⟨t126, A420, H⟩ := H
                replace H : (if t126 = true then (laws_FnExactComplexOf.j1 kj7 a0 l1 t108 (t117 != t108) t104 t105 t113 t114) else (laws_FnExactComplexOf.j1 kj7 a0 l1 t108 true t104 t105 t113 t114)) = some r := H
                have A42 := Aside0.mk A420
                clear A420
                by_cases c43 : t126 = true
                · subst c43
                  have H1 : (laws_FnExactComplexOf.j1 kj7 a0 l1 t108 (t117 != t108) t104 t105 t113 t114) = some r := by rw [if_pos rfl] at H; exact H
                  clear H
                  have H := H1
                  clear H1
                  have H' := Aside0.mk H
                  clear H
                  have hnb44 := NB118_109.out
                  have hnc44 := NB109_118.out
                  have hcz45_0 : w40.cell? ⟨gb118, 0, none⟩ = some (.int .i64 t113) := (blk_cell BK118.out 0).trans rfl
                  have hcz45_1 : w40.cell? ⟨gb118, 1, none⟩ = some (.slice Ao21 t114.length co21) := (blk_cell BK118.out 1).trans rfl
                  have hfz45_0 := blk_frozen BK118.out 0
                  have hfz45_1 := blk_frozen BK118.out 1
                  have hcz46_0 : w40.cell? ⟨gb109, 0, none⟩ = some (.int .i64 t104) := (blk_cell BK109.out 0).trans rfl
                  have hcz46_1 : w40.cell? ⟨gb109, 1, none⟩ = some (.slice Ao14 t105.length co14) := (blk_cell BK109.out 1).trans rfl
                  have hfz46_0 := blk_frozen BK109.out 0
                  have hfz46_1 := blk_frozen BK109.out 1
                  go_wp2_with (first | (go_at_call 18; (with_reducible refine (laws_eqComplex.calls kj7 t113 _ _ t114 t104 _ _ t105 true _ ?side1 ?side2 ?side3 ?side4 A42.out).mono ?_); (case side1 => repeat (first | exact (Kd.R_reads' HO_119001.out).2.2 | (with_reducible refine Kd.C_alloc ?_ _) | (with_reducible refine Kd.C_drewN ?_ _) | (with_reducible refine Kd.C_drew ?_))); (case side2 => exact (Kd.R_reads' HO_119001.out).2.1); (case side3 => repeat (first | exact (Kd.R_reads' HO_110001.out).2.2 | (with_reducible refine Kd.C_alloc ?_ _) | (with_reducible refine Kd.C_drewN ?_ _) | (with_reducible refine Kd.C_drew ?_))); (case side4 => exact (Kd.R_reads' HO_110001.out).2.1); rintro e w47 ⟨rfl, hb⟩; have n0_ := Aside0.mk (Kd.R_below (by (with_reducible repeat (first | apply Kd.R_alloc | apply Kd.R_drewN | apply Kd.R_drew)); exact HO_7.out) hb); have n1_ := Aside0.mk (Kd.R_below (by (with_reducible repeat (first | apply Kd.R_alloc | apply Kd.R_drewN | apply Kd.R_drew)); exact HO_110001.out) hb); have n2_ := Aside0.mk (Kd.R_below (by (with_reducible repeat (first | apply Kd.R_alloc | apply Kd.R_drewN | apply Kd.R_drew)); exact HO_119001.out) hb); have n3_ := Aside0.mk (Kd.R_below (by (with_reducible repeat (first | apply Kd.R_alloc | apply Kd.R_drewN | apply Kd.R_drew)); exact HO122.out) hb); have n4_ := Aside0.mk (blk_below (g := gb109) (o := .cells #[.int .i64 t104, .slice Ao14 t105.length co14] 25 (0, 0)) (by (with_reducible repeat (first | refine blk_drewN ?_ _ | refine blk_drew ?_ | refine blk_alloc ?_ _)); exact BK109.out) hb); have n5_ := Aside0.mk (blk_below (g := gb118) (o := .cells #[.int .i64 t113, .slice Ao21 t114.length co21] 25 (0, 0)) (by (with_reducible repeat (first | refine blk_drewN ?_ _ | refine blk_drew ?_ | refine blk_alloc ?_ _)); exact BK118.out) hb); have n6_ := Aside0.mk (below_step (by repeat (first | (with_reducible first | exact HB.out | apply below_alloc | apply pw_below_drewN | apply below_drew1 | refine below_set ?_ GE109.out | refine below_set ?_ GE118.out) | exact HB.out)) hb); clear HO_7; clear HO_110001; clear HO_119001; clear HO122; clear BK109; clear BK118; clear HB; have HO_7 := n0_; have HO_110001 := n1_; have HO_119001 := n2_; have HO122 := n3_; have BK109 := n4_; have BK118 := n5_; have HB := n6_; clear n0_ n1_ n2_ n3_ n4_ n5_ n6_; (try clear hb); (try clear hb2); (try clear hk); (try clear hi)))
                  go_meet
                  case rel => exact ⟨_, ((t117 != t108)), (by first | rfl | (simp; done) | (simp [*]; done)), H', ⟨by have := HJ7.out; first | omega | exact Nat.le_refl _⟩, ⟨by (with_reducible repeat (first | apply Kd.R_alloc | apply Kd.R_drewN | apply Kd.R_drew)); exact Kd.R_mono HO_110001.out (fun _ hk => hk.2.1)⟩, ⟨by (with_reducible repeat (first | apply Kd.R_alloc | apply Kd.R_drewN | apply Kd.R_drew)); exact Kd.R_mono HO_119001.out (fun _ hk => hk.2.1)⟩, ⟨by (with_reducible repeat (first | refine blk_drewN ?_ _ | refine blk_drew ?_ | refine blk_alloc ?_ _)); exact BK109.out⟩, ⟨by (with_reducible repeat (first | refine blk_drewN ?_ _ | refine blk_drew ?_ | refine blk_alloc ?_ _)); exact BK118.out⟩, ⟨by repeat (first | (with_reducible first | exact HB.out | apply below_alloc | apply pw_below_drewN | apply below_drew1 | refine below_set ?_ GE109.out | refine below_set ?_ GE118.out) | exact HB.out)⟩⟩
                · replace c43 := Bool.eq_false_iff.mpr c43
                  subst c43
                  have H1 : (laws_FnExactComplexOf.j1 kj7 a0 l1 t108 true t104 t105 t113 t114) = some r := by rw [if_neg (show ¬ (false = true) by decide)] at H; exact H
                  clear H
                  have H := H1
                  clear H1
                  have H' := Aside0.mk H
                  clear H
                  have hnb48 := NB118_109.out
                  have hnc48 := NB109_118.out
                  have hcz49_0 : w40.cell? ⟨gb118, 0, none⟩ = some (.int .i64 t113) := (blk_cell BK118.out 0).trans rfl
                  have hcz49_1 : w40.cell? ⟨gb118, 1, none⟩ = some (.slice Ao21 t114.length co21) := (blk_cell BK118.out 1).trans rfl
                  have hfz49_0 := blk_frozen BK118.out 0
                  have hfz49_1 := blk_frozen BK118.out 1
                  have hcz50_0 : w40.cell? ⟨gb109, 0, none⟩ = some (.int .i64 t104) := (blk_cell BK109.out 0).trans rfl
                  have hcz50_1 : w40.cell? ⟨gb109, 1, none⟩ = some (.slice Ao14 t105.length co14) := (blk_cell BK109.out 1).trans rfl
                  have hfz50_0 := blk_frozen BK109.out 0
                  have hfz50_1 := blk_frozen BK109.out 1
                  go_wp2_with (first | (go_at_call 18; (with_reducible refine (laws_eqComplex.calls kj7 t113 _ _ t114 t104 _ _ t105 false _ ?side1 ?side2 ?side3 ?side4 A42.out).mono ?_); (case side1 => repeat (first | exact (Kd.R_reads' HO_119001.out).2.2 | (with_reducible refine Kd.C_alloc ?_ _) | (with_reducible refine Kd.C_drewN ?_ _) | (with_reducible refine Kd.C_drew ?_))); (case side2 => exact (Kd.R_reads' HO_119001.out).2.1); (case side3 => repeat (first | exact (Kd.R_reads' HO_110001.out).2.2 | (with_reducible refine Kd.C_alloc ?_ _) | (with_reducible refine Kd.C_drewN ?_ _) | (with_reducible refine Kd.C_drew ?_))); (case side4 => exact (Kd.R_reads' HO_110001.out).2.1); rintro e w51 ⟨rfl, hb⟩; have n0_ := Aside0.mk (Kd.R_below (by (with_reducible repeat (first | apply Kd.R_alloc | apply Kd.R_drewN | apply Kd.R_drew)); exact HO_7.out) hb); have n1_ := Aside0.mk (Kd.R_below (by (with_reducible repeat (first | apply Kd.R_alloc | apply Kd.R_drewN | apply Kd.R_drew)); exact HO_110001.out) hb); have n2_ := Aside0.mk (Kd.R_below (by (with_reducible repeat (first | apply Kd.R_alloc | apply Kd.R_drewN | apply Kd.R_drew)); exact HO_119001.out) hb); have n3_ := Aside0.mk (Kd.R_below (by (with_reducible repeat (first | apply Kd.R_alloc | apply Kd.R_drewN | apply Kd.R_drew)); exact HO122.out) hb); have n4_ := Aside0.mk (blk_below (g := gb109) (o := .cells #[.int .i64 t104, .slice Ao14 t105.length co14] 25 (0, 0)) (by (with_reducible repeat (first | refine blk_drewN ?_ _ | refine blk_drew ?_ | refine blk_alloc ?_ _)); exact BK109.out) hb); have n5_ := Aside0.mk (blk_below (g := gb118) (o := .cells #[.int .i64 t113, .slice Ao21 t114.length co21] 25 (0, 0)) (by (with_reducible repeat (first | refine blk_drewN ?_ _ | refine blk_drew ?_ | refine blk_alloc ?_ _)); exact BK118.out) hb); have n6_ := Aside0.mk (below_step (by repeat (first | (with_reducible first | exact HB.out | apply below_alloc | apply pw_below_drewN | apply below_drew1 | refine below_set ?_ GE109.out | refine below_set ?_ GE118.out) | exact HB.out)) hb); clear HO_7; clear HO_110001; clear HO_119001; clear HO122; clear BK109; clear BK118; clear HB; have HO_7 := n0_; have HO_110001 := n1_; have HO_119001 := n2_; have HO122 := n3_; have BK109 := n4_; have BK118 := n5_; have HB := n6_; clear n0_ n1_ n2_ n3_ n4_ n5_ n6_; (try clear hb); (try clear hb2); (try clear hk); (try clear hi)))
                  go_meet
                  case rel => exact ⟨_, (true), (by first | rfl | (simp; done) | (simp [*]; done)), H', ⟨by have := HJ7.out; first | omega | exact Nat.le_refl _⟩, ⟨by (with_reducible repeat (first | apply Kd.R_alloc | apply Kd.R_drewN | apply Kd.R_drew)); exact Kd.R_mono HO_110001.out (fun _ hk => hk.2.1)⟩, ⟨by (with_reducible repeat (first | apply Kd.R_alloc | apply Kd.R_drewN | apply Kd.R_drew)); exact Kd.R_mono HO_119001.out (fun _ hk => hk.2.1)⟩, ⟨by (with_reducible repeat (first | refine blk_drewN ?_ _ | refine blk_drew ?_ | refine blk_alloc ?_ _)); exact BK109.out⟩, ⟨by (with_reducible repeat (first | refine blk_drewN ?_ _ | refine blk_drew ?_ | refine blk_alloc ?_ _)); exact BK118.out⟩, ⟨by repeat (first | (with_reducible first | exact HB.out | apply below_alloc | apply pw_below_drewN | apply below_drew1 | refine below_set ?_ GE109.out | refine below_set ?_ GE118.out) | exact HB.out)⟩⟩
            case rest =>
              clear HC37
              try clear c1
              try clear c2
              try clear p2
              try clear c3
              try clear c3b0
              try clear c3b1
              try clear c4
              try clear c15
              try clear c16
              try clear c17
              try clear c18
              try clear c19
              try clear c20
              try clear c23
              try clear c24
              try clear c28
              try clear c32
              try clear c35
              try clear c41
              try clear c41b0
              try clear c43
              try clear c44
              try clear c48
              try clear hcz13_0
              try clear hcz13_1
              try clear hcz20_0
              try clear hcz20_1
              try clear hcz25_0
              try clear hcz25_1
              try clear hcz26_0
              try clear hcz26_1
              try clear hcz29_0
              try clear hcz29_1
              try clear hcz30_0
              try clear hcz30_1
              try clear hcz45_0
              try clear hcz45_1
              try clear hcz46_0
              try clear hcz46_1
              try clear hcz49_0
              try clear hcz49_1
              try clear hcz50_0
              try clear hcz50_1
              try clear hfz13_0
              try clear hfz13_1
              try clear hfz20_0
              try clear hfz20_1
              try clear hfz25_0
              try clear hfz25_1
              try clear hfz26_0
              try clear hfz26_1
              try clear hfz29_0
              try clear hfz29_1
              try clear hfz30_0
              try clear hfz30_1
              try clear hfz45_0
              try clear hfz45_1
              try clear hfz46_0
              try clear hfz46_1
              try clear hfz49_0
              try clear hfz49_1
              try clear hfz50_0
              try clear hfz50_1
              try clear p2
              obtain ⟨kq, x62_36, rfl, HA, HJ36, HO_110001, HO_119001, BK109, BK118, HB⟩ := hcut
              cases kq with
              | zero => exact absurd HA.out (by simp [laws_FnExactComplexOf.j1])
              | succ kj36 =>
                have H := HA.out
                clear HA
                simp only [laws_FnExactComplexOf.j1] at H
                by_cases c52 : x62_36 = true
                · subst c52
                  have H1 : (some false) = some r := by rw [if_pos rfl] at H; exact H
                  clear H
                  have H := H1
                  clear H1
                  obtain rfl := Option.some.inj H
                  go_wp2
                  go_ret
                  exact ⟨by first | rfl | (simp [errW_none, errW_some] <;> rfl) | (simp [*, errW_none, errW_some] <;> rfl), by repeat (first | (with_reducible first | exact HB.out | apply below_alloc | apply pw_below_drewN | apply below_drew1 | refine below_set ?_ GE109.out | refine below_set ?_ GE118.out) | exact HB.out)⟩
                · replace c52 := Bool.eq_false_iff.mpr c52
                  subst c52
                  have H1 : ((laws_markComplex.f kj36 t113 t114 1).bind fun bt127 => ((laws_heldComplex.f kj36 t113 bt127.2 1).bind fun t129 => (if t129 < 0 then (some false) else (if t129 = bt127.1 then ((laws_toInt64S.f kj36 l1).bind fun t130 => ((impl_ComplexOf.f a0 t130).bind fun bt133 => ((laws_eqComplex.f kj36 bt133.1 bt133.2.1 t104 t105).bind fun t139 => (if t139 = true then (laws_FnExactComplexOf.j2 kj36 bt127.1 (bt133.2.2 != t108) t113 bt127.2) else (laws_FnExactComplexOf.j2 kj36 bt127.1 true t113 bt127.2))))) else (some false))))) = some r := by rw [if_neg (show ¬ (false = true) by decide)] at H; exact H
                  clear H
                  have H := H1
                  clear H1
                  replace H := Option.bind_eq_some_iff.mp H
                  obtain ⟨⟨t127, t128⟩, A530, H⟩ := H
                  replace H : ((laws_heldComplex.f kj36 t113 t128 1).bind fun t129 => (if t129 < 0 then (some false) else (if t129 = t127 then ((laws_toInt64S.f kj36 l1).bind fun t130 => ((impl_ComplexOf.f a0 t130).bind fun bt133 => ((laws_eqComplex.f kj36 bt133.1 bt133.2.1 t104 t105).bind fun t139 => (if t139 = true then (laws_FnExactComplexOf.j2 kj36 t127 (bt133.2.2 != t108) t113 t128) else (laws_FnExactComplexOf.j2 kj36 t127 true t113 t128))))) else (some false)))) = some r := H
                  have A53 := Aside0.mk A530
                  clear A530
                  replace H := Option.bind_eq_some_iff.mp H
                  obtain ⟨t129, A540, H⟩ := H
                  replace H : (if t129 < 0 then (some false) else (if t129 = t127 then ((laws_toInt64S.f kj36 l1).bind fun t130 => ((impl_ComplexOf.f a0 t130).bind fun bt133 => ((laws_eqComplex.f kj36 bt133.1 bt133.2.1 t104 t105).bind fun t139 => (if t139 = true then (laws_FnExactComplexOf.j2 kj36 t127 (bt133.2.2 != t108) t113 t128) else (laws_FnExactComplexOf.j2 kj36 t127 true t113 t128))))) else (some false))) = some r := H
                  have A54 := Aside0.mk A540
                  clear A540
                  by_cases c55 : t129 < 0
                  · rw [if_pos c55] at H
                    have c55b0 : decide (t129 < 0) = true := decide_eq_true c55
                    clear c55
                    obtain rfl := Option.some.inj H
                    have hnb56 := NB118_109.out
                    have hnc56 := NB109_118.out
                    have hcz57_0 : wc.cell? ⟨gb118, 0, none⟩ = some (.int .i64 t113) := (blk_cell BK118.out 0).trans rfl
                    have hcz57_1 : wc.cell? ⟨gb118, 1, none⟩ = some (.slice Ao21 t114.length co21) := (blk_cell BK118.out 1).trans rfl
                    have hfz57_0 := blk_frozen BK118.out 0
                    have hfz57_1 := blk_frozen BK118.out 1
                    go_wp2_with (first | ((with_reducible refine gate_callee (f := 21) rfl ?_); refine goesL_ (some 65) rfl rfl Try.func21 (by kernel_rfl) rfl #[.agg #[.int .i64 t113, .slice Ao21 t114.length co21], .int .i64 1] rfl (by (try simp only [List.map_toArray, List.map_cons, List.map_nil]); first | done | rfl | (simp only [List.length_drop, List.length_take]; rfl)) ?_; (with_reducible refine (laws_markComplex.calls kj36 t113 (fun k_ => some k_ = (.slice Ao21 t114.length co21 : Value).ownBlock) (.slice Ao21 t114.length co21) t114 1 t127 t128 w _ ?side1 ?side2 A53.out).mono ?_); (case side1 => repeat (first | (with_reducible first | exact HB.out | apply below_alloc | apply pw_below_drewN | apply below_drew1 | refine below_set ?_ GE109.out | refine below_set ?_ GE118.out) | exact HB.out)); (case side2 => exact Kd.R_tight rfl HO_119001.out); rintro e w58 ⟨rfl, hy0, hb, hkp⟩; refine ⟨_, rfl, ?_⟩; have n0_ := Aside0.mk (Kd.R_mono (ok' := fun k_ => some k_ ≠ (.slice Ao21 t114.length co21 : Value).ownBlock) (Kd.R_keptB (HO_110001.out) hkp (fun k_ hk_ hs_ => (hk_) hs_)) (fun k_ hk_ => hk_.1)); have n1_ := Aside0.mk (Kd.R_reok rfl hy0 (fun k_ e_ => HO_119001.out.1 k_ e_)); have n2_ := Aside0.mk (blk_kept (by (with_reducible repeat (first | refine blk_drewN ?_ _ | refine blk_drew ?_ | refine blk_alloc ?_ _)); exact BK109.out) hkp (fun hs_ => (fun e_ => (Kd.R_ne HO_119001.out BK109.out (by decide)) e_) hs_)); have n3_ := Aside0.mk (blk_kept (by (with_reducible repeat (first | refine blk_drewN ?_ _ | refine blk_drew ?_ | refine blk_alloc ?_ _)); exact BK118.out) hkp (fun hs_ => (fun e_ => (Kd.R_ne HO_119001.out BK118.out (by decide)) e_) hs_)); have n4_ := Aside0.mk (hb); clear HO_110001; clear HO_119001; clear BK109; clear BK118; clear HB; have HO_110001 := n0_; have HO_119001 := n1_; have BK109 := n2_; have BK118 := n3_; have HB := n4_; clear n0_ n1_ n2_ n3_ n4_; (try clear hb); (try clear hkp); (try clear hy0); have hcz59_0 : w58.cell? ⟨gb118, 0, none⟩ = some (.int .i64 t113) := (blk_cell BK118.out 0).trans rfl; have hcz59_1 : w58.cell? ⟨gb118, 1, none⟩ = some (.slice Ao21 t114.length co21) := (blk_cell BK118.out 1).trans rfl; have hfz59_0 := blk_frozen BK118.out 0; have hfz59_1 := blk_frozen BK118.out 1) | ((with_reducible refine gate_callee (f := 22) rfl ?_); refine goesL_ (some 68) rfl rfl Try.func22 (by kernel_rfl) rfl #[.agg #[.int .i64 t113, .slice Ao21 t128.length co21], .int .i64 1] rfl (by (try simp only [List.map_toArray, List.map_cons, List.map_nil]); first | done | (rw [show t128.length = t114.length from (Kd.R_reads' HO_119001.out).1.symm] <;> rfl) | rfl | (simp only [List.length_drop, List.length_take]; rfl)) ?_; (with_reducible refine (laws_heldComplex.calls kj36 t113 _ _ t128 1 t129 _ ?side1 ?side2 A54.out).mono ?_); (case side1 => repeat (first | exact (Kd.R_reads' HO_119001.out).2.2 | (with_reducible refine Kd.C_alloc ?_ _) | (with_reducible refine Kd.C_drewN ?_ _) | (with_reducible refine Kd.C_drew ?_))); (case side2 => rw [show t128.length = t114.length from (Kd.R_reads' HO_119001.out).1.symm]; exact (Kd.R_reads' HO_119001.out).2.1); rintro e w60 ⟨rfl, hb⟩; refine ⟨_, rfl, ?_⟩; have n0_ := Aside0.mk (Kd.R_below (by (with_reducible repeat (first | apply Kd.R_alloc | apply Kd.R_drewN | apply Kd.R_drew)); exact HO_110001.out) hb); have n1_ := Aside0.mk (Kd.R_below (by (with_reducible repeat (first | apply Kd.R_alloc | apply Kd.R_drewN | apply Kd.R_drew)); exact HO_119001.out) hb); have n2_ := Aside0.mk (blk_below (g := gb109) (o := .cells #[.int .i64 t104, .slice Ao14 t105.length co14] 25 (0, 0)) (by (with_reducible repeat (first | refine blk_drewN ?_ _ | refine blk_drew ?_ | refine blk_alloc ?_ _)); exact BK109.out) hb); have n3_ := Aside0.mk (blk_below (g := gb118) (o := .cells #[.int .i64 t113, .slice Ao21 t114.length co21] 25 (0, 0)) (by (with_reducible repeat (first | refine blk_drewN ?_ _ | refine blk_drew ?_ | refine blk_alloc ?_ _)); exact BK118.out) hb); have n4_ := Aside0.mk (below_step (by repeat (first | (with_reducible first | exact HB.out | apply below_alloc | apply pw_below_drewN | apply below_drew1 | refine below_set ?_ GE109.out | refine below_set ?_ GE118.out) | exact HB.out)) hb); clear HO_110001; clear HO_119001; clear BK109; clear BK118; clear HB; have HO_110001 := n0_; have HO_119001 := n1_; have BK109 := n2_; have BK118 := n3_; have HB := n4_; clear n0_ n1_ n2_ n3_ n4_; (try clear hb); (try clear hb2); (try clear hk); (try clear hi)))
                    go_ret
                    exact ⟨by first | rfl | (simp [errW_none, errW_some] <;> rfl) | (simp [*, errW_none, errW_some] <;> rfl), by repeat (first | (with_reducible first | exact HB.out | apply below_alloc | apply pw_below_drewN | apply below_drew1 | refine below_set ?_ GE109.out | refine below_set ?_ GE118.out) | exact HB.out)⟩
                  · rw [if_neg c55] at H
                    have c55b0 : decide (t129 < 0) = false := decide_eq_false c55
                    clear c55
                    by_cases c61 : t129 = t127
                    · rw [if_pos c61] at H
                      have c61b0 : (t129 == t127) = true := beq_iff_eq.mpr c61
                      have c61b1 : (t129 != t127) = false := bne_eq_false_iff_eq.mpr c61
                      clear c61
                      replace H := Option.bind_eq_some_iff.mp H
                      obtain ⟨t130, A620, H⟩ := H
                      replace H : ((impl_ComplexOf.f a0 t130).bind fun bt133 => ((laws_eqComplex.f kj36 bt133.1 bt133.2.1 t104 t105).bind fun t139 => (if t139 = true then (laws_FnExactComplexOf.j2 kj36 t127 (bt133.2.2 != t108) t113 t128) else (laws_FnExactComplexOf.j2 kj36 t127 true t113 t128)))) = some r := H
                      have A62 := Aside0.mk A620
                      clear A620
                      replace H := Option.bind_eq_some_iff.mp H
                      obtain ⟨⟨t133, t134, t137⟩, A630, H⟩ := H
                      replace H : ((laws_eqComplex.f kj36 t133 t134 t104 t105).bind fun t139 => (if t139 = true then (laws_FnExactComplexOf.j2 kj36 t127 (t137 != t108) t113 t128) else (laws_FnExactComplexOf.j2 kj36 t127 true t113 t128))) = some r := H
                      have A63 := Aside0.mk A630
                      clear A630
                      have HC64 := Aside0.mk H
                      clear H
                      have hnb65 := NB118_109.out
                      have hnc65 := NB109_118.out
                      have hcz66_0 : wc.cell? ⟨gb118, 0, none⟩ = some (.int .i64 t113) := (blk_cell BK118.out 0).trans rfl
                      have hcz66_1 : wc.cell? ⟨gb118, 1, none⟩ = some (.slice Ao21 t114.length co21) := (blk_cell BK118.out 1).trans rfl
                      have hfz66_0 := blk_frozen BK118.out 0
                      have hfz66_1 := blk_frozen BK118.out 1
                      go_upto_region 23 with (first | ((with_reducible refine gate_callee (f := 21) rfl ?_); refine goesL_ (some 65) rfl rfl Try.func21 (by kernel_rfl) rfl #[.agg #[.int .i64 t113, .slice Ao21 t114.length co21], .int .i64 1] rfl (by (try simp only [List.map_toArray, List.map_cons, List.map_nil]); first | done | rfl | (simp only [List.length_drop, List.length_take]; rfl)) ?_; (with_reducible refine (laws_markComplex.calls kj36 t113 (fun k_ => some k_ = (.slice Ao21 t114.length co21 : Value).ownBlock) (.slice Ao21 t114.length co21) t114 1 t127 t128 w _ ?side1 ?side2 A53.out).mono ?_); (case side1 => repeat (first | (with_reducible first | exact HB.out | apply below_alloc | apply pw_below_drewN | apply below_drew1 | refine below_set ?_ GE109.out | refine below_set ?_ GE118.out) | exact HB.out)); (case side2 => exact Kd.R_tight rfl HO_119001.out); rintro e w67 ⟨rfl, hy0, hb, hkp⟩; refine ⟨_, rfl, ?_⟩; have n0_ := Aside0.mk (Kd.R_mono (ok' := fun k_ => some k_ ≠ (.slice Ao21 t114.length co21 : Value).ownBlock) (Kd.R_keptB (HO_110001.out) hkp (fun k_ hk_ hs_ => (hk_) hs_)) (fun k_ hk_ => hk_.1)); have n1_ := Aside0.mk (Kd.R_reok rfl hy0 (fun k_ e_ => HO_119001.out.1 k_ e_)); have n2_ := Aside0.mk (blk_kept (by (with_reducible repeat (first | refine blk_drewN ?_ _ | refine blk_drew ?_ | refine blk_alloc ?_ _)); exact BK109.out) hkp (fun hs_ => (fun e_ => (Kd.R_ne HO_119001.out BK109.out (by decide)) e_) hs_)); have n3_ := Aside0.mk (blk_kept (by (with_reducible repeat (first | refine blk_drewN ?_ _ | refine blk_drew ?_ | refine blk_alloc ?_ _)); exact BK118.out) hkp (fun hs_ => (fun e_ => (Kd.R_ne HO_119001.out BK118.out (by decide)) e_) hs_)); have n4_ := Aside0.mk (hb); clear HO_110001; clear HO_119001; clear BK109; clear BK118; clear HB; have HO_110001 := n0_; have HO_119001 := n1_; have BK109 := n2_; have BK118 := n3_; have HB := n4_; clear n0_ n1_ n2_ n3_ n4_; (try clear hb); (try clear hkp); (try clear hy0); have hcz68_0 : w67.cell? ⟨gb118, 0, none⟩ = some (.int .i64 t113) := (blk_cell BK118.out 0).trans rfl; have hcz68_1 : w67.cell? ⟨gb118, 1, none⟩ = some (.slice Ao21 t114.length co21) := (blk_cell BK118.out 1).trans rfl; have hfz68_0 := blk_frozen BK118.out 0; have hfz68_1 := blk_frozen BK118.out 1) | ((with_reducible refine gate_callee (f := 22) rfl ?_); refine goesL_ (some 68) rfl rfl Try.func22 (by kernel_rfl) rfl #[.agg #[.int .i64 t113, .slice Ao21 t128.length co21], .int .i64 1] rfl (by (try simp only [List.map_toArray, List.map_cons, List.map_nil]); first | done | (rw [show t128.length = t114.length from (Kd.R_reads' HO_119001.out).1.symm] <;> rfl) | rfl | (simp only [List.length_drop, List.length_take]; rfl)) ?_; (with_reducible refine (laws_heldComplex.calls kj36 t113 _ _ t128 1 t129 _ ?side1 ?side2 A54.out).mono ?_); (case side1 => repeat (first | exact (Kd.R_reads' HO_119001.out).2.2 | (with_reducible refine Kd.C_alloc ?_ _) | (with_reducible refine Kd.C_drewN ?_ _) | (with_reducible refine Kd.C_drew ?_))); (case side2 => rw [show t128.length = t114.length from (Kd.R_reads' HO_119001.out).1.symm]; exact (Kd.R_reads' HO_119001.out).2.1); rintro e w69 ⟨rfl, hb⟩; refine ⟨_, rfl, ?_⟩; have n0_ := Aside0.mk (Kd.R_below (by (with_reducible repeat (first | apply Kd.R_alloc | apply Kd.R_drewN | apply Kd.R_drew)); exact HO_110001.out) hb); have n1_ := Aside0.mk (Kd.R_below (by (with_reducible repeat (first | apply Kd.R_alloc | apply Kd.R_drewN | apply Kd.R_drew)); exact HO_119001.out) hb); have n2_ := Aside0.mk (blk_below (g := gb109) (o := .cells #[.int .i64 t104, .slice Ao14 t105.length co14] 25 (0, 0)) (by (with_reducible repeat (first | refine blk_drewN ?_ _ | refine blk_drew ?_ | refine blk_alloc ?_ _)); exact BK109.out) hb); have n3_ := Aside0.mk (blk_below (g := gb118) (o := .cells #[.int .i64 t113, .slice Ao21 t114.length co21] 25 (0, 0)) (by (with_reducible repeat (first | refine blk_drewN ?_ _ | refine blk_drew ?_ | refine blk_alloc ?_ _)); exact BK118.out) hb); have n4_ := Aside0.mk (below_step (by repeat (first | (with_reducible first | exact HB.out | apply below_alloc | apply pw_below_drewN | apply below_drew1 | refine below_set ?_ GE109.out | refine below_set ?_ GE118.out) | exact HB.out)) hb); clear HO_110001; clear HO_119001; clear BK109; clear BK118; clear HB; have HO_110001 := n0_; have HO_119001 := n1_; have BK109 := n2_; have BK118 := n3_; have HB := n4_; clear n0_ n1_ n2_ n3_ n4_; (try clear hb); (try clear hb2); (try clear hk); (try clear hi)) | ((with_reducible refine gate_callee (f := 16) rfl ?_); refine goesL_ (some 77) rfl rfl Try.func16 (by kernel_rfl) rfl #[.slice A1 l1.length c1] rfl (by (try simp only [List.map_toArray, List.map_cons, List.map_nil]); first | done | rfl | (simp only [List.length_drop, List.length_take]; rfl)) ?_; (with_reducible refine (laws_toInt64S.calls kj36 _ _ l1 t130 _ ?side1 ?side2 A62.out).mono ?_); (case side1 => repeat (first | exact (Kd.C_below HR1.out HB.out) | (with_reducible refine Kd.C_alloc ?_ _) | (with_reducible refine Kd.C_drewN ?_ _) | (with_reducible refine Kd.C_drew ?_))); (case side2 => exact HC1.out); rintro e w70 ⟨v131, rfl, ho0, hb⟩; refine ⟨_, rfl, ?_⟩; have n0_ := Aside0.mk (Kd.R_elder' (by (with_reducible repeat (first | apply Kd.R_alloc | apply Kd.R_drewN | apply Kd.R_drew)); exact HO_110001.out) (Kd.R_base ho0) hb); have n1_ := Aside0.mk (Kd.R_elder' (by (with_reducible repeat (first | apply Kd.R_alloc | apply Kd.R_drewN | apply Kd.R_drew)); exact HO_119001.out) (Kd.R_base ho0) hb); have n2_ := Aside0.mk (Kd.R_lower (Kd.R_new' (Kd.R_new' ho0 (Kd.R_lt (by (with_reducible repeat (first | apply Kd.R_alloc | apply Kd.R_drewN | apply Kd.R_drew)); exact HO_110001.out))) (Kd.R_lt (by (with_reducible repeat (first | apply Kd.R_alloc | apply Kd.R_drewN | apply Kd.R_drew)); exact HO_119001.out))) (below_size (by repeat (first | (with_reducible first | exact HB.out | apply below_alloc | apply pw_below_drewN | apply below_drew1 | refine below_set ?_ GE109.out | refine below_set ?_ GE118.out) | exact HB.out)))); have n3_ := Aside0.mk (blk_below (g := gb109) (o := .cells #[.int .i64 t104, .slice Ao14 t105.length co14] 25 (0, 0)) (by (with_reducible repeat (first | refine blk_drewN ?_ _ | refine blk_drew ?_ | refine blk_alloc ?_ _)); exact BK109.out) hb); have n4_ := Aside0.mk (blk_below (g := gb118) (o := .cells #[.int .i64 t113, .slice Ao21 t114.length co21] 25 (0, 0)) (by (with_reducible repeat (first | refine blk_drewN ?_ _ | refine blk_drew ?_ | refine blk_alloc ?_ _)); exact BK118.out) hb); have n5_ := Aside0.mk (below_step (by repeat (first | (with_reducible first | exact HB.out | apply below_alloc | apply pw_below_drewN | apply below_drew1 | refine below_set ?_ GE109.out | refine below_set ?_ GE118.out) | exact HB.out)) hb); clear HO_110001; clear HO_119001; clear BK109; clear BK118; clear HB; have HO_110001 := n0_; have HO_119001 := n1_; have HO132 := n2_; have BK109 := n3_; have BK118 := n4_; have HB := n5_; clear n0_ n1_ n2_ n3_ n4_ n5_; (try clear hb); (try clear hb2); (try clear hk); (try clear hi); (try clear ho0); obtain ⟨Ao71, co71, eo71⟩ := Kd.R_slice HO132.out; subst eo71) | ((with_reducible refine gate_callee (f := 17) rfl ?_); refine goesL_ (some 78) rfl rfl Try.func17 (by kernel_rfl) rfl #[.int .i64 a0, .slice Ao71 t130.length co71] rfl (by (try simp only [List.map_toArray, List.map_cons, List.map_nil]); first | done | rfl | (simp only [List.length_drop, List.length_take]; rfl)) ?_; (with_reducible refine (impl_ComplexOf.calls a0 _ _ t130 t133 t134 t137 _ ?side1 ?side2 A63.out).mono ?_); (case side1 => repeat (first | exact (Kd.R_reads' HO132.out).2.2 | (with_reducible refine Kd.C_alloc ?_ _) | (with_reducible refine Kd.C_drewN ?_ _) | (with_reducible refine Kd.C_drew ?_))); (case side2 => exact (Kd.R_reads' HO132.out).2.1); rintro e w72 ⟨v135, rfl, ho0, hb⟩; refine ⟨_, rfl, ?_⟩; have n0_ := Aside0.mk (Kd.R_elder' (by (with_reducible repeat (first | apply Kd.R_alloc | apply Kd.R_drewN | apply Kd.R_drew)); exact HO_110001.out) (Kd.R_base ho0) hb); have n1_ := Aside0.mk (Kd.R_elder' (by (with_reducible repeat (first | apply Kd.R_alloc | apply Kd.R_drewN | apply Kd.R_drew)); exact HO_119001.out) (Kd.R_base ho0) hb); have n2_ := Aside0.mk (Kd.R_elder' (by (with_reducible repeat (first | apply Kd.R_alloc | apply Kd.R_drewN | apply Kd.R_drew)); exact HO132.out) (Kd.R_base ho0) hb); have n3_ := Aside0.mk (Kd.R_lower (Kd.R_new' (Kd.R_new' (Kd.R_new' ho0 (Kd.R_lt (by (with_reducible repeat (first | apply Kd.R_alloc | apply Kd.R_drewN | apply Kd.R_drew)); exact HO_110001.out))) (Kd.R_lt (by (with_reducible repeat (first | apply Kd.R_alloc | apply Kd.R_drewN | apply Kd.R_drew)); exact HO_119001.out))) (Kd.R_lt (by (with_reducible repeat (first | apply Kd.R_alloc | apply Kd.R_drewN | apply Kd.R_drew)); exact HO132.out))) (below_size (by repeat (first | (with_reducible first | exact HB.out | apply below_alloc | apply pw_below_drewN | apply below_drew1 | refine below_set ?_ GE109.out | refine below_set ?_ GE118.out) | exact HB.out)))); have n4_ := Aside0.mk (blk_below (g := gb109) (o := .cells #[.int .i64 t104, .slice Ao14 t105.length co14] 25 (0, 0)) (by (with_reducible repeat (first | refine blk_drewN ?_ _ | refine blk_drew ?_ | refine blk_alloc ?_ _)); exact BK109.out) hb); have n5_ := Aside0.mk (blk_below (g := gb118) (o := .cells #[.int .i64 t113, .slice Ao21 t114.length co21] 25 (0, 0)) (by (with_reducible repeat (first | refine blk_drewN ?_ _ | refine blk_drew ?_ | refine blk_alloc ?_ _)); exact BK118.out) hb); have n6_ := Aside0.mk (below_step (by repeat (first | (with_reducible first | exact HB.out | apply below_alloc | apply pw_below_drewN | apply below_drew1 | refine below_set ?_ GE109.out | refine below_set ?_ GE118.out) | exact HB.out)) hb); clear HO_110001; clear HO_119001; clear HO132; clear BK109; clear BK118; clear HB; have HO_110001 := n0_; have HO_119001 := n1_; have HO132 := n2_; have HO136 := n3_; have BK109 := n4_; have BK118 := n5_; have HB := n6_; clear n0_ n1_ n2_ n3_ n4_ n5_ n6_; (try clear hb); (try clear hb2); (try clear hk); (try clear hi); (try clear ho0)) | ((with_reducible refine gate_dst (N := 13) rfl ?_); refine box_event ?hg (N := 13) ?hd (cs := #[.int .i64 0, .slice none 0 0]) (t := 25) ?hr ?_; (case hd => rfl); (case hg => rfl); (case hr => first | (go_simp; done) | (go_simp; rfl)); intro gb138 hg w73 hbox hb; have n0_ := Aside0.mk (Kd.R_below (by (with_reducible repeat (first | apply Kd.R_alloc | apply Kd.R_drewN | apply Kd.R_drew)); exact HO_110001.out) hb); have n1_ := Aside0.mk (Kd.R_below (by (with_reducible repeat (first | apply Kd.R_alloc | apply Kd.R_drewN | apply Kd.R_drew)); exact HO_119001.out) hb); have n2_ := Aside0.mk (Kd.R_below (by (with_reducible repeat (first | apply Kd.R_alloc | apply Kd.R_drewN | apply Kd.R_drew)); exact HO132.out) hb); have n3_ := Aside0.mk (Kd.R_below (by (with_reducible repeat (first | apply Kd.R_alloc | apply Kd.R_drewN | apply Kd.R_drew)); exact HO136.out) hb); have n4_ := Aside0.mk (blk_below (g := gb109) (o := .cells #[.int .i64 t104, .slice Ao14 t105.length co14] 25 (0, 0)) (by (with_reducible repeat (first | refine blk_drewN ?_ _ | refine blk_drew ?_ | refine blk_alloc ?_ _)); exact BK109.out) hb); have n5_ := Aside0.mk (blk_below (g := gb118) (o := .cells #[.int .i64 t113, .slice Ao21 t114.length co21] 25 (0, 0)) (by (with_reducible repeat (first | refine blk_drewN ?_ _ | refine blk_drew ?_ | refine blk_alloc ?_ _)); exact BK118.out) hb); have n6_ := Aside0.mk (below_step (by repeat (first | (with_reducible first | exact HB.out | apply below_alloc | apply pw_below_drewN | apply below_drew1 | refine below_set ?_ GE109.out | refine below_set ?_ GE118.out) | exact HB.out)) hb); have n7_ := Aside0.mk (hbox); have n8_ := Aside0.mk ((by rw [hg]; exact (below_size (by repeat (first | (with_reducible first | exact HB.out | apply below_alloc | apply pw_below_drewN | apply below_drew1 | refine below_set ?_ GE109.out | refine below_set ?_ GE118.out) | exact HB.out))) : w.heap.size ≤ gb138)); have n9_ := Aside0.mk ((by rw [hg]; exact (below_size (by repeat (first | (with_reducible first | exact HB.out | apply below_alloc | apply pw_below_drewN | apply below_drew1 | refine below_set ?_ GE109.out | refine below_set ?_ GE118.out) | exact HB.out))) : w.heap.size ≤ gb138)); have n10_ := Aside0.mk ((by rw [hg]; exact Nat.ne_of_lt (blk_lt (g := gb109) (o := .cells #[.int .i64 t104, .slice Ao14 t105.length co14] 25 (0, 0)) (by (with_reducible repeat (first | refine blk_drewN ?_ _ | refine blk_drew ?_ | refine blk_alloc ?_ _)); exact BK109.out)) : gb109 ≠ gb138)); have n11_ := Aside0.mk ((by rw [hg]; exact Nat.ne_of_gt (blk_lt (g := gb109) (o := .cells #[.int .i64 t104, .slice Ao14 t105.length co14] 25 (0, 0)) (by (with_reducible repeat (first | refine blk_drewN ?_ _ | refine blk_drew ?_ | refine blk_alloc ?_ _)); exact BK109.out)) : gb138 ≠ gb109)); have n12_ := Aside0.mk ((by rw [hg]; exact Nat.ne_of_lt (blk_lt (g := gb118) (o := .cells #[.int .i64 t113, .slice Ao21 t114.length co21] 25 (0, 0)) (by (with_reducible repeat (first | refine blk_drewN ?_ _ | refine blk_drew ?_ | refine blk_alloc ?_ _)); exact BK118.out)) : gb118 ≠ gb138)); have n13_ := Aside0.mk ((by rw [hg]; exact Nat.ne_of_gt (blk_lt (g := gb118) (o := .cells #[.int .i64 t113, .slice Ao21 t114.length co21] 25 (0, 0)) (by (with_reducible repeat (first | refine blk_drewN ?_ _ | refine blk_drew ?_ | refine blk_alloc ?_ _)); exact BK118.out)) : gb138 ≠ gb118)); clear HO_110001; clear HO_119001; clear HO132; clear HO136; clear BK109; clear BK118; clear HB; have HO_110001 := n0_; have HO_119001 := n1_; have HO132 := n2_; have HO136 := n3_; have BK109 := n4_; have BK118 := n5_; have HB := n6_; have BK138 := n7_; have GW138 := n8_; have GE138 := n9_; have NB109_138 := n10_; have NB138_109 := n11_; have NB118_138 := n12_; have NB138_118 := n13_; clear n0_ n1_ n2_ n3_ n4_ n5_ n6_ n7_ n8_ n9_ n10_ n11_ n12_ n13_; clear hb hbox hg; have hnb74 := NB138_109.out; have hnc74 := NB109_138.out; have hnb75 := NB138_118.out; have hnc75 := NB118_138.out; have hcz76_0 : w73.cell? ⟨gb138, 0, none⟩ = some (.int .i64 0) := (blk_cell BK138.out 0).trans rfl; have hcz76_1 : w73.cell? ⟨gb138, 1, none⟩ = some (.slice none 0 0) := (blk_cell BK138.out 1).trans rfl; have hfz76_0 := blk_frozen BK138.out 0; have hfz76_1 := blk_frozen BK138.out 1; obtain ⟨Ao77, co77, eo77⟩ := Kd.R_slice HO136.out; subst eo77))
                      (try simp only [Act.put, List.setIfInBounds_toArray, List.set_cons_zero, List.set_cons_succ])
                      go_cut [89] (fun v89 wc => ∃ (kq : Nat) (x89_63 : Bool), v89 = .bool x89_63 ∧ Aside0 (laws_FnExactComplexOf.j2 kq t127 x89_63 t113 t128 = some r) ∧ Aside0 (kq ≤ kj36) ∧ Aside0 (Kd.R (Kd.int .i64) 2 wc w.heap.size (fun k_ => some k_ ≠ ((.slice Ao21 t114.length co21) : Value).ownBlock ∧ some k_ ≠ ((.slice Ao77 t134.length co77) : Value).ownBlock) (.slice Ao14 t105.length co14) t105) ∧ Aside0 (Kd.R (Kd.int .i64) 2 wc w.heap.size (fun k_ => some k_ ≠ ((.slice Ao14 t105.length co14) : Value).ownBlock ∧ some k_ ≠ ((.slice Ao77 t134.length co77) : Value).ownBlock) (.slice Ao21 t114.length co21) t128) ∧ Aside0 (Kd.R (Kd.int .i64) 2 wc w.heap.size (fun k_ => some k_ ≠ ((.slice Ao14 t105.length co14) : Value).ownBlock ∧ some k_ ≠ ((.slice Ao21 t114.length co21) : Value).ownBlock) (.slice Ao77 t134.length co77) t134) ∧ Aside0 (wc.heap[gb109]? = some (.cells #[.int .i64 t104, (.slice Ao14 t105.length co14)] 25 (0, 0))) ∧ Aside0 (wc.heap[gb118]? = some (.cells #[.int .i64 t113, (.slice Ao21 t114.length co21)] 25 (0, 0))) ∧ Aside0 (wc.heap[gb138]? = some (.cells #[.int .i64 t133, (.slice Ao77 t134.length co77)] 25 (0, 0))) ∧ Aside0 (Below w.heap.size w wc))
                      case first =>
                        have H := HC64.out
                        clear HC64
                        replace H := Option.bind_eq_some_iff.mp H
                        obtain ⟨t139, A780, H⟩ := H
                        replace H : (if t139 = true then (laws_FnExactComplexOf.j2 kj36 t127 (t137 != t108) t113 t128) else (laws_FnExactComplexOf.j2 kj36 t127 true t113 t128)) = some r := H
                        have A78 := Aside0.mk A780
                        clear A780
                        by_cases c79 : t139 = true
                        · subst c79
                          have H1 : (laws_FnExactComplexOf.j2 kj36 t127 (t137 != t108) t113 t128) = some r := by rw [if_pos rfl] at H; exact H
                          clear H
                          have H := H1
                          clear H1
                          have H' := Aside0.mk H
                          clear H
                          have hnb80 := NB138_109.out
                          have hnc80 := NB109_138.out
                          have hnb81 := NB138_118.out
                          have hnc81 := NB118_138.out
                          have hcz82_0 : w73.cell? ⟨gb138, 0, none⟩ = some (.int .i64 0) := (blk_cell BK138.out 0).trans rfl
                          have hcz82_1 : w73.cell? ⟨gb138, 1, none⟩ = some (.slice none 0 0) := (blk_cell BK138.out 1).trans rfl
                          have hfz82_0 := blk_frozen BK138.out 0
                          have hfz82_1 := blk_frozen BK138.out 1
                          have hnb83 := NB109_118.out
                          have hnc83 := NB118_109.out
                          have hcz84_0 : w73.cell? ⟨gb109, 0, none⟩ = some (.int .i64 t104) := (blk_cell BK109.out 0).trans rfl
                          have hcz84_1 : w73.cell? ⟨gb109, 1, none⟩ = some (.slice Ao14 t105.length co14) := (blk_cell BK109.out 1).trans rfl
                          have hfz84_0 := blk_frozen BK109.out 0
                          have hfz84_1 := blk_frozen BK109.out 1
                          go_wp2_with (first | ((with_reducible refine gate_callee (f := 18) rfl ?_); refine goesL_ (some 83) rfl rfl Try.func18 (by kernel_rfl) rfl #[.agg #[.int .i64 t133, .slice Ao77 t134.length co77], .agg #[.int .i64 t104, .slice Ao14 t105.length co14]] rfl (by (try simp only [List.map_toArray, List.map_cons, List.map_nil]); first | done | rfl | (simp only [List.length_drop, List.length_take]; rfl)) ?_; (with_reducible refine (laws_eqComplex.calls kj36 t133 _ _ t134 t104 _ _ t105 true _ ?side1 ?side2 ?side3 ?side4 A78.out).mono ?_); (case side1 => refine (Kd.R_reads' (e := 2) (base := w.heap.size) (ok := fun k_ => (((True ∧ some k_ ≠ (.slice Ao14 t105.length co14 : Value).ownBlock) ∧ some k_ ≠ (.slice Ao21 t114.length co21 : Value).ownBlock) ∧ some k_ ≠ (.slice Ao71 t130.length co71 : Value).ownBlock)) (n := t134.length) (c := co77) ?_).2.2; exact (by (with_reducible repeat (first | apply Kd.R_alloc | apply Kd.R_drewN | apply Kd.R_drew)); exact (Kd.R_mono (Kd.R_far (p := ⟨gb138, 1, none⟩) (Kd.R_far (p := ⟨gb138, 0, none⟩) (Kd.R_types HO136.out BK138.out (by decide)) (fun _ hk => hk.2) (.int .i64 t133)) (fun _ hk => hk.2) (.slice Ao77 t134.length co77)) (fun _ h_ => h_.1)))); (case side2 => exact (Kd.R_reads' HO136.out).2.1); (case side3 => refine (Kd.R_reads' (e := 2) (base := w.heap.size) (ok := fun k_ => ((some k_ ≠ (.slice Ao21 t114.length co21 : Value).ownBlock ∧ some k_ ≠ (.slice Ao71 t130.length co71 : Value).ownBlock) ∧ some k_ ≠ (.slice Ao77 t134.length co77 : Value).ownBlock)) (n := t105.length) (c := co14) ?_).2.2; exact (by (with_reducible repeat (first | apply Kd.R_alloc | apply Kd.R_drewN | apply Kd.R_drew)); exact (Kd.R_mono (Kd.R_far (p := ⟨gb138, 1, none⟩) (Kd.R_far (p := ⟨gb138, 0, none⟩) (Kd.R_types HO_110001.out BK138.out (by decide)) (fun _ hk => hk.2) (.int .i64 t133)) (fun _ hk => hk.2) (.slice Ao77 t134.length co77)) (fun _ h_ => h_.1)))); (case side4 => exact (Kd.R_reads' HO_110001.out).2.1); rintro e w85 ⟨rfl, hb⟩; refine ⟨_, rfl, ?_⟩; have n0_ := Aside0.mk (Kd.R_below (by (with_reducible repeat (first | apply Kd.R_alloc | apply Kd.R_drewN | apply Kd.R_drew)); exact (Kd.R_mono (Kd.R_far (p := ⟨gb138, 1, none⟩) (Kd.R_far (p := ⟨gb138, 0, none⟩) (Kd.R_types HO_110001.out BK138.out (by decide)) (fun _ hk => hk.2) (.int .i64 t133)) (fun _ hk => hk.2) (.slice Ao77 t134.length co77)) (fun _ h_ => h_.1))) hb); have n1_ := Aside0.mk (Kd.R_below (by (with_reducible repeat (first | apply Kd.R_alloc | apply Kd.R_drewN | apply Kd.R_drew)); exact (Kd.R_mono (Kd.R_far (p := ⟨gb138, 1, none⟩) (Kd.R_far (p := ⟨gb138, 0, none⟩) (Kd.R_types HO_119001.out BK138.out (by decide)) (fun _ hk => hk.2) (.int .i64 t133)) (fun _ hk => hk.2) (.slice Ao77 t134.length co77)) (fun _ h_ => h_.1))) hb); have n2_ := Aside0.mk (Kd.R_below (by (with_reducible repeat (first | apply Kd.R_alloc | apply Kd.R_drewN | apply Kd.R_drew)); exact (Kd.R_mono (Kd.R_far (p := ⟨gb138, 1, none⟩) (Kd.R_far (p := ⟨gb138, 0, none⟩) (Kd.R_types HO132.out BK138.out (by decide)) (fun _ hk => hk.2) (.int .i64 t133)) (fun _ hk => hk.2) (.slice Ao77 t134.length co77)) (fun _ h_ => h_.1))) hb); have n3_ := Aside0.mk (Kd.R_below (by (with_reducible repeat (first | apply Kd.R_alloc | apply Kd.R_drewN | apply Kd.R_drew)); exact (Kd.R_mono (Kd.R_far (p := ⟨gb138, 1, none⟩) (Kd.R_far (p := ⟨gb138, 0, none⟩) (Kd.R_types HO136.out BK138.out (by decide)) (fun _ hk => hk.2) (.int .i64 t133)) (fun _ hk => hk.2) (.slice Ao77 t134.length co77)) (fun _ h_ => h_.1))) hb); have n4_ := Aside0.mk (blk_below (g := gb109) (o := .cells #[.int .i64 t104, .slice Ao14 t105.length co14] 25 (0, 0)) (by (with_reducible repeat (first | refine blk_drewN ?_ _ | refine blk_drew ?_ | refine blk_alloc ?_ _)); refine blk_far ?_ NB109_138.out _; (with_reducible repeat (first | refine blk_drewN ?_ _ | refine blk_drew ?_ | refine blk_alloc ?_ _)); refine blk_far ?_ NB109_138.out _; (with_reducible repeat (first | refine blk_drewN ?_ _ | refine blk_drew ?_ | refine blk_alloc ?_ _)); exact BK109.out) hb); have n5_ := Aside0.mk (blk_below (g := gb118) (o := .cells #[.int .i64 t113, .slice Ao21 t114.length co21] 25 (0, 0)) (by (with_reducible repeat (first | refine blk_drewN ?_ _ | refine blk_drew ?_ | refine blk_alloc ?_ _)); refine blk_far ?_ NB118_138.out _; (with_reducible repeat (first | refine blk_drewN ?_ _ | refine blk_drew ?_ | refine blk_alloc ?_ _)); refine blk_far ?_ NB118_138.out _; (with_reducible repeat (first | refine blk_drewN ?_ _ | refine blk_drew ?_ | refine blk_alloc ?_ _)); exact BK118.out) hb); have n6_ := Aside0.mk (blk_below (g := gb138) (o := .cells #[.int .i64 t133, .slice Ao77 t134.length co77] 25 (0, 0)) (by (with_reducible repeat (first | refine blk_drewN ?_ _ | refine blk_drew ?_ | refine blk_alloc ?_ _)); refine blk_put (cs := #[.int .i64 t133, .slice none 0 0]) ?_ 1 _ rfl; (with_reducible repeat (first | refine blk_drewN ?_ _ | refine blk_drew ?_ | refine blk_alloc ?_ _)); refine blk_put (cs := #[.int .i64 0, .slice none 0 0]) ?_ 0 _ rfl; (with_reducible repeat (first | refine blk_drewN ?_ _ | refine blk_drew ?_ | refine blk_alloc ?_ _)); exact BK138.out) hb); have n7_ := Aside0.mk (below_step (by repeat (first | (with_reducible first | exact HB.out | apply below_alloc | apply pw_below_drewN | apply below_drew1 | refine below_set ?_ GE109.out | refine below_set ?_ GE118.out | refine below_set ?_ GE138.out) | exact HB.out)) hb); clear HO_110001; clear HO_119001; clear HO132; clear HO136; clear BK109; clear BK118; clear BK138; clear HB; have HO_110001 := n0_; have HO_119001 := n1_; have HO132 := n2_; have HO136 := n3_; have BK109 := n4_; have BK118 := n5_; have BK138 := n6_; have HB := n7_; clear n0_ n1_ n2_ n3_ n4_ n5_ n6_ n7_; (try clear hb); (try clear hb2); (try clear hk); (try clear hi)))
                          go_meet
                          case rel => exact ⟨_, ((t137 != t108)), (by first | rfl | (simp; done) | (simp [*]; done)), H', ⟨by have := HJ7.out; have := HJ36.out; first | omega | exact Nat.le_refl _⟩, ⟨by (with_reducible repeat (first | apply Kd.R_alloc | apply Kd.R_drewN | apply Kd.R_drew)); exact Kd.R_mono HO_110001.out (fun _ hk => ⟨hk.1.1, hk.2⟩)⟩, ⟨by (with_reducible repeat (first | apply Kd.R_alloc | apply Kd.R_drewN | apply Kd.R_drew)); exact Kd.R_mono HO_119001.out (fun _ hk => ⟨hk.1.1, hk.2⟩)⟩, ⟨by (with_reducible repeat (first | apply Kd.R_alloc | apply Kd.R_drewN | apply Kd.R_drew)); exact Kd.R_mono HO136.out (fun _ hk => ⟨hk.1.1.2, hk.1.2⟩)⟩, ⟨by (with_reducible repeat (first | refine blk_drewN ?_ _ | refine blk_drew ?_ | refine blk_alloc ?_ _)); exact BK109.out⟩, ⟨by (with_reducible repeat (first | refine blk_drewN ?_ _ | refine blk_drew ?_ | refine blk_alloc ?_ _)); exact BK118.out⟩, ⟨by (with_reducible repeat (first | refine blk_drewN ?_ _ | refine blk_drew ?_ | refine blk_alloc ?_ _)); exact BK138.out⟩, ⟨by repeat (first | (with_reducible first | exact HB.out | apply below_alloc | apply pw_below_drewN | apply below_drew1 | refine below_set ?_ GE109.out | refine below_set ?_ GE118.out | refine below_set ?_ GE138.out) | exact HB.out)⟩⟩
                        · replace c79 := Bool.eq_false_iff.mpr c79
                          subst c79
                          have H1 : (laws_FnExactComplexOf.j2 kj36 t127 true t113 t128) = some r := by rw [if_neg (show ¬ (false = true) by decide)] at H; exact H
                          clear H
                          have H := H1
                          clear H1
                          have H' := Aside0.mk H
                          clear H
                          have hnb86 := NB138_109.out
                          have hnc86 := NB109_138.out
                          have hnb87 := NB138_118.out
                          have hnc87 := NB118_138.out
                          have hcz88_0 : w73.cell? ⟨gb138, 0, none⟩ = some (.int .i64 0) := (blk_cell BK138.out 0).trans rfl
                          have hcz88_1 : w73.cell? ⟨gb138, 1, none⟩ = some (.slice none 0 0) := (blk_cell BK138.out 1).trans rfl
                          have hfz88_0 := blk_frozen BK138.out 0
                          have hfz88_1 := blk_frozen BK138.out 1
                          have hnb89 := NB109_118.out
                          have hnc89 := NB118_109.out
                          have hcz90_0 : w73.cell? ⟨gb109, 0, none⟩ = some (.int .i64 t104) := (blk_cell BK109.out 0).trans rfl
                          have hcz90_1 : w73.cell? ⟨gb109, 1, none⟩ = some (.slice Ao14 t105.length co14) := (blk_cell BK109.out 1).trans rfl
                          have hfz90_0 := blk_frozen BK109.out 0
                          have hfz90_1 := blk_frozen BK109.out 1
                          go_wp2_with (first | ((with_reducible refine gate_callee (f := 18) rfl ?_); refine goesL_ (some 83) rfl rfl Try.func18 (by kernel_rfl) rfl #[.agg #[.int .i64 t133, .slice Ao77 t134.length co77], .agg #[.int .i64 t104, .slice Ao14 t105.length co14]] rfl (by (try simp only [List.map_toArray, List.map_cons, List.map_nil]); first | done | rfl | (simp only [List.length_drop, List.length_take]; rfl)) ?_; (with_reducible refine (laws_eqComplex.calls kj36 t133 _ _ t134 t104 _ _ t105 false _ ?side1 ?side2 ?side3 ?side4 A78.out).mono ?_); (case side1 => refine (Kd.R_reads' (e := 2) (base := w.heap.size) (ok := fun k_ => (((True ∧ some k_ ≠ (.slice Ao14 t105.length co14 : Value).ownBlock) ∧ some k_ ≠ (.slice Ao21 t114.length co21 : Value).ownBlock) ∧ some k_ ≠ (.slice Ao71 t130.length co71 : Value).ownBlock)) (n := t134.length) (c := co77) ?_).2.2; exact (by (with_reducible repeat (first | apply Kd.R_alloc | apply Kd.R_drewN | apply Kd.R_drew)); exact (Kd.R_mono (Kd.R_far (p := ⟨gb138, 1, none⟩) (Kd.R_far (p := ⟨gb138, 0, none⟩) (Kd.R_types HO136.out BK138.out (by decide)) (fun _ hk => hk.2) (.int .i64 t133)) (fun _ hk => hk.2) (.slice Ao77 t134.length co77)) (fun _ h_ => h_.1)))); (case side2 => exact (Kd.R_reads' HO136.out).2.1); (case side3 => refine (Kd.R_reads' (e := 2) (base := w.heap.size) (ok := fun k_ => ((some k_ ≠ (.slice Ao21 t114.length co21 : Value).ownBlock ∧ some k_ ≠ (.slice Ao71 t130.length co71 : Value).ownBlock) ∧ some k_ ≠ (.slice Ao77 t134.length co77 : Value).ownBlock)) (n := t105.length) (c := co14) ?_).2.2; exact (by (with_reducible repeat (first | apply Kd.R_alloc | apply Kd.R_drewN | apply Kd.R_drew)); exact (Kd.R_mono (Kd.R_far (p := ⟨gb138, 1, none⟩) (Kd.R_far (p := ⟨gb138, 0, none⟩) (Kd.R_types HO_110001.out BK138.out (by decide)) (fun _ hk => hk.2) (.int .i64 t133)) (fun _ hk => hk.2) (.slice Ao77 t134.length co77)) (fun _ h_ => h_.1)))); (case side4 => exact (Kd.R_reads' HO_110001.out).2.1); rintro e w91 ⟨rfl, hb⟩; refine ⟨_, rfl, ?_⟩; have n0_ := Aside0.mk (Kd.R_below (by (with_reducible repeat (first | apply Kd.R_alloc | apply Kd.R_drewN | apply Kd.R_drew)); exact (Kd.R_mono (Kd.R_far (p := ⟨gb138, 1, none⟩) (Kd.R_far (p := ⟨gb138, 0, none⟩) (Kd.R_types HO_110001.out BK138.out (by decide)) (fun _ hk => hk.2) (.int .i64 t133)) (fun _ hk => hk.2) (.slice Ao77 t134.length co77)) (fun _ h_ => h_.1))) hb); have n1_ := Aside0.mk (Kd.R_below (by (with_reducible repeat (first | apply Kd.R_alloc | apply Kd.R_drewN | apply Kd.R_drew)); exact (Kd.R_mono (Kd.R_far (p := ⟨gb138, 1, none⟩) (Kd.R_far (p := ⟨gb138, 0, none⟩) (Kd.R_types HO_119001.out BK138.out (by decide)) (fun _ hk => hk.2) (.int .i64 t133)) (fun _ hk => hk.2) (.slice Ao77 t134.length co77)) (fun _ h_ => h_.1))) hb); have n2_ := Aside0.mk (Kd.R_below (by (with_reducible repeat (first | apply Kd.R_alloc | apply Kd.R_drewN | apply Kd.R_drew)); exact (Kd.R_mono (Kd.R_far (p := ⟨gb138, 1, none⟩) (Kd.R_far (p := ⟨gb138, 0, none⟩) (Kd.R_types HO132.out BK138.out (by decide)) (fun _ hk => hk.2) (.int .i64 t133)) (fun _ hk => hk.2) (.slice Ao77 t134.length co77)) (fun _ h_ => h_.1))) hb); have n3_ := Aside0.mk (Kd.R_below (by (with_reducible repeat (first | apply Kd.R_alloc | apply Kd.R_drewN | apply Kd.R_drew)); exact (Kd.R_mono (Kd.R_far (p := ⟨gb138, 1, none⟩) (Kd.R_far (p := ⟨gb138, 0, none⟩) (Kd.R_types HO136.out BK138.out (by decide)) (fun _ hk => hk.2) (.int .i64 t133)) (fun _ hk => hk.2) (.slice Ao77 t134.length co77)) (fun _ h_ => h_.1))) hb); have n4_ := Aside0.mk (blk_below (g := gb109) (o := .cells #[.int .i64 t104, .slice Ao14 t105.length co14] 25 (0, 0)) (by (with_reducible repeat (first | refine blk_drewN ?_ _ | refine blk_drew ?_ | refine blk_alloc ?_ _)); refine blk_far ?_ NB109_138.out _; (with_reducible repeat (first | refine blk_drewN ?_ _ | refine blk_drew ?_ | refine blk_alloc ?_ _)); refine blk_far ?_ NB109_138.out _; (with_reducible repeat (first | refine blk_drewN ?_ _ | refine blk_drew ?_ | refine blk_alloc ?_ _)); exact BK109.out) hb); have n5_ := Aside0.mk (blk_below (g := gb118) (o := .cells #[.int .i64 t113, .slice Ao21 t114.length co21] 25 (0, 0)) (by (with_reducible repeat (first | refine blk_drewN ?_ _ | refine blk_drew ?_ | refine blk_alloc ?_ _)); refine blk_far ?_ NB118_138.out _; (with_reducible repeat (first | refine blk_drewN ?_ _ | refine blk_drew ?_ | refine blk_alloc ?_ _)); refine blk_far ?_ NB118_138.out _; (with_reducible repeat (first | refine blk_drewN ?_ _ | refine blk_drew ?_ | refine blk_alloc ?_ _)); exact BK118.out) hb); have n6_ := Aside0.mk (blk_below (g := gb138) (o := .cells #[.int .i64 t133, .slice Ao77 t134.length co77] 25 (0, 0)) (by (with_reducible repeat (first | refine blk_drewN ?_ _ | refine blk_drew ?_ | refine blk_alloc ?_ _)); refine blk_put (cs := #[.int .i64 t133, .slice none 0 0]) ?_ 1 _ rfl; (with_reducible repeat (first | refine blk_drewN ?_ _ | refine blk_drew ?_ | refine blk_alloc ?_ _)); refine blk_put (cs := #[.int .i64 0, .slice none 0 0]) ?_ 0 _ rfl; (with_reducible repeat (first | refine blk_drewN ?_ _ | refine blk_drew ?_ | refine blk_alloc ?_ _)); exact BK138.out) hb); have n7_ := Aside0.mk (below_step (by repeat (first | (with_reducible first | exact HB.out | apply below_alloc | apply pw_below_drewN | apply below_drew1 | refine below_set ?_ GE109.out | refine below_set ?_ GE118.out | refine below_set ?_ GE138.out) | exact HB.out)) hb); clear HO_110001; clear HO_119001; clear HO132; clear HO136; clear BK109; clear BK118; clear BK138; clear HB; have HO_110001 := n0_; have HO_119001 := n1_; have HO132 := n2_; have HO136 := n3_; have BK109 := n4_; have BK118 := n5_; have BK138 := n6_; have HB := n7_; clear n0_ n1_ n2_ n3_ n4_ n5_ n6_ n7_; (try clear hb); (try clear hb2); (try clear hk); (try clear hi)))
                          go_meet
                          case rel => exact ⟨_, (true), (by first | rfl | (simp; done) | (simp [*]; done)), H', ⟨by have := HJ7.out; have := HJ36.out; first | omega | exact Nat.le_refl _⟩, ⟨by (with_reducible repeat (first | apply Kd.R_alloc | apply Kd.R_drewN | apply Kd.R_drew)); exact Kd.R_mono HO_110001.out (fun _ hk => ⟨hk.1.1, hk.2⟩)⟩, ⟨by (with_reducible repeat (first | apply Kd.R_alloc | apply Kd.R_drewN | apply Kd.R_drew)); exact Kd.R_mono HO_119001.out (fun _ hk => ⟨hk.1.1, hk.2⟩)⟩, ⟨by (with_reducible repeat (first | apply Kd.R_alloc | apply Kd.R_drewN | apply Kd.R_drew)); exact Kd.R_mono HO136.out (fun _ hk => ⟨hk.1.1.2, hk.1.2⟩)⟩, ⟨by (with_reducible repeat (first | refine blk_drewN ?_ _ | refine blk_drew ?_ | refine blk_alloc ?_ _)); exact BK109.out⟩, ⟨by (with_reducible repeat (first | refine blk_drewN ?_ _ | refine blk_drew ?_ | refine blk_alloc ?_ _)); exact BK118.out⟩, ⟨by (with_reducible repeat (first | refine blk_drewN ?_ _ | refine blk_drew ?_ | refine blk_alloc ?_ _)); exact BK138.out⟩, ⟨by repeat (first | (with_reducible first | exact HB.out | apply below_alloc | apply pw_below_drewN | apply below_drew1 | refine below_set ?_ GE109.out | refine below_set ?_ GE118.out | refine below_set ?_ GE138.out) | exact HB.out)⟩⟩
                      case rest =>
                        clear HC64
                        try clear c1
                        try clear c2
                        try clear p2
                        try clear c3
                        try clear c3b0
                        try clear c3b1
                        try clear c4
                        try clear c5
                        try clear c6
                        try clear c7
                        try clear c8
                        try clear c15
                        try clear c16
                        try clear c17
                        try clear c18
                        try clear c19
                        try clear c20
                        try clear c21
                        try clear c22
                        try clear c23
                        try clear c24
                        try clear c28
                        try clear c32
                        try clear c35
                        try clear c41
                        try clear c41b0
                        try clear c43
                        try clear c44
                        try clear c48
                        try clear c52
                        try clear c55
                        try clear c55b0
                        try clear c56
                        try clear c61
                        try clear c61b0
                        try clear c61b1
                        try clear c65
                        try clear c74
                        try clear c75
                        try clear c79
                        try clear c80
                        try clear c81
                        try clear c83
                        try clear c86
                        try clear c87
                        try clear c89
                        try clear hcz13_0
                        try clear hcz13_1
                        try clear hcz20_0
                        try clear hcz20_1
                        try clear hcz25_0
                        try clear hcz25_1
                        try clear hcz26_0
                        try clear hcz26_1
                        try clear hcz29_0
                        try clear hcz29_1
                        try clear hcz30_0
                        try clear hcz30_1
                        try clear hcz45_0
                        try clear hcz45_1
                        try clear hcz46_0
                        try clear hcz46_1
                        try clear hcz49_0
                        try clear hcz49_1
                        try clear hcz50_0
                        try clear hcz50_1
                        try clear hcz57_0
                        try clear hcz57_1
                        try clear hcz59_0
                        try clear hcz59_1
                        try clear hcz66_0
                        try clear hcz66_1
                        try clear hcz68_0
                        try clear hcz68_1
                        try clear hcz76_0
                        try clear hcz76_1
                        try clear hcz82_0
                        try clear hcz82_1
                        try clear hcz84_0
                        try clear hcz84_1
                        try clear hcz88_0
                        try clear hcz88_1
                        try clear hcz90_0
                        try clear hcz90_1
                        try clear hfz13_0
                        try clear hfz13_1
                        try clear hfz20_0
                        try clear hfz20_1
                        try clear hfz25_0
                        try clear hfz25_1
                        try clear hfz26_0
                        try clear hfz26_1
                        try clear hfz29_0
                        try clear hfz29_1
                        try clear hfz30_0
                        try clear hfz30_1
                        try clear hfz45_0
                        try clear hfz45_1
                        try clear hfz46_0
                        try clear hfz46_1
                        try clear hfz49_0
                        try clear hfz49_1
                        try clear hfz50_0
                        try clear hfz50_1
                        try clear hfz57_0
                        try clear hfz57_1
                        try clear hfz59_0
                        try clear hfz59_1
                        try clear hfz66_0
                        try clear hfz66_1
                        try clear hfz68_0
                        try clear hfz68_1
                        try clear hfz76_0
                        try clear hfz76_1
                        try clear hfz82_0
                        try clear hfz82_1
                        try clear hfz84_0
                        try clear hfz84_1
                        try clear hfz88_0
                        try clear hfz88_1
                        try clear hfz90_0
                        try clear hfz90_1
                        try clear p2
                        obtain ⟨kq, x89_63, rfl, HA, HJ63, HO_110001, HO_119001, HO_139001, BK109, BK118, BK138, HB⟩ := hcut
                        have hl119001_63 := (Kd.R_reads' HO_119001.out).1
                        rw [hl119001_63] at HO_119001
                        (try simp only [hl119001_63])
                        (try simp only [hl119001_63] at BK109)
                        (try simp only [hl119001_63] at BK118)
                        (try simp only [hl119001_63] at BK138)
                        (try simp only [hl119001_63] at HO_110001)
                        (try simp only [hl119001_63] at HO_139001)
                        cases kq with
                        | zero => exact absurd HA.out (by simp [laws_FnExactComplexOf.j2])
                        | succ kj63 =>
                          have H := HA.out
                          clear HA
                          simp only [laws_FnExactComplexOf.j2] at H
                          by_cases c92 : x89_63 = true
                          · subst c92
                            have H1 : (some false) = some r := by rw [if_pos rfl] at H; exact H
                            clear H
                            have H := H1
                            clear H1
                            obtain rfl := Option.some.inj H
                            go_wp2
                            go_ret
                            exact ⟨by first | rfl | (simp [errW_none, errW_some] <;> rfl) | (simp [*, errW_none, errW_some] <;> rfl), by repeat (first | (with_reducible first | exact HB.out | apply below_alloc | apply pw_below_drewN | apply below_drew1 | refine below_set ?_ GE109.out | refine below_set ?_ GE118.out | refine below_set ?_ GE138.out) | exact HB.out)⟩
                          · replace c92 := Bool.eq_false_iff.mpr c92
                            subst c92
                            have H1 : ((laws_heldComplex.f kj63 t113 t128 1).bind fun t140 => (if t140 < 0 then (some false) else (if t140 = t127 then (some true) else (some false)))) = some r := by rw [if_neg (show ¬ (false = true) by decide)] at H; exact H
                            clear H
                            have H := H1
                            clear H1
                            replace H := Option.bind_eq_some_iff.mp H
                            obtain ⟨t140, A930, H⟩ := H
                            replace H : (if t140 < 0 then (some false) else (if t140 = t127 then (some true) else (some false))) = some r := H
                            have A93 := Aside0.mk A930
                            clear A930
                            by_cases c94 : t140 < 0
                            · rw [if_pos c94] at H
                              have c94b0 : decide (t140 < 0) = true := decide_eq_true c94
                              clear c94
                              obtain rfl := Option.some.inj H
                              have hnb95 := NB118_109.out
                              have hnc95 := NB109_118.out
                              have hnb96 := NB118_138.out
                              have hnc96 := NB138_118.out
                              have hcz97_0 : wc.cell? ⟨gb118, 0, none⟩ = some (.int .i64 t113) := (blk_cell BK118.out 0).trans rfl
                              have hcz97_1 : wc.cell? ⟨gb118, 1, none⟩ = some (.slice Ao21 t128.length co21) := (blk_cell BK118.out 1).trans rfl
                              have hfz97_0 := blk_frozen BK118.out 0
                              have hfz97_1 := blk_frozen BK118.out 1
                              go_wp2_with (first | ((with_reducible refine gate_callee (f := 22) rfl ?_); refine goesL_ (some 92) rfl rfl Try.func22 (by kernel_rfl) rfl #[.agg #[.int .i64 t113, .slice Ao21 t128.length co21], .int .i64 1] rfl (by (try simp only [List.map_toArray, List.map_cons, List.map_nil]); first | done | rfl | (simp only [List.length_drop, List.length_take]; rfl)) ?_; (with_reducible refine (laws_heldComplex.calls kj63 t113 _ _ t128 1 t140 _ ?side1 ?side2 A93.out).mono ?_); (case side1 => repeat (first | exact (Kd.R_reads' HO_119001.out).2.2 | (with_reducible refine Kd.C_alloc ?_ _) | (with_reducible refine Kd.C_drewN ?_ _) | (with_reducible refine Kd.C_drew ?_))); (case side2 => exact (Kd.R_reads' HO_119001.out).2.1); rintro e w98 ⟨rfl, hb⟩; refine ⟨_, rfl, ?_⟩; have n0_ := Aside0.mk (Kd.R_below (by (with_reducible repeat (first | apply Kd.R_alloc | apply Kd.R_drewN | apply Kd.R_drew)); exact HO_110001.out) hb); have n1_ := Aside0.mk (Kd.R_below (by (with_reducible repeat (first | apply Kd.R_alloc | apply Kd.R_drewN | apply Kd.R_drew)); exact HO_119001.out) hb); have n2_ := Aside0.mk (Kd.R_below (by (with_reducible repeat (first | apply Kd.R_alloc | apply Kd.R_drewN | apply Kd.R_drew)); exact HO_139001.out) hb); have n3_ := Aside0.mk (blk_below (g := gb109) (o := .cells #[.int .i64 t104, .slice Ao14 t105.length co14] 25 (0, 0)) (by (with_reducible repeat (first | refine blk_drewN ?_ _ | refine blk_drew ?_ | refine blk_alloc ?_ _)); exact BK109.out) hb); have n4_ := Aside0.mk (blk_below (g := gb118) (o := .cells #[.int .i64 t113, .slice Ao21 t128.length co21] 25 (0, 0)) (by (with_reducible repeat (first | refine blk_drewN ?_ _ | refine blk_drew ?_ | refine blk_alloc ?_ _)); exact BK118.out) hb); have n5_ := Aside0.mk (blk_below (g := gb138) (o := .cells #[.int .i64 t133, .slice Ao77 t134.length co77] 25 (0, 0)) (by (with_reducible repeat (first | refine blk_drewN ?_ _ | refine blk_drew ?_ | refine blk_alloc ?_ _)); exact BK138.out) hb); have n6_ := Aside0.mk (below_step (by repeat (first | (with_reducible first | exact HB.out | apply below_alloc | apply pw_below_drewN | apply below_drew1 | refine below_set ?_ GE109.out | refine below_set ?_ GE118.out | refine below_set ?_ GE138.out) | exact HB.out)) hb); clear HO_110001; clear HO_119001; clear HO_139001; clear BK109; clear BK118; clear BK138; clear HB; have HO_110001 := n0_; have HO_119001 := n1_; have HO_139001 := n2_; have BK109 := n3_; have BK118 := n4_; have BK138 := n5_; have HB := n6_; clear n0_ n1_ n2_ n3_ n4_ n5_ n6_; (try clear hb); (try clear hb2); (try clear hk); (try clear hi)))
                              go_ret
                              exact ⟨by first | rfl | (simp [errW_none, errW_some] <;> rfl) | (simp [*, errW_none, errW_some] <;> rfl), by repeat (first | (with_reducible first | exact HB.out | apply below_alloc | apply pw_below_drewN | apply below_drew1 | refine below_set ?_ GE109.out | refine below_set ?_ GE118.out | refine below_set ?_ GE138.out) | exact HB.out)⟩
                            · rw [if_neg c94] at H
                              have c94b0 : decide (t140 < 0) = false := decide_eq_false c94
                              clear c94
                              by_cases c99 : t140 = t127
                              · rw [if_pos c99] at H
                                have c99b0 : (t140 == t127) = true := beq_iff_eq.mpr c99
                                have c99b1 : (t140 != t127) = false := bne_eq_false_iff_eq.mpr c99
                                clear c99
                                obtain rfl := Option.some.inj H
                                have hnb100 := NB118_109.out
                                have hnc100 := NB109_118.out
                                have hnb101 := NB118_138.out
                                have hnc101 := NB138_118.out
                                have hcz102_0 : wc.cell? ⟨gb118, 0, none⟩ = some (.int .i64 t113) := (blk_cell BK118.out 0).trans rfl
                                have hcz102_1 : wc.cell? ⟨gb118, 1, none⟩ = some (.slice Ao21 t128.length co21) := (blk_cell BK118.out 1).trans rfl
                                have hfz102_0 := blk_frozen BK118.out 0
                                have hfz102_1 := blk_frozen BK118.out 1
                                go_wp2_with (first | ((with_reducible refine gate_callee (f := 22) rfl ?_); refine goesL_ (some 92) rfl rfl Try.func22 (by kernel_rfl) rfl #[.agg #[.int .i64 t113, .slice Ao21 t128.length co21], .int .i64 1] rfl (by (try simp only [List.map_toArray, List.map_cons, List.map_nil]); first | done | rfl | (simp only [List.length_drop, List.length_take]; rfl)) ?_; (with_reducible refine (laws_heldComplex.calls kj63 t113 _ _ t128 1 t140 _ ?side1 ?side2 A93.out).mono ?_); (case side1 => repeat (first | exact (Kd.R_reads' HO_119001.out).2.2 | (with_reducible refine Kd.C_alloc ?_ _) | (with_reducible refine Kd.C_drewN ?_ _) | (with_reducible refine Kd.C_drew ?_))); (case side2 => exact (Kd.R_reads' HO_119001.out).2.1); rintro e w103 ⟨rfl, hb⟩; refine ⟨_, rfl, ?_⟩; have n0_ := Aside0.mk (Kd.R_below (by (with_reducible repeat (first | apply Kd.R_alloc | apply Kd.R_drewN | apply Kd.R_drew)); exact HO_110001.out) hb); have n1_ := Aside0.mk (Kd.R_below (by (with_reducible repeat (first | apply Kd.R_alloc | apply Kd.R_drewN | apply Kd.R_drew)); exact HO_119001.out) hb); have n2_ := Aside0.mk (Kd.R_below (by (with_reducible repeat (first | apply Kd.R_alloc | apply Kd.R_drewN | apply Kd.R_drew)); exact HO_139001.out) hb); have n3_ := Aside0.mk (blk_below (g := gb109) (o := .cells #[.int .i64 t104, .slice Ao14 t105.length co14] 25 (0, 0)) (by (with_reducible repeat (first | refine blk_drewN ?_ _ | refine blk_drew ?_ | refine blk_alloc ?_ _)); exact BK109.out) hb); have n4_ := Aside0.mk (blk_below (g := gb118) (o := .cells #[.int .i64 t113, .slice Ao21 t128.length co21] 25 (0, 0)) (by (with_reducible repeat (first | refine blk_drewN ?_ _ | refine blk_drew ?_ | refine blk_alloc ?_ _)); exact BK118.out) hb); have n5_ := Aside0.mk (blk_below (g := gb138) (o := .cells #[.int .i64 t133, .slice Ao77 t134.length co77] 25 (0, 0)) (by (with_reducible repeat (first | refine blk_drewN ?_ _ | refine blk_drew ?_ | refine blk_alloc ?_ _)); exact BK138.out) hb); have n6_ := Aside0.mk (below_step (by repeat (first | (with_reducible first | exact HB.out | apply below_alloc | apply pw_below_drewN | apply below_drew1 | refine below_set ?_ GE109.out | refine below_set ?_ GE118.out | refine below_set ?_ GE138.out) | exact HB.out)) hb); clear HO_110001; clear HO_119001; clear HO_139001; clear BK109; clear BK118; clear BK138; clear HB; have HO_110001 := n0_; have HO_119001 := n1_; have HO_139001 := n2_; have BK109 := n3_; have BK118 := n4_; have BK138 := n5_; have HB := n6_; clear n0_ n1_ n2_ n3_ n4_ n5_ n6_; (try clear hb); (try clear hb2); (try clear hk); (try clear hi)))
                                go_ret
                                exact ⟨by first | rfl | (simp [errW_none, errW_some] <;> rfl) | (simp [*, errW_none, errW_some] <;> rfl), by repeat (first | (with_reducible first | exact HB.out | apply below_alloc | apply pw_below_drewN | apply below_drew1 | refine below_set ?_ GE109.out | refine below_set ?_ GE118.out | refine below_set ?_ GE138.out) | exact HB.out)⟩
                              · rw [if_neg c99] at H
                                have c99b0 : (t140 == t127) = false := beq_eq_false_iff_ne.mpr c99
                                have c99b1 : (t140 != t127) = true := bne_iff_ne.mpr c99
                                obtain rfl := Option.some.inj H
                                have hnb104 := NB118_109.out
                                have hnc104 := NB109_118.out
                                have hnb105 := NB118_138.out
                                have hnc105 := NB138_118.out
                                have hcz106_0 : wc.cell? ⟨gb118, 0, none⟩ = some (.int .i64 t113) := (blk_cell BK118.out 0).trans rfl
                                have hcz106_1 : wc.cell? ⟨gb118, 1, none⟩ = some (.slice Ao21 t128.length co21) := (blk_cell BK118.out 1).trans rfl
                                have hfz106_0 := blk_frozen BK118.out 0
                                have hfz106_1 := blk_frozen BK118.out 1
                                go_wp2_with (first | ((with_reducible refine gate_callee (f := 22) rfl ?_); refine goesL_ (some 92) rfl rfl Try.func22 (by kernel_rfl) rfl #[.agg #[.int .i64 t113, .slice Ao21 t128.length co21], .int .i64 1] rfl (by (try simp only [List.map_toArray, List.map_cons, List.map_nil]); first | done | rfl | (simp only [List.length_drop, List.length_take]; rfl)) ?_; (with_reducible refine (laws_heldComplex.calls kj63 t113 _ _ t128 1 t140 _ ?side1 ?side2 A93.out).mono ?_); (case side1 => repeat (first | exact (Kd.R_reads' HO_119001.out).2.2 | (with_reducible refine Kd.C_alloc ?_ _) | (with_reducible refine Kd.C_drewN ?_ _) | (with_reducible refine Kd.C_drew ?_))); (case side2 => exact (Kd.R_reads' HO_119001.out).2.1); rintro e w107 ⟨rfl, hb⟩; refine ⟨_, rfl, ?_⟩; have n0_ := Aside0.mk (Kd.R_below (by (with_reducible repeat (first | apply Kd.R_alloc | apply Kd.R_drewN | apply Kd.R_drew)); exact HO_110001.out) hb); have n1_ := Aside0.mk (Kd.R_below (by (with_reducible repeat (first | apply Kd.R_alloc | apply Kd.R_drewN | apply Kd.R_drew)); exact HO_119001.out) hb); have n2_ := Aside0.mk (Kd.R_below (by (with_reducible repeat (first | apply Kd.R_alloc | apply Kd.R_drewN | apply Kd.R_drew)); exact HO_139001.out) hb); have n3_ := Aside0.mk (blk_below (g := gb109) (o := .cells #[.int .i64 t104, .slice Ao14 t105.length co14] 25 (0, 0)) (by (with_reducible repeat (first | refine blk_drewN ?_ _ | refine blk_drew ?_ | refine blk_alloc ?_ _)); exact BK109.out) hb); have n4_ := Aside0.mk (blk_below (g := gb118) (o := .cells #[.int .i64 t113, .slice Ao21 t128.length co21] 25 (0, 0)) (by (with_reducible repeat (first | refine blk_drewN ?_ _ | refine blk_drew ?_ | refine blk_alloc ?_ _)); exact BK118.out) hb); have n5_ := Aside0.mk (blk_below (g := gb138) (o := .cells #[.int .i64 t133, .slice Ao77 t134.length co77] 25 (0, 0)) (by (with_reducible repeat (first | refine blk_drewN ?_ _ | refine blk_drew ?_ | refine blk_alloc ?_ _)); exact BK138.out) hb); have n6_ := Aside0.mk (below_step (by repeat (first | (with_reducible first | exact HB.out | apply below_alloc | apply pw_below_drewN | apply below_drew1 | refine below_set ?_ GE109.out | refine below_set ?_ GE118.out | refine below_set ?_ GE138.out) | exact HB.out)) hb); clear HO_110001; clear HO_119001; clear HO_139001; clear BK109; clear BK118; clear BK138; clear HB; have HO_110001 := n0_; have HO_119001 := n1_; have HO_139001 := n2_; have BK109 := n3_; have BK118 := n4_; have BK138 := n5_; have HB := n6_; clear n0_ n1_ n2_ n3_ n4_ n5_ n6_; (try clear hb); (try clear hb2); (try clear hk); (try clear hi)))
                                go_ret
                                exact ⟨by first | rfl | (simp [errW_none, errW_some] <;> rfl) | (simp [*, errW_none, errW_some] <;> rfl), by repeat (first | (with_reducible first | exact HB.out | apply below_alloc | apply pw_below_drewN | apply below_drew1 | refine below_set ?_ GE109.out | refine below_set ?_ GE118.out | refine below_set ?_ GE138.out) | exact HB.out)⟩
                    · rw [if_neg c61] at H
                      have c61b0 : (t129 == t127) = false := beq_eq_false_iff_ne.mpr c61
                      have c61b1 : (t129 != t127) = true := bne_iff_ne.mpr c61
                      obtain rfl := Option.some.inj H
                      have hnb108 := NB118_109.out
                      have hnc108 := NB109_118.out
                      have hcz109_0 : wc.cell? ⟨gb118, 0, none⟩ = some (.int .i64 t113) := (blk_cell BK118.out 0).trans rfl
                      have hcz109_1 : wc.cell? ⟨gb118, 1, none⟩ = some (.slice Ao21 t114.length co21) := (blk_cell BK118.out 1).trans rfl
                      have hfz109_0 := blk_frozen BK118.out 0
                      have hfz109_1 := blk_frozen BK118.out 1
                      go_wp2_with (first | ((with_reducible refine gate_callee (f := 21) rfl ?_); refine goesL_ (some 65) rfl rfl Try.func21 (by kernel_rfl) rfl #[.agg #[.int .i64 t113, .slice Ao21 t114.length co21], .int .i64 1] rfl (by (try simp only [List.map_toArray, List.map_cons, List.map_nil]); first | done | rfl | (simp only [List.length_drop, List.length_take]; rfl)) ?_; (with_reducible refine (laws_markComplex.calls kj36 t113 (fun k_ => some k_ = (.slice Ao21 t114.length co21 : Value).ownBlock) (.slice Ao21 t114.length co21) t114 1 t127 t128 w _ ?side1 ?side2 A53.out).mono ?_); (case side1 => repeat (first | (with_reducible first | exact HB.out | apply below_alloc | apply pw_below_drewN | apply below_drew1 | refine below_set ?_ GE109.out | refine below_set ?_ GE118.out) | exact HB.out)); (case side2 => exact Kd.R_tight rfl HO_119001.out); rintro e w110 ⟨rfl, hy0, hb, hkp⟩; refine ⟨_, rfl, ?_⟩; have n0_ := Aside0.mk (Kd.R_mono (ok' := fun k_ => some k_ ≠ (.slice Ao21 t114.length co21 : Value).ownBlock) (Kd.R_keptB (HO_110001.out) hkp (fun k_ hk_ hs_ => (hk_) hs_)) (fun k_ hk_ => hk_.1)); have n1_ := Aside0.mk (Kd.R_reok rfl hy0 (fun k_ e_ => HO_119001.out.1 k_ e_)); have n2_ := Aside0.mk (blk_kept (by (with_reducible repeat (first | refine blk_drewN ?_ _ | refine blk_drew ?_ | refine blk_alloc ?_ _)); exact BK109.out) hkp (fun hs_ => (fun e_ => (Kd.R_ne HO_119001.out BK109.out (by decide)) e_) hs_)); have n3_ := Aside0.mk (blk_kept (by (with_reducible repeat (first | refine blk_drewN ?_ _ | refine blk_drew ?_ | refine blk_alloc ?_ _)); exact BK118.out) hkp (fun hs_ => (fun e_ => (Kd.R_ne HO_119001.out BK118.out (by decide)) e_) hs_)); have n4_ := Aside0.mk (hb); clear HO_110001; clear HO_119001; clear BK109; clear BK118; clear HB; have HO_110001 := n0_; have HO_119001 := n1_; have BK109 := n2_; have BK118 := n3_; have HB := n4_; clear n0_ n1_ n2_ n3_ n4_; (try clear hb); (try clear hkp); (try clear hy0); have hcz111_0 : w110.cell? ⟨gb118, 0, none⟩ = some (.int .i64 t113) := (blk_cell BK118.out 0).trans rfl; have hcz111_1 : w110.cell? ⟨gb118, 1, none⟩ = some (.slice Ao21 t114.length co21) := (blk_cell BK118.out 1).trans rfl; have hfz111_0 := blk_frozen BK118.out 0; have hfz111_1 := blk_frozen BK118.out 1) | ((with_reducible refine gate_callee (f := 22) rfl ?_); refine goesL_ (some 68) rfl rfl Try.func22 (by kernel_rfl) rfl #[.agg #[.int .i64 t113, .slice Ao21 t128.length co21], .int .i64 1] rfl (by (try simp only [List.map_toArray, List.map_cons, List.map_nil]); first | done | (rw [show t128.length = t114.length from (Kd.R_reads' HO_119001.out).1.symm] <;> rfl) | rfl | (simp only [List.length_drop, List.length_take]; rfl)) ?_; (with_reducible refine (laws_heldComplex.calls kj36 t113 _ _ t128 1 t129 _ ?side1 ?side2 A54.out).mono ?_); (case side1 => repeat (first | exact (Kd.R_reads' HO_119001.out).2.2 | (with_reducible refine Kd.C_alloc ?_ _) | (with_reducible refine Kd.C_drewN ?_ _) | (with_reducible refine Kd.C_drew ?_))); (case side2 => rw [show t128.length = t114.length from (Kd.R_reads' HO_119001.out).1.symm]; exact (Kd.R_reads' HO_119001.out).2.1); rintro e w112 ⟨rfl, hb⟩; refine ⟨_, rfl, ?_⟩; have n0_ := Aside0.mk (Kd.R_below (by (with_reducible repeat (first | apply Kd.R_alloc | apply Kd.R_drewN | apply Kd.R_drew)); exact HO_110001.out) hb); have n1_ := Aside0.mk (Kd.R_below (by (with_reducible repeat (first | apply Kd.R_alloc | apply Kd.R_drewN | apply Kd.R_drew)); exact HO_119001.out) hb); have n2_ := Aside0.mk (blk_below (g := gb109) (o := .cells #[.int .i64 t104, .slice Ao14 t105.length co14] 25 (0, 0)) (by (with_reducible repeat (first | refine blk_drewN ?_ _ | refine blk_drew ?_ | refine blk_alloc ?_ _)); exact BK109.out) hb); have n3_ := Aside0.mk (blk_below (g := gb118) (o := .cells #[.int .i64 t113, .slice Ao21 t114.length co21] 25 (0, 0)) (by (with_reducible repeat (first | refine blk_drewN ?_ _ | refine blk_drew ?_ | refine blk_alloc ?_ _)); exact BK118.out) hb); have n4_ := Aside0.mk (below_step (by repeat (first | (with_reducible first | exact HB.out | apply below_alloc | apply pw_below_drewN | apply below_drew1 | refine below_set ?_ GE109.out | refine below_set ?_ GE118.out) | exact HB.out)) hb); clear HO_110001; clear HO_119001; clear BK109; clear BK118; clear HB; have HO_110001 := n0_; have HO_119001 := n1_; have BK109 := n2_; have BK118 := n3_; have HB := n4_; clear n0_ n1_ n2_ n3_ n4_; (try clear hb); (try clear hb2); (try clear hk); (try clear hi)))
                      go_ret
                      exact ⟨by first | rfl | (simp [errW_none, errW_some] <;> rfl) | (simp [*, errW_none, errW_some] <;> rfl), by repeat (first | (with_reducible first | exact HB.out | apply below_alloc | apply pw_below_drewN | apply below_drew1 | refine below_set ?_ GE109.out | refine below_set ?_ GE118.out) | exact HB.out)⟩
          · replace c35 := Bool.eq_false_iff.mpr c35
            subst c35
            have H1 : (some false) = some r := by rw [if_neg (show ¬ (false = true) by decide)] at H; exact H
            clear H
            have H := H1
            clear H1
            obtain rfl := Option.some.inj H
            go_wp2_with (first | ((with_reducible refine gate_callee (f := 16) rfl ?_); refine goesL_ (some 44) rfl rfl Try.func16 (by kernel_rfl) rfl #[.slice A1 l1.length c1] rfl (by (try simp only [List.map_toArray, List.map_cons, List.map_nil]); first | done | rfl | (simp only [List.length_drop, List.length_take]; rfl)) ?_; (with_reducible refine (laws_toInt64S.calls kj7 _ _ l1 t120 _ ?side1 ?side2 A33.out).mono ?_); (case side1 => repeat (first | exact (Kd.C_below HR1.out HB.out) | (with_reducible refine Kd.C_alloc ?_ _) | (with_reducible refine Kd.C_drewN ?_ _) | (with_reducible refine Kd.C_drew ?_))); (case side2 => exact HC1.out); rintro e w113 ⟨v121, rfl, ho0, hb⟩; refine ⟨_, rfl, ?_⟩; have n0_ := Aside0.mk (Kd.R_elder' (by (with_reducible repeat (first | apply Kd.R_alloc | apply Kd.R_drewN | apply Kd.R_drew)); exact HO_7.out) (Kd.R_base ho0) hb); have n1_ := Aside0.mk (Kd.R_elder' (by (with_reducible repeat (first | apply Kd.R_alloc | apply Kd.R_drewN | apply Kd.R_drew)); exact HO_110001.out) (Kd.R_base ho0) hb); have n2_ := Aside0.mk (Kd.R_elder' (by (with_reducible repeat (first | apply Kd.R_alloc | apply Kd.R_drewN | apply Kd.R_drew)); exact HO_119001.out) (Kd.R_base ho0) hb); have n3_ := Aside0.mk (Kd.R_lower (Kd.R_new' (Kd.R_new' (Kd.R_new' ho0 (Kd.R_lt (by (with_reducible repeat (first | apply Kd.R_alloc | apply Kd.R_drewN | apply Kd.R_drew)); exact HO_7.out))) (Kd.R_lt (by (with_reducible repeat (first | apply Kd.R_alloc | apply Kd.R_drewN | apply Kd.R_drew)); exact HO_110001.out))) (Kd.R_lt (by (with_reducible repeat (first | apply Kd.R_alloc | apply Kd.R_drewN | apply Kd.R_drew)); exact HO_119001.out))) (below_size (by repeat (first | (with_reducible first | exact HB.out | apply below_alloc | apply pw_below_drewN | apply below_drew1 | refine below_set ?_ GE109.out | refine below_set ?_ GE118.out) | exact HB.out)))); have n4_ := Aside0.mk (blk_below (g := gb109) (o := .cells #[.int .i64 t104, .slice Ao14 t105.length co14] 25 (0, 0)) (by (with_reducible repeat (first | refine blk_drewN ?_ _ | refine blk_drew ?_ | refine blk_alloc ?_ _)); exact BK109.out) hb); have n5_ := Aside0.mk (blk_below (g := gb118) (o := .cells #[.int .i64 t113, .slice Ao21 t114.length co21] 25 (0, 0)) (by (with_reducible repeat (first | refine blk_drewN ?_ _ | refine blk_drew ?_ | refine blk_alloc ?_ _)); exact BK118.out) hb); have n6_ := Aside0.mk (below_step (by repeat (first | (with_reducible first | exact HB.out | apply below_alloc | apply pw_below_drewN | apply below_drew1 | refine below_set ?_ GE109.out | refine below_set ?_ GE118.out) | exact HB.out)) hb); clear HO_7; clear HO_110001; clear HO_119001; clear BK109; clear BK118; clear HB; have HO_7 := n0_; have HO_110001 := n1_; have HO_119001 := n2_; have HO122 := n3_; have BK109 := n4_; have BK118 := n5_; have HB := n6_; clear n0_ n1_ n2_ n3_ n4_ n5_ n6_; (try clear hb); (try clear hb2); (try clear hk); (try clear hi); (try clear ho0); obtain ⟨Ao114, co114, eo114⟩ := Kd.R_slice HO122.out; subst eo114) | ((with_reducible refine gate_callee (f := 19) rfl ?_); refine goesL_ (some 45) rfl rfl Try.func19 (by kernel_rfl) rfl #[.slice Ao16 t110.length co16, .slice Ao114 t120.length co114] rfl (by (try simp only [List.map_toArray, List.map_cons, List.map_nil]); first | done | rfl | (simp only [List.length_drop, List.length_take]; rfl)) ?_; (with_reducible refine (laws_eqInt64S.calls kj7 _ _ t110 _ _ t120 false _ ?side1 ?side2 ?side3 ?side4 A34.out).mono ?_); (case side1 => repeat (first | exact (Kd.R_reads' HO_7.out).2.2 | (with_reducible refine Kd.C_alloc ?_ _) | (with_reducible refine Kd.C_drewN ?_ _) | (with_reducible refine Kd.C_drew ?_))); (case side2 => exact (Kd.R_reads' HO_7.out).2.1); (case side3 => repeat (first | exact (Kd.R_reads' HO122.out).2.2 | (with_reducible refine Kd.C_alloc ?_ _) | (with_reducible refine Kd.C_drewN ?_ _) | (with_reducible refine Kd.C_drew ?_))); (case side4 => exact (Kd.R_reads' HO122.out).2.1); rintro e w' ⟨rfl, ⟨nd, rfl⟩⟩; refine ⟨_, rfl, ?_⟩))
            go_ret
            exact ⟨by first | rfl | (simp [errW_none, errW_some] <;> rfl) | (simp [*, errW_none, errW_some] <;> rfl), by repeat (first | (with_reducible first | exact HB.out | apply below_alloc | apply pw_below_drewN | apply below_drew1 | refine below_set ?_ GE109.out | refine below_set ?_ GE118.out) | exact HB.out)⟩

end Go.Proofs.Ytoeapnempdgagaa.RB
end

section
/- The reference's ComplexOf comes to what the program's comes to. -/
namespace Go.Proofs.Ytoeapnempdgagaa.K
open Go.RowKit Go.Shelf Go.Proofs.Ytoeapnempdgagaa.Q Go.Proofs.YtoeapnempdgagaaW.PrintWords Go.Proofs.YtoeapnempdgagaaW.PrintLast Go.Proofs.YtoeapnempdgagaaW.PrintMore
set_option linter.unusedVariables false
set_option linter.unusedSimpArgs false

theorem specMade_l1 (n : Int) (sets : List Int) (hl : sets.length ≤ 2097152) (x : Int) (acc : List Int) (ha : acc.length ≤ 1000000) (R : Nat) (b : Bool) (r : Int × List Int)
    (h : ∀ k, R ≤ k → spec_l01Made.l0 k n sets (wrap64 (x + 1)) n (if b then acc ++ [x] else acc) = some r) :
    ∀ (d i k : Nat), sets.length - i = d → i ≤ sets.length → R + d < k → (sets.drop i).any (fun s => decide (Go.bits .and .i64 x s = x)) = b →
    spec_l01Made.l1 k n sets x (i : Int) n acc = some r := by
  intro d
  induction d with
  | zero =>
    intro i k hd hi hk hb
    obtain ⟨k, rfl⟩ : ∃ m, k = m + 1 := ⟨k - 1, by omega⟩
    obtain rfl : i = sets.length := by omega
    simp at hb
    subst hb
    simp only [spec_l01Made.l1]
    rw [if_neg (by omega)]
    exact h k (by omega)
  | succ d ih =>
    intro i k hd hi hk hb
    obtain ⟨k, rfl⟩ : ∃ m, k = m + 1 := ⟨k - 1, by omega⟩
    simp only [spec_l01Made.l1]
    have hil : i < sets.length := by omega
    rw [List.drop_eq_getElem_cons hil, List.any_cons] at hb
    rw [if_pos (by omega), if_pos (by omega), rd_nat sets i hil, w64 ((i : Int) + 1) (by omega) (by omega), nat_succ]
    by_cases hx : Go.bits .and .i64 x sets[i] = x
    · have e : b = true := by rw [← hb]; simp [hx]
      rw [e] at h
      rw [if_pos hx, if_pos (by omega)]
      exact h k (by omega)
    · rw [if_neg hx]
      exact ih (i + 1) k (by omega) (by omega) (by omega) (by rw [← hb]; simp [hx])

theorem specMade_l0 (n : Int) (hn : 1 ≤ n ∧ n ≤ 6) (sets : List Int) (h64 : sets.length ≤ 64) (p : Int → Bool) (hp : ∀ x, 1 ≤ x → x ≤ fullOf n → p x = sets.any (fun s => decide (Go.bits .and .i64 x s = x))) :
    ∀ (d m k : Nat), 2 ^ n.toNat - 1 - m = d → m ≤ 2 ^ n.toNat - 1 → 70 * d + 1 < k →
    spec_l01Made.l0 k n sets ((m : Int) + 1) n ((upTo m).filter p) = some (n, thoseL n p) := by
  have hF := full_range n hn
  have hFN := full_nat n
  obtain ⟨N, hN⟩ : ∃ N, N = 2 ^ n.toNat - 1 := ⟨_, rfl⟩
  have hTh : thoseL n p = (upTo N).filter p := by rw [hN]; rfl
  rw [← hN] at hFN
  rw [← hN, hTh]
  clear hN hTh
  intro d
  induction d with
  | zero =>
    intro m k hd hm hk
    obtain ⟨k, rfl⟩ : ∃ m, k = m + 1 := ⟨k - 1, by omega⟩
    simp only [spec_l01Made.l0]
    rw [specAll_is n (by omega) (by omega)]
    simp only [Option.bind_some]
    rw [if_neg (by omega)]
    obtain rfl : m = N := by omega
    rfl
  | succ d ih =>
    intro m k hd hm hk
    obtain ⟨k, rfl⟩ : ∃ m, k = m + 1 := ⟨k - 1, by omega⟩
    simp only [spec_l01Made.l0]
    rw [specAll_is n (by omega) (by omega)]
    simp only [Option.bind_some]
    rw [if_pos (by omega)]
    have hlen := upTo_filter_length p m
    have hw : wrap64 ((m : Int) + 1 + 1) = ((m + 1 : Nat) : Int) + 1 := by rw [w64 _ (by omega) (by omega)]; omega
    have hq := hp ((m : Int) + 1) (by omega) (by omega)
    have e : (if p ((m : Int) + 1) = true then (upTo m).filter p ++ [(m : Int) + 1] else (upTo m).filter p) = (upTo (m + 1)).filter p := by
      rw [upTo_succ, List.filter_append]
      cases hc : p ((m : Int) + 1) <;> simp [hc]
    exact specMade_l1 n sets (by omega) ((m : Int) + 1) ((upTo m).filter p) (by omega) (70 * d + 2) (p ((m : Int) + 1)) _ (fun k hk => by rw [hw, e]; exact ih (m + 1) k (by omega) (by omega) (by omega))
      sets.length 0 k (by omega) (by omega) (by omega) hq.symm

theorem okSets_mem {n : Int} {sets : List Int} (h : okSets n sets = true) (s : Int) (hs : s ∈ sets) : 1 ≤ s ∧ s ≤ fullOf n := by
  unfold okSets at h
  rw [List.all_eq_true] at h
  simpa using h s hs
theorem specMade_is (n : Int) (hn : 1 ≤ n ∧ n ≤ 6) (sets : List Int) (h64 : sets.length ≤ 64) (hok : okSets n sets = true) (k : Nat) (hk : 4500 ≤ k) : spec_l01Made.f k n sets = some (n, madeL n sets) := by
  have hF := full_range n hn
  have hFN := full_nat n
  unfold spec_l01Made.f
  have := specMade_l0 n hn sets h64 (fun f => sets.any (inB f)) (fun x h1 h2 => by
    rw [Bool.eq_iff_iff, List.any_eq_true, List.any_eq_true]
    constructor
    · rintro ⟨s, hs, h⟩
      have := okSets_mem hok s hs
      exact ⟨s, hs, by rwa [inB_is x s (by omega) (by omega)] at h⟩
    · rintro ⟨s, hs, h⟩
      have := okSets_mem hok s hs
      exact ⟨s, hs, by rwa [inB_is x s (by omega) (by omega)]⟩) (2 ^ n.toNat - 1) 0 k (by omega) (by omega) (by omega)
  exact this

theorem specCOf_l0 (n : Int) (hn : 1 ≤ n ∧ n ≤ 6) (l : List Int) (h64 : l.length ≤ 64) : ∀ (d i k : Nat), l.length - i = d → i ≤ l.length → d + 4501 < k → (l.take i).all (fun s => decide (1 ≤ s ∧ s ≤ fullOf n)) = true →
    spec_ComplexOf.l0 k n l (i : Int) = some (if okSets n l = true then (n, madeL n l, 0) else (0, [], 2)) := by
  intro d
  induction d with
  | zero =>
    intro i k hd hi hk hp
    obtain ⟨k, rfl⟩ : ∃ m, k = m + 1 := ⟨k - 1, by omega⟩
    obtain rfl : i = l.length := by omega
    rw [List.take_length] at hp
    have hok : okSets n l = true := hp
    simp only [spec_ComplexOf.l0]
    rw [if_neg (by omega), specMade_is n hn l h64 hok k (by omega), if_pos hok]
    rfl
  | succ d ih =>
    intro i k hd hi hk hp
    obtain ⟨k, rfl⟩ : ∃ m, k = m + 1 := ⟨k - 1, by omega⟩
    simp only [spec_ComplexOf.l0]
    have hil : i < l.length := by omega
    rw [if_pos (by omega), if_pos (by omega), specAll_is n (by omega) (by omega)]
    simp only [Option.bind_some]
    rw [rd_nat l i hil, specIn_is, w64 _ (by omega) (by omega), nat_succ]
    simp only [Option.bind_some]
    by_cases h : 1 ≤ l[i] ∧ l[i] ≤ fullOf n
    · simp only [h, and_self, decide_true, if_true]
      refine ih (i + 1) k (by omega) (by omega) (by omega) ?_
      rw [List.take_succ_eq_append_getElem hil, List.all_append, hp]
      simp [h]
    · simp only [h, decide_false, Bool.false_eq_true, if_false]
      have : okSets n l = false := by
        cases hok : okSets n l with
        | false => rfl
        | true => exact absurd (okSets_mem hok _ (List.getElem_mem hil)) h
      rw [this]
      rfl
theorem specCOf_is (n : Int) (l : List Int) (hl : l.length ≤ 2097152) (k : Nat) (hk : 4600 ≤ k) : spec_ComplexOf.f k n l = some (cOf n l) := by
  obtain ⟨k, rfl⟩ : ∃ m, k = m + 1 := ⟨k - 1, by omega⟩
  unfold spec_ComplexOf.f cOf
  rw [specIn_is]
  simp only [Option.bind_some]
  by_cases hn : 1 ≤ n ∧ n ≤ 6
  · simp only [hn, and_self, decide_true, if_true, spec_ComplexOf.j0, true_and]
    by_cases h64 : l.length ≤ 64
    · have e : decide ((l.length : Int) > 64) = false := decide_eq_false (by omega)
      rw [e]
      simp only [Bool.false_eq_true, if_false, h64, true_and]
      have := specCOf_l0 n hn l h64 l.length 0 k (by omega) (by omega) (by omega) (by simp)
      exact this
    · have e : decide ((l.length : Int) > 64) = true := decide_eq_true (by omega)
      rw [e]
      simp only [if_true, h64, false_and, if_false]
  · simp only [hn, decide_false, Bool.false_eq_true, if_false, spec_ComplexOf.j0, if_true, false_and]
theorem cOf_length (n : Int) (l : List Int) : (cOf n l).2.1.length ≤ 63 := by
  unfold cOf
  by_cases h : (1 ≤ n ∧ n ≤ 6) ∧ l.length ≤ 64 ∧ okSets n l = true
  · rw [if_pos h]
    have h2 := upTo_filter_length (fun f => l.any (inB f)) (2 ^ n.toNat - 1)
    have h3 : 2 ^ n.toNat ≤ 2 ^ 6 := Nat.pow_le_pow_right (by omega) (by omega)
    show (thoseL n _).length ≤ 63
    unfold thoseL
    omega
  · rw [if_neg h]
    exact Nat.zero_le _

end Go.Proofs.Ytoeapnempdgagaa.K
end

section
/- The law FnExactComplexOf answers true for every input: the program's ComplexOf and the reference's come to the same. No conditions. -/
namespace Go.Proofs.Ytoeapnempdgagaa.Pure
open Go.RowKit Go.Proofs.Ytoeapnempdgagaa.Q Go.Proofs.Ytoeapnempdgagaa.X Go.Proofs.Ytoeapnempdgagaa.K Go.Proofs.Ytoeapnempdgagaa.RB Go.Proofs.YtoeapnempdgagaaW.PrintWords
set_option linter.unusedVariables false
set_option linter.unusedSimpArgs false

theorem FnExactComplexOf_both (n0 : Int) (l1 : List Int) (hl : l1.length ≤ 1048576) : ∃ (K : Nat) (r1 : Int) (r2 : List Int) (r3 : Int), (∀ k, K ≤ k → spec_ComplexOf.f k n0 l1 = some (r1, r2, r3)) ∧ impl_ComplexOf.f n0 l1 = some (r1, r2, r3) ∧ r2.length ≤ 1000000 := by
  have hlen := cOf_length n0 l1
  obtain ⟨r, hR⟩ : ∃ r, r = cOf n0 l1 := ⟨_, rfl⟩
  rw [← hR] at hlen
  obtain ⟨r1, r2, r3⟩ := r
  refine ⟨4600, r1, r2, r3, fun k hk => by rw [hR]; exact specCOf_is n0 l1 (by omega) k hk, ?_, Nat.le_trans hlen (by decide)⟩
  unfold impl_ComplexOf.f
  rw [if_pos (by omega), hR]

set_option maxHeartbeats 1000000 in
theorem FnExactComplexOf : ∀ (n0 : Int) (l1 : List Int), (Lit.int .i64 n0).wf = true → l1.length ≤ 9223372036854775807 → ∃ k : Nat, laws_FnExactComplexOf.f k n0 l1 = some true := by
  intro n0 l1 _ hl1
  by_cases h : (1048576 : Int) < l1.length
  · refine ⟨0, ?_⟩
    unfold laws_FnExactComplexOf.f
    rw [if_pos (by omega)]
  · obtain ⟨K0, r1, r2, r3, hS0, hI, hr⟩ := FnExactComplexOf_both n0 l1 (by omega)
    obtain ⟨K, hK⟩ : ∃ K, K = K0 + l1.length + r2.length + 1 := ⟨_, rfl⟩
    have hS := fun j => hS0 (K + j) (by omega)
    have hto : ∀ j, laws_toInt64S.f (K + j) l1 = some l1 := fun j => toInt64S_is l1 (by omega) (K + j) (by omega)
    have he : ∀ j, laws_eqInt64S.f (K + j) l1 l1 = some true := fun j => by rw [eqInt64S_is l1 l1 (by omega) (K + j) (by omega)]; simp
    have hm : ∀ j, laws_markInt64S.f (K + j) l1 1 = some (1 + (l1.length : Int), marks 1 l1.length) := fun j => markInt64S_is l1 1 (by omega) (by omega) (K + j) (by omega)
    have he2 : ∀ j, laws_eqComplex.f (K + j) r1 r2 r1 r2 = some true := fun j => by rw [eqComplex_is r1 r2 r1 r2 (by omega) (K + j) (by omega)]; simp
    have hm2 : ∀ j, laws_markComplex.f (K + j) r1 r2 1 = some (1 + (r2.length : Int), marks 1 r2.length) := fun j => markComplex_is r1 r2 1 (by omega) (by omega) (K + j) (by omega)
    have hh : ∀ j, laws_heldComplex.f (K + j) r1 (marks 1 r2.length) 1 = some (1 + (r2.length : Int)) := fun j => heldComplex_is r1 r2.length 1 (by omega) (by omega) (K + j) (by omega)
    have hn1 : ¬ (1 + (l1.length : Int) < 0) := by omega
    have hn2 : ¬ (1 + (r2.length : Int) < 0) := by omega
    refine ⟨K + 4, ?_⟩
    unfold laws_FnExactComplexOf.f
    rw [if_neg (by omega)]
    simp only [laws_FnExactComplexOf.j0, laws_FnExactComplexOf.j1, laws_FnExactComplexOf.j2, hto, he, hS, hI, hm, he2, hm2, hh, if_neg hn1, if_neg hn2, Option.bind_some, bne_self_eq_false, Bool.false_eq_true, if_true, if_false]

end Go.Proofs.Ytoeapnempdgagaa.Pure
end

section

namespace Go.Proofs.Ytoeapnempdgagaa.fnExactComplexOf
open Go.ChangeShapes Go.WideShapes Go.ChangeAt Go.RowKit Go.Joins Go.Proofs.Ytoeapnempdgagaa.K Go.Proofs.YtoeapnempdgagaaW.PrintWords
open Go.ChangeMaps (open_string shut_string)
set_option linter.unusedVariables false
set_option maxRecDepth 100000 in
theorem lifted (os : Os) (started : os.Started) (H : Type) (enc : TypeId × Value → H) :
    ReturnsInHanded {} Try.checked os 4 .any (Rows.fnExactComplexOfSpec.pre6 enc Try.prog Try.f4 Rows.fnExactComplexOfRow.domain false) (Rows.fnExactComplexOfSpec.post enc Try.prog Try.f4 false true false false) := by
  refine returnsInHanded_of_change_sized (C := Try.checked) ownKnob_none started (by kernel_rfl) Try.func4
    (ChangeSpec.witness6 (enc := enc) (C := Try.checked) false ⟨#[], #[.int .i64 0, .slice none 0 0], []⟩ 8 (by kernel_rfl) (by kernel_rfl) (by kernel_rfl) (by kernel_rfl)) ?_
  intro W base args ds gs before hval0 hW hcnd hsz0 _
  have hsz : (DataW.weightsEach Try.prog (Try.f4.params.toList ++ Rows.fnExactComplexOfSpec.plain.varTypes Try.prog) (ds ++ gs)).all (· ≤ reachBytes) = true := hsz0
  have hval : ∀ (j : Nat) t v, Try.f4.params[j]? = some t → args[j]? = some v → Value.okWide Try.prog W .any base t v := hval0
  have hW' := hW
  obtain ⟨p, q, hA0, hV, rfl, hfz, hnd⟩ := hW
  have hA : DataW.TrodAll enc Try.prog W 0 (fun _ => true) true Try.f4.params.toList args.toList ds p := hA0
  rw [Try.params4] at hA hval hsz
  obtain ⟨v0, vs0, d0, ds0, p0, q0, hargs, rfl, rfl, h0, r0⟩ := trodAll_cons hA
  obtain ⟨v1, vs1, d1, ds1, p1, q1, rfl, rfl, rfl, h1, r1⟩ := trodAll_cons r0
  obtain ⟨rfl, rfl, rfl⟩ := trodAll_nil r1
  obtain rfl : args = #[v0, v1] := by cases args; simp_all
  obtain ⟨rfl, rfl⟩ := trodVars_none hV
  obtain ⟨n0, rfl, rfl, rfl, w0⟩ := open_int Try.underlying2 (hval 0 2 v0 rfl rfl) h0
  have k1 := h1
  have lt1 : ∀ x ∈ p1, x.block < W.heap.size := by obtain ⟨m, hm⟩ := k1; exact DataW.trod_lt m _ _ _ hm
  obtain ⟨a1, len1, cap1, hv1⟩ := okWide_slice Try.underlying23 (hval 1 23 v1 rfl rfl)
  obtain ⟨A1, c1, l1, e1, hc1, hr1, _⟩ : ∃ A c l, v1 = .slice A l.length c ∧ l.length ≤ c ∧ Ki.C W A l.length l ∧ ∀ n ∈ l, (Lit.int .i64 n).wf = true := by
    obtain ⟨fuel, hf⟩ := h1
    subst hv1
    exact ints_open hf
  subst e1
  clear hA0 hval0 hsz0 hsz
  obtain ⟨k, hk⟩ := Pure.FnExactComplexOf n0 l1 w0 hr1.2.1
  refine (RB.laws_FnExactComplexOf.calls k n0 A1 c1 l1 true W hr1 hc1 hk).mono fun e W' ⟨he, bel0⟩ => ?_
  have bel : Below W.heap.size W W' := bel0
  subst he
  exact ⟨_, rfl, _, _, _, [], _, [], hW', trodAll_mk1 (shut_bool Try.underlying4 _), (trodAll_cons_mk (shut_int Try.underlying2 w0) (trodAll_cons_mk (Below.trod laidOut (by kernel_rfl) (of_decide_eq_true (by kernel_rfl)) k1 bel lt1) trodAll_mk0)), rfl, bel.frame _, fun h => by cases h⟩
theorem over : Rows.fnExactComplexOfRow.holds Try.pinned (OpenSpec.ofChange Rows.fnExactComplexOfSpec) :=
  OpenClaim.holds_of_wide 4 Try.f4 rfl rfl rfl rfl rfl rfl rfl ⟨rfl, rfl, rfl, rfl, rfl⟩ rfl rfl rfl rfl rfl (by kernel_rfl) Try.func4 (by kernel_rfl)
    (of_decide_eq_true (by kernel_rfl)) (by unfold Func.isWrapper; first | (rw [if_pos (by decide +kernel)]; kernel_rfl) | (rw [if_neg (by decide +kernel)]; exact ⟨rfl, rfl⟩))
    (fun os started H enc _ => lifted os started H enc)
theorem proved : Rows.FnExactComplexOfSaid := over
#print axioms proved
end Go.Proofs.Ytoeapnempdgagaa.fnExactComplexOf
namespace Go.Proofs.Ytoeapnempdgagaa
theorem fnExactComplexOf_holds : Rows.FnExactComplexOfSaid := fnExactComplexOf.proved
end Go.Proofs.Ytoeapnempdgagaa
end
