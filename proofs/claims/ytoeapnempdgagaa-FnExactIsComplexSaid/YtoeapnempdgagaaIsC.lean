/- IsComplex. -/
import Derived.Test.YtoeapnempdgagaaAll
import Derived.Test.YtoeapnempdgagaaBorders
import Derived.Test.YtoeapnempdgagaaHas
import Derived.Test.YtoeapnempdgagaaSmall
namespace Go.Proofs.Ytoeapnempdgagaa.K
open Go.RowKit Go.Shelf Go.Proofs.YtoeapnempdgagaaW.PrintWords Go.Proofs.YtoeapnempdgagaaW.PrintLast Go.Proofs.YtoeapnempdgagaaW.PrintMore
set_option linter.unusedVariables false
set_option linter.unusedSimpArgs false

/-- All borders of f are in l (as has tells it). -/
def closedAt (l : List Int) (f : Int) : Bool := (bords f).all (hasB l)

theorem bords_length (f : Int) : (bords f).length ≤ 6 := by
  have h1 := bordsOf_length f (verts f).reverse
  have h2 := verts_length f
  unfold bords
  simp at h1; omega

theorem has_answers (n : Int) (A : Option Addr) (c : Nat) (l : List Int) (w : World) (hr : Ki.C w A l.length l) (hc : l.length ≤ c) (hl : l.length ≤ 2305843009213693952) (x : Int) :
    Answers w 59 (#[.agg #[I n, .slice A l.length c]].push (I x) ++ #[]) (.bool (hasB l x)) :=
  fun W hW => has_calls n A c l x W (Kd.C_below hr hW) hc hl

set_option maxHeartbeats 2000000 in
theorem IsComplex1_calls (n f : Int) (B : Nat) (A : Option Addr) (c : Nat) (l : List Int) (w : World) (hb : w.heap[B]? = some (.cells #[I n, .slice A l.length c] 25 (0, 0)))
    (hr : Ki.C w A l.length l) (hc : l.length ≤ c) (hl : l.length ≤ 2305843009213693952) :
    Calls Try.prog 57 #[I f, .pointer (some ⟨B, 0, none⟩)] w fun e w' => e = .returned (.bool (closedAt l f)) ∧ Grew w w' := by
  have hlt : B < w.heap.size := (Array.getElem?_eq_some_iff.1 hb).1
  have h0 : w.cell? ⟨B, 0, none⟩ = some (I n) := blk_cell hb 0
  have h1 : w.cell? ⟨B, 1, none⟩ = some (.slice A l.length c) := blk_cell hb 1
  have HR := Aside0.mk hr
  have HC := Aside0.mk hc
  clear hr hc hb
  go_enter Try.func57, Try.ntmps57
  go_wp2_with fail
  go_region_held3 (fun w' => w'.cell? ⟨B, 0, none⟩ = some (I n) ∧ w'.cell? ⟨B, 1, none⟩ = some (.slice A l.length c))
    (first | exact ⟨(HG2.out.cell (p := ⟨B, 0, none⟩) hlt).trans h0, (HG2.out.cell (p := ⟨B, 1, none⟩) hlt).trans h1⟩ | exact ⟨(HG.out.cell (p := ⟨B, 0, none⟩) hlt).trans h0, (HG.out.cell (p := ⟨B, 1, none⟩) hlt).trans h1⟩ | go_keep)
    (first
      | (go_at_call 58; refine (borders_calls f _).mono ?_; rintro e w1 ⟨v, rfl, hR, hG⟩; obtain ⟨A1, c1, hv, hle, hCr⟩ := Kd.R_reads hR; subst hv; have HG : Aside0 (Grew w w1) := ⟨Below.trans ((Below.refl _ w).drew) hG⟩; have HL := Aside0.mk hle; have HCR := Aside0.mk hCr; clear hR hle hCr)
      | (go_at_call 50; refine (areAll_int (hasB l) A1 c1 (bords f) _ _ _ _ HCR.out HL.out (by have := bords_length f; omega) (enters_of Try.func59 (by kernel_rfl) rfl) (fun x _ => has_answers n A c l _ (Kd.C_below HR.out HG.out) HC.out hl x)).mono ?_; rintro e w2 ⟨rfl, hG2⟩; have HG2 : Aside0 (Grew w w2) := ⟨Grew.trans HG.out hG2⟩; clear hG2))
  all_goals (go_wp2_with fail; go_ret; exact ⟨rfl, HG2.out⟩)

/-- The face at place j is in range, and behind the one before it. -/
def goodAt (n : Int) (l : List Int) (j : Nat) : Prop := ∀ (h : j < l.length), 1 ≤ l[j] ∧ l[j] ≤ fullOf n ∧ (∀ (h0 : 0 < j), l[j - 1]'(by omega) < l[j])
instance (n : Int) (l : List Int) (j : Nat) : Decidable (goodAt n l j) := by unfold goodAt; infer_instance
def rangeAsc (n : Int) (l : List Int) : Bool := decide (∀ j, j < l.length → goodAt n l j)
/-- What IsComplex answers. -/
def isC (n : Int) (l : List Int) : Bool := decide (1 ≤ n ∧ n ≤ 6) && (rangeAsc n l && l.all (closedAt l))

theorem full_range (n : Int) (h : 1 ≤ n ∧ n ≤ 6) : 1 ≤ fullOf n ∧ fullOf n ≤ 63 := by
  unfold fullOf
  have h1 := two_pow n.toNat 6 (by omega)
  have h2 := two_pow 1 n.toNat (by omega)
  omega

theorem rangeAsc_false (n : Int) (l : List Int) (j : Nat) (h : j < l.length) (hb : ¬ goodAt n l j) : rangeAsc n l = false := by
  unfold rangeAsc
  exact decide_eq_false fun hall => hb (hall j h)

set_option maxRecDepth 100000 in
set_option maxHeartbeats 4000000 in
theorem IsComplex_calls (n : Int) (A : Option Addr) (c : Nat) (l : List Int) (w : World) (hr : Ki.C w A l.length l) (hc : l.length ≤ c) (hl : l.length ≤ 1152921504606846976) :
    Calls Try.prog 26 #[.agg #[I n, .slice A l.length c]] w fun e w' => e = .returned (.bool (isC n l)) ∧ Grew w w' := by
  have HR := Aside0.mk hr
  have HC := Aside0.mk hc
  clear hr hc
  by_cases hn : 1 ≤ n ∧ n ≤ 6
  · have hF := full_range n hn
    have HI := Aside0.mk (show isC n l = (rangeAsc n l && l.all (closedAt l)) by simp [isC, hn])
    go_enter Try.func26, Try.ntmps26
    go_wp2_with fail
    refine (isSize_calls n true (by simp [hn]) _).mono ?_
    rintro e w1 ⟨rfl, hG1⟩
    have HB1 : Aside0 (w1.heap[w.heap.size]? = some (.cells #[I n, .slice A l.length c] 25 (0, 0))) := ⟨blk_below (blk_new w _) hG1⟩
    have HG1 : Aside0 (Grew w w1) := ⟨Grew.trans (below_alloc (Grew.refl w) _) hG1⟩
    clear hG1
    have h0 : w1.cell? ⟨w.heap.size, 0, none⟩ = some (I n) := blk_cell HB1.out 0
    have h1 : w1.cell? ⟨w.heap.size, 1, none⟩ = some (.slice A l.length c) := blk_cell HB1.out 1
    go_wp2_with fail
    clear h0 h1
    go_loopg [12] l.length (fun gg s12 wr => ∃ kk : Nat, kk ≤ l.length ∧ l.length - kk ≤ gg ∧ s12 = .int .i64 kk ∧ Aside0 (Grew w1 wr) ∧ Aside0 (∀ j, j < kk → goodAt n l j))
    case atStart => exact ⟨0, Nat.zero_le _, by omega, rfl, ⟨Below.refl _ _⟩, ⟨fun j hj => absurd hj (Nat.not_lt_zero _)⟩⟩
    case round =>
      obtain ⟨kk, hkk, hg, rfl, BW, A0⟩ := hrel
      have HBr : Aside0 (wr.heap[w.heap.size]? = some (.cells #[I n, .slice A l.length c] 25 (0, 0))) := ⟨blk_below HB1.out BW.out⟩
      have HGr : Aside0 (Grew w wr) := ⟨Grew.trans HG1.out BW.out⟩
      have h0 : wr.cell? ⟨w.heap.size, 0, none⟩ = some (I n) := blk_cell HBr.out 0
      have h1 : wr.cell? ⟨w.heap.size, 1, none⟩ = some (.slice A l.length c) := blk_cell HBr.out 1
      by_cases hlt : kk < l.length
      · have hltz : (kk : Int) < (l.length : Int) := by omega
        obtain ⟨ad, e0, hx⟩ := Kd.at_int (Kd.C_below HR.out HGr.out) (kk : Int) (by omega) (by omega)
        cases e0
        have hrd : rd l (kk : Int) = l[kk] := by simp [rd, hlt]
        rw [hrd, Int.toNat_natCast] at hx
        clear hrd
        obtain ⟨y, hy⟩ : ∃ y, y = l[kk] := ⟨_, rfl⟩
        rw [← hy] at hx
        have HY := Aside0.mk hy
        clear hy
        go_wp2_with fail
        refine (full_calls n _ c l _ (by omega) (by omega) (Kd.C_below HR.out HGr.out) HC.out).mono ?_
        rintro e w2 ⟨rfl, hG2⟩
        go_wp2_with fail
        by_cases hin : 1 ≤ y ∧ y ≤ fullOf n
        · refine (within_calls y 1 (fullOf n) true (by simp [hin]) _).mono ?_
          rintro e w3 ⟨rfl, hG3⟩
          have HG3 : Aside0 (Grew wr w3) := ⟨Grew.trans hG2 hG3⟩
          have HB3 := Aside0.mk (blk_below HBr.out HG3.out)
          have h03 : w3.cell? ⟨w.heap.size, 0, none⟩ = some (I n) := blk_cell HB3.out 0
          have h13 : w3.cell? ⟨w.heap.size, 1, none⟩ = some (.slice (some ad) l.length c) := blk_cell HB3.out 1
          clear hG2 hG3 h0 h1 hx
          rcases Nat.eq_zero_or_pos kk with rfl | hpos
          · go_wp2_with fail
            go_roundg (l.length - 1)
            case measure => omega
            case rel => exact ⟨1, by omega, by omega, rfl, ⟨Grew.trans BW.out HG3.out⟩, ⟨fun j hj h => by
              obtain rfl : j = 0 := by omega
              have := HY.out
              exact ⟨by omega, by omega, fun h0 => absurd h0 (Nat.lt_irrefl 0)⟩⟩⟩
          · obtain ⟨m, rfl⟩ : ∃ m, kk = m + 1 := ⟨kk - 1, by omega⟩
            obtain ⟨ad', e0, hx'⟩ := Kd.at_int (Kd.C_below HR.out (Grew.trans HGr.out HG3.out)) (m : Int) (by omega) (by omega)
            cases e0
            have hrd : rd l (m : Int) = l[m] := by simp [rd, show m < l.length by omega]
            rw [hrd, Int.toNat_natCast] at hx'
            clear hrd
            obtain ⟨z, hz⟩ : ∃ z, z = l[m] := ⟨_, rfl⟩
            rw [← hz] at hx'
            have HZ := Aside0.mk hz
            clear hz
            by_cases hyz : y ≤ z
            · have HF : Aside0 (isC n l = false) := ⟨by
                rw [HI.out, rangeAsc_false n l (m + 1) hlt (fun hg => by
                  have h2 := (hg hlt).2.2 (by omega)
                  have e1 := HY.out
                  have e2 := HZ.out
                  simp only [Nat.add_sub_cancel] at h2
                  omega)]
                rfl⟩
              go_wp2_with fail
              go_ret
              exact ⟨by rw [HF.out]; rfl, Grew.trans HGr.out HG3.out⟩
            · go_wp2_with fail
              go_roundg (l.length - (m + 1 + 1))
              case measure => omega
              case rel => exact ⟨m + 1 + 1, by omega, by omega, by go_num, ⟨Grew.trans BW.out HG3.out⟩, ⟨fun j hj h => by
                rcases Nat.lt_or_ge j (m + 1) with h' | h'
                · exact A0.out j h' h
                · obtain rfl : j = m + 1 := by omega
                  have e1 := HY.out
                  have e2 := HZ.out
                  exact ⟨by omega, by omega, fun _ => by simp only [Nat.add_sub_cancel]; omega⟩⟩⟩
        · have HF : Aside0 (isC n l = false) := ⟨by
            rw [HI.out, rangeAsc_false n l kk hlt (fun hg => by
              have h2 := hg hlt
              have e1 := HY.out
              omega)]
            rfl⟩
          refine (within_calls y 1 (fullOf n) false (by simpa using hin) _).mono ?_
          rintro e w3 ⟨rfl, hG3⟩
          have HG3 : Aside0 (Grew wr w3) := ⟨Grew.trans hG2 hG3⟩
          clear hG2 hG3 h0 h1 hx
          go_wp2_with fail
          go_ret
          exact ⟨by rw [HF.out]; rfl, Grew.trans HGr.out HG3.out⟩
      · obtain rfl : kk = l.length := by omega
        have HT : Aside0 (isC n l = l.all (closedAt l)) := ⟨by
          rw [HI.out, show rangeAsc n l = true from decide_eq_true fun j hj => A0.out j hj]
          rfl⟩
        have H := Aside0.mk (areAll_int (closedAt l) A c l 57 #[] #[.pointer (some ⟨w.heap.size, 0, none⟩)] wr (Kd.C_below HR.out HGr.out) HC.out (by omega)
          (enters_of Try.func57 (by kernel_rfl) rfl)
          (fun x hx W hW => IsComplex1_calls n x w.heap.size A c l W (blk_below HBr.out hW) (Kd.C_below HR.out (Grew.trans HGr.out hW)) HC.out (by omega)))
        generalize l.all (closedAt l) = b at H HT
        go_wp2_with fail
        refine H.out.mono ?_
        rintro e w4 ⟨rfl, hG4⟩
        go_wp2_with fail
        go_ret
        exact ⟨by rw [HT.out]; rfl, Grew.trans HGr.out hG4⟩
  · have HF : Aside0 (isC n l = false) := ⟨by simp only [isC, decide_eq_false hn, Bool.false_and]⟩
    go_enter Try.func26, Try.ntmps26
    go_wp2_with fail
    refine (isSize_calls n false (by simpa using hn) _).mono ?_
    rintro e w1 ⟨rfl, hG1⟩
    have HG1 : Aside0 (Grew w w1) := ⟨Grew.trans (below_alloc (Grew.refl w) _) hG1⟩
    clear hG1
    go_wp2_with fail
    go_ret
    exact ⟨by rw [HF.out]; rfl, HG1.out⟩

end Go.Proofs.Ytoeapnempdgagaa.K
