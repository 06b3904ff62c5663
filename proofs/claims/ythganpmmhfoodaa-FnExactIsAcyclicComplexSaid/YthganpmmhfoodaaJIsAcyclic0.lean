/- The row of the law FnExactIsAcyclicComplex: for every input the law answers true, and the arguments read as before. No conditions. -/
import Derived.Test.YthganpmmhfoodaaJ4
import Derived.Below
import Derived.Deep.Draws
import Derived.Deep.AppendLies
import Derived.Maps.AppendAt
import Derived.OwnWalk
import Derived.Laws.BytesArg
import Derived.Laws.MakeOwn
import Derived.Laws.OwnMore
import Derived.Deep.OwnRows
import Derived.Tactics
import Derived.Lib.ConvBytes
import Derived.Laws.Slices
import Derived.WalkKit
import Derived.KernelRfl
import Derived.RowKit3
import Derived.Deep.LoopGhost
import Derived.Deep.QuietTactic
import Derived.BigQuiet
import Derived.WideLaws
import Derived.Deep.DeepCutAuto
import Derived.Deep.CutBlock
import Derived.Deep.RegionHeld3
import Derived.Laws.Rows
import Derived.Lib.AppendStr
import Derived.ArgAppend
import Derived.Laws.IdiomCopy
import Derived.RowKit
import Derived.OrdersHeld
import Derived.Laws.BitsLemmas
import Derived.Test.YthganpmmhfoodaaProg
import Derived.Shelf.Abstract
import Derived.Laws.StructEq
import Derived.Lib.SliceRun
import Derived.RangeFuncBox
import Derived.RangeFuncLeaves
import Derived.OwnWalkIn
import Derived.TacticsInMore
import Derived.LoopNIn
import Derived.LoopIn
import Derived.Test.YthganpmmhfoodaaRows
import Derived.ProofKit
import Derived.OpenShut
import Derived.ShutString
import Derived.ChangeOld
import Derived.SizedLaws
import Derived.Lib.SmallJoins
section
/- IsAcyclicComplex. -/
namespace Go.Proofs.Ythganpmmhfoodaa.K
open Go.RowKit Go.Shelf Go.Proofs.YthganpmmhfoodaaW.PrintWords Go.Proofs.YthganpmmhfoodaaW.PrintLast Go.Proofs.YthganpmmhfoodaaW.PrintMore
set_option linter.unusedVariables false
set_option linter.unusedSimpArgs false

theorem acy1_calls (x : Int) (w : World) : Calls Try.prog 80 #[I x] w fun e w' => e = .returned (.bool (x == 0)) ∧ Grew w w' := by
  go_enter Try.func80, Try.ntmps80
  go_wp2_with fail
  go_ret
  exact ⟨rfl, Grew.refl w⟩

set_option maxRecDepth 100000 in
set_option maxHeartbeats 4000000 in
theorem IsAcyclicComplex_calls (n : Int) (A : Option Addr) (c : Nat) (l : List Int) (p : Int) (w : World) (hk : Kx w A c l) :
    Calls Try.prog 39 #[.agg #[I n, .slice A l.length c], I p] w fun e w' => e = .returned (.tuple #[.bool (if codeOf n l (decide (2 ≤ p ∧ p ≤ 3)) = 0 then acyB (bettiL l p) else false), I (codeOf n l (decide (2 ≤ p ∧ p ≤ 3)))]) ∧ Grew w w' := by
  have hg : Grew w (w.alloc (.cells #[I n, .slice A l.length c] 28)) := below_alloc (Grew.refl w) _
  have hB : CB (w.alloc (.cells #[I n, .slice A l.length c] 28)) w.heap.size n (.slice A l.length c) := blk_new w _
  have H := Aside0.mk (BettiNumbers_calls n A c l p _ (hk.later hg))
  have hb := betti_length l p
  have HG := Aside0.mk hg
  have k0 := hB.c0
  have k1 := hB.c1
  clear hk hg hB
  generalize codeOf n l (decide (2 ≤ p ∧ p ≤ 3)) = cd at H ⊢
  generalize bettiL l p = x at H hb ⊢
  by_cases hz : cd = 0
  · subst hz
    simp only [if_true] at H ⊢
    cases x with
    | nil =>
      go_enter Try.func39, Try.ntmps39
      go_wp2_with fail
      refine H.out.mono ?_
      rintro e w1 ⟨v, rfl, hR1, hG1⟩
      obtain ⟨A1, c1, e1⟩ := Kd.R_slice hR1
      rw [List.length_nil] at e1
      subst e1
      have HG1 := Aside0.mk (Grew.trans HG.out hG1)
      clear hR1 hG1 k0 k1 H
      go_wp2_with fail
      go_ret2
      exact ⟨rfl, HG1.out⟩
    | cons y r =>
      have hrl : r.length ≤ 5 := by simp at hb; omega
      obtain ⟨q, hq⟩ : ∃ q, q = r.all (· == 0) := ⟨_, rfl⟩
      have HAB := Aside0.mk (show acyB (y :: r) = (y == 1 && q) by rw [hq]; rfl)
      have HQ := Aside0.mk hq
      clear hq
      rw [HAB.out]
      go_enter Try.func39, Try.ntmps39
      go_wp2_with fail
      refine H.out.mono ?_
      rintro e w1 ⟨v, rfl, hR1, hG1⟩
      obtain ⟨G, c1, e1, _, _, _⟩ := Kd.R_form hR1 (by simp)
      subst e1
      have hcc := (Kd.R_reads' hR1).2.1
      have hcell := fun (j : Nat) (hj : j < (y :: r).length) => (Kd.R_celln 0 hR1 (j : Int) (by omega) (by omega)).1
      have hy : w1.cell? ⟨G, 0, none⟩ = some (I y) := hcell 0 (by simp)
      have HCL : Aside0 (∀ j (hj : j < r.length), w1.cell? ⟨G, j + 1, none⟩ = some (I r[j])) := ⟨fun j hj => by
        have h2 := hcell (j + 1) (by simp; omega)
        rw [Int.toNat_natCast] at h2
        have h3 : rdOf 0 (y :: r) ((j + 1 : Nat) : Int) = r[j] := by
          have h4 : j + 1 < (y :: r).length := by simp; omega
          have h5 : rdOf 0 (y :: r) ((j + 1 : Nat) : Int) = (y :: r).getD (j + 1) 0 := rfl
          rw [h5]
          simp [hj]
        rw [h3] at h2
        exact h2⟩
      have HG1 := Aside0.mk (Grew.trans HG.out hG1)
      have hl1 : (y :: r).length = r.length + 1 := by simp
      rw [hl1] at hcc ⊢
      clear hR1 hG1 k0 k1 H hcell hl1
      have hpos : (0 : Int) < ((r.length + 1 : Nat) : Int) := by omega
      by_cases hy1 : y = 1
      · subst hy1
        have HC := Aside0.mk (fun (A2 : Option Addr) (c2 : Nat) (h : r.length = 0 ∨ A2 = some ⟨G, 1, none⟩) (hc2 : r.length ≤ c2) => areAll_int (fun n => n == 0) A2 c2 r 80 #[] #[] w1 (Kd.C_of_reads (d := (0 : Int)) ⟨rfl, by omega, fun h0 => by
            rcases h with h | h
            · omega
            · refine ⟨⟨G, 1, none⟩, h, fun j hj => ?_⟩
              have e1 : Addr.add ⟨G, 1, none⟩ j = ⟨G, j + 1, none⟩ := by rw [add_at2, Nat.add_comm]
              rw [e1, HCL.out j hj]
              simp [hj]⟩) hc2 (by omega) (enters_of Try.func80 (by kernel_rfl) rfl) (fun x _ W _ => acy1_calls x W))
        rw [← HQ.out] at HC
        by_cases h1c : 1 < c1
        · go_wp2_with fail
          have H4 := Aside0.mk (HC.out (some ⟨G, 1, none⟩) (c1 - 1) (.inr rfl) (by omega))
          refine H4.out.mono ?_
          rintro e w2 ⟨rfl, hG2⟩
          have HG2 := Aside0.mk (Grew.trans HG1.out hG2)
          clear hG2
          go_wp2_with fail
          go_ret2
          exact ⟨by cases q <;> rfl, HG2.out⟩
        · have hr0 : r.length = 0 := by omega
          go_wp2_with fail
          have H4 : Aside0 (∀ A2 c2, Calls Try.prog 79 #[.slice A2 0 c2, .func (.func 80) #[] #[]] w1 fun e w' => e = .returned (.bool q) ∧ Grew w1 w') := ⟨fun A2 c2 => by
            have h := HC.out A2 c2 (.inl hr0) (by omega)
            rw [hr0] at h
            exact h⟩
          refine (H4.out _ _).mono ?_
          rintro e w2 ⟨rfl, hG2⟩
          have HG2 := Aside0.mk (Grew.trans HG1.out hG2)
          clear hG2
          go_wp2_with fail
          go_ret2
          exact ⟨by cases q <;> rfl, HG2.out⟩
      · have HF : Aside0 ((y == 1 && q) = false) := ⟨by simp [hy1]⟩
        go_wp2_with fail
        go_ret2
        exact ⟨by rw [HF.out]; rfl, HG1.out⟩
  · have HV : Aside0 (∀ {α : Type} (a b : α), (if cd = 0 then a else b) = b) := ⟨fun a b => if_neg hz⟩
    simp only [HV.out] at H ⊢
    go_enter Try.func39, Try.ntmps39
    go_wp2_with fail
    refine H.out.mono ?_
    rintro e w1 ⟨v, rfl, hR1, hG1⟩
    have HG1 := Aside0.mk (Grew.trans HG.out hG1)
    clear hR1 hG1 k0 k1 H
    go_wp2_with fail
    go_ret2
    exact ⟨rfl, HG1.out⟩

end Go.Proofs.Ythganpmmhfoodaa.K
end

section
/- The walk through the law FnExactIsAcyclicComplex. -/
namespace Go.Proofs.Ythganpmmhfoodaa.K
open Go.RowKit Go.Shelf Go.Proofs.Ythganpmmhfoodaa.Q Go.Proofs.Ythganpmmhfoodaa.D Go.Proofs.YthganpmmhfoodaaW.PrintWords Go.Proofs.YthganpmmhfoodaaW.PrintLast Go.Proofs.YthganpmmhfoodaaW.PrintMore
set_option linter.unusedVariables false
set_option linter.unusedSimpArgs false

set_option maxRecDepth 100000 in
set_option maxHeartbeats 4000000 in
theorem LIsAcyclicComplex_calls (n0 : Int) (A0 : Option Addr) (c0 : Nat) (l0 : List Int) (n1 : Int) (w : World) (hr0 : Ki.C w A0 l0.length l0) (hc0 : l0.length ≤ c0) :
    Calls Try.prog 11 #[.agg #[I n0, .slice A0 l0.length c0], I n1] w fun e w' => e = .returned (.bool true) ∧ Grew w w' := by
  have hbig0 := hr0.2.1
  have HR0 := Aside0.mk hr0
  have HC0 := Aside0.mk hc0
  clear hr0 hc0
  have hg0 : Grew w (w.alloc (.cells #[I n0, .slice A0 l0.length c0] 24)) := below_alloc (Grew.refl w) _
  have H0 := Aside0.mk (szC_calls n0 A0 c0 l0 1048576 (by omega) _ (Kd.C_below HR0.out hg0) HC0.out)
  have HM0 := Aside0.mk (Mem.cons (it := .box w.heap.size 24 #[I n0, .slice A0 l0.length c0]) (blk_new w _) (Mem.nil _))
  have HG0 := Aside0.mk hg0
  clear hg0
  by_cases hl0 : 1048576 < (l0.length : Int)
  · rw [if_pos (by omega)] at H0
    go_enter Try.func11, Try.ntmps11
    go_wp2_with fail
    refine H0.out.mono ?_
    rintro e w1 ⟨rfl, hG1⟩
    go_wp2_with fail
    go_ret
    exact ⟨rfl, Grew.trans HG0.out hG1⟩
  · rw [if_neg (by omega)] at H0
    have hcmp : ¬ ((1048576 : Int) - l0.length < 0) := by omega
    obtain ⟨r0, r1, HS, HI⟩ : ∃ (r0 : Bool) (r1 : Int), Aside0 (∀ W A0 c0, Ki.C W A0 l0.length l0 → l0.length ≤ c0 → Calls Try.prog 38 #[.agg #[I n0, .slice A0 l0.length c0], I n1] W fun e w' => e = .returned (.tuple #[.bool r0, I r1]) ∧ Grew W w') ∧ Aside0 (∀ W A0 c0, Ki.C W A0 l0.length l0 → l0.length ≤ c0 → Calls Try.prog 39 #[.agg #[I n0, .slice A0 l0.length c0], I n1] W fun e w' => e = .returned (.tuple #[.bool r0, I r1]) ∧ Grew W w') := by
      have hS := fun (W : World) (A0 : Option Addr) (c0 : Nat) => fun (hr0 : Ki.C W A0 l0.length l0) (hc0 : l0.length ≤ c0) => spec_IsAcyclicComplex.calls (isK l0 + 100) n0 A0 c0 l0 n1 _ _ W hr0 hc0 (specIsAcyclicComplex_is n0 l0 n1 (by omega) _ (Nat.le_refl _))
      have hI := fun (W : World) (A0 : Option Addr) (c0 : Nat) => fun (hr0 : Ki.C W A0 l0.length l0) (hc0 : l0.length ≤ c0) => IsAcyclicComplex_calls n0 A0 c0 l0 n1 W ⟨hr0, hc0, by omega⟩
      exact ⟨(if codeOf n0 l0 (decide (2 ≤ n1 ∧ n1 ≤ 3)) = 0 then acyB (bettiL l0 n1) else false), (codeOf n0 l0 (decide (2 ≤ n1 ∧ n1 ≤ 3))), ⟨hS⟩, ⟨hI⟩⟩
    go_enter Try.func11, Try.ntmps11
    go_wp2_with fail
    refine H0.out.mono ?_
    rintro e w1 ⟨rfl, hG1⟩
    clear H0
    have HM1 := Aside0.mk (HM0.out.grew hG1)
    have HG1 := Aside0.mk (Grew.trans HG0.out hG1)
    have hs0 : w.heap.size + 1 ≤ w1.heap.size := by have := hG1.size; simpa using this
    clear hG1 HM0 HG0
    have p0_0 : w1.cell? ⟨w.heap.size, 0, none⟩ = some (I n0) := blk_cell HM1.out.head 0
    have p0_1 : w1.cell? ⟨w.heap.size, 1, none⟩ = some (.slice A0 l0.length c0) := blk_cell HM1.out.head 1
    go_wp2_with fail
    clear p0_0 p0_1
    refine (toC_calls n0 A0 c0 l0 w1 (Kd.C_below HR0.out HG1.out) HC0.out (by omega)).mono ?_
    rintro e w2 ⟨AS0, cS0, rfl, hR2, hG2⟩
    have HM2 : Aside0 (Mem w2 [.row w1.heap.size w2.heap.size (.slice AS0 l0.length cS0) l0, .box w.heap.size 24 #[I n0, .slice A0 l0.length c0]]) := ⟨Mem.cons (it := .row w1.heap.size w2.heap.size (.slice AS0 l0.length cS0) l0) (hR2) (HM1.out.grew hG2)⟩
    have HG2 := Aside0.mk (Grew.trans HG1.out hG2)
    have hs2 := hG2.size
    clear hG2 
    go_wp2_with fail
    refine (HS.out w2 AS0 cS0 (Row.slice HM2.out.head).2.2 (Row.slice HM2.out.head).2.1).mono ?_
    rintro e w3 ⟨rfl, hG3⟩
    have HM3 := Aside0.mk (HM2.out.grew hG3)
    have HG3 := Aside0.mk (Grew.trans HG2.out hG3)
    have hs3 := hG3.size
    clear hG3
    have p0_0 : w3.cell? ⟨w.heap.size, 0, none⟩ = some (I n0) := blk_cell HM3.out.tail.head 0
    have p0_1 : w3.cell? ⟨w.heap.size, 1, none⟩ = some (.slice A0 l0.length c0) := blk_cell HM3.out.tail.head 1
    go_wp2_with fail
    clear p0_0 p0_1
    refine (toC_calls n0 A0 c0 l0 w3 (Kd.C_below HR0.out HG3.out) HC0.out (by omega)).mono ?_
    rintro e w4 ⟨Ax0, cx0, rfl, hR4, hG4⟩
    have HM4 : Aside0 (Mem w4 [.row w3.heap.size w4.heap.size (.slice Ax0 l0.length cx0) l0, .row w1.heap.size w2.heap.size (.slice AS0 l0.length cS0) l0, .box w.heap.size 24 #[I n0, .slice A0 l0.length c0]]) := ⟨Mem.cons (it := .row w3.heap.size w4.heap.size (.slice Ax0 l0.length cx0) l0) (hR4) (HM3.out.grew hG4)⟩
    have HG4 := Aside0.mk (Grew.trans HG3.out hG4)
    have hs4 := hG4.size
    clear hG4 
    have HM5 : Aside0 (Mem (w4.alloc (.cells #[I n0, .slice Ax0 l0.length cx0] 28)) [.box w4.heap.size 28 #[I n0, .slice Ax0 l0.length cx0], .row w3.heap.size w4.heap.size (.slice Ax0 l0.length cx0) l0, .row w1.heap.size w2.heap.size (.slice AS0 l0.length cS0) l0, .box w.heap.size 24 #[I n0, .slice A0 l0.length c0]]) := ⟨Mem.cons (blk_new w4 _) (HM4.out.grew (below_alloc (Grew.refl w4) _))⟩
    have HG5 : Aside0 (Grew w (w4.alloc (.cells #[I n0, .slice Ax0 l0.length cx0] 28))) := ⟨Grew.trans HG4.out (below_alloc (Grew.refl w4) _)⟩
    have hS5 : (w4.alloc (.cells #[I n0, .slice Ax0 l0.length cx0] 28)).heap.size = w4.heap.size + 1 := by simp
    have bx0_0 : (w4.alloc (.cells #[I n0, .slice Ax0 l0.length cx0] 28)).cell? ⟨w4.heap.size, 0, none⟩ = some (I n0) := blk_cell HM5.out.head 0
    have bx0_1 : (w4.alloc (.cells #[I n0, .slice Ax0 l0.length cx0] 28)).cell? ⟨w4.heap.size, 1, none⟩ = some (.slice Ax0 l0.length cx0) := blk_cell HM5.out.head 1
    go_wp2_with fail
    generalize (w4.alloc (.cells #[I n0, .slice Ax0 l0.length cx0] 28)) = W5 at HM5 HG5 hS5 bx0_0 bx0_1 ⊢
    clear bx0_0 bx0_1
    refine (HI.out W5 Ax0 cx0 (Row.slice HM5.out.tail.head).2.2 (Row.slice HM5.out.tail.head).2.1).mono ?_
    rintro e w6 ⟨rfl, hG6⟩
    have HM6 := Aside0.mk (HM5.out.grew hG6)
    have HG6 := Aside0.mk (Grew.trans HG5.out hG6)
    have hs6 := hG6.size
    clear hG6
    go_wp2_with fail
    have bx0_0 : w6.cell? ⟨w4.heap.size, 0, none⟩ = some (I n0) := blk_cell HM6.out.head 0
    have bx0_1 : w6.cell? ⟨w4.heap.size, 1, none⟩ = some (.slice Ax0 l0.length cx0) := blk_cell HM6.out.head 1
    have p0_0 : w6.cell? ⟨w.heap.size, 0, none⟩ = some (I n0) := blk_cell HM6.out.tail.tail.tail.head 0
    have p0_1 : w6.cell? ⟨w.heap.size, 1, none⟩ = some (.slice A0 l0.length c0) := blk_cell HM6.out.tail.tail.tail.head 1
    have hlx : w4.heap.size < w6.heap.size := World.block_lt_of_cell? w6 _ bx0_0
    have hlp : w.heap.size < w6.heap.size := World.block_lt_of_cell? w6 _ p0_0
    go_region_held3 (fun w' => w'.cell? ⟨w4.heap.size, 0, none⟩ = some (I n0) ∧ w'.cell? ⟨w4.heap.size, 1, none⟩ = some (.slice Ax0 l0.length cx0) ∧ w'.cell? ⟨w.heap.size, 0, none⟩ = some (I n0) ∧ w'.cell? ⟨w.heap.size, 1, none⟩ = some (.slice A0 l0.length c0))
      (first | exact ⟨(HDb.out.cell (p := ⟨w4.heap.size, 0, none⟩) hlx).trans bx0_0, (HDb.out.cell (p := ⟨w4.heap.size, 1, none⟩) hlx).trans bx0_1, (HDb.out.cell (p := ⟨w.heap.size, 0, none⟩) hlp).trans p0_0, (HDb.out.cell (p := ⟨w.heap.size, 1, none⟩) hlp).trans p0_1⟩ | exact ⟨(HDa.out.cell (p := ⟨w4.heap.size, 0, none⟩) hlx).trans bx0_0, (HDa.out.cell (p := ⟨w4.heap.size, 1, none⟩) hlx).trans bx0_1, (HDa.out.cell (p := ⟨w.heap.size, 0, none⟩) hlp).trans p0_0, (HDa.out.cell (p := ⟨w.heap.size, 1, none⟩) hlp).trans p0_1⟩ | go_keep)
      (first
        | (go_at_call 16; refine (toC_calls n0 A0 c0 l0 _ (Kd.C_below HR0.out (Below.trans HG6.out ((Below.refl _ w6).drew))) HC0.out (by omega)).mono ?_; rintro e w7 ⟨Aq0, cq0, rfl, hRa, hGa⟩; have HDa : Aside0 (Grew w6 w7) := ⟨Below.trans ((Below.refl _ w6).drew) hGa⟩; have HRa := Aside0.mk hRa; clear hRa hGa)
        | (go_at_call 19; refine (eqC_calls n0 l0 Ax0 Aq0 cx0 cq0 _ _ _ _ _ _ w7 (HM6.out.grew HDa.out).tail.head HRa.out).mono ?_; rintro e w8 ⟨rfl, hGb⟩; have HDb : Aside0 (Grew w6 w8) := ⟨Grew.trans HDa.out hGb⟩; clear hGb))
    clear bx0_0 bx0_1 p0_0 p0_1
    have hG8 := HDb.out
    clear hlx hlp HDa HDb HRa
    have HM8 := Aside0.mk (HM6.out.grew hG8)
    have HG8 := Aside0.mk (Grew.trans HG6.out hG8)
    have hs8 := hG8.size
    clear hG8
    go_wp2_with fail
    go_ret
    exact ⟨rfl, HG8.out⟩

end Go.Proofs.Ythganpmmhfoodaa.K
end

section

namespace Go.Proofs.Ythganpmmhfoodaa.fnExactIsAcyclicComplex
open Go.ChangeShapes Go.WideShapes Go.ChangeAt Go.RowKit Go.Joins Go.Proofs.Ythganpmmhfoodaa.K Go.Proofs.YthganpmmhfoodaaW.PrintWords
open Go.ChangeMaps (open_string shut_string)
set_option linter.unusedVariables false
set_option maxRecDepth 100000 in
theorem lifted (os : Os) (started : os.Started) (H : Type) (enc : TypeId × Value → H) :
    ReturnsInHanded {} Try.checked os 11 .any (Rows.fnExactIsAcyclicComplexSpec.pre6 enc Try.prog Try.f11 Rows.fnExactIsAcyclicComplexRow.domain false) (Rows.fnExactIsAcyclicComplexSpec.post enc Try.prog Try.f11 false true false false) := by
  refine returnsInHanded_of_change_sized (C := Try.checked) ownKnob_none started (by kernel_rfl) Try.func11
    (ChangeSpec.witness6 (enc := enc) (C := Try.checked) false ⟨#[], #[.agg #[.int .i64 0, .slice none 0 0], .int .i64 0], []⟩ 8 (by kernel_rfl) (by kernel_rfl) (by kernel_rfl) (by kernel_rfl)) ?_
  intro W base args ds gs before hval0 hW hcnd hsz0 _
  have hsz : (DataW.weightsEach Try.prog (Try.f11.params.toList ++ Rows.fnExactIsAcyclicComplexSpec.plain.varTypes Try.prog) (ds ++ gs)).all (· ≤ reachBytes) = true := hsz0
  have hval : ∀ (j : Nat) t v, Try.f11.params[j]? = some t → args[j]? = some v → Value.okWide Try.prog W .any base t v := hval0
  have hW' := hW
  obtain ⟨p, q, hA0, hV, rfl, hfz, hnd⟩ := hW
  have hA : DataW.TrodAll enc Try.prog W 0 (fun _ => true) true Try.f11.params.toList args.toList ds p := hA0
  rw [Try.params11] at hA hval hsz
  obtain ⟨v0, vs0, d0, ds0, p0, q0, hargs, rfl, rfl, h0, r0⟩ := trodAll_cons hA
  obtain ⟨v1, vs1, d1, ds1, p1, q1, rfl, rfl, rfl, h1, r1⟩ := trodAll_cons r0
  obtain ⟨rfl, rfl, rfl⟩ := trodAll_nil r1
  obtain rfl : args = #[v0, v1] := by cases args; simp_all
  obtain ⟨rfl, rfl⟩ := trodVars_none hV
  have k0 := h0
  have lt0 : ∀ x ∈ p0, x.block < W.heap.size := by obtain ⟨m, hm⟩ := k0; exact DataW.trod_lt m _ _ _ hm
  obtain ⟨x0, z0, y0_0, y1_0, m0, hv0, hd0, hp0, hy0_0, hy1_0⟩ := open_agg2 Try.underlying24 (by kernel_rfl) (show Try.prog.cellsOf 24 = 2 by kernel_rfl) (hval 0 24 v0 rfl rfl) h0
  obtain ⟨n0, e0_0, _, w0⟩ := DataW.trod_int Try.underlying2 hy0_0
  obtain ⟨A0, c0, l0, e1_0, hc0, hr0, _⟩ := ints_open hy1_0
  simp only [List.cons.injEq, and_true] at e0_0
  subst e0_0 e1_0
  subst hv0
  obtain ⟨n1, rfl, rfl, rfl, w1⟩ := open_int Try.underlying2 (hval 1 2 v1 rfl rfl) h1
  clear hA0 hval0 hsz0 hsz
  refine (K.LIsAcyclicComplex_calls n0 A0 c0 l0 n1 W hr0 hc0).mono fun e W' ⟨he, bel0⟩ => ?_
  have bel : Below W.heap.size W W' := bel0
  subst he
  exact ⟨_, rfl, _, _, _, [], _, [], hW', trodAll_mk1 (shut_bool Try.underlying4 _), (trodAll_cons_mk (Below.trod laidOut (by kernel_rfl) (of_decide_eq_true (by kernel_rfl)) k0 bel lt0) (trodAll_cons_mk (shut_int Try.underlying2 w1) trodAll_mk0)), rfl, bel.frame _, fun h => by cases h⟩
theorem over : Rows.fnExactIsAcyclicComplexRow.holds Try.pinned (OpenSpec.ofChange Rows.fnExactIsAcyclicComplexSpec) :=
  OpenClaim.holds_of_wide 11 Try.f11 rfl rfl rfl rfl rfl rfl rfl ⟨rfl, rfl, rfl, rfl, rfl⟩ rfl rfl rfl rfl rfl (by kernel_rfl) Try.func11 (by kernel_rfl)
    (of_decide_eq_true (by kernel_rfl)) (by unfold Func.isWrapper; first | (rw [if_pos (by decide +kernel)]; kernel_rfl) | (rw [if_neg (by decide +kernel)]; exact ⟨rfl, rfl⟩))
    (fun os started H enc _ => lifted os started H enc)
theorem proved : Rows.FnExactIsAcyclicComplexSaid := over
#print axioms proved
end Go.Proofs.Ythganpmmhfoodaa.fnExactIsAcyclicComplex
namespace Go.Proofs.Ythganpmmhfoodaa
theorem fnExactIsAcyclicComplex_holds : Rows.FnExactIsAcyclicComplexSaid := fnExactIsAcyclicComplex.proved
end Go.Proofs.Ythganpmmhfoodaa
end
