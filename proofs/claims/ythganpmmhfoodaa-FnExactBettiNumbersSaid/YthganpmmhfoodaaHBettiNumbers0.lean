/- The row of the law FnExactBettiNumbers: for every input the law answers true, and the arguments read as before. No conditions. -/
import Derived.Test.YthganpmmhfoodaaH4
import Derived.Below
import Derived.Deep.Draws
import Derived.Deep.AppendLies
import Derived.Maps.AppendAt
import Derived.OwnWalk
import Derived.Laws.BytesArg
import Derived.Laws.MakeOwn
import Derived.Laws.OwnMore
import Derived.Deep.OwnRows
import Derived.Tactics
import Derived.Lib.ConvBytes
import Derived.Laws.Slices
import Derived.WalkKit
import Derived.KernelRfl
import Derived.RowKit3
import Derived.Deep.LoopGhost
import Derived.Deep.QuietTactic
import Derived.BigQuiet
import Derived.WideLaws
import Derived.Deep.DeepCutAuto
import Derived.Deep.CutBlock
import Derived.Deep.RegionHeld3
import Derived.Laws.Rows
import Derived.Lib.AppendStr
import Derived.ArgAppend
import Derived.Laws.IdiomCopy
import Derived.RowKit
import Derived.OrdersHeld
import Derived.Laws.BitsLemmas
import Derived.Test.YthganpmmhfoodaaProg
import Derived.Shelf.Abstract
import Derived.Laws.StructEq
import Derived.RangeFuncBox
import Derived.RangeFuncLeaves
import Derived.OwnWalkIn
import Derived.TacticsInMore
import Derived.LoopNIn
import Derived.LoopIn
import Derived.Lib.SliceRun
import Derived.Test.YthganpmmhfoodaaRows
import Derived.ProofKit
import Derived.OpenShut
import Derived.ShutString
import Derived.ChangeOld
import Derived.SizedLaws
import Derived.Lib.SmallJoins
section
/- The walk through the law FnExactBettiNumbers. -/
namespace Go.Proofs.Ythganpmmhfoodaa.K
open Go.RowKit Go.Shelf Go.Proofs.Ythganpmmhfoodaa.Q Go.Proofs.Ythganpmmhfoodaa.D Go.Proofs.YthganpmmhfoodaaW.PrintWords Go.Proofs.YthganpmmhfoodaaW.PrintLast Go.Proofs.YthganpmmhfoodaaW.PrintMore
set_option linter.unusedVariables false
set_option linter.unusedSimpArgs false

set_option maxRecDepth 100000 in
set_option maxHeartbeats 4000000 in
theorem LBettiNumbers_calls (n0 : Int) (A0 : Option Addr) (c0 : Nat) (l0 : List Int) (n1 : Int) (w : World) (hr0 : Ki.C w A0 l0.length l0) (hc0 : l0.length ≤ c0) :
    Calls Try.prog 10 #[.agg #[I n0, .slice A0 l0.length c0], I n1] w fun e w' => e = .returned (.bool true) ∧ Grew w w' := by
  have hbig0 := hr0.2.1
  have HR0 := Aside0.mk hr0
  have HC0 := Aside0.mk hc0
  clear hr0 hc0
  have hg0 : Grew w (w.alloc (.cells #[I n0, .slice A0 l0.length c0] 24)) := below_alloc (Grew.refl w) _
  have H0 := Aside0.mk (szC_calls n0 A0 c0 l0 1048576 (by omega) _ (Kd.C_below HR0.out hg0) HC0.out)
  have HM0 := Aside0.mk (Mem.cons (it := .box w.heap.size 24 #[I n0, .slice A0 l0.length c0]) (blk_new w _) (Mem.nil _))
  have HG0 := Aside0.mk hg0
  clear hg0
  by_cases hl0 : 1048576 < (l0.length : Int)
  · rw [if_pos (by omega)] at H0
    go_enter Try.func10, Try.ntmps10
    go_wp2_with fail
    refine H0.out.mono ?_
    rintro e w1 ⟨rfl, hG1⟩
    go_wp2_with fail
    go_ret
    exact ⟨rfl, Grew.trans HG0.out hG1⟩
  · rw [if_neg (by omega)] at H0
    have hcmp : ¬ ((1048576 : Int) - l0.length < 0) := by omega
    obtain ⟨r0, r1, HS, HI, hlen0⟩ : ∃ (r0 : List Int) (r1 : Int), Aside0 (∀ W A0 c0, Ki.C W A0 l0.length l0 → l0.length ≤ c0 → Calls Try.prog 36 #[.agg #[I n0, .slice A0 l0.length c0], I n1] W fun e w' => ∃ v0, e = .returned (.tuple #[v0, I r1]) ∧ Ki.R 2 w' W.heap.size (fun _ => True) v0 r0 ∧ Grew W w') ∧ Aside0 (∀ W A0 c0, Ki.C W A0 l0.length l0 → l0.length ≤ c0 → Calls Try.prog 37 #[.agg #[I n0, .slice A0 l0.length c0], I n1] W fun e w' => ∃ v0, e = .returned (.tuple #[v0, I r1]) ∧ Ki.R 2 w' W.heap.size (fun _ => True) v0 r0 ∧ Grew W w') ∧ r0.length ≤ 1000000 := by
      have hS := fun (W : World) (A0 : Option Addr) (c0 : Nat) => fun (hr0 : Ki.C W A0 l0.length l0) (hc0 : l0.length ≤ c0) => spec_BettiNumbers.calls (isK l0 + 100) n0 A0 c0 l0 n1 _ _ W hr0 hc0 (specBettiNumbers_is n0 l0 n1 (by omega) _ (Nat.le_refl _))
      have hI := fun (W : World) (A0 : Option Addr) (c0 : Nat) => fun (hr0 : Ki.C W A0 l0.length l0) (hc0 : l0.length ≤ c0) => BettiNumbers_calls n0 A0 c0 l0 n1 W ⟨hr0, hc0, by omega⟩
      have hlen0 := betti_len l0 n1 (codeOf n0 l0 (decide (2 ≤ n1 ∧ n1 ≤ 3)))
      exact ⟨(if codeOf n0 l0 (decide (2 ≤ n1 ∧ n1 ≤ 3)) = 0 then bettiL l0 n1 else []), (codeOf n0 l0 (decide (2 ≤ n1 ∧ n1 ≤ 3))), ⟨hS⟩, ⟨hI⟩, Nat.le_trans hlen0 (by decide)⟩
    go_enter Try.func10, Try.ntmps10
    go_wp2_with fail
    refine H0.out.mono ?_
    rintro e w1 ⟨rfl, hG1⟩
    clear H0
    have HM1 := Aside0.mk (HM0.out.grew hG1)
    have HG1 := Aside0.mk (Grew.trans HG0.out hG1)
    have hs0 : w.heap.size + 1 ≤ w1.heap.size := by have := hG1.size; simpa using this
    clear hG1 HM0 HG0
    have p0_0 : w1.cell? ⟨w.heap.size, 0, none⟩ = some (I n0) := blk_cell HM1.out.head 0
    have p0_1 : w1.cell? ⟨w.heap.size, 1, none⟩ = some (.slice A0 l0.length c0) := blk_cell HM1.out.head 1
    go_wp2_with fail
    clear p0_0 p0_1
    refine (toC_calls n0 A0 c0 l0 w1 (Kd.C_below HR0.out HG1.out) HC0.out (by omega)).mono ?_
    rintro e w2 ⟨AS0, cS0, rfl, hR2, hG2⟩
    have HM2 : Aside0 (Mem w2 [.row w1.heap.size w2.heap.size (.slice AS0 l0.length cS0) l0, .box w.heap.size 24 #[I n0, .slice A0 l0.length c0]]) := ⟨Mem.cons (it := .row w1.heap.size w2.heap.size (.slice AS0 l0.length cS0) l0) (hR2) (HM1.out.grew hG2)⟩
    have HG2 := Aside0.mk (Grew.trans HG1.out hG2)
    have hs2 := hG2.size
    clear hG2 
    go_wp2_with fail
    refine (HS.out w2 AS0 cS0 (Row.slice HM2.out.head).2.2 (Row.slice HM2.out.head).2.1).mono ?_
    rintro e w3 ⟨vw0, rfl, hRw0, hG3⟩
    obtain ⟨Aw0, cw0, rfl⟩ := Kd.R_slice hRw0
    have HM3 : Aside0 (Mem w3 [.row w2.heap.size w3.heap.size (.slice Aw0 r0.length cw0) r0, .row w1.heap.size w2.heap.size (.slice AS0 l0.length cS0) l0, .box w.heap.size 24 #[I n0, .slice A0 l0.length c0]]) := ⟨Mem.cons (it := .row w2.heap.size w3.heap.size (.slice Aw0 r0.length cw0) r0) (Row.of_R hRw0) (HM2.out.grew hG3)⟩
    have HG3 := Aside0.mk (Grew.trans HG2.out hG3)
    have hs3 := hG3.size
    clear hG3 
    have p0_0 : w3.cell? ⟨w.heap.size, 0, none⟩ = some (I n0) := blk_cell HM3.out.tail.tail.head 0
    have p0_1 : w3.cell? ⟨w.heap.size, 1, none⟩ = some (.slice A0 l0.length c0) := blk_cell HM3.out.tail.tail.head 1
    go_wp2_with fail
    clear p0_0 p0_1
    refine (toC_calls n0 A0 c0 l0 w3 (Kd.C_below HR0.out HG3.out) HC0.out (by omega)).mono ?_
    rintro e w4 ⟨Ax0, cx0, rfl, hR4, hG4⟩
    have HM4 : Aside0 (Mem w4 [.row w3.heap.size w4.heap.size (.slice Ax0 l0.length cx0) l0, .row w2.heap.size w3.heap.size (.slice Aw0 r0.length cw0) r0, .row w1.heap.size w2.heap.size (.slice AS0 l0.length cS0) l0, .box w.heap.size 24 #[I n0, .slice A0 l0.length c0]]) := ⟨Mem.cons (it := .row w3.heap.size w4.heap.size (.slice Ax0 l0.length cx0) l0) (hR4) (HM3.out.grew hG4)⟩
    have HG4 := Aside0.mk (Grew.trans HG3.out hG4)
    have hs4 := hG4.size
    clear hG4 
    have HM5 : Aside0 (Mem (w4.alloc (.cells #[I n0, .slice Ax0 l0.length cx0] 28)) [.box w4.heap.size 28 #[I n0, .slice Ax0 l0.length cx0], .row w3.heap.size w4.heap.size (.slice Ax0 l0.length cx0) l0, .row w2.heap.size w3.heap.size (.slice Aw0 r0.length cw0) r0, .row w1.heap.size w2.heap.size (.slice AS0 l0.length cS0) l0, .box w.heap.size 24 #[I n0, .slice A0 l0.length c0]]) := ⟨Mem.cons (blk_new w4 _) (HM4.out.grew (below_alloc (Grew.refl w4) _))⟩
    have HG5 : Aside0 (Grew w (w4.alloc (.cells #[I n0, .slice Ax0 l0.length cx0] 28))) := ⟨Grew.trans HG4.out (below_alloc (Grew.refl w4) _)⟩
    have hS5 : (w4.alloc (.cells #[I n0, .slice Ax0 l0.length cx0] 28)).heap.size = w4.heap.size + 1 := by simp
    have bx0_0 : (w4.alloc (.cells #[I n0, .slice Ax0 l0.length cx0] 28)).cell? ⟨w4.heap.size, 0, none⟩ = some (I n0) := blk_cell HM5.out.head 0
    have bx0_1 : (w4.alloc (.cells #[I n0, .slice Ax0 l0.length cx0] 28)).cell? ⟨w4.heap.size, 1, none⟩ = some (.slice Ax0 l0.length cx0) := blk_cell HM5.out.head 1
    go_wp2_with fail
    generalize (w4.alloc (.cells #[I n0, .slice Ax0 l0.length cx0] 28)) = W5 at HM5 HG5 hS5 bx0_0 bx0_1 ⊢
    clear bx0_0 bx0_1
    refine (HI.out W5 Ax0 cx0 (Row.slice HM5.out.tail.head).2.2 (Row.slice HM5.out.tail.head).2.1).mono ?_
    rintro e w6 ⟨vg0, rfl, hRg0, hG6⟩
    obtain ⟨Ag0, cg0, rfl⟩ := Kd.R_slice hRg0
    have HM6 : Aside0 (Mem w6 [.row W5.heap.size w6.heap.size (.slice Ag0 r0.length cg0) r0, .box w4.heap.size 28 #[I n0, .slice Ax0 l0.length cx0], .row w3.heap.size w4.heap.size (.slice Ax0 l0.length cx0) l0, .row w2.heap.size w3.heap.size (.slice Aw0 r0.length cw0) r0, .row w1.heap.size w2.heap.size (.slice AS0 l0.length cS0) l0, .box w.heap.size 24 #[I n0, .slice A0 l0.length c0]]) := ⟨Mem.cons (it := .row W5.heap.size w6.heap.size (.slice Ag0 r0.length cg0) r0) (Row.of_R hRg0) (HM5.out.grew hG6)⟩
    have HG6 := Aside0.mk (Grew.trans HG5.out hG6)
    have hs6 := hG6.size
    clear hG6 
    go_wp2_with fail
    refine (eqI_calls r0 Ag0 Aw0 cg0 cw0 _ _ _ _ _ _ w6 HM6.out.head HM6.out.tail.tail.tail.head).mono ?_
    rintro e w7 ⟨rfl, hG7⟩
    have HM7 := Aside0.mk (HM6.out.grew hG7)
    have HG7 := Aside0.mk (Grew.trans HG6.out hG7)
    have hs7 := hG7.size
    clear hG7
    go_wp2_with fail
    have bx0_0 : w7.cell? ⟨w4.heap.size, 0, none⟩ = some (I n0) := blk_cell HM7.out.tail.head 0
    have bx0_1 : w7.cell? ⟨w4.heap.size, 1, none⟩ = some (.slice Ax0 l0.length cx0) := blk_cell HM7.out.tail.head 1
    have p0_0 : w7.cell? ⟨w.heap.size, 0, none⟩ = some (I n0) := blk_cell HM7.out.tail.tail.tail.tail.tail.head 0
    have p0_1 : w7.cell? ⟨w.heap.size, 1, none⟩ = some (.slice A0 l0.length c0) := blk_cell HM7.out.tail.tail.tail.tail.tail.head 1
    have hlx : w4.heap.size < w7.heap.size := World.block_lt_of_cell? w7 _ bx0_0
    have hlp : w.heap.size < w7.heap.size := World.block_lt_of_cell? w7 _ p0_0
    go_region_held3 (fun w' => w'.cell? ⟨w4.heap.size, 0, none⟩ = some (I n0) ∧ w'.cell? ⟨w4.heap.size, 1, none⟩ = some (.slice Ax0 l0.length cx0) ∧ w'.cell? ⟨w.heap.size, 0, none⟩ = some (I n0) ∧ w'.cell? ⟨w.heap.size, 1, none⟩ = some (.slice A0 l0.length c0))
      (first | exact ⟨(HDb.out.cell (p := ⟨w4.heap.size, 0, none⟩) hlx).trans bx0_0, (HDb.out.cell (p := ⟨w4.heap.size, 1, none⟩) hlx).trans bx0_1, (HDb.out.cell (p := ⟨w.heap.size, 0, none⟩) hlp).trans p0_0, (HDb.out.cell (p := ⟨w.heap.size, 1, none⟩) hlp).trans p0_1⟩ | exact ⟨(HDa.out.cell (p := ⟨w4.heap.size, 0, none⟩) hlx).trans bx0_0, (HDa.out.cell (p := ⟨w4.heap.size, 1, none⟩) hlx).trans bx0_1, (HDa.out.cell (p := ⟨w.heap.size, 0, none⟩) hlp).trans p0_0, (HDa.out.cell (p := ⟨w.heap.size, 1, none⟩) hlp).trans p0_1⟩ | go_keep)
      (first
        | (go_at_call 16; refine (toC_calls n0 A0 c0 l0 _ (Kd.C_below HR0.out (Below.trans HG7.out ((Below.refl _ w7).drew))) HC0.out (by omega)).mono ?_; rintro e w8 ⟨Aq0, cq0, rfl, hRa, hGa⟩; have HDa : Aside0 (Grew w7 w8) := ⟨Below.trans ((Below.refl _ w7).drew) hGa⟩; have HRa := Aside0.mk hRa; clear hRa hGa)
        | (go_at_call 19; refine (eqC_calls n0 l0 Ax0 Aq0 cx0 cq0 _ _ _ _ _ _ w8 (HM7.out.grew HDa.out).tail.tail.head HRa.out).mono ?_; rintro e w9 ⟨rfl, hGb⟩; have HDb : Aside0 (Grew w7 w9) := ⟨Grew.trans HDa.out hGb⟩; clear hGb))
    clear bx0_0 bx0_1 p0_0 p0_1
    have hG9 := HDb.out
    clear hlx hlp HDa HDb HRa
    have HM9 := Aside0.mk (HM7.out.grew hG9)
    have HG9 := Aside0.mk (Grew.trans HG7.out hG9)
    have hs9 := hG9.size
    clear hG9
    have bx0_0 : w9.cell? ⟨w4.heap.size, 0, none⟩ = some (I n0) := blk_cell HM9.out.tail.head 0
    have bx0_1 : w9.cell? ⟨w4.heap.size, 1, none⟩ = some (.slice Ax0 l0.length cx0) := blk_cell HM9.out.tail.head 1
    go_wp2_with fail
    clear bx0_0 bx0_1
    refine (markC_calls n0 Ax0 l0.length cx0 l0 1 (by omega) (by omega) _ _ w w9 HG9.out (by omega) HM9.out.tail.tail.head).mono ?_
    rintro e w10 ⟨rfl, hX10, hB10, hK10⟩
    have HM10 : Aside0 (Mem w10 [.row W5.heap.size w6.heap.size (.slice Ag0 r0.length cg0) r0, .box w4.heap.size 28 #[I n0, .slice Ax0 l0.length cx0], .row w2.heap.size w3.heap.size (.slice Aw0 r0.length cw0) r0, .row w1.heap.size w2.heap.size (.slice AS0 l0.length cS0) l0, .box w.heap.size 24 #[I n0, .slice A0 l0.length c0]]) := ⟨Mem.kept (Mem.cons (it := .row W5.heap.size w6.heap.size (.slice Ag0 r0.length cg0) r0) HM9.out.head (Mem.cons (it := .box w4.heap.size 28 #[I n0, .slice Ax0 l0.length cx0]) HM9.out.tail.head (Mem.cons (it := .row w2.heap.size w3.heap.size (.slice Aw0 r0.length cw0) r0) HM9.out.tail.tail.tail.head (Mem.cons (it := .row w1.heap.size w2.heap.size (.slice AS0 l0.length cS0) l0) HM9.out.tail.tail.tail.tail.head (Mem.cons (it := .box w.heap.size 24 #[I n0, .slice A0 l0.length c0]) HM9.out.tail.tail.tail.tail.tail.head (Mem.nil _)))))) hK10 (by intro it hit k hk; simp only [List.mem_cons, List.not_mem_nil, or_false] at hit; rcases hit with rfl | rfl | rfl | rfl | rfl <;> (simp only [Item.at_] at hk; omega))⟩
    have HG10 := Aside0.mk hB10
    have hs10 := hK10.1
    clear hX10 hB10 hK10
    have hneg : ¬ ((1 + (l0.length : Int)) < 0) := by omega
    go_wp2_with fail
    refine (eqI_calls r0 Ag0 Aw0 cg0 cw0 _ _ _ _ _ _ w10 HM10.out.head HM10.out.tail.tail.head).mono ?_
    rintro e w11 ⟨rfl, hG11⟩
    have HM11 := Aside0.mk (HM10.out.grew hG11)
    have HG11 := Aside0.mk (Grew.trans HG10.out hG11)
    have hs11 := hG11.size
    clear hG11
    clear hneg
    go_wp2_with fail
    refine (markI_calls Ag0 r0.length cg0 r0 1 (by omega) (by omega) _ _ w w11 HG11.out (by omega) HM11.out.head).mono ?_
    rintro e w12 ⟨rfl, hX12, hB12, hK12⟩
    have HM12 : Aside0 (Mem w12 [.row W5.heap.size w6.heap.size (.slice Ag0 r0.length cg0) (marks 1 r0.length), .box w4.heap.size 28 #[I n0, .slice Ax0 l0.length cx0], .row w2.heap.size w3.heap.size (.slice Aw0 r0.length cw0) r0, .row w1.heap.size w2.heap.size (.slice AS0 l0.length cS0) l0, .box w.heap.size 24 #[I n0, .slice A0 l0.length c0]]) := ⟨Mem.cons (it := .row W5.heap.size w6.heap.size (.slice Ag0 r0.length cg0) (marks 1 r0.length)) hX12 (Mem.kept (Mem.cons (it := .box w4.heap.size 28 #[I n0, .slice Ax0 l0.length cx0]) HM11.out.tail.head (Mem.cons (it := .row w2.heap.size w3.heap.size (.slice Aw0 r0.length cw0) r0) HM11.out.tail.tail.head (Mem.cons (it := .row w1.heap.size w2.heap.size (.slice AS0 l0.length cS0) l0) HM11.out.tail.tail.tail.head (Mem.cons (it := .box w.heap.size 24 #[I n0, .slice A0 l0.length c0]) HM11.out.tail.tail.tail.tail.head (Mem.nil _))))) hK12 (by intro it hit k hk; simp only [List.mem_cons, List.not_mem_nil, or_false] at hit; rcases hit with rfl | rfl | rfl | rfl <;> (simp only [Item.at_] at hk; omega)))⟩
    have HG12 := Aside0.mk hB12
    have hs12 := hK12.1
    clear hX12 hB12 hK12
    have hneg0 : ¬ (1 + (r0.length : Int) < 0) := by omega
    go_wp2_with fail
    refine (heldI_calls Ag0 r0.length r0.length cg0 _ _ 1 (by omega) (by omega) w12 HM12.out.head).mono ?_
    rintro e w13 ⟨rfl, hG13⟩
    have HM13 := Aside0.mk (HM12.out.grew hG13)
    have HG13 := Aside0.mk (Grew.trans HG12.out hG13)
    have hs13 := hG13.size
    clear hG13
    have p0_0 : w13.cell? ⟨w.heap.size, 0, none⟩ = some (I n0) := blk_cell HM13.out.tail.tail.tail.tail.head 0
    have p0_1 : w13.cell? ⟨w.heap.size, 1, none⟩ = some (.slice A0 l0.length c0) := blk_cell HM13.out.tail.tail.tail.tail.head 1
    go_wp2_with fail
    clear p0_0 p0_1
    refine (toC_calls n0 A0 c0 l0 w13 (Kd.C_below HR0.out HG13.out) HC0.out (by omega)).mono ?_
    rintro e w14 ⟨Az0, cz0, rfl, hR14, hG14⟩
    have HM14 : Aside0 (Mem w14 [.row w13.heap.size w14.heap.size (.slice Az0 l0.length cz0) l0, .row W5.heap.size w6.heap.size (.slice Ag0 r0.length cg0) (marks 1 r0.length), .box w4.heap.size 28 #[I n0, .slice Ax0 l0.length cx0], .row w2.heap.size w3.heap.size (.slice Aw0 r0.length cw0) r0, .row w1.heap.size w2.heap.size (.slice AS0 l0.length cS0) l0, .box w.heap.size 24 #[I n0, .slice A0 l0.length c0]]) := ⟨Mem.cons (it := .row w13.heap.size w14.heap.size (.slice Az0 l0.length cz0) l0) (hR14) (HM13.out.grew hG14)⟩
    have HG14 := Aside0.mk (Grew.trans HG13.out hG14)
    have hs14 := hG14.size
    clear hG14 
    go_wp2_with fail
    refine (HI.out w14 Az0 cz0 (Row.slice HM14.out.head).2.2 (Row.slice HM14.out.head).2.1).mono ?_
    rintro e w15 ⟨vh0, rfl, hRh0, hG15⟩
    obtain ⟨Ah0, ch0, rfl⟩ := Kd.R_slice hRh0
    have HM15 : Aside0 (Mem w15 [.row w14.heap.size w15.heap.size (.slice Ah0 r0.length ch0) r0, .row w13.heap.size w14.heap.size (.slice Az0 l0.length cz0) l0, .row W5.heap.size w6.heap.size (.slice Ag0 r0.length cg0) (marks 1 r0.length), .box w4.heap.size 28 #[I n0, .slice Ax0 l0.length cx0], .row w2.heap.size w3.heap.size (.slice Aw0 r0.length cw0) r0, .row w1.heap.size w2.heap.size (.slice AS0 l0.length cS0) l0, .box w.heap.size 24 #[I n0, .slice A0 l0.length c0]]) := ⟨Mem.cons (it := .row w14.heap.size w15.heap.size (.slice Ah0 r0.length ch0) r0) (Row.of_R hRh0) (HM14.out.grew hG15)⟩
    have HG15 := Aside0.mk (Grew.trans HG14.out hG15)
    have hs15 := hG15.size
    clear hG15 
    go_wp2_with fail
    refine (eqI_calls r0 Ah0 Aw0 ch0 cw0 _ _ _ _ _ _ w15 HM15.out.head HM15.out.tail.tail.tail.tail.head).mono ?_
    rintro e w16 ⟨rfl, hG16⟩
    have HM16 := Aside0.mk (HM15.out.grew hG16)
    have HG16 := Aside0.mk (Grew.trans HG15.out hG16)
    have hs16 := hG16.size
    clear hG16
    clear hneg0
    have hneg0 : ¬ (1 + (r0.length : Int) < 0) := by omega
    go_wp2_with fail
    refine (heldI_calls Ag0 r0.length r0.length cg0 _ _ 1 (by omega) (by omega) w16 HM16.out.tail.tail.head).mono ?_
    rintro e w17 ⟨rfl, hG17⟩
    have HM17 := Aside0.mk (HM16.out.grew hG17)
    have HG17 := Aside0.mk (Grew.trans HG16.out hG17)
    have hs17 := hG17.size
    clear hG17
    go_wp2_with fail
    go_ret
    exact ⟨rfl, HG17.out⟩

end Go.Proofs.Ythganpmmhfoodaa.K
end

section

namespace Go.Proofs.Ythganpmmhfoodaa.fnExactBettiNumbers
open Go.ChangeShapes Go.WideShapes Go.ChangeAt Go.RowKit Go.Joins Go.Proofs.Ythganpmmhfoodaa.K Go.Proofs.YthganpmmhfoodaaW.PrintWords
open Go.ChangeMaps (open_string shut_string)
set_option linter.unusedVariables false
set_option maxRecDepth 100000 in
theorem lifted (os : Os) (started : os.Started) (H : Type) (enc : TypeId × Value → H) :
    ReturnsInHanded {} Try.checked os 10 .any (Rows.fnExactBettiNumbersSpec.pre6 enc Try.prog Try.f10 Rows.fnExactBettiNumbersRow.domain false) (Rows.fnExactBettiNumbersSpec.post enc Try.prog Try.f10 false true false false) := by
  refine returnsInHanded_of_change_sized (C := Try.checked) ownKnob_none started (by kernel_rfl) Try.func10
    (ChangeSpec.witness6 (enc := enc) (C := Try.checked) false ⟨#[], #[.agg #[.int .i64 0, .slice none 0 0], .int .i64 0], []⟩ 8 (by kernel_rfl) (by kernel_rfl) (by kernel_rfl) (by kernel_rfl)) ?_
  intro W base args ds gs before hval0 hW hcnd hsz0 _
  have hsz : (DataW.weightsEach Try.prog (Try.f10.params.toList ++ Rows.fnExactBettiNumbersSpec.plain.varTypes Try.prog) (ds ++ gs)).all (· ≤ reachBytes) = true := hsz0
  have hval : ∀ (j : Nat) t v, Try.f10.params[j]? = some t → args[j]? = some v → Value.okWide Try.prog W .any base t v := hval0
  have hW' := hW
  obtain ⟨p, q, hA0, hV, rfl, hfz, hnd⟩ := hW
  have hA : DataW.TrodAll enc Try.prog W 0 (fun _ => true) true Try.f10.params.toList args.toList ds p := hA0
  rw [Try.params10] at hA hval hsz
  obtain ⟨v0, vs0, d0, ds0, p0, q0, hargs, rfl, rfl, h0, r0⟩ := trodAll_cons hA
  obtain ⟨v1, vs1, d1, ds1, p1, q1, rfl, rfl, rfl, h1, r1⟩ := trodAll_cons r0
  obtain ⟨rfl, rfl, rfl⟩ := trodAll_nil r1
  obtain rfl : args = #[v0, v1] := by cases args; simp_all
  obtain ⟨rfl, rfl⟩ := trodVars_none hV
  have k0 := h0
  have lt0 : ∀ x ∈ p0, x.block < W.heap.size := by obtain ⟨m, hm⟩ := k0; exact DataW.trod_lt m _ _ _ hm
  obtain ⟨x0, z0, y0_0, y1_0, m0, hv0, hd0, hp0, hy0_0, hy1_0⟩ := open_agg2 Try.underlying24 (by kernel_rfl) (show Try.prog.cellsOf 24 = 2 by kernel_rfl) (hval 0 24 v0 rfl rfl) h0
  obtain ⟨n0, e0_0, _, w0⟩ := DataW.trod_int Try.underlying2 hy0_0
  obtain ⟨A0, c0, l0, e1_0, hc0, hr0, _⟩ := ints_open hy1_0
  simp only [List.cons.injEq, and_true] at e0_0
  subst e0_0 e1_0
  subst hv0
  obtain ⟨n1, rfl, rfl, rfl, w1⟩ := open_int Try.underlying2 (hval 1 2 v1 rfl rfl) h1
  clear hA0 hval0 hsz0 hsz
  refine (K.LBettiNumbers_calls n0 A0 c0 l0 n1 W hr0 hc0).mono fun e W' ⟨he, bel0⟩ => ?_
  have bel : Below W.heap.size W W' := bel0
  subst he
  exact ⟨_, rfl, _, _, _, [], _, [], hW', trodAll_mk1 (shut_bool Try.underlying4 _), (trodAll_cons_mk (Below.trod laidOut (by kernel_rfl) (of_decide_eq_true (by kernel_rfl)) k0 bel lt0) (trodAll_cons_mk (shut_int Try.underlying2 w1) trodAll_mk0)), rfl, bel.frame _, fun h => by cases h⟩
theorem over : Rows.fnExactBettiNumbersRow.holds Try.pinned (OpenSpec.ofChange Rows.fnExactBettiNumbersSpec) :=
  OpenClaim.holds_of_wide 10 Try.f10 rfl rfl rfl rfl rfl rfl rfl ⟨rfl, rfl, rfl, rfl, rfl⟩ rfl rfl rfl rfl rfl (by kernel_rfl) Try.func10 (by kernel_rfl)
    (of_decide_eq_true (by kernel_rfl)) (by unfold Func.isWrapper; first | (rw [if_pos (by decide +kernel)]; kernel_rfl) | (rw [if_neg (by decide +kernel)]; exact ⟨rfl, rfl⟩))
    (fun os started H enc _ => lifted os started H enc)
theorem proved : Rows.FnExactBettiNumbersSaid := over
#print axioms proved
end Go.Proofs.Ythganpmmhfoodaa.fnExactBettiNumbers
namespace Go.Proofs.Ythganpmmhfoodaa
theorem fnExactBettiNumbers_holds : Rows.FnExactBettiNumbersSaid := fnExactBettiNumbers.proved
end Go.Proofs.Ythganpmmhfoodaa
end
