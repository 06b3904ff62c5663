/- The row of the law FnExactIsFlat: for every input the law answers true, and the arguments read as before. No conditions. -/
import Derived.Test.YtniikppojffiaaaJFla5
import Derived.Below
import Derived.Deep.Draws
import Derived.Deep.AppendLies
import Derived.Maps.AppendAt
import Derived.OwnWalk
import Derived.Laws.BytesArg
import Derived.Laws.MakeOwn
import Derived.Laws.OwnMore
import Derived.Deep.OwnRows
import Derived.Tactics
import Derived.Lib.ConvBytes
import Derived.Laws.Slices
import Derived.WalkKit
import Derived.KernelRfl
import Derived.RowKit3
import Derived.Deep.LoopGhost
import Derived.Deep.QuietTactic
import Derived.BigQuiet
import Derived.WideLaws
import Derived.Deep.DeepCutAuto
import Derived.Deep.CutBlock
import Derived.Deep.RegionHeld3
import Derived.Laws.Rows
import Derived.Lib.AppendStr
import Derived.ArgAppend
import Derived.Laws.IdiomCopy
import Derived.RowKit
import Derived.OrdersHeld
import Derived.Laws.BitsLemmas
import Derived.Test.YtniikppojffiaaaProg
import Derived.Shelf.Abstract
import Derived.Laws.StructEq
import Derived.RangeFuncBox
import Derived.RangeFuncLeaves
import Derived.OwnWalkIn
import Derived.TacticsInMore
import Derived.LoopNIn
import Derived.LoopIn
import Derived.LoopN
import Derived.Lib.SliceRun
import Derived.ChangeKeysEq
import Derived.Maps.OwnSet
import Derived.JoinedOf
import Derived.Test.YtniikppojffiaaaRows
import Derived.ProofKit
import Derived.OpenShut
import Derived.ShutString
import Derived.ChangeOld
import Derived.SizedLaws
import Derived.Lib.SmallJoins
section
/- The walk through the law FnExactIsFlat. -/
namespace Go.Proofs.Ytniikppojffiaaa.K
open Go.RowKit Go.Shelf Go.Proofs.Ytniikppojffiaaa.Q Go.Proofs.YtniikppojffiaaaW.PrintWords Go.Proofs.YtniikppojffiaaaW.PrintLast Go.Proofs.YtniikppojffiaaaW.PrintMore
set_option linter.unusedVariables false
set_option linter.unusedSimpArgs false

set_option maxRecDepth 100000 in
set_option maxHeartbeats 8000000 in
theorem LIsFlat_i0 (n0 : Int) (A0 : Option Addr) (c0 : Nat) (l0 : List Int) (A1 : Option Addr) (c1 : Nat) (l1 : List Int) (w : World) (hr0 : Ki.C w A0 l0.length l0) (hc0 : l0.length ≤ c0) (hr1 : Ki.C w A1 l1.length l1) (hc1 : l1.length ≤ c1)  (hz : (1048576 : Int) < (l1.length : Int)) :
  Calls Try.prog 15 #[.agg #[I n0, .slice A0 l0.length c0], .slice A1 l1.length c1] w fun e w' => e = .returned (.bool true) ∧ Grew w w' := by
 have hbig0 := hr0.2.1
 have HR0 := Aside0.mk hr0
 have HC0 := Aside0.mk hc0
 clear hr0 hc0
 have hbig1 := hr1.2.1
 have HR1 := Aside0.mk hr1
 have HC1 := Aside0.mk hc1
 clear hr1 hc1
 obtain ⟨W0, hW0⟩ : ∃ W0, W0 = (w.alloc (.cells #[I n0, .slice A0 l0.length c0] 24)) := ⟨_, rfl⟩
 have hb_p0 : (Item.box w.heap.size 24 #[I n0, .slice A0 l0.length c0]).ok W0 := by
  rw [hW0]
  have := blk_new w (.cells #[I n0, .slice A0 l0.length c0] 24)
  exact this
 have HM0 : Aside0 (Mem W0 [.box w.heap.size 24 #[I n0, .slice A0 l0.length c0]]) := ⟨Mem.cons (it := .box w.heap.size 24 #[I n0, .slice A0 l0.length c0]) hb_p0 (Mem.nil _)⟩
 have HG0 : Aside0 (Grew w W0) := ⟨by rw [hW0]; exact below_alloc (Grew.refl w) _⟩
 have hs0 : W0.heap.size = w.heap.size + 1 := by rw [hW0]; simp
 clear hb_p0
 subst hW0
 go_enter Try.func15, Try.ntmps15
 go_wp2_with fail
 go_ret
 exact ⟨rfl, HG0.out⟩

set_option maxRecDepth 100000 in
set_option maxHeartbeats 8000000 in
theorem LIsFlat_b0 (n0 : Int) (A0 : Option Addr) (c0 : Nat) (l0 : List Int) (A1 : Option Addr) (c1 : Nat) (l1 : List Int) (w : World) (hr0 : Ki.C w A0 l0.length l0) (hc0 : l0.length ≤ c0) (hr1 : Ki.C w A1 l1.length l1) (hc1 : l1.length ≤ c1) (hn1 : ¬ (1048576 : Int) < (l1.length : Int))  (hz : (1048576 : Int) < (l0.length : Int)) :
  Calls Try.prog 15 #[.agg #[I n0, .slice A0 l0.length c0], .slice A1 l1.length c1] w fun e w' => e = .returned (.bool true) ∧ Grew w w' := by
 have hbig0 := hr0.2.1
 have HR0 := Aside0.mk hr0
 have HC0 := Aside0.mk hc0
 clear hr0 hc0
 have hbig1 := hr1.2.1
 have HR1 := Aside0.mk hr1
 have HC1 := Aside0.mk hc1
 clear hr1 hc1
 obtain ⟨W0, hW0⟩ : ∃ W0, W0 = (w.alloc (.cells #[I n0, .slice A0 l0.length c0] 24)) := ⟨_, rfl⟩
 have hb_p0 : (Item.box w.heap.size 24 #[I n0, .slice A0 l0.length c0]).ok W0 := by
  rw [hW0]
  have := blk_new w (.cells #[I n0, .slice A0 l0.length c0] 24)
  exact this
 have HM0 : Aside0 (Mem W0 [.box w.heap.size 24 #[I n0, .slice A0 l0.length c0]]) := ⟨Mem.cons (it := .box w.heap.size 24 #[I n0, .slice A0 l0.length c0]) hb_p0 (Mem.nil _)⟩
 have HG0 : Aside0 (Grew w W0) := ⟨by rw [hW0]; exact below_alloc (Grew.refl w) _⟩
 have hs0 : W0.heap.size = w.heap.size + 1 := by rw [hW0]; simp
 clear hb_p0
 have H0 := Aside0.mk (szC_calls n0 A0 c0 l0 (1048576 : Int) (by omega) W0 (Kd.C_below HR0.out HG0.out) HC0.out)
 rw [if_pos (by omega)] at H0
 have p0_0 : W0.cell? ⟨w.heap.size, 0, none⟩ = some (I n0) := blk_cell HM0.out.head 0
 have p0_1 : W0.cell? ⟨w.heap.size, 1, none⟩ = some (.slice A0 l0.length c0) := blk_cell HM0.out.head 1
 subst hW0
 go_enter Try.func15, Try.ntmps15
 go_wp2_with fail
 refine H0.out.mono ?_
 rintro e w1 ⟨rfl, hG1⟩
 clear p0_0 p0_1
 have HM1 := Aside0.mk (HM0.out.grew hG1)
 have HG1 := Aside0.mk (Grew.trans HG0.out hG1)
 have hs1 := hG1.size
 try simp at hs1
 clear hG1 H0
 go_wp2_with fail
 go_ret
 exact ⟨rfl, HG1.out⟩

set_option maxRecDepth 100000 in
set_option maxHeartbeats 8000000 in
theorem LIsFlat_main (n0 : Int) (A0 : Option Addr) (c0 : Nat) (l0 : List Int) (A1 : Option Addr) (c1 : Nat) (l1 : List Int) (w : World) (hr0 : Ki.C w A0 l0.length l0) (hc0 : l0.length ≤ c0) (hr1 : Ki.C w A1 l1.length l1) (hc1 : l1.length ≤ c1) (hn1 : ¬ (1048576 : Int) < (l1.length : Int)) (hl0 : ¬ (1048576 : Int) < (l0.length : Int)) :
  Calls Try.prog 15 #[.agg #[I n0, .slice A0 l0.length c0], .slice A1 l1.length c1] w fun e w' => e = .returned (.bool true) ∧ Grew w w' := by
  obtain ⟨r0, r1, HS, HI⟩ : ∃ (r0 : Bool) (r1 : Int), Aside0 (∀ W A0 c0 A1 c1, Ki.C W A0 l0.length l0 → l0.length ≤ c0 → Ki.C W A1 l1.length l1 → l1.length ≤ c1 → Calls Try.prog 55 #[.agg #[I n0, .slice A0 l0.length c0], .slice A1 l1.length c1] W fun e w' => e = .returned (.tuple #[.bool r0, I r1]) ∧ Grew W w') ∧ Aside0 (∀ W A0 c0 A1 c1, Ki.C W A0 l0.length l0 → l0.length ≤ c0 → Ki.C W A1 l1.length l1 → l1.length ≤ c1 → Calls Try.prog 56 #[.agg #[I n0, .slice A0 l0.length c0], .slice A1 l1.length c1] W fun e w' => e = .returned (.tuple #[.bool r0, I r1]) ∧ Grew W w') := by
   have hbig0 := hr0.2.1
   have hbig1 := hr1.2.1
   have hS := fun (W : World) (A0 : Option Addr) (c0 : Nat) (A1 : Option Addr) (c1 : Nat) (hr0 : Ki.C W A0 l0.length l0) (hc0 : l0.length ≤ c0) (hr1 : Ki.C W A1 l1.length l1) (hc1 : l1.length ≤ c1) => spec_IsFlat.calls (fK l0) n0 A0 c0 l0 A1 c1 l1 _ _ W hr0 hc0 hr1 hc1 (specIsFlat_is n0 l0 l1 (by omega) (by omega) _ (Nat.le_refl _))
   have hI := fun (W : World) (A0 : Option Addr) (c0 : Nat) (A1 : Option Addr) (c1 : Nat) (hr0 : Ki.C W A0 l0.length l0) (hc0 : l0.length ≤ c0) (hr1 : Ki.C W A1 l1.length l1) (hc1 : l1.length ≤ c1) => Flat_calls n0 A0 c0 l0 A1 c1 l1 W ⟨hr0, hc0, by omega⟩ hr1 hc1 (by omega)
   exact ⟨(flatA n0 l0 l1), (mcode n0 l0 (funB l0 l1) (morseB l0 l1)), ⟨hS⟩, ⟨hI⟩⟩
  have hbig0 := hr0.2.1
  have HR0 := Aside0.mk hr0
  have HC0 := Aside0.mk hc0
  clear hr0 hc0
  have hbig1 := hr1.2.1
  have HR1 := Aside0.mk hr1
  have HC1 := Aside0.mk hc1
  clear hr1 hc1
  obtain ⟨W0, hW0⟩ : ∃ W0, W0 = (w.alloc (.cells #[I n0, .slice A0 l0.length c0] 24)) := ⟨_, rfl⟩
  have hb_p0 : (Item.box w.heap.size 24 #[I n0, .slice A0 l0.length c0]).ok W0 := by
   rw [hW0]
   have := blk_new w (.cells #[I n0, .slice A0 l0.length c0] 24)
   exact this
  have HM0 : Aside0 (Mem W0 [.box w.heap.size 24 #[I n0, .slice A0 l0.length c0]]) := ⟨Mem.cons (it := .box w.heap.size 24 #[I n0, .slice A0 l0.length c0]) hb_p0 (Mem.nil _)⟩
  have HG0 : Aside0 (Grew w W0) := ⟨by rw [hW0]; exact below_alloc (Grew.refl w) _⟩
  have hs0 : W0.heap.size = w.heap.size + 1 := by rw [hW0]; simp
  clear hb_p0
  have H0 := Aside0.mk (szC_calls n0 A0 c0 l0 (1048576 : Int) (by omega) W0 (Kd.C_below HR0.out HG0.out) HC0.out)
  rw [if_neg (by omega)] at H0
  have p0_0 : W0.cell? ⟨w.heap.size, 0, none⟩ = some (I n0) := blk_cell HM0.out.head 0
  have p0_1 : W0.cell? ⟨w.heap.size, 1, none⟩ = some (.slice A0 l0.length c0) := blk_cell HM0.out.head 1
  subst hW0
  go_enter Try.func15, Try.ntmps15
  have hneg0 : ¬ (((1048576 : Int) - (l0.length : Int)) < 0) := by omega
  go_wp2_with fail
  refine H0.out.mono ?_
  rintro e w1 ⟨rfl, hG1⟩
  clear p0_0 p0_1
  have HM1 := Aside0.mk (HM0.out.grew hG1)
  have HG1 := Aside0.mk (Grew.trans HG0.out hG1)
  have hs1 := hG1.size
  try simp at hs1
  clear hG1 H0
  have p0_0 : w1.cell? ⟨w.heap.size, 0, none⟩ = some (I n0) := blk_cell HM1.out.head 0
  have p0_1 : w1.cell? ⟨w.heap.size, 1, none⟩ = some (.slice A0 l0.length c0) := blk_cell HM1.out.head 1
  go_wp2_with fail
  clear p0_0 p0_1
  refine (toC_calls n0 A0 c0 l0 w1 (Kd.C_below HR0.out HG1.out) HC0.out (by omega)).mono ?_
  rintro e w2 ⟨AS0, cS0, rfl, hR2, hG2⟩
  have HM2 : Aside0 (Mem w2 [.row w1.heap.size w2.heap.size (.slice AS0 l0.length cS0) l0, .box w.heap.size 24 #[I n0, .slice A0 l0.length c0]]) := ⟨Mem.cons (it := .row w1.heap.size w2.heap.size (.slice AS0 l0.length cS0) l0) (hR2) (HM1.out.grew hG2)⟩
  have HG2 := Aside0.mk (Grew.trans HG1.out hG2)
  have hs2 := hG2.size
  clear hG2 
  go_wp2_with fail
  refine (toI_calls A1 c1 l1 w2 (Kd.C_below HR1.out HG2.out) HC1.out (by omega)).mono ?_
  rintro e w3 ⟨AS1, cS1, rfl, hR3, hG3⟩
  have HM3 : Aside0 (Mem w3 [.row w2.heap.size w3.heap.size (.slice AS1 l1.length cS1) l1, .row w1.heap.size w2.heap.size (.slice AS0 l0.length cS0) l0, .box w.heap.size 24 #[I n0, .slice A0 l0.length c0]]) := ⟨Mem.cons (it := .row w2.heap.size w3.heap.size (.slice AS1 l1.length cS1) l1) (hR3) (HM2.out.grew hG3)⟩
  have HG3 := Aside0.mk (Grew.trans HG2.out hG3)
  have hs3 := hG3.size
  clear hG3 
  go_wp2_with fail
  refine (HS.out w3 AS0 cS0 AS1 cS1 (Row.slice HM3.out.tail.head).2.2 (Row.slice HM3.out.tail.head).2.1 (Row.slice HM3.out.head).2.2 (Row.slice HM3.out.head).2.1).mono ?_
  rintro e w4 ⟨rfl, hG4⟩
  have HM4 := Aside0.mk (HM3.out.grew hG4)
  have HG4 := Aside0.mk (Grew.trans HG3.out hG4)
  have hs4 := hG4.size
  clear hG4
  have p0_0 : w4.cell? ⟨w.heap.size, 0, none⟩ = some (I n0) := blk_cell HM4.out.tail.tail.head 0
  have p0_1 : w4.cell? ⟨w.heap.size, 1, none⟩ = some (.slice A0 l0.length c0) := blk_cell HM4.out.tail.tail.head 1
  go_wp2_with fail
  clear p0_0 p0_1
  refine (toC_calls n0 A0 c0 l0 w4 (Kd.C_below HR0.out HG4.out) HC0.out (by omega)).mono ?_
  rintro e w5 ⟨Ax0, cx0, rfl, hR5, hG5⟩
  have HM5 : Aside0 (Mem w5 [.row w4.heap.size w5.heap.size (.slice Ax0 l0.length cx0) l0, .row w2.heap.size w3.heap.size (.slice AS1 l1.length cS1) l1, .row w1.heap.size w2.heap.size (.slice AS0 l0.length cS0) l0, .box w.heap.size 24 #[I n0, .slice A0 l0.length c0]]) := ⟨Mem.cons (it := .row w4.heap.size w5.heap.size (.slice Ax0 l0.length cx0) l0) (hR5) (HM4.out.grew hG5)⟩
  have HG5 := Aside0.mk (Grew.trans HG4.out hG5)
  have hs5 := hG5.size
  clear hG5 
  have HM6 : Aside0 (Mem (w5.alloc (.cells #[I n0, .slice Ax0 l0.length cx0] 30)) [.box w5.heap.size 30 #[I n0, .slice Ax0 l0.length cx0], .row w4.heap.size w5.heap.size (.slice Ax0 l0.length cx0) l0, .row w2.heap.size w3.heap.size (.slice AS1 l1.length cS1) l1, .row w1.heap.size w2.heap.size (.slice AS0 l0.length cS0) l0, .box w.heap.size 24 #[I n0, .slice A0 l0.length c0]]) := ⟨Mem.cons (blk_new w5 _) (HM5.out.grew (below_alloc (Grew.refl w5) _))⟩
  have HG6 : Aside0 (Grew w (w5.alloc (.cells #[I n0, .slice Ax0 l0.length cx0] 30))) := ⟨Grew.trans HG5.out (below_alloc (Grew.refl w5) _)⟩
  have hS6 : (w5.alloc (.cells #[I n0, .slice Ax0 l0.length cx0] 30)).heap.size = w5.heap.size + 1 := by simp
  go_wp2_with fail
  generalize (w5.alloc (.cells #[I n0, .slice Ax0 l0.length cx0] 30)) = W6 at HM6 HG6 hS6  ⊢
  refine (toI_calls A1 c1 l1 W6 (Kd.C_below HR1.out HG6.out) HC1.out (by omega)).mono ?_
  rintro e w7 ⟨Ax1, cx1, rfl, hR7, hG7⟩
  have HM7 : Aside0 (Mem w7 [.row W6.heap.size w7.heap.size (.slice Ax1 l1.length cx1) l1, .box w5.heap.size 30 #[I n0, .slice Ax0 l0.length cx0], .row w4.heap.size w5.heap.size (.slice Ax0 l0.length cx0) l0, .row w2.heap.size w3.heap.size (.slice AS1 l1.length cS1) l1, .row w1.heap.size w2.heap.size (.slice AS0 l0.length cS0) l0, .box w.heap.size 24 #[I n0, .slice A0 l0.length c0]]) := ⟨Mem.cons (it := .row W6.heap.size w7.heap.size (.slice Ax1 l1.length cx1) l1) (hR7) (HM6.out.grew hG7)⟩
  have HG7 := Aside0.mk (Grew.trans HG6.out hG7)
  have hs7 := hG7.size
  clear hG7 
  have bx0_0 : w7.cell? ⟨w5.heap.size, 0, none⟩ = some (I n0) := blk_cell HM7.out.tail.head 0
  have bx0_1 : w7.cell? ⟨w5.heap.size, 1, none⟩ = some (.slice Ax0 l0.length cx0) := blk_cell HM7.out.tail.head 1
  go_wp2_with fail
  clear bx0_0 bx0_1
  refine (HI.out w7 Ax0 cx0 Ax1 cx1 (Row.slice HM7.out.tail.tail.head).2.2 (Row.slice HM7.out.tail.tail.head).2.1 (Row.slice HM7.out.head).2.2 (Row.slice HM7.out.head).2.1).mono ?_
  rintro e w8 ⟨rfl, hG8⟩
  have HM8 := Aside0.mk (HM7.out.grew hG8)
  have HG8 := Aside0.mk (Grew.trans HG7.out hG8)
  have hs8 := hG8.size
  clear hG8
  go_wp2_with fail
  have bx0_0 : w8.cell? ⟨w5.heap.size, 0, none⟩ = some (I n0) := blk_cell HM8.out.tail.head 0
  have bx0_1 : w8.cell? ⟨w5.heap.size, 1, none⟩ = some (.slice Ax0 l0.length cx0) := blk_cell HM8.out.tail.head 1
  have p0_0 : w8.cell? ⟨w.heap.size, 0, none⟩ = some (I n0) := blk_cell HM8.out.tail.tail.tail.tail.tail.head 0
  have p0_1 : w8.cell? ⟨w.heap.size, 1, none⟩ = some (.slice A0 l0.length c0) := blk_cell HM8.out.tail.tail.tail.tail.tail.head 1
  have hlx : w5.heap.size < w8.heap.size := World.block_lt_of_cell? w8 _ bx0_0
  have hlp : w.heap.size < w8.heap.size := World.block_lt_of_cell? w8 _ p0_0
  go_region_held3 (fun w' => w'.cell? ⟨w5.heap.size, 0, none⟩ = some (I n0) ∧ w'.cell? ⟨w5.heap.size, 1, none⟩ = some (.slice Ax0 l0.length cx0) ∧ w'.cell? ⟨w.heap.size, 0, none⟩ = some (I n0) ∧ w'.cell? ⟨w.heap.size, 1, none⟩ = some (.slice A0 l0.length c0))
   (first | exact ⟨(HDb.out.cell (p := ⟨w5.heap.size, 0, none⟩) hlx).trans bx0_0, (HDb.out.cell (p := ⟨w5.heap.size, 1, none⟩) hlx).trans bx0_1, (HDb.out.cell (p := ⟨w.heap.size, 0, none⟩) hlp).trans p0_0, (HDb.out.cell (p := ⟨w.heap.size, 1, none⟩) hlp).trans p0_1⟩ | exact ⟨(HDa.out.cell (p := ⟨w5.heap.size, 0, none⟩) hlx).trans bx0_0, (HDa.out.cell (p := ⟨w5.heap.size, 1, none⟩) hlx).trans bx0_1, (HDa.out.cell (p := ⟨w.heap.size, 0, none⟩) hlp).trans p0_0, (HDa.out.cell (p := ⟨w.heap.size, 1, none⟩) hlp).trans p0_1⟩ | go_keep)
   (first
    | (go_at_call 20; refine (toC_calls n0 A0 c0 l0 _ (Kd.C_below HR0.out (Below.trans HG8.out ((Below.refl _ w8).drew))) HC0.out (by omega)).mono ?_; rintro e w9 ⟨Aq0, cq0, rfl, hRa, hGa⟩; have HDa : Aside0 (Grew w8 w9) := ⟨Below.trans ((Below.refl _ w8).drew) hGa⟩; have HRa := Aside0.mk hRa; clear hRa hGa)
    | (go_at_call 23; refine (eqC_calls n0 l0 Ax0 Aq0 cx0 cq0 _ _ _ _ _ _ w9 (HM8.out.grew HDa.out).tail.tail.head HRa.out).mono ?_; rintro e w10 ⟨rfl, hGb⟩; have HDb : Aside0 (Grew w8 w10) := ⟨Grew.trans HDa.out hGb⟩; clear hGb))
  clear bx0_0 bx0_1 p0_0 p0_1
  have hG10 := HDb.out
  clear hlx hlp HDa HDb HRa
  have HM10 := Aside0.mk (HM8.out.grew hG10)
  have HG10 := Aside0.mk (Grew.trans HG8.out hG10)
  have hs10 := hG10.size
  clear hG10
  go_wp2_with fail
  refine (toI_calls A1 c1 l1 w10 (Kd.C_below HR1.out HG10.out) HC1.out (by omega)).mono ?_
  rintro e w11 ⟨Ay1, cy1, rfl, hR11, hG11⟩
  have HM11 : Aside0 (Mem w11 [.row w10.heap.size w11.heap.size (.slice Ay1 l1.length cy1) l1, .row W6.heap.size w7.heap.size (.slice Ax1 l1.length cx1) l1, .box w5.heap.size 30 #[I n0, .slice Ax0 l0.length cx0], .row w4.heap.size w5.heap.size (.slice Ax0 l0.length cx0) l0, .row w2.heap.size w3.heap.size (.slice AS1 l1.length cS1) l1, .row w1.heap.size w2.heap.size (.slice AS0 l0.length cS0) l0, .box w.heap.size 24 #[I n0, .slice A0 l0.length c0]]) := ⟨Mem.cons (it := .row w10.heap.size w11.heap.size (.slice Ay1 l1.length cy1) l1) (hR11) (HM10.out.grew hG11)⟩
  have HG11 := Aside0.mk (Grew.trans HG10.out hG11)
  have hs11 := hG11.size
  clear hG11 
  go_wp2_with fail
  refine (eqI_calls l1 Ax1 Ay1 cx1 cy1 _ _ _ _ _ _ w11 HM11.out.tail.head HM11.out.head).mono ?_
  rintro e w12 ⟨rfl, hG12⟩
  have HM12 := Aside0.mk (HM11.out.grew hG12)
  have HG12 := Aside0.mk (Grew.trans HG11.out hG12)
  have hs12 := hG12.size
  clear hG12
  go_wp2_with fail
  go_ret
  exact ⟨rfl, HG12.out⟩

theorem LIsFlat_calls (n0 : Int) (A0 : Option Addr) (c0 : Nat) (l0 : List Int) (A1 : Option Addr) (c1 : Nat) (l1 : List Int) (w : World) (hr0 : Ki.C w A0 l0.length l0) (hc0 : l0.length ≤ c0) (hr1 : Ki.C w A1 l1.length l1) (hc1 : l1.length ≤ c1) :
  Calls Try.prog 15 #[.agg #[I n0, .slice A0 l0.length c0], .slice A1 l1.length c1] w fun e w' => e = .returned (.bool true) ∧ Grew w w' := by
 by_cases hn1 : (1048576 : Int) < (l1.length : Int)
 ·exact LIsFlat_i0 n0 A0 c0 l0 A1 c1 l1 w hr0 hc0 hr1 hc1  hn1
 by_cases hl0 : (1048576 : Int) < (l0.length : Int)
 ·exact LIsFlat_b0 n0 A0 c0 l0 A1 c1 l1 w hr0 hc0 hr1 hc1 hn1  hl0
 exact LIsFlat_main n0 A0 c0 l0 A1 c1 l1 w hr0 hc0 hr1 hc1 hn1 hl0

end Go.Proofs.Ytniikppojffiaaa.K
end

section

namespace Go.Proofs.Ytniikppojffiaaa.fnExactIsFlat
open Go.ChangeShapes Go.WideShapes Go.ChangeAt Go.RowKit Go.Joins Go.Proofs.Ytniikppojffiaaa.K Go.Proofs.YtniikppojffiaaaW.PrintWords
open Go.ChangeMaps (open_string shut_string)
set_option linter.unusedVariables false
set_option maxRecDepth 100000 in
theorem lifted (os : Os) (started : os.Started) (H : Type) (enc : TypeId × Value → H) :
  ReturnsInHanded {} Try.checked os 15 .any (Rows.fnExactIsFlatSpec.pre6 enc Try.prog Try.f15 Rows.fnExactIsFlatRow.domain false) (Rows.fnExactIsFlatSpec.post enc Try.prog Try.f15 false true false false) := by
 refine returnsInHanded_of_change_sized (C := Try.checked) ownKnob_none started (by kernel_rfl) Try.func15
  (ChangeSpec.witness6 (enc := enc) (C := Try.checked) false ⟨#[], #[.agg #[.int .i64 0, .slice none 0 0], .slice none 0 0], []⟩ 8 (by kernel_rfl) (by kernel_rfl) (by kernel_rfl) (by kernel_rfl)) ?_
 intro W base args ds gs before hval0 hW hcnd hsz0 _
 have hsz : (DataW.weightsEach Try.prog (Try.f15.params.toList ++ Rows.fnExactIsFlatSpec.plain.varTypes Try.prog) (ds ++ gs)).all (· ≤ reachBytes) = true := hsz0
 have hval : ∀ (j : Nat) t v, Try.f15.params[j]? = some t → args[j]? = some v → Value.okWide Try.prog W .any base t v := hval0
 have hW' := hW
 obtain ⟨p, q, hA0, hV, rfl, hfz, hnd⟩ := hW
 have hA : DataW.TrodAll enc Try.prog W 0 (fun _ => true) true Try.f15.params.toList args.toList ds p := hA0
 rw [Try.params15] at hA hval hsz
 obtain ⟨v0, vs0, d0, ds0, p0, q0, hargs, rfl, rfl, h0, r0⟩ := trodAll_cons hA
 obtain ⟨v1, vs1, d1, ds1, p1, q1, rfl, rfl, rfl, h1, r1⟩ := trodAll_cons r0
 obtain ⟨rfl, rfl, rfl⟩ := trodAll_nil r1
 obtain rfl : args = #[v0, v1] := by cases args; simp_all
 obtain ⟨rfl, rfl⟩ := trodVars_none hV
 have k0 := h0
 have lt0 : ∀ x ∈ p0, x.block < W.heap.size := by obtain ⟨m, hm⟩ := k0; exact DataW.trod_lt m _ _ _ hm
 obtain ⟨x0, z0, y0_0, y1_0, m0, hv0, hd0, hp0, hy0_0, hy1_0⟩ := open_agg2 Try.underlying24 (by kernel_rfl) (show Try.prog.cellsOf 24 = 2 by kernel_rfl) (hval 0 24 v0 rfl rfl) h0
 obtain ⟨n0, e0_0, _, w0⟩ := DataW.trod_int Try.underlying2 hy0_0
 obtain ⟨A0, c0, l0, e1_0, hc0, hr0, _⟩ := ints_open hy1_0
 simp only [List.cons.injEq, and_true] at e0_0
 subst e0_0 e1_0
 subst hv0
 have k1 := h1
 have lt1 : ∀ x ∈ p1, x.block < W.heap.size := by obtain ⟨m, hm⟩ := k1; exact DataW.trod_lt m _ _ _ hm
 obtain ⟨a1, len1, cap1, hv1⟩ := okWide_slice Try.underlying22 (hval 1 22 v1 rfl rfl)
 obtain ⟨A1, c1, l1, e1, hc1, hr1, _⟩ : ∃ A c l, v1 = .slice A l.length c ∧ l.length ≤ c ∧ Ki.C W A l.length l ∧ ∀ n ∈ l, (Lit.int .i64 n).wf = true := by
  obtain ⟨fuel, hf⟩ := h1
  subst hv1
  exact ints_open hf
 subst e1
 clear hA0 hval0 hsz0 hsz
 refine (K.LIsFlat_calls n0 A0 c0 l0 A1 c1 l1 W hr0 hc0 hr1 hc1).mono fun e W' ⟨he, bel0⟩ => ?_
 have bel : Below W.heap.size W W' := bel0
 subst he
 exact ⟨_, rfl, _, _, _, [], _, [], hW', trodAll_mk1 (shut_bool Try.underlying4 _), (trodAll_cons_mk (Below.trod laidOut (by kernel_rfl) (of_decide_eq_true (by kernel_rfl)) k0 bel lt0) (trodAll_cons_mk (Below.trod laidOut (by kernel_rfl) (of_decide_eq_true (by kernel_rfl)) k1 bel lt1) trodAll_mk0)), rfl, bel.frame _, fun h => by cases h⟩
set_option maxRecDepth 100000 in
theorem starts : ∃ r, behindMainWord (wordsSigns Try.prog.initOrder.toList) = "cut".toList :: r := by
 have h : Try.prog.initOrder = String.ofList _ := rfl
 rw [h, String.toList_ofList, signs_take 7 _ rfl rfl, signs_take 64 _ rfl rfl, signs_take 3 _ rfl rfl]
 generalize wordsSigns _ = r
 exact ⟨r, by kernel_rfl⟩
set_option maxRecDepth 100000 in
theorem closed : joinedFacts Try.prog 15 Try.f15 Rows.fnExactIsFlatSpec Rows.fnExactIsFlatRow = true := by
 obtain ⟨r, h⟩ := starts
 unfold joinedFacts
 rw [cut_enter _ r h (by kernel_rfl) (by kernel_rfl) (by kernel_rfl), cut_make _ r h, cut_lifts _ r h]
 exact of_decide_eq_true (by kernel_rfl)
theorem over : Rows.fnExactIsFlatRow.holds Try.pinned (OpenSpec.ofChange Rows.fnExactIsFlatSpec) :=
 OpenClaim.holds_of_wide 15 Try.f15 rfl rfl rfl rfl rfl rfl rfl ⟨rfl, rfl, rfl, rfl, rfl⟩ rfl rfl rfl rfl rfl (by kernel_rfl) Try.func15 closed
  (of_decide_eq_true (by kernel_rfl)) (by unfold Func.isWrapper; first | (rw [if_pos (by decide +kernel)]; kernel_rfl) | (rw [if_neg (by decide +kernel)]; exact ⟨rfl, rfl⟩))
  (fun os started H enc _ => lifted os started H enc)
theorem proved : Rows.FnExactIsFlatSaid := over
#print axioms proved
end Go.Proofs.Ytniikppojffiaaa.fnExactIsFlat
namespace Go.Proofs.Ytniikppojffiaaa
theorem fnExactIsFlat_holds : Rows.FnExactIsFlatSaid := fnExactIsFlat.proved
end Go.Proofs.Ytniikppojffiaaa
end
