/- The row of the law FnExactFacesReached: for every input the law answers true, and the arguments read as before. No conditions. -/
import Derived.Test.YtniikppojffiaaaJFar4
import Derived.Below
import Derived.Deep.Draws
import Derived.Deep.AppendLies
import Derived.Maps.AppendAt
import Derived.OwnWalk
import Derived.Laws.BytesArg
import Derived.Laws.MakeOwn
import Derived.Laws.OwnMore
import Derived.Deep.OwnRows
import Derived.Tactics
import Derived.Lib.ConvBytes
import Derived.Laws.Slices
import Derived.WalkKit
import Derived.KernelRfl
import Derived.RowKit3
import Derived.Deep.LoopGhost
import Derived.Deep.QuietTactic
import Derived.BigQuiet
import Derived.WideLaws
import Derived.Deep.DeepCutAuto
import Derived.Deep.CutBlock
import Derived.Deep.RegionHeld3
import Derived.Laws.Rows
import Derived.Lib.AppendStr
import Derived.ArgAppend
import Derived.Laws.IdiomCopy
import Derived.RowKit
import Derived.OrdersHeld
import Derived.Laws.BitsLemmas
import Derived.Test.YtniikppojffiaaaProg
import Derived.Shelf.Abstract
import Derived.Laws.StructEq
import Derived.RangeFuncBox
import Derived.RangeFuncLeaves
import Derived.OwnWalkIn
import Derived.TacticsInMore
import Derived.LoopNIn
import Derived.LoopIn
import Derived.LoopN
import Derived.Maps.OwnSet
import Derived.Lib.SlKeysI
import Derived.Test.YtniikppojffiaaaChecked
import Derived.Shelf.SlIterI.Nil
import Derived.Shelf.SortM.SortNone
import Derived.Shelf.SortM.Plain
import Derived.Lib.SliceRun
import Derived.ChangeKeysEq
import Derived.JoinedOf
import Derived.Test.YtniikppojffiaaaRows
import Derived.ProofKit
import Derived.OpenShut
import Derived.ShutString
import Derived.ChangeOld
import Derived.SizedLaws
import Derived.Lib.SmallJoins
import Derived.Deep.Slices
section
/- The walk through the law FnExactFacesReached. -/
namespace Go.Proofs.Ytniikppojffiaaa.K
open Go.RowKit Go.Shelf Go.Proofs.Ytniikppojffiaaa.Q Go.Proofs.YtniikppojffiaaaW.PrintWords Go.Proofs.YtniikppojffiaaaW.PrintLast Go.Proofs.YtniikppojffiaaaW.PrintMore
set_option linter.unusedVariables false
set_option linter.unusedSimpArgs false

set_option maxRecDepth 100000 in
set_option maxHeartbeats 8000000 in
theorem LFacesReached_b0 (n0 : Int) (A0 : Option Addr) (c0 : Nat) (l0 : List Int) (A1 : Option Addr) (c1 : Nat) (l1 : List S53) (n2 : Int) (w : World) (hr0 : Ki.C w A0 l0.length l0) (hc0 : l0.length ≤ c0) (hr1 : Kq.C w A1 l1.length l1) (hc1 : l1.length ≤ c1)   (hz : (1048576 : Int) < (l0.length : Int)) :
  Calls Try.prog 8 #[.agg #[I n0, .slice A0 l0.length c0], .slice A1 l1.length c1, I n2] w fun e w' => e = .returned (.bool true) ∧ Grew w w' := by
 have hbig0 := hr0.2.1
 have HR0 := Aside0.mk hr0
 have HC0 := Aside0.mk hc0
 clear hr0 hc0
 have hbig1 := hr1.2.1
 have HR1 := Aside0.mk hr1
 have HC1 := Aside0.mk hc1
 clear hr1 hc1
 obtain ⟨W0, hW0⟩ : ∃ W0, W0 = (w.alloc (.cells #[I n0, .slice A0 l0.length c0] 24)) := ⟨_, rfl⟩
 have hb_p0 : (Item.box w.heap.size 24 #[I n0, .slice A0 l0.length c0]).ok W0 := by
  rw [hW0]
  have := blk_new w (.cells #[I n0, .slice A0 l0.length c0] 24)
  exact this
 have HM0 : Aside0 (Mem W0 [.box w.heap.size 24 #[I n0, .slice A0 l0.length c0]]) := ⟨Mem.cons (it := .box w.heap.size 24 #[I n0, .slice A0 l0.length c0]) hb_p0 (Mem.nil _)⟩
 have HG0 : Aside0 (Grew w W0) := ⟨by rw [hW0]; exact below_alloc (Grew.refl w) _⟩
 have hs0 : W0.heap.size = w.heap.size + 1 := by rw [hW0]; simp
 clear hb_p0
 have H0 := Aside0.mk (szC_calls n0 A0 c0 l0 (1048576 : Int) (by omega) W0 (Kd.C_below HR0.out HG0.out) HC0.out)
 rw [if_pos (by omega)] at H0
 have p0_0 : W0.cell? ⟨w.heap.size, 0, none⟩ = some (I n0) := blk_cell HM0.out.head 0
 have p0_1 : W0.cell? ⟨w.heap.size, 1, none⟩ = some (.slice A0 l0.length c0) := blk_cell HM0.out.head 1
 subst hW0
 go_enter Try.func8, Try.ntmps8
 go_wp2_with fail
 refine H0.out.mono ?_
 rintro e w1 ⟨rfl, hG1⟩
 clear p0_0 p0_1
 have HM1 := Aside0.mk (HM0.out.grew hG1)
 have HG1 := Aside0.mk (Grew.trans HG0.out hG1)
 have hs1 := hG1.size
 try simp at hs1
 clear hG1 H0
 go_wp2_with fail
 go_ret
 exact ⟨rfl, HG1.out⟩

set_option maxRecDepth 100000 in
set_option maxHeartbeats 8000000 in
theorem LFacesReached_b1 (n0 : Int) (A0 : Option Addr) (c0 : Nat) (l0 : List Int) (A1 : Option Addr) (c1 : Nat) (l1 : List S53) (n2 : Int) (w : World) (hr0 : Ki.C w A0 l0.length l0) (hc0 : l0.length ≤ c0) (hr1 : Kq.C w A1 l1.length l1) (hc1 : l1.length ≤ c1)  (hl0 : ¬ (1048576 : Int) < (l0.length : Int)) (hz : ((1048576 : Int) - (l0.length : Int)) < (l1.length : Int)) :
  Calls Try.prog 8 #[.agg #[I n0, .slice A0 l0.length c0], .slice A1 l1.length c1, I n2] w fun e w' => e = .returned (.bool true) ∧ Grew w w' := by
 have hbig0 := hr0.2.1
 have HR0 := Aside0.mk hr0
 have HC0 := Aside0.mk hc0
 clear hr0 hc0
 have hbig1 := hr1.2.1
 have HR1 := Aside0.mk hr1
 have HC1 := Aside0.mk hc1
 clear hr1 hc1
 obtain ⟨W0, hW0⟩ : ∃ W0, W0 = (w.alloc (.cells #[I n0, .slice A0 l0.length c0] 24)) := ⟨_, rfl⟩
 have hb_p0 : (Item.box w.heap.size 24 #[I n0, .slice A0 l0.length c0]).ok W0 := by
  rw [hW0]
  have := blk_new w (.cells #[I n0, .slice A0 l0.length c0] 24)
  exact this
 have HM0 : Aside0 (Mem W0 [.box w.heap.size 24 #[I n0, .slice A0 l0.length c0]]) := ⟨Mem.cons (it := .box w.heap.size 24 #[I n0, .slice A0 l0.length c0]) hb_p0 (Mem.nil _)⟩
 have HG0 : Aside0 (Grew w W0) := ⟨by rw [hW0]; exact below_alloc (Grew.refl w) _⟩
 have hs0 : W0.heap.size = w.heap.size + 1 := by rw [hW0]; simp
 clear hb_p0
 have H0 := Aside0.mk (szC_calls n0 A0 c0 l0 (1048576 : Int) (by omega) W0 (Kd.C_below HR0.out HG0.out) HC0.out)
 rw [if_neg (by omega)] at H0
 have p0_0 : W0.cell? ⟨w.heap.size, 0, none⟩ = some (I n0) := blk_cell HM0.out.head 0
 have p0_1 : W0.cell? ⟨w.heap.size, 1, none⟩ = some (.slice A0 l0.length c0) := blk_cell HM0.out.head 1
 subst hW0
 go_enter Try.func8, Try.ntmps8
 have hneg0 : ¬ (((1048576 : Int) - (l0.length : Int)) < 0) := by omega
 go_wp2_with fail
 refine H0.out.mono ?_
 rintro e w1 ⟨rfl, hG1⟩
 clear p0_0 p0_1
 have HM1 := Aside0.mk (HM0.out.grew hG1)
 have HG1 := Aside0.mk (Grew.trans HG0.out hG1)
 have hs1 := hG1.size
 try simp at hs1
 clear hG1 H0
 have H1 := Aside0.mk (szP_calls A1 c1 l1 ((1048576 : Int) - (l0.length : Int)) (by omega) w1 (Kd.C_below HR1.out HG1.out) HC1.out)
 rw [if_pos (by omega)] at H1
 go_wp2_with fail
 refine H1.out.mono ?_
 rintro e w2 ⟨rfl, hG2⟩
 have HM2 := Aside0.mk (HM1.out.grew hG2)
 have HG2 := Aside0.mk (Grew.trans HG1.out hG2)
 have hs2 := hG2.size
 clear hG2 H1
 go_wp2_with fail
 go_ret
 exact ⟨rfl, HG2.out⟩

set_option maxRecDepth 100000 in
set_option maxHeartbeats 8000000 in
theorem LFacesReached_main (n0 : Int) (A0 : Option Addr) (c0 : Nat) (l0 : List Int) (A1 : Option Addr) (c1 : Nat) (l1 : List S53) (n2 : Int) (w : World) (hr0 : Ki.C w A0 l0.length l0) (hc0 : l0.length ≤ c0) (hr1 : Kq.C w A1 l1.length l1) (hc1 : l1.length ≤ c1)  (hl0 : ¬ (1048576 : Int) < (l0.length : Int)) (hl1 : ¬ ((1048576 : Int) - (l0.length : Int)) < (l1.length : Int)) :
  Calls Try.prog 8 #[.agg #[I n0, .slice A0 l0.length c0], .slice A1 l1.length c1, I n2] w fun e w' => e = .returned (.bool true) ∧ Grew w w' := by
  obtain ⟨r0, r1, HS, HI, hlen0⟩ : ∃ (r0 : List Int) (r1 : Int), Aside0 (∀ W A0 c0 A1 c1, Ki.C W A0 l0.length l0 → l0.length ≤ c0 → Kq.C W A1 l1.length l1 → l1.length ≤ c1 → Calls Try.prog 38 #[.agg #[I n0, .slice A0 l0.length c0], .slice A1 l1.length c1, I n2] W fun e w' => ∃ v0, e = .returned (.tuple #[v0, I r1]) ∧ Ki.R 2 w' W.heap.size (fun _ => True) v0 r0 ∧ Grew W w') ∧ Aside0 (∀ W A0 c0 A1 c1, Ki.C W A0 l0.length l0 → l0.length ≤ c0 → Kq.C W A1 l1.length l1 → l1.length ≤ c1 → Calls Try.prog 39 #[.agg #[I n0, .slice A0 l0.length c0], .slice A1 l1.length c1, I n2] W fun e w' => ∃ v0, e = .returned (.tuple #[v0, I r1]) ∧ Ki.R 2 w' W.heap.size (fun _ => True) v0 r0 ∧ Grew W w') ∧ r0.length ≤ 1000000 := by
   have hbig0 := hr0.2.1
   have hbig1 := hr1.2.1
   have hS := fun (W : World) (A0 : Option Addr) (c0 : Nat) (A1 : Option Addr) (c1 : Nat) (hr0 : Ki.C W A0 l0.length l0) (hc0 : l0.length ≤ c0) (hr1 : Kq.C W A1 l1.length l1) (hc1 : l1.length ≤ c1) => spec_FacesReached.calls (isK l0 + pgK l0 l1 + 7000) n0 A0 c0 l0 A1 c1 l1 n2 _ _ W hr0 hc0 hr1 hc1 (specFR_is n0 l0 l1 n2 (by omega) (by omega) _ (Nat.le_refl _))
   have hI := fun (W : World) (A0 : Option Addr) (c0 : Nat) (A1 : Option Addr) (c1 : Nat) (hr0 : Ki.C W A0 l0.length l0) (hc0 : l0.length ≤ c0) (hr1 : Kq.C W A1 l1.length l1) (hc1 : l1.length ≤ c1) => FacesReached_calls n0 A0 c0 l0 A1 c1 l1 n2 W ⟨hr0, hc0, by omega⟩ (by omega) hr1 hc1 (by omega)
   have hlen0 := reachA_len (n := n0) (l := l0) (q := l1) (a := n2) (b := (hasB l0 n2 && pingB l0 l1))
   exact ⟨(if codeOf n0 l0 (hasB l0 n2 && pingB l0 l1) = 0 then reachL l0 l1 n2 else []), (codeOf n0 l0 (hasB l0 n2 && pingB l0 l1)), ⟨hS⟩, ⟨hI⟩, Nat.le_trans hlen0 (by decide)⟩
  have hbig0 := hr0.2.1
  have HR0 := Aside0.mk hr0
  have HC0 := Aside0.mk hc0
  clear hr0 hc0
  have hbig1 := hr1.2.1
  have HR1 := Aside0.mk hr1
  have HC1 := Aside0.mk hc1
  clear hr1 hc1
  obtain ⟨W0, hW0⟩ : ∃ W0, W0 = (w.alloc (.cells #[I n0, .slice A0 l0.length c0] 24)) := ⟨_, rfl⟩
  have hb_p0 : (Item.box w.heap.size 24 #[I n0, .slice A0 l0.length c0]).ok W0 := by
   rw [hW0]
   have := blk_new w (.cells #[I n0, .slice A0 l0.length c0] 24)
   exact this
  have HM0 : Aside0 (Mem W0 [.box w.heap.size 24 #[I n0, .slice A0 l0.length c0]]) := ⟨Mem.cons (it := .box w.heap.size 24 #[I n0, .slice A0 l0.length c0]) hb_p0 (Mem.nil _)⟩
  have HG0 : Aside0 (Grew w W0) := ⟨by rw [hW0]; exact below_alloc (Grew.refl w) _⟩
  have hs0 : W0.heap.size = w.heap.size + 1 := by rw [hW0]; simp
  clear hb_p0
  have H0 := Aside0.mk (szC_calls n0 A0 c0 l0 (1048576 : Int) (by omega) W0 (Kd.C_below HR0.out HG0.out) HC0.out)
  rw [if_neg (by omega)] at H0
  have p0_0 : W0.cell? ⟨w.heap.size, 0, none⟩ = some (I n0) := blk_cell HM0.out.head 0
  have p0_1 : W0.cell? ⟨w.heap.size, 1, none⟩ = some (.slice A0 l0.length c0) := blk_cell HM0.out.head 1
  subst hW0
  go_enter Try.func8, Try.ntmps8
  have hneg0 : ¬ (((1048576 : Int) - (l0.length : Int)) < 0) := by omega
  go_wp2_with fail
  refine H0.out.mono ?_
  rintro e w1 ⟨rfl, hG1⟩
  clear p0_0 p0_1
  have HM1 := Aside0.mk (HM0.out.grew hG1)
  have HG1 := Aside0.mk (Grew.trans HG0.out hG1)
  have hs1 := hG1.size
  try simp at hs1
  clear hG1 H0
  have H1 := Aside0.mk (szP_calls A1 c1 l1 ((1048576 : Int) - (l0.length : Int)) (by omega) w1 (Kd.C_below HR1.out HG1.out) HC1.out)
  rw [if_neg (by omega)] at H1
  have hneg1 : ¬ ((((1048576 : Int) - (l0.length : Int)) - (l1.length : Int)) < 0) := by omega
  go_wp2_with fail
  refine H1.out.mono ?_
  rintro e w2 ⟨rfl, hG2⟩
  have HM2 := Aside0.mk (HM1.out.grew hG2)
  have HG2 := Aside0.mk (Grew.trans HG1.out hG2)
  have hs2 := hG2.size
  clear hG2 H1
  have p0_0 : w2.cell? ⟨w.heap.size, 0, none⟩ = some (I n0) := blk_cell HM2.out.head 0
  have p0_1 : w2.cell? ⟨w.heap.size, 1, none⟩ = some (.slice A0 l0.length c0) := blk_cell HM2.out.head 1
  go_wp2_with fail
  clear p0_0 p0_1
  refine (toC_calls n0 A0 c0 l0 w2 (Kd.C_below HR0.out HG2.out) HC0.out (by omega)).mono ?_
  rintro e w3 ⟨AS0, cS0, rfl, hR3, hG3⟩
  have HM3 : Aside0 (Mem w3 [.row w2.heap.size w3.heap.size (.slice AS0 l0.length cS0) l0, .box w.heap.size 24 #[I n0, .slice A0 l0.length c0]]) := ⟨Mem.cons (it := .row w2.heap.size w3.heap.size (.slice AS0 l0.length cS0) l0) (hR3) (HM2.out.grew hG3)⟩
  have HG3 := Aside0.mk (Grew.trans HG2.out hG3)
  have hs3 := hG3.size
  clear hG3 
  go_wp2_with fail
  refine (toP_calls A1 c1 l1 w3 (Kd.C_below HR1.out HG3.out) HC1.out (by omega)).mono ?_
  rintro e w4 ⟨AS1, cS1, rfl, hR4, hG4⟩
  have HM4 : Aside0 (Mem w4 [.prow w3.heap.size w4.heap.size (.slice AS1 l1.length cS1) l1, .row w2.heap.size w3.heap.size (.slice AS0 l0.length cS0) l0, .box w.heap.size 24 #[I n0, .slice A0 l0.length c0]]) := ⟨Mem.cons (it := .prow w3.heap.size w4.heap.size (.slice AS1 l1.length cS1) l1) (hR4) (HM3.out.grew hG4)⟩
  have HG4 := Aside0.mk (Grew.trans HG3.out hG4)
  have hs4 := hG4.size
  clear hG4 
  go_wp2_with fail
  refine (HS.out w4 AS0 cS0 AS1 cS1 (Row.slice HM4.out.tail.head).2.2 (Row.slice HM4.out.tail.head).2.1 (PRow.slice HM4.out.head).2.2 (PRow.slice HM4.out.head).2.1).mono ?_
  rintro e w5 ⟨vw0, rfl, hRw0, hG5⟩
  obtain ⟨Aw0, cw0, rfl⟩ := Kd.R_slice hRw0
  have HM5 : Aside0 (Mem w5 [.row w4.heap.size w5.heap.size (.slice Aw0 r0.length cw0) r0, .prow w3.heap.size w4.heap.size (.slice AS1 l1.length cS1) l1, .row w2.heap.size w3.heap.size (.slice AS0 l0.length cS0) l0, .box w.heap.size 24 #[I n0, .slice A0 l0.length c0]]) := ⟨Mem.cons (it := .row w4.heap.size w5.heap.size (.slice Aw0 r0.length cw0) r0) (Row.of_R hRw0) (HM4.out.grew hG5)⟩
  have HG5 := Aside0.mk (Grew.trans HG4.out hG5)
  have hs5 := hG5.size
  clear hG5 
  have p0_0 : w5.cell? ⟨w.heap.size, 0, none⟩ = some (I n0) := blk_cell HM5.out.tail.tail.tail.head 0
  have p0_1 : w5.cell? ⟨w.heap.size, 1, none⟩ = some (.slice A0 l0.length c0) := blk_cell HM5.out.tail.tail.tail.head 1
  go_wp2_with fail
  clear p0_0 p0_1
  refine (toC_calls n0 A0 c0 l0 w5 (Kd.C_below HR0.out HG5.out) HC0.out (by omega)).mono ?_
  rintro e w6 ⟨Ax0, cx0, rfl, hR6, hG6⟩
  have HM6 : Aside0 (Mem w6 [.row w5.heap.size w6.heap.size (.slice Ax0 l0.length cx0) l0, .row w4.heap.size w5.heap.size (.slice Aw0 r0.length cw0) r0, .prow w3.heap.size w4.heap.size (.slice AS1 l1.length cS1) l1, .row w2.heap.size w3.heap.size (.slice AS0 l0.length cS0) l0, .box w.heap.size 24 #[I n0, .slice A0 l0.length c0]]) := ⟨Mem.cons (it := .row w5.heap.size w6.heap.size (.slice Ax0 l0.length cx0) l0) (hR6) (HM5.out.grew hG6)⟩
  have HG6 := Aside0.mk (Grew.trans HG5.out hG6)
  have hs6 := hG6.size
  clear hG6 
  have HM7 : Aside0 (Mem (w6.alloc (.cells #[I n0, .slice Ax0 l0.length cx0] 30)) [.box w6.heap.size 30 #[I n0, .slice Ax0 l0.length cx0], .row w5.heap.size w6.heap.size (.slice Ax0 l0.length cx0) l0, .row w4.heap.size w5.heap.size (.slice Aw0 r0.length cw0) r0, .prow w3.heap.size w4.heap.size (.slice AS1 l1.length cS1) l1, .row w2.heap.size w3.heap.size (.slice AS0 l0.length cS0) l0, .box w.heap.size 24 #[I n0, .slice A0 l0.length c0]]) := ⟨Mem.cons (blk_new w6 _) (HM6.out.grew (below_alloc (Grew.refl w6) _))⟩
  have HG7 : Aside0 (Grew w (w6.alloc (.cells #[I n0, .slice Ax0 l0.length cx0] 30))) := ⟨Grew.trans HG6.out (below_alloc (Grew.refl w6) _)⟩
  have hS7 : (w6.alloc (.cells #[I n0, .slice Ax0 l0.length cx0] 30)).heap.size = w6.heap.size + 1 := by simp
  go_wp2_with fail
  generalize (w6.alloc (.cells #[I n0, .slice Ax0 l0.length cx0] 30)) = W7 at HM7 HG7 hS7  ⊢
  refine (toP_calls A1 c1 l1 W7 (Kd.C_below HR1.out HG7.out) HC1.out (by omega)).mono ?_
  rintro e w8 ⟨Ax1, cx1, rfl, hR8, hG8⟩
  have HM8 : Aside0 (Mem w8 [.prow W7.heap.size w8.heap.size (.slice Ax1 l1.length cx1) l1, .box w6.heap.size 30 #[I n0, .slice Ax0 l0.length cx0], .row w5.heap.size w6.heap.size (.slice Ax0 l0.length cx0) l0, .row w4.heap.size w5.heap.size (.slice Aw0 r0.length cw0) r0, .prow w3.heap.size w4.heap.size (.slice AS1 l1.length cS1) l1, .row w2.heap.size w3.heap.size (.slice AS0 l0.length cS0) l0, .box w.heap.size 24 #[I n0, .slice A0 l0.length c0]]) := ⟨Mem.cons (it := .prow W7.heap.size w8.heap.size (.slice Ax1 l1.length cx1) l1) (hR8) (HM7.out.grew hG8)⟩
  have HG8 := Aside0.mk (Grew.trans HG7.out hG8)
  have hs8 := hG8.size
  clear hG8 
  have bx0_0 : w8.cell? ⟨w6.heap.size, 0, none⟩ = some (I n0) := blk_cell HM8.out.tail.head 0
  have bx0_1 : w8.cell? ⟨w6.heap.size, 1, none⟩ = some (.slice Ax0 l0.length cx0) := blk_cell HM8.out.tail.head 1
  go_wp2_with fail
  clear bx0_0 bx0_1
  refine (HI.out w8 Ax0 cx0 Ax1 cx1 (Row.slice HM8.out.tail.tail.head).2.2 (Row.slice HM8.out.tail.tail.head).2.1 (PRow.slice HM8.out.head).2.2 (PRow.slice HM8.out.head).2.1).mono ?_
  rintro e w9 ⟨vg0, rfl, hRg0, hG9⟩
  obtain ⟨Ag0, cg0, rfl⟩ := Kd.R_slice hRg0
  have HM9 : Aside0 (Mem w9 [.row w8.heap.size w9.heap.size (.slice Ag0 r0.length cg0) r0, .prow W7.heap.size w8.heap.size (.slice Ax1 l1.length cx1) l1, .box w6.heap.size 30 #[I n0, .slice Ax0 l0.length cx0], .row w5.heap.size w6.heap.size (.slice Ax0 l0.length cx0) l0, .row w4.heap.size w5.heap.size (.slice Aw0 r0.length cw0) r0, .prow w3.heap.size w4.heap.size (.slice AS1 l1.length cS1) l1, .row w2.heap.size w3.heap.size (.slice AS0 l0.length cS0) l0, .box w.heap.size 24 #[I n0, .slice A0 l0.length c0]]) := ⟨Mem.cons (it := .row w8.heap.size w9.heap.size (.slice Ag0 r0.length cg0) r0) (Row.of_R hRg0) (HM8.out.grew hG9)⟩
  have HG9 := Aside0.mk (Grew.trans HG8.out hG9)
  have hs9 := hG9.size
  clear hG9 
  go_wp2_with fail
  refine (eqI_calls r0 Ag0 Aw0 cg0 cw0 _ _ _ _ _ _ w9 HM9.out.head HM9.out.tail.tail.tail.tail.head).mono ?_
  rintro e w10 ⟨rfl, hG10⟩
  have HM10 := Aside0.mk (HM9.out.grew hG10)
  have HG10 := Aside0.mk (Grew.trans HG9.out hG10)
  have hs10 := hG10.size
  clear hG10
  go_wp2_with fail
  have bx0_0 : w10.cell? ⟨w6.heap.size, 0, none⟩ = some (I n0) := blk_cell HM10.out.tail.tail.head 0
  have bx0_1 : w10.cell? ⟨w6.heap.size, 1, none⟩ = some (.slice Ax0 l0.length cx0) := blk_cell HM10.out.tail.tail.head 1
  have p0_0 : w10.cell? ⟨w.heap.size, 0, none⟩ = some (I n0) := blk_cell HM10.out.tail.tail.tail.tail.tail.tail.tail.head 0
  have p0_1 : w10.cell? ⟨w.heap.size, 1, none⟩ = some (.slice A0 l0.length c0) := blk_cell HM10.out.tail.tail.tail.tail.tail.tail.tail.head 1
  have hlx : w6.heap.size < w10.heap.size := World.block_lt_of_cell? w10 _ bx0_0
  have hlp : w.heap.size < w10.heap.size := World.block_lt_of_cell? w10 _ p0_0
  go_region_held3 (fun w' => w'.cell? ⟨w6.heap.size, 0, none⟩ = some (I n0) ∧ w'.cell? ⟨w6.heap.size, 1, none⟩ = some (.slice Ax0 l0.length cx0) ∧ w'.cell? ⟨w.heap.size, 0, none⟩ = some (I n0) ∧ w'.cell? ⟨w.heap.size, 1, none⟩ = some (.slice A0 l0.length c0))
   (first | exact ⟨(HDb.out.cell (p := ⟨w6.heap.size, 0, none⟩) hlx).trans bx0_0, (HDb.out.cell (p := ⟨w6.heap.size, 1, none⟩) hlx).trans bx0_1, (HDb.out.cell (p := ⟨w.heap.size, 0, none⟩) hlp).trans p0_0, (HDb.out.cell (p := ⟨w.heap.size, 1, none⟩) hlp).trans p0_1⟩ | exact ⟨(HDa.out.cell (p := ⟨w6.heap.size, 0, none⟩) hlx).trans bx0_0, (HDa.out.cell (p := ⟨w6.heap.size, 1, none⟩) hlx).trans bx0_1, (HDa.out.cell (p := ⟨w.heap.size, 0, none⟩) hlp).trans p0_0, (HDa.out.cell (p := ⟨w.heap.size, 1, none⟩) hlp).trans p0_1⟩ | go_keep)
   (first
    | (go_at_call 20; refine (toC_calls n0 A0 c0 l0 _ (Kd.C_below HR0.out (Below.trans HG10.out ((Below.refl _ w10).drew))) HC0.out (by omega)).mono ?_; rintro e w11 ⟨Aq0, cq0, rfl, hRa, hGa⟩; have HDa : Aside0 (Grew w10 w11) := ⟨Below.trans ((Below.refl _ w10).drew) hGa⟩; have HRa := Aside0.mk hRa; clear hRa hGa)
    | (go_at_call 23; refine (eqC_calls n0 l0 Ax0 Aq0 cx0 cq0 _ _ _ _ _ _ w11 (HM10.out.grew HDa.out).tail.tail.tail.head HRa.out).mono ?_; rintro e w12 ⟨rfl, hGb⟩; have HDb : Aside0 (Grew w10 w12) := ⟨Grew.trans HDa.out hGb⟩; clear hGb))
  clear bx0_0 bx0_1 p0_0 p0_1
  have hG12 := HDb.out
  clear hlx hlp HDa HDb HRa
  have HM12 := Aside0.mk (HM10.out.grew hG12)
  have HG12 := Aside0.mk (Grew.trans HG10.out hG12)
  have hs12 := hG12.size
  clear hG12
  go_wp2_with fail
  refine (toP_calls A1 c1 l1 w12 (Kd.C_below HR1.out HG12.out) HC1.out (by omega)).mono ?_
  rintro e w13 ⟨Ay1, cy1, rfl, hR13, hG13⟩
  have HM13 : Aside0 (Mem w13 [.prow w12.heap.size w13.heap.size (.slice Ay1 l1.length cy1) l1, .row w8.heap.size w9.heap.size (.slice Ag0 r0.length cg0) r0, .prow W7.heap.size w8.heap.size (.slice Ax1 l1.length cx1) l1, .box w6.heap.size 30 #[I n0, .slice Ax0 l0.length cx0], .row w5.heap.size w6.heap.size (.slice Ax0 l0.length cx0) l0, .row w4.heap.size w5.heap.size (.slice Aw0 r0.length cw0) r0, .prow w3.heap.size w4.heap.size (.slice AS1 l1.length cS1) l1, .row w2.heap.size w3.heap.size (.slice AS0 l0.length cS0) l0, .box w.heap.size 24 #[I n0, .slice A0 l0.length c0]]) := ⟨Mem.cons (it := .prow w12.heap.size w13.heap.size (.slice Ay1 l1.length cy1) l1) (hR13) (HM12.out.grew hG13)⟩
  have HG13 := Aside0.mk (Grew.trans HG12.out hG13)
  have hs13 := hG13.size
  clear hG13 
  go_wp2_with fail
  refine (eqP_calls l1 Ax1 Ay1 cx1 cy1 _ _ _ _ _ _ w13 HM13.out.tail.tail.head HM13.out.head).mono ?_
  rintro e w14 ⟨rfl, hG14⟩
  have HM14 := Aside0.mk (HM13.out.grew hG14)
  have HG14 := Aside0.mk (Grew.trans HG13.out hG14)
  have hs14 := hG14.size
  clear hG14
  have bx0_0 : w14.cell? ⟨w6.heap.size, 0, none⟩ = some (I n0) := blk_cell HM14.out.tail.tail.tail.head 0
  have bx0_1 : w14.cell? ⟨w6.heap.size, 1, none⟩ = some (.slice Ax0 l0.length cx0) := blk_cell HM14.out.tail.tail.tail.head 1
  go_wp2_with fail
  clear bx0_0 bx0_1
  refine (markC_calls n0 Ax0 l0.length cx0 l0 1 (by omega) (by omega) _ _ w w14 HG14.out (by omega) HM14.out.tail.tail.tail.tail.head).mono ?_
  rintro e w15 ⟨rfl, hX15, hB15, hK15⟩
  have HM15 : Aside0 (Mem w15 [.prow w12.heap.size w13.heap.size (.slice Ay1 l1.length cy1) l1, .row w8.heap.size w9.heap.size (.slice Ag0 r0.length cg0) r0, .prow W7.heap.size w8.heap.size (.slice Ax1 l1.length cx1) l1, .box w6.heap.size 30 #[I n0, .slice Ax0 l0.length cx0], .row w4.heap.size w5.heap.size (.slice Aw0 r0.length cw0) r0, .prow w3.heap.size w4.heap.size (.slice AS1 l1.length cS1) l1, .row w2.heap.size w3.heap.size (.slice AS0 l0.length cS0) l0, .box w.heap.size 24 #[I n0, .slice A0 l0.length c0]]) := ⟨Mem.kept (Mem.cons (it := .prow w12.heap.size w13.heap.size (.slice Ay1 l1.length cy1) l1) HM14.out.head (Mem.cons (it := .row w8.heap.size w9.heap.size (.slice Ag0 r0.length cg0) r0) HM14.out.tail.head (Mem.cons (it := .prow W7.heap.size w8.heap.size (.slice Ax1 l1.length cx1) l1) HM14.out.tail.tail.head (Mem.cons (it := .box w6.heap.size 30 #[I n0, .slice Ax0 l0.length cx0]) HM14.out.tail.tail.tail.head (Mem.cons (it := .row w4.heap.size w5.heap.size (.slice Aw0 r0.length cw0) r0) HM14.out.tail.tail.tail.tail.tail.head (Mem.cons (it := .prow w3.heap.size w4.heap.size (.slice AS1 l1.length cS1) l1) HM14.out.tail.tail.tail.tail.tail.tail.head (Mem.cons (it := .row w2.heap.size w3.heap.size (.slice AS0 l0.length cS0) l0) HM14.out.tail.tail.tail.tail.tail.tail.tail.head (Mem.cons (it := .box w.heap.size 24 #[I n0, .slice A0 l0.length c0]) HM14.out.tail.tail.tail.tail.tail.tail.tail.tail.head (Mem.nil _))))))))) hK15 (by intro it hit k hk; simp only [List.mem_cons, List.not_mem_nil, or_false] at hit; rcases hit with rfl | rfl | rfl | rfl | rfl | rfl | rfl | rfl <;> (simp only [Item.at_] at hk; omega))⟩
  have HG15 := Aside0.mk hB15
  have hs15 := hK15.1
  clear hX15 hB15 hK15
  go_wp2_with fail
  refine (markP_calls Ax1 l1.length cx1 l1 (1 + (l0.length : Int)) (by omega) (by omega) _ _ w w15 HG15.out (by omega) HM15.out.tail.tail.head).mono ?_
  rintro e w16 ⟨rfl, hX16, hB16, hK16⟩
  have HM16 : Aside0 (Mem w16 [.prow w12.heap.size w13.heap.size (.slice Ay1 l1.length cy1) l1, .row w8.heap.size w9.heap.size (.slice Ag0 r0.length cg0) r0, .box w6.heap.size 30 #[I n0, .slice Ax0 l0.length cx0], .row w4.heap.size w5.heap.size (.slice Aw0 r0.length cw0) r0, .prow w3.heap.size w4.heap.size (.slice AS1 l1.length cS1) l1, .row w2.heap.size w3.heap.size (.slice AS0 l0.length cS0) l0, .box w.heap.size 24 #[I n0, .slice A0 l0.length c0]]) := ⟨Mem.kept (Mem.cons (it := .prow w12.heap.size w13.heap.size (.slice Ay1 l1.length cy1) l1) HM15.out.head (Mem.cons (it := .row w8.heap.size w9.heap.size (.slice Ag0 r0.length cg0) r0) HM15.out.tail.head (Mem.cons (it := .box w6.heap.size 30 #[I n0, .slice Ax0 l0.length cx0]) HM15.out.tail.tail.tail.head (Mem.cons (it := .row w4.heap.size w5.heap.size (.slice Aw0 r0.length cw0) r0) HM15.out.tail.tail.tail.tail.head (Mem.cons (it := .prow w3.heap.size w4.heap.size (.slice AS1 l1.length cS1) l1) HM15.out.tail.tail.tail.tail.tail.head (Mem.cons (it := .row w2.heap.size w3.heap.size (.slice AS0 l0.length cS0) l0) HM15.out.tail.tail.tail.tail.tail.tail.head (Mem.cons (it := .box w.heap.size 24 #[I n0, .slice A0 l0.length c0]) HM15.out.tail.tail.tail.tail.tail.tail.tail.head (Mem.nil _)))))))) hK16 (by intro it hit k hk; simp only [List.mem_cons, List.not_mem_nil, or_false] at hit; rcases hit with rfl | rfl | rfl | rfl | rfl | rfl | rfl <;> (simp only [Item.at_] at hk; omega))⟩
  have HG16 := Aside0.mk hB16
  have hs16 := hK16.1
  clear hX16 hB16 hK16
  have hneg : ¬ (((1 + (l0.length : Int)) + 2 * (l1.length : Int)) < 0) := by omega
  go_wp2_with fail
  refine (eqI_calls r0 Ag0 Aw0 cg0 cw0 _ _ _ _ _ _ w16 HM16.out.tail.head HM16.out.tail.tail.tail.head).mono ?_
  rintro e w17 ⟨rfl, hG17⟩
  have HM17 := Aside0.mk (HM16.out.grew hG17)
  have HG17 := Aside0.mk (Grew.trans HG16.out hG17)
  have hs17 := hG17.size
  clear hG17
  clear hneg
  go_wp2_with fail
  refine (markI_calls Ag0 r0.length cg0 r0 1 (by omega) (by omega) _ _ w w17 HG17.out (by omega) HM17.out.tail.head).mono ?_
  rintro e w18 ⟨rfl, hX18, hB18, hK18⟩
  have HM18 : Aside0 (Mem w18 [.row w8.heap.size w9.heap.size (.slice Ag0 r0.length cg0) (marks 1 r0.length), .prow w12.heap.size w13.heap.size (.slice Ay1 l1.length cy1) l1, .box w6.heap.size 30 #[I n0, .slice Ax0 l0.length cx0], .row w4.heap.size w5.heap.size (.slice Aw0 r0.length cw0) r0, .prow w3.heap.size w4.heap.size (.slice AS1 l1.length cS1) l1, .row w2.heap.size w3.heap.size (.slice AS0 l0.length cS0) l0, .box w.heap.size 24 #[I n0, .slice A0 l0.length c0]]) := ⟨Mem.cons (it := .row w8.heap.size w9.heap.size (.slice Ag0 r0.length cg0) (marks 1 r0.length)) hX18 (Mem.kept (Mem.cons (it := .prow w12.heap.size w13.heap.size (.slice Ay1 l1.length cy1) l1) HM17.out.head (Mem.cons (it := .box w6.heap.size 30 #[I n0, .slice Ax0 l0.length cx0]) HM17.out.tail.tail.head (Mem.cons (it := .row w4.heap.size w5.heap.size (.slice Aw0 r0.length cw0) r0) HM17.out.tail.tail.tail.head (Mem.cons (it := .prow w3.heap.size w4.heap.size (.slice AS1 l1.length cS1) l1) HM17.out.tail.tail.tail.tail.head (Mem.cons (it := .row w2.heap.size w3.heap.size (.slice AS0 l0.length cS0) l0) HM17.out.tail.tail.tail.tail.tail.head (Mem.cons (it := .box w.heap.size 24 #[I n0, .slice A0 l0.length c0]) HM17.out.tail.tail.tail.tail.tail.tail.head (Mem.nil _))))))) hK18 (by intro it hit k hk; simp only [List.mem_cons, List.not_mem_nil, or_false] at hit; rcases hit with rfl | rfl | rfl | rfl | rfl | rfl <;> (simp only [Item.at_] at hk; omega)))⟩
  have HG18 := Aside0.mk hB18
  have hs18 := hK18.1
  clear hX18 hB18 hK18
  have hneg0 : ¬ ((1 + (r0.length : Int)) < 0) := by omega
  go_wp2_with fail
  refine (heldI_calls Ag0 r0.length r0.length cg0 _ _ 1 (by omega) (by omega) w18 HM18.out.head).mono ?_
  rintro e w19 ⟨rfl, hG19⟩
  have HM19 := Aside0.mk (HM18.out.grew hG19)
  have HG19 := Aside0.mk (Grew.trans HG18.out hG19)
  have hs19 := hG19.size
  clear hG19
  have p0_0 : w19.cell? ⟨w.heap.size, 0, none⟩ = some (I n0) := blk_cell HM19.out.tail.tail.tail.tail.tail.tail.head 0
  have p0_1 : w19.cell? ⟨w.heap.size, 1, none⟩ = some (.slice A0 l0.length c0) := blk_cell HM19.out.tail.tail.tail.tail.tail.tail.head 1
  go_wp2_with fail
  clear p0_0 p0_1
  refine (toC_calls n0 A0 c0 l0 w19 (Kd.C_below HR0.out HG19.out) HC0.out (by omega)).mono ?_
  rintro e w20 ⟨Az0, cz0, rfl, hR20, hG20⟩
  have HM20 : Aside0 (Mem w20 [.row w19.heap.size w20.heap.size (.slice Az0 l0.length cz0) l0, .row w8.heap.size w9.heap.size (.slice Ag0 r0.length cg0) (marks 1 r0.length), .prow w12.heap.size w13.heap.size (.slice Ay1 l1.length cy1) l1, .box w6.heap.size 30 #[I n0, .slice Ax0 l0.length cx0], .row w4.heap.size w5.heap.size (.slice Aw0 r0.length cw0) r0, .prow w3.heap.size w4.heap.size (.slice AS1 l1.length cS1) l1, .row w2.heap.size w3.heap.size (.slice AS0 l0.length cS0) l0, .box w.heap.size 24 #[I n0, .slice A0 l0.length c0]]) := ⟨Mem.cons (it := .row w19.heap.size w20.heap.size (.slice Az0 l0.length cz0) l0) (hR20) (HM19.out.grew hG20)⟩
  have HG20 := Aside0.mk (Grew.trans HG19.out hG20)
  have hs20 := hG20.size
  clear hG20 
  go_wp2_with fail
  refine (toP_calls A1 c1 l1 w20 (Kd.C_below HR1.out HG20.out) HC1.out (by omega)).mono ?_
  rintro e w21 ⟨Az1, cz1, rfl, hR21, hG21⟩
  have HM21 : Aside0 (Mem w21 [.prow w20.heap.size w21.heap.size (.slice Az1 l1.length cz1) l1, .row w19.heap.size w20.heap.size (.slice Az0 l0.length cz0) l0, .row w8.heap.size w9.heap.size (.slice Ag0 r0.length cg0) (marks 1 r0.length), .prow w12.heap.size w13.heap.size (.slice Ay1 l1.length cy1) l1, .box w6.heap.size 30 #[I n0, .slice Ax0 l0.length cx0], .row w4.heap.size w5.heap.size (.slice Aw0 r0.length cw0) r0, .prow w3.heap.size w4.heap.size (.slice AS1 l1.length cS1) l1, .row w2.heap.size w3.heap.size (.slice AS0 l0.length cS0) l0, .box w.heap.size 24 #[I n0, .slice A0 l0.length c0]]) := ⟨Mem.cons (it := .prow w20.heap.size w21.heap.size (.slice Az1 l1.length cz1) l1) (hR21) (HM20.out.grew hG21)⟩
  have HG21 := Aside0.mk (Grew.trans HG20.out hG21)
  have hs21 := hG21.size
  clear hG21 
  go_wp2_with fail
  refine (HI.out w21 Az0 cz0 Az1 cz1 (Row.slice HM21.out.tail.head).2.2 (Row.slice HM21.out.tail.head).2.1 (PRow.slice HM21.out.head).2.2 (PRow.slice HM21.out.head).2.1).mono ?_
  rintro e w22 ⟨vh0, rfl, hRh0, hG22⟩
  obtain ⟨Ah0, ch0, rfl⟩ := Kd.R_slice hRh0
  have HM22 : Aside0 (Mem w22 [.row w21.heap.size w22.heap.size (.slice Ah0 r0.length ch0) r0, .prow w20.heap.size w21.heap.size (.slice Az1 l1.length cz1) l1, .row w19.heap.size w20.heap.size (.slice Az0 l0.length cz0) l0, .row w8.heap.size w9.heap.size (.slice Ag0 r0.length cg0) (marks 1 r0.length), .prow w12.heap.size w13.heap.size (.slice Ay1 l1.length cy1) l1, .box w6.heap.size 30 #[I n0, .slice Ax0 l0.length cx0], .row w4.heap.size w5.heap.size (.slice Aw0 r0.length cw0) r0, .prow w3.heap.size w4.heap.size (.slice AS1 l1.length cS1) l1, .row w2.heap.size w3.heap.size (.slice AS0 l0.length cS0) l0, .box w.heap.size 24 #[I n0, .slice A0 l0.length c0]]) := ⟨Mem.cons (it := .row w21.heap.size w22.heap.size (.slice Ah0 r0.length ch0) r0) (Row.of_R hRh0) (HM21.out.grew hG22)⟩
  have HG22 := Aside0.mk (Grew.trans HG21.out hG22)
  have hs22 := hG22.size
  clear hG22 
  go_wp2_with fail
  refine (eqI_calls r0 Ah0 Aw0 ch0 cw0 _ _ _ _ _ _ w22 HM22.out.head HM22.out.tail.tail.tail.tail.tail.tail.head).mono ?_
  rintro e w23 ⟨rfl, hG23⟩
  have HM23 := Aside0.mk (HM22.out.grew hG23)
  have HG23 := Aside0.mk (Grew.trans HG22.out hG23)
  have hs23 := hG23.size
  clear hG23
  clear hneg0
  have hneg0 : ¬ ((1 + (r0.length : Int)) < 0) := by omega
  go_wp2_with fail
  refine (heldI_calls Ag0 r0.length r0.length cg0 _ _ 1 (by omega) (by omega) w23 HM23.out.tail.tail.tail.head).mono ?_
  rintro e w24 ⟨rfl, hG24⟩
  have HM24 := Aside0.mk (HM23.out.grew hG24)
  have HG24 := Aside0.mk (Grew.trans HG23.out hG24)
  have hs24 := hG24.size
  clear hG24
  go_wp2_with fail
  go_ret
  exact ⟨rfl, HG24.out⟩

theorem LFacesReached_calls (n0 : Int) (A0 : Option Addr) (c0 : Nat) (l0 : List Int) (A1 : Option Addr) (c1 : Nat) (l1 : List S53) (n2 : Int) (w : World) (hr0 : Ki.C w A0 l0.length l0) (hc0 : l0.length ≤ c0) (hr1 : Kq.C w A1 l1.length l1) (hc1 : l1.length ≤ c1) :
  Calls Try.prog 8 #[.agg #[I n0, .slice A0 l0.length c0], .slice A1 l1.length c1, I n2] w fun e w' => e = .returned (.bool true) ∧ Grew w w' := by
 by_cases hl0 : (1048576 : Int) < (l0.length : Int)
 ·exact LFacesReached_b0 n0 A0 c0 l0 A1 c1 l1 n2 w hr0 hc0 hr1 hc1   hl0
 by_cases hl1 : ((1048576 : Int) - (l0.length : Int)) < (l1.length : Int)
 ·exact LFacesReached_b1 n0 A0 c0 l0 A1 c1 l1 n2 w hr0 hc0 hr1 hc1  hl0 hl1
 exact LFacesReached_main n0 A0 c0 l0 A1 c1 l1 n2 w hr0 hc0 hr1 hc1  hl0 hl1

end Go.Proofs.Ytniikppojffiaaa.K
end

section

namespace Go.Proofs.Ytniikppojffiaaa.fnExactFacesReached
open Go.ChangeShapes Go.WideShapes Go.ChangeAt Go.RowKit Go.Joins Go.Proofs.Ytniikppojffiaaa.K Go.Proofs.YtniikppojffiaaaW.PrintWords
open Go.ChangeMaps (open_string shut_string)
set_option linter.unusedVariables false
set_option maxRecDepth 100000 in
theorem lifted (os : Os) (started : os.Started) (H : Type) (enc : TypeId × Value → H) :
  ReturnsInHanded {} Try.checked os 8 .any (Rows.fnExactFacesReachedSpec.pre6 enc Try.prog Try.f8 Rows.fnExactFacesReachedRow.domain false) (Rows.fnExactFacesReachedSpec.post enc Try.prog Try.f8 false true false false) := by
 refine returnsInHanded_of_change_sized (C := Try.checked) ownKnob_none started (by kernel_rfl) Try.func8
  (ChangeSpec.witness6 (enc := enc) (C := Try.checked) false ⟨#[], #[.agg #[.int .i64 0, .slice none 0 0], .slice none 0 0, .int .i64 0], []⟩ 8 (by kernel_rfl) (by kernel_rfl) (by kernel_rfl) (by kernel_rfl)) ?_
 intro W base args ds gs before hval0 hW hcnd hsz0 _
 have hsz : (DataW.weightsEach Try.prog (Try.f8.params.toList ++ Rows.fnExactFacesReachedSpec.plain.varTypes Try.prog) (ds ++ gs)).all (· ≤ reachBytes) = true := hsz0
 have hval : ∀ (j : Nat) t v, Try.f8.params[j]? = some t → args[j]? = some v → Value.okWide Try.prog W .any base t v := hval0
 have hW' := hW
 obtain ⟨p, q, hA0, hV, rfl, hfz, hnd⟩ := hW
 have hA : DataW.TrodAll enc Try.prog W 0 (fun _ => true) true Try.f8.params.toList args.toList ds p := hA0
 rw [Try.params8] at hA hval hsz
 obtain ⟨v0, vs0, d0, ds0, p0, q0, hargs, rfl, rfl, h0, r0⟩ := trodAll_cons hA
 obtain ⟨v1, vs1, d1, ds1, p1, q1, rfl, rfl, rfl, h1, r1⟩ := trodAll_cons r0
 obtain ⟨v2, vs2, d2, ds2, p2, q2, rfl, rfl, rfl, h2, r2⟩ := trodAll_cons r1
 obtain ⟨rfl, rfl, rfl⟩ := trodAll_nil r2
 obtain rfl : args = #[v0, v1, v2] := by cases args; simp_all
 obtain ⟨rfl, rfl⟩ := trodVars_none hV
 have k0 := h0
 have lt0 : ∀ x ∈ p0, x.block < W.heap.size := by obtain ⟨m, hm⟩ := k0; exact DataW.trod_lt m _ _ _ hm
 obtain ⟨x0, z0, y0_0, y1_0, m0, hv0, hd0, hp0, hy0_0, hy1_0⟩ := open_agg2 Try.underlying24 (by kernel_rfl) (show Try.prog.cellsOf 24 = 2 by kernel_rfl) (hval 0 24 v0 rfl rfl) h0
 obtain ⟨n0, e0_0, _, w0⟩ := DataW.trod_int Try.underlying2 hy0_0
 obtain ⟨A0, c0, l0, e1_0, hc0, hr0, _⟩ := ints_open hy1_0
 simp only [List.cons.injEq, and_true] at e0_0
 subst e0_0 e1_0
 subst hv0
 have k1 := h1
 have lt1 : ∀ x ∈ p1, x.block < W.heap.size := by obtain ⟨m, hm⟩ := k1; exact DataW.trod_lt m _ _ _ hm
 obtain ⟨a1, len1, cap1, hv1⟩ := okWide_slice Try.underlying25 (hval 1 25 v1 rfl rfl)
 obtain ⟨A1, c1, l1, e1, hc1, hr1⟩ : ∃ A c l, v1 = .slice A l.length c ∧ l.length ≤ c ∧ Kq.C W A l.length l := by
  obtain ⟨fuel, hf⟩ := h1
  subst hv1
  exact pairs_open hf
 subst e1
 obtain ⟨n2, rfl, rfl, rfl, w2⟩ := open_int Try.underlying2 (hval 2 2 v2 rfl rfl) h2
 clear hA0 hval0 hsz0 hsz
 refine (K.LFacesReached_calls n0 A0 c0 l0 A1 c1 l1 n2 W hr0 hc0 hr1 hc1).mono fun e W' ⟨he, bel0⟩ => ?_
 have bel : Below W.heap.size W W' := bel0
 subst he
 exact ⟨_, rfl, _, _, _, [], _, [], hW', trodAll_mk1 (shut_bool Try.underlying4 _), (trodAll_cons_mk (Below.trod laidOut (by kernel_rfl) (of_decide_eq_true (by kernel_rfl)) k0 bel lt0) (trodAll_cons_mk (Below.trod laidOut (by kernel_rfl) (of_decide_eq_true (by kernel_rfl)) k1 bel lt1) (trodAll_cons_mk (shut_int Try.underlying2 w2) trodAll_mk0))), rfl, bel.frame _, fun h => by cases h⟩
set_option maxRecDepth 100000 in
theorem starts : ∃ r, behindMainWord (wordsSigns Try.prog.initOrder.toList) = "cut".toList :: r := by
 have h : Try.prog.initOrder = String.ofList _ := rfl
 rw [h, String.toList_ofList, signs_take 7 _ rfl rfl, signs_take 64 _ rfl rfl, signs_take 3 _ rfl rfl]
 generalize wordsSigns _ = r
 exact ⟨r, by kernel_rfl⟩
set_option maxRecDepth 100000 in
theorem closed : joinedFacts Try.prog 8 Try.f8 Rows.fnExactFacesReachedSpec Rows.fnExactFacesReachedRow = true := by
 obtain ⟨r, h⟩ := starts
 unfold joinedFacts
 rw [cut_enter _ r h (by kernel_rfl) (by kernel_rfl) (by kernel_rfl), cut_make _ r h, cut_lifts _ r h]
 exact of_decide_eq_true (by kernel_rfl)
theorem over : Rows.fnExactFacesReachedRow.holds Try.pinned (OpenSpec.ofChange Rows.fnExactFacesReachedSpec) :=
 OpenClaim.holds_of_wide 8 Try.f8 rfl rfl rfl rfl rfl rfl rfl ⟨rfl, rfl, rfl, rfl, rfl⟩ rfl rfl rfl rfl rfl (by kernel_rfl) Try.func8 closed
  (of_decide_eq_true (by kernel_rfl)) (by unfold Func.isWrapper; first | (rw [if_pos (by decide +kernel)]; kernel_rfl) | (rw [if_neg (by decide +kernel)]; exact ⟨rfl, rfl⟩))
  (fun os started H enc _ => lifted os started H enc)
theorem proved : Rows.FnExactFacesReachedSaid := over
#print axioms proved
end Go.Proofs.Ytniikppojffiaaa.fnExactFacesReached
namespace Go.Proofs.Ytniikppojffiaaa
theorem fnExactFacesReached_holds : Rows.FnExactFacesReachedSaid := fnExactFacesReached.proved
end Go.Proofs.Ytniikppojffiaaa
end
