/- The row of the law FnExactBounds: for every input the law answers true, and the arguments read as before. No conditions. -/
import Derived.Test.YtjoggjgmpoaaiaaJBnd3
import Derived.Below
import Derived.Deep.Draws
import Derived.Deep.AppendLies
import Derived.Maps.AppendAt
import Derived.OwnWalk
import Derived.Laws.BytesArg
import Derived.Laws.MakeOwn
import Derived.Laws.OwnMore
import Derived.Deep.OwnRows
import Derived.Tactics
import Derived.Lib.ConvBytes
import Derived.Laws.Slices
import Derived.WalkKit
import Derived.KernelRfl
import Derived.RowKit3
import Derived.Deep.LoopGhost
import Derived.Deep.QuietTactic
import Derived.BigQuiet
import Derived.WideLaws
import Derived.Deep.DeepCutAuto
import Derived.Deep.CutBlock
import Derived.Deep.RegionHeld3
import Derived.Laws.Rows
import Derived.Lib.AppendStr
import Derived.ArgAppend
import Derived.Laws.IdiomCopy
import Derived.RowKit
import Derived.OrdersHeld
import Derived.Laws.BitsLemmas
import Derived.Laws.StructEq
import Derived.Test.YtjoggjgmpoaaiaaProg
import Derived.Shelf.Abstract
import Derived.RangeFuncBox
import Derived.RangeFuncLeaves
import Derived.OwnWalkIn
import Derived.TacticsInMore
import Derived.LoopNIn
import Derived.LoopIn
import Derived.Test.YtjoggjgmpoaaiaaChecked
import Derived.Shelf.SlSortCmp.NoneTotal
import Derived.Lib.SortBridge
import Derived.Lib.Small
import Derived.JoinedOf
import Derived.Test.YtjoggjgmpoaaiaaRows
import Derived.ProofKit
import Derived.OpenShut
import Derived.ShutString
import Derived.ChangeOld
import Derived.SizedLaws
import Derived.Lib.SmallJoins
section
/- Written by a program of this session (myprint.py over the kit's print). -/
namespace Go.Proofs.Ytjoggjgmpoaaiaa.Q
open Go.RowKit Go.Proofs.YtjoggjgmpoaaiaaW.PrintWords Go.Proofs.YtjoggjgmpoaaiaaW.PrintLast Go.Proofs.YtjoggjgmpoaaiaaW.PrintMore
attribute [local go_sem] max2_int min2_int max_two min_two max_three min_three max_four min_four   -- for this text's walks alone
set_option linter.unusedVariables false
set_option linter.unusedSimpArgs false

/-! ### spec_l03Chain: function 39 -/
def spec_l03Chain.l0 : Nat → List Int → Int → Int → List Int → Option (Int)
 | 0, _, _, _, _ => none
 | k + 1, x1, x5, x195000, x195001 => if x5 < (x1.length : Int) then (if 0 ≤ x5 then ((spec_l01Has.f k x195000 x195001 (rd x1 x5)).bind fun t197 => (if t197 = true then (if x5 > 0 then (if 0 ≤ (wrap64 (x5 - 1)) then (if (wrap64 (x5 - 1)) < (x1.length : Int) then (if (rd x1 x5) ≤ (rd x1 (wrap64 (x5 - 1))) then (some 2) else ((spec_l01Ones.f k (rd x1 x5)).bind fun t201 => (if 0 < (x1.length : Int) then ((spec_l01Ones.f k (rd x1 0)).bind fun t203 => (if t201 = t203 then (spec_l03Chain.l0 k x1 (wrap64 (x5 + 1)) x195000 x195001) else (some 2))) else (none)))) else (none)) else (none)) else (spec_l03Chain.l0 k x1 (wrap64 (x5 + 1)) x195000 x195001)) else (some 2))) else (none)) else (some 0)
def spec_l03Chain.f (k : Nat) (a0_0 : Int) (l0_1 : List Int) (l1 : List Int) : Option (Int) := (spec_l01Is.f k a0_0 l0_1).bind fun t195 => (if t195 = true then (spec_l03Chain.l0 k l1 0 a0_0 l0_1) else (some 1))
theorem spec_l03Chain.mono_l : ∀ k, (∀ y0 y1 y2 y3, LeO (spec_l03Chain.l0 k y0 y1 y2 y3) (spec_l03Chain.l0 (k + 1) y0 y1 y2 y3))
 | 0 => fun _ _ _ _ r h => by simp [spec_l03Chain.l0] at h
 | k + 1 => by
  have ih0 := spec_l03Chain.mono_l k
  ·intro y0 y1 y2 y3
   unfold spec_l03Chain.l0
   repeat' first
   | (with_reducible exact ih0 _ _ _ _)
   | (with_reducible exact spec_l01Has.mono _ _ _ _)
   | (with_reducible exact spec_l01Is.mono _ _ _)
   | (with_reducible exact spec_l01Ones.mono _ _)
   | (with_reducible exact LeO.refl _)
   | (with_reducible exact LeO.none _)
   | (with_reducible refine LeO.ite ?_ ?_)
   | (with_reducible refine LeO.bind ?_ (fun _ => ?_))
   | exact ih0 _ _ _ _
   | exact spec_l01Has.mono _ _ _ _
   | exact spec_l01Is.mono _ _ _
   | exact spec_l01Ones.mono _ _
   | exact LeO.none _
   | refine LeO.ite ?_ ?_
   | refine LeO.bind ?_ (fun _ => ?_)
theorem spec_l03Chain.mono : ∀ a0 a1 a2 k, LeO (spec_l03Chain.f k a0 a1 a2) (spec_l03Chain.f (k + 1) a0 a1 a2) := by
 intro a0 a1 a2 k
 have ih0 := spec_l03Chain.mono_l k
 unfold spec_l03Chain.f
 repeat' first
   | (with_reducible exact ih0 _ _ _ _)
   | (with_reducible exact spec_l01Has.mono _ _ _ _)
   | (with_reducible exact spec_l01Is.mono _ _ _)
   | (with_reducible exact spec_l01Ones.mono _ _)
   | (with_reducible exact LeO.refl _)
   | (with_reducible exact LeO.none _)
   | (with_reducible refine LeO.ite ?_ ?_)
   | (with_reducible refine LeO.bind ?_ (fun _ => ?_))
   | exact ih0 _ _ _ _
   | exact spec_l01Has.mono _ _ _ _
   | exact spec_l01Is.mono _ _ _
   | exact spec_l01Ones.mono _ _
   | exact LeO.none _
   | refine LeO.ite ?_ ?_
   | refine LeO.bind ?_ (fun _ => ?_)
def spec_l03Chain.T6 : Bool × List (List Nat × List Nat) := (true, [([], []), ([], []), ([], []), ([1, 2], [1, 2]), ([3], [3]), ([0, 4], [0, 4]), ([5], [5]), ([6, 5], [6]), ([7], [7]), ([8, 7], [7, 8]), ([9, 7, 7], [7, 9]), ([10], [10]), ([10], [10]), ([11, 12, 10], [10, 11, 12]), ([13, 10], [10, 13]), ([10], [10]), ([10], [10]), ([16, 10], [10, 16]), ([15, 17, 10], [10, 15, 17]), ([18, 10], [10, 18]), ([14, 19, 10], [10, 14, 19]), ([20, 10, 10], [10, 20]), ([21], [21]), ([21], [21]), ([22, 23, 21], [21, 22, 23]), ([24, 21], [21, 24]), ([25, 21, 21], [21, 25]), ([21], [21]), ([27, 21], [21, 27]), ([28, 21], [21, 28]), ([29, 26, 21], [21, 29]), ([26, 30, 21], [21, 26, 30]), ([21, 31, 10], [10, 21, 31]), ([10, 32, 7], [7, 10, 32]), ([7, 33], [7, 33])])
def spec_l03Chain.B6 : List Nat := [0, 0, 0, 6, 14, 31, 63, 127, 255, 511, 1023, 2047, 2047, 8191, 16383, 2047, 2047, 67583, 231423, 493567, 1048575, 2097151, 4194303, 4194303, 16777215, 33554431, 67108863, 4194303, 138412031, 406847487, 1073741823, 2147483647, 4294967295, 8589934591, 17179869183]
theorem spec_l03Chain.tab6 : rtab .any (opsOf Try.f39 6) = spec_l03Chain.T6 := by kernel_rfl
theorem spec_l03Chain.bits6 : waitsOk spec_l03Chain.T6.2 spec_l03Chain.B6 = true := by kernel_rfl
set_option maxHeartbeats 8000000 in
set_option maxRecDepth 100000 in
theorem spec_l03Chain.calls (k : Nat) (a0_0 : Int) (A0_1 : Option Addr) (c0_1 : Nat) (l0_1 : List Int) (A1 : Option Addr) (c1 : Nat) (l1 : List Int) (r : Int) (w : World) (hr0_1 : Kd.C (Kd.int .i64) w A0_1 l0_1.length l0_1) (hc0_1 : l0_1.length ≤ c0_1) (hr1 : Kd.C (Kd.int .i64) w A1 l1.length l1) (hc1 : l1.length ≤ c1) (h : spec_l03Chain.f k a0_0 l0_1 l1 = some r) :
  Calls Try.prog 39 #[.agg #[.int .i64 a0_0, .slice A0_1 l0_1.length c0_1], .slice A1 l1.length c1] w fun e w' => e = .returned (.int .i64 r) ∧ Below w.heap.size w w' := by
 have hu26 := Try.underlying26
 have HR0_1 := Aside0.mk hr0_1
 have HC0_1 := Aside0.mk hc0_1
 clear hr0_1 hc0_1
 have HR1 := Aside0.mk hr1
 have HC1 := Aside0.mk hc1
 clear hr1 hc1
 have HB := Aside0.mk (Below.refl w.heap.size w)
 have H : ((spec_l01Is.f k a0_0 l0_1).bind fun t195 => (if t195 = true then (spec_l03Chain.l0 k l1 0 a0_0 l0_1) else (some 1))) = some r := h
 clear h
 replace H := Option.bind_eq_some_iff.mp H
 obtain ⟨t195, A30, H⟩ := H
 replace H : (if t195 = true then (spec_l03Chain.l0 k l1 0 a0_0 l0_1) else (some 1)) = some r := H
 have A3 := Aside0.mk A30
 clear A30
 by_cases c4 : t195 = true
 ·subst c4
  have H1 : (spec_l03Chain.l0 k l1 0 a0_0 l0_1) = some r := by rw [if_pos rfl] at H; exact H
  clear H
  have H := H1
  clear H1
  have H' := Aside0.mk H
  clear H
  go_enter Try.func39, Try.ntmps39
  go_wp2_with (first | ((with_reducible refine gate_dst (N := 2) rfl ?_); refine box_event ?hg (N := 2) ?hd (cs := #[.int .i64 a0_0, .slice A0_1 l0_1.length c0_1]) (t := 26) ?hr ?_; (case hd => rfl); (case hg => rfl); (case hr => first | (go_simp; done) | (go_simp; rfl)); intro gb194 hg w5 hbox hb; have n0_ := Aside0.mk (below_step (by repeat (first | (with_reducible first | exact HB.out | apply below_alloc | apply pw_below_drewN | apply below_drew1) | exact HB.out)) hb); have n1_ := Aside0.mk (hbox); have n2_ := Aside0.mk ((by rw [hg]; exact (below_size (by repeat (first | (with_reducible first | exact HB.out | apply below_alloc | apply pw_below_drewN | apply below_drew1) | exact HB.out))) : w.heap.size ≤ gb194)); have n3_ := Aside0.mk ((by rw [hg]; exact (below_size (by repeat (first | (with_reducible first | exact HB.out | apply below_alloc | apply pw_below_drewN | apply below_drew1) | exact HB.out))) : w.heap.size ≤ gb194)); clear HB; have HB := n0_; have BK194 := n1_; have GW194 := n2_; have GE194 := n3_; clear n0_ n1_ n2_ n3_; clear hb hbox hg; have hcz6_0 : w5.cell? ⟨gb194, 0, none⟩ = some (.int .i64 a0_0) := (blk_cell BK194.out 0).trans rfl; have hcz6_1 : w5.cell? ⟨gb194, 1, none⟩ = some (.slice A0_1 l0_1.length c0_1) := (blk_cell BK194.out 1).trans rfl; have hfz6_0 := blk_frozen BK194.out 0; have hfz6_1 := blk_frozen BK194.out 1) | ((with_reducible refine gate_callee (f := 24) rfl ?_); refine goesL_ (some 7) rfl rfl Try.func24 (by kernel_rfl) rfl #[.agg #[.int .i64 a0_0, .slice A0_1 l0_1.length c0_1]] rfl (by (try simp only [List.map_toArray, List.map_cons, List.map_nil]); first | done | rfl | (simp only [List.length_drop, List.length_take]; rfl)) ?_; (with_reducible refine (spec_l01Is.calls k a0_0 _ _ l0_1 true _ ?side1 ?side2 A3.out).mono ?_); (case side1 => repeat (first | exact (Kd.C_below HR0_1.out HB.out) | (with_reducible refine Kd.C_alloc ?_ _) | (with_reducible refine Kd.C_drewN ?_ _) | (with_reducible refine Kd.C_drew ?_))); (case side2 => exact HC0_1.out); rintro e w7 ⟨rfl, hb⟩; refine ⟨_, rfl, ?_⟩; have n0_ := Aside0.mk (blk_below (g := gb194) (o := .cells #[.int .i64 a0_0, .slice A0_1 l0_1.length c0_1] 26 (0, 0)) (by (with_reducible repeat (first | refine blk_drewN ?_ _ | refine blk_drew ?_ | refine blk_alloc ?_ _)); exact BK194.out) hb); have n1_ := Aside0.mk (below_step (by repeat (first | (with_reducible first | exact HB.out | apply below_alloc | apply pw_below_drewN | apply below_drew1 | refine below_set ?_ GE194.out) | exact HB.out)) hb); clear BK194; clear HB; have BK194 := n0_; have HB := n1_; clear n0_ n1_; (try clear hb); (try clear hb2); (try clear hk); (try clear hi)))
  go_loopg [5] k (fun kq v5 w' => ∃ (x5_1 : Int), v5 = .int .i64 x5_1 ∧ Aside0 (spec_l03Chain.l0 kq l1 x5_1 a0_0 l0_1 = some r) ∧ Aside0 (kq ≤ k) ∧ Aside0 (w'.heap[gb194]? = some (.cells #[.int .i64 a0_0, (.slice A0_1 l0_1.length c0_1)] 26 (0, 0))) ∧ Aside0 (Below w.heap.size w w'))
  case atStart => exact ⟨(0), (by first | rfl | (simp; done) | (simp [*]; done)), H', ⟨Nat.le_refl _⟩, ⟨by (with_reducible repeat (first | refine blk_drewN ?_ _ | refine blk_drew ?_ | refine blk_alloc ?_ _)); exact BK194.out⟩, ⟨by repeat (first | (with_reducible first | exact HB.out | apply below_alloc | apply pw_below_drewN | apply below_drew1 | refine below_set ?_ GE194.out) | exact HB.out)⟩⟩
  case round =>
   clear H'
   try clear c1
   try clear c2
   try clear p2
   try clear c3
   try clear c4
   try clear hcz6_0
   try clear hcz6_1
   try clear hfz6_0
   try clear hfz6_1
   obtain ⟨x5_1, rfl, HA, HK1, BK194, HB⟩ := hrel
   cases gk with
   | zero => exact absurd HA.out (by simp [spec_l03Chain.l0])
   | succ k1 =>
    have H := HA.out
    clear HA
    simp only [spec_l03Chain.l0] at H
    by_cases c8 : x5_1 < (l1.length : Int)
    ·rw [if_pos c8] at H
     have c8b0 : decide (x5_1 < (l1.length : Int)) = true := decide_eq_true c8
     clear c8
     by_cases c9 : 0 ≤ x5_1
     ·rw [if_pos c9] at H
      have c9b0 : decide (0 ≤ x5_1) = true := decide_eq_true c9
      clear c9
      replace H := Option.bind_eq_some_iff.mp H
      obtain ⟨t197, A100, H⟩ := H
      replace H : (if t197 = true then (if x5_1 > 0 then (if 0 ≤ (wrap64 (x5_1 - 1)) then (if (wrap64 (x5_1 - 1)) < (l1.length : Int) then (if (rd l1 x5_1) ≤ (rd l1 (wrap64 (x5_1 - 1))) then (some 2) else ((spec_l01Ones.f k1 (rd l1 x5_1)).bind fun t201 => (if 0 < (l1.length : Int) then ((spec_l01Ones.f k1 (rd l1 0)).bind fun t203 => (if t201 = t203 then (spec_l03Chain.l0 k1 l1 (wrap64 (x5_1 + 1)) a0_0 l0_1) else (some 2))) else (none)))) else (none)) else (none)) else (spec_l03Chain.l0 k1 l1 (wrap64 (x5_1 + 1)) a0_0 l0_1)) else (some 2)) = some r := H
      have A10 := Aside0.mk A100
      clear A100
      by_cases c11 : t197 = true
      ·subst c11
       have H1 : (if x5_1 > 0 then (if 0 ≤ (wrap64 (x5_1 - 1)) then (if (wrap64 (x5_1 - 1)) < (l1.length : Int) then (if (rd l1 x5_1) ≤ (rd l1 (wrap64 (x5_1 - 1))) then (some 2) else ((spec_l01Ones.f k1 (rd l1 x5_1)).bind fun t201 => (if 0 < (l1.length : Int) then ((spec_l01Ones.f k1 (rd l1 0)).bind fun t203 => (if t201 = t203 then (spec_l03Chain.l0 k1 l1 (wrap64 (x5_1 + 1)) a0_0 l0_1) else (some 2))) else (none)))) else (none)) else (none)) else (spec_l03Chain.l0 k1 l1 (wrap64 (x5_1 + 1)) a0_0 l0_1)) = some r := by rw [if_pos rfl] at H; exact H
       clear H
       have H := H1
       clear H1
       by_cases c12 : x5_1 > 0
       ·rw [if_pos c12] at H
        have c12b0 : decide (0 < x5_1) = true := decide_eq_true c12
        clear c12
        obtain ⟨ji13, hji13⟩ : ∃ j_ : Int, (wrap64 (x5_1 - 1)) = j_ := ⟨_, rfl⟩
        replace H : (if 0 ≤ (ji13) then (if (ji13) < (l1.length : Int) then (if (rd l1 x5_1) ≤ (rd l1 (ji13)) then (some 2) else ((spec_l01Ones.f k1 (rd l1 x5_1)).bind fun t201 => (if 0 < (l1.length : Int) then ((spec_l01Ones.f k1 (rd l1 0)).bind fun t203 => (if t201 = t203 then (spec_l03Chain.l0 k1 l1 (wrap64 (x5_1 + 1)) a0_0 l0_1) else (some 2))) else (none)))) else (none)) else (none)) = some r := by first | (rw [hji13] at H; exact H) | (simp only [hji13] at H ⊢; exact H)
        (try rw [hji13] at A10)
        have hji13w : (IntKind.i64.wrap (x5_1 - 1)) = ji13 := (i64_w _).trans hji13
        by_cases c14 : 0 ≤ (ji13)
        ·rw [if_pos c14] at H
         have c14b0 : decide (0 ≤ (ji13)) = true := decide_eq_true c14
         clear c14
         by_cases c15 : (ji13) < (l1.length : Int)
         ·rw [if_pos c15] at H
          have c15b0 : decide ((ji13) < (l1.length : Int)) = true := decide_eq_true c15
          clear c15
          by_cases c16 : (rd l1 x5_1) ≤ (rd l1 (ji13))
          ·rw [if_pos c16] at H
           have c16b0 : decide ((rd l1 x5_1) ≤ (rd l1 (ji13))) = true := decide_eq_true c16
           clear c16
           obtain rfl := Option.some.inj H
           try go_wp2
           have n0_ := Aside0.mk (blk_drew BK194.out)
           have n1_ := Aside0.mk (below_drew1 HB.out)
           clear BK194
           clear HB
           have BK194 := n0_
           have HB := n1_
           clear n0_ n1_
           have p196 : 0 ≤ (x5_1 : Int) := of_decide_eq_true (by first | (with_reducible assumption) | assumption)
           have q196 : x5_1 < (l1.length : Int) := of_decide_eq_true (by first | (with_reducible assumption) | assumption)
           obtain ⟨ad196, e196, hx196_0⟩ := Kd.at_int HR1.out x5_1 p196 q196
           have hw196_0 := hx196_0
           cases e196
           replace hx196_0 := (HB.out.cell (World.block_lt_of_cell? w _ hx196_0)).trans hx196_0
           replace p196 := eq_true p196
           replace q196 := eq_true q196
           have p198 : 0 ≤ (x5_1 : Int) := of_decide_eq_true (by first | (with_reducible assumption) | assumption)
           have q198 : x5_1 < (l1.length : Int) := of_decide_eq_true (by first | (with_reducible assumption) | assumption)
           obtain ⟨ad198, e198, hx198_0⟩ := Kd.at_int HR1.out x5_1 p198 q198
           have hw198_0 := hx198_0
           obtain rfl : ad196 = ad198 := (by injection e198)
           replace hx198_0 := (HB.out.cell (World.block_lt_of_cell? w _ hx198_0)).trans hx198_0
           replace p198 := eq_true p198
           replace q198 := eq_true q198
           have p199 : 0 ≤ ((ji13) : Int) := of_decide_eq_true (by first | (with_reducible assumption) | assumption)
           have q199 : (ji13) < (l1.length : Int) := of_decide_eq_true (by first | (with_reducible assumption) | assumption)
           obtain ⟨ad199, e199, hx199_0⟩ := Kd.at_int HR1.out (ji13) p199 q199
           have hw199_0 := hx199_0
           obtain rfl : ad196 = ad199 := (by injection e199)
           replace hx199_0 := (HB.out.cell (World.block_lt_of_cell? w _ hx199_0)).trans hx199_0
           replace p199 := eq_true p199
           replace q199 := eq_true q199
           refine start_ (n := 35) (S := fun w' => w'.cell? ⟨gb194, 0, none⟩ = some (.int .i64 a0_0) ∧ w'.cell? ⟨gb194, 1, none⟩ = some (.slice A0_1 l0_1.length c0_1) ∧ w'.cell? (ad196.add (x5_1).toNat) = some (.int .i64 (rd l1 x5_1)) ∧ w'.cell? (ad196.add (x5_1).toNat) = some (.int .i64 (rd l1 x5_1)) ∧ w'.cell? (ad196.add ((ji13)).toNat) = some (.int .i64 (rd l1 (ji13)))) (ds := []) #[false,false,false,false,false,false,false,false,false,false,false,false,false,false,false,false,false,false,false,false,false,false,false,false,false,false,false,false,false,false,false,false,false,false,false] (by kernel_rfl) rfl rfl ⟨(blk_cell BK194.out 0).trans rfl, (blk_cell BK194.out 1).trans rfl, ((HB.out.cell (World.block_lt_of_cell? w _ hw196_0)).trans hw196_0), ((HB.out.cell (World.block_lt_of_cell? w _ hw198_0)).trans hw198_0), ((HB.out.cell (World.block_lt_of_cell? w _ hw199_0)).trans hw199_0)⟩ (fun hHeld => ?_); refine with_tabW spec_l03Chain.tab6 spec_l03Chain.bits6 (fun HT_ HW_ => ?_)
           generalize wr.drew = w17 at BK194 HB hx196_0 hx198_0 hx199_0 hHeld ⊢
           refine pure_ (i := 1) (N := some 16) (v := ?_) (a' := ?_) #[false,true,false,false,false,false,false,false,false,false,false,false,false,false,false,false,false,false,false,false,false,false,false,false,false,false,false,false,false,false,false,false,false,false,false] rfl rfl (any_of HT_.out (by kernel_rfl)) (fun _ _ _ h => h) (Or.inl ⟨by rfl, ?_⟩) ?_ ?_
           rotate_left; · intro w'; go_simp; with_reducible rfl
           rotate_left; · simp only [Act.put, List.setIfInBounds_toArray, List.set_cons_zero, List.set_cons_succ, i64_w, i32_w]; rfl
           refine pure_ (i := 2) (N := some 17) (v := ?_) (a' := ?_) #[false,true,true,false,false,false,false,false,false,false,false,false,false,false,false,false,false,false,false,false,false,false,false,false,false,false,false,false,false,false,false,false,false,false,false] rfl rfl (any_of HT_.out (by kernel_rfl)) (fun _ _ _ h => h) (Or.inl ⟨by rfl, ?_⟩) ?_ ?_
           rotate_left; · intro w'; go_simp; with_reducible rfl
           rotate_left; · simp only [Act.put, List.setIfInBounds_toArray, List.set_cons_zero, List.set_cons_succ, i64_w, i32_w]; rfl
           refine pure_ (i := 3) (N := some 18) (v := ?_) (a' := ?_) #[false,true,true,true,false,false,false,false,false,false,false,false,false,false,false,false,false,false,false,false,false,false,false,false,false,false,false,false,false,false,false,false,false,false,false] rfl rfl (any_of HT_.out (by kernel_rfl)) (fun _ _ _ h => h) (Or.inl ⟨by rfl, ?_⟩) ?_ ?_
           rotate_left; · intro w'; go_simp; with_reducible rfl
           rotate_left; · simp only [Act.put, List.setIfInBounds_toArray, List.set_cons_zero, List.set_cons_succ, i64_w, i32_w]; rfl
           refine take_ (i := 0) (N := some 15) (v := ?_) (a' := ?_) #[true,true,true,true,false,false,false,false,false,false,false,false,false,false,false,false,false,false,false,false,false,false,false,false,false,false,false,false,false,false,false,false,false,false,false] rfl rfl (take_ofW HT_.out HW_.out (by kernel_rfl)) (fun _ _ _ h => h) (Or.inl ⟨by rfl, ?_⟩) hHeld ?_ ?_
           rotate_left; · rintro w' ⟨s0, s1, s2, s3, s4⟩; go_simp; with_reducible rfl
           rotate_left; · simp only [Act.put, List.setIfInBounds_toArray, List.set_cons_zero, List.set_cons_succ, i64_w, i32_w]; rfl
           refine take_ (i := 4) (N := some 19) (v := ?_) (a' := ?_) #[true,true,true,true,true,false,false,false,false,false,false,false,false,false,false,false,false,false,false,false,false,false,false,false,false,false,false,false,false,false,false,false,false,false,false] rfl rfl (take_ofW HT_.out HW_.out (by kernel_rfl)) (fun _ _ _ h => h) (Or.inl ⟨by rfl, ?_⟩) hHeld ?_ ?_
           rotate_left; · rintro w' ⟨s0, s1, s2, s3, s4⟩; go_simp; with_reducible rfl
           rotate_left; · simp only [Act.put, List.setIfInBounds_toArray, List.set_cons_zero, List.set_cons_succ, i64_w, i32_w]; rfl
           refine one_ (i := 5) (N := some 20) #[true,true,true,true,true,true,false,false,false,false,false,false,false,false,false,false,false,false,false,false,false,false,false,false,false,false,false,false,false,false,false,false,false,false,false] rfl rfl (one_of HT_.out (by kernel_rfl)) (by decide) (fun K hK => ?_)
           refine goes_ Try.func50 (by kernel_rfl) rfl #[.agg #[.int .i64 a0_0, .slice A0_1 l0_1.length c0_1], .int .i64 (rd l1 x5_1)] (by rfl) rfl rfl (by (try simp only [List.map_toArray, List.map_cons, List.map_nil]); first | done | rfl | (simp only [List.length_drop, List.length_take]; rfl)) ?_
           with_reducible refine (spec_l01Has.calls k1 a0_0 _ _ l0_1 (rd l1 x5_1) true _ ?side1 ?side2 A10.out).mono ?_
           (case side1 => repeat (first | exact (Kd.C_below HR0_1.out HB.out) | (with_reducible refine Kd.C_alloc ?_ _) | (with_reducible refine Kd.C_drewN ?_ _) | (with_reducible refine Kd.C_drew ?_)))
           (case side2 => exact HC0_1.out)
           rintro e w18 ⟨rfl, hb⟩
           refine ⟨_, rfl, ?_⟩
           have n0_ := Aside0.mk (blk_below (g := gb194) (o := .cells #[.int .i64 a0_0, .slice A0_1 l0_1.length c0_1] 26 (0, 0)) (by (with_reducible repeat (first | refine blk_drewN ?_ _ | refine blk_drew ?_ | refine blk_alloc ?_ _)); exact BK194.out) hb)
           have n1_ := Aside0.mk (below_step (by repeat (first | (with_reducible first | exact HB.out | apply below_alloc | apply pw_below_drewN | apply below_drew1 | refine below_set ?_ GE194.out) | exact HB.out)) hb)
           clear BK194
           clear HB
           have BK194 := n0_
           have HB := n1_
           clear n0_ n1_
           (try clear hb)
           (try clear hb2)
           (try clear hk)
           (try clear hi)
           refine hK.out _ _ ⟨(blk_cell BK194.out 0).trans rfl, (blk_cell BK194.out 1).trans rfl, ((HB.out.cell (World.block_lt_of_cell? w _ hw196_0)).trans hw196_0), ((HB.out.cell (World.block_lt_of_cell? w _ hw198_0)).trans hw198_0), ((HB.out.cell (World.block_lt_of_cell? w _ hw199_0)).trans hw199_0)⟩ (fun hHeld => ?_)
           clear hK K
           refine norm_ (a' := ?_) ?_ ?_
           rotate_left
           ·show Act.put _ (some 20) _ = _
            simp only [Act.put, List.setIfInBounds_toArray, List.set_cons_zero, List.set_cons_succ, i64_w, i32_w]
            rfl
           refine pure_ (i := 6) (N := some 21) (v := ?_) (a' := ?_) #[true,true,true,true,true,true,true,false,false,false,false,false,false,false,false,false,false,false,false,false,false,false,false,false,false,false,false,false,false,false,false,false,false,false,false] rfl rfl (any_of HT_.out (by kernel_rfl)) (fun _ _ _ h => h) (Or.inl ⟨by rfl, ?_⟩) ?_ ?_
           rotate_left; · intro w'; go_simp; with_reducible rfl
           rotate_left; · simp only [Act.put, List.setIfInBounds_toArray, List.set_cons_zero, List.set_cons_succ, i64_w, i32_w]; rfl
           refine pure_ (i := 7) (N := some 22) (v := ?_) (a' := ?_) #[true,true,true,true,true,true,true,true,false,false,false,false,false,false,false,false,false,false,false,false,false,false,false,false,false,false,false,false,false,false,false,false,false,false,false] rfl rfl (any_of HT_.out (by kernel_rfl)) (fun _ _ _ h => h) (Or.inl ⟨by rfl, ?_⟩) ?_ ?_
           rotate_left; · intro w'; go_simp; with_reducible rfl
           rotate_left; · simp only [Act.put, List.setIfInBounds_toArray, List.set_cons_zero, List.set_cons_succ, i64_w, i32_w]; rfl
           refine pure_ (i := 8) (N := some 23) (v := ?_) (a' := ?_) #[true,true,true,true,true,true,true,true,true,false,false,false,false,false,false,false,false,false,false,false,false,false,false,false,false,false,false,false,false,false,false,false,false,false,false] rfl rfl (any_of HT_.out (by kernel_rfl)) (fun _ _ _ h => h) (Or.inl ⟨by rfl, ?_⟩) ?_ ?_
           rotate_left; · intro w'; go_simp; with_reducible rfl
           rotate_left; · simp only [Act.put, List.setIfInBounds_toArray, List.set_cons_zero, List.set_cons_succ, i64_w, i32_w]; rfl
           refine pure_ (i := 9) (N := some 24) (v := ?_) (a' := ?_) #[true,true,true,true,true,true,true,true,true,true,false,false,false,false,false,false,false,false,false,false,false,false,false,false,false,false,false,false,false,false,false,false,false,false,false] rfl rfl (any_of HT_.out (by kernel_rfl)) (fun _ _ _ h => h) (Or.inl ⟨by rfl, ?_⟩) ?_ ?_
           rotate_left; · intro w'; go_simp; with_reducible rfl
           rotate_left; · simp only [Act.put, List.setIfInBounds_toArray, List.set_cons_zero, List.set_cons_succ, i64_w, i32_w]; rfl
           refine pure_ (i := 10) (N := some 25) (v := ?_) (a' := ?_) #[true,true,true,true,true,true,true,true,true,true,true,false,false,false,false,false,false,false,false,false,false,false,false,false,false,false,false,false,false,false,false,false,false,false,false] rfl rfl (any_of HT_.out (by kernel_rfl)) (fun _ _ _ h => h) (Or.inl ⟨by rfl, ?_⟩) ?_ ?_
           rotate_left; · intro w'; go_simp; with_reducible rfl
           rotate_left; · simp only [Act.put, List.setIfInBounds_toArray, List.set_cons_zero, List.set_cons_succ, i64_w, i32_w]; rfl
           refine pure_ (i := 11) (N := some 26) (v := ?_) (a' := ?_) #[true,true,true,true,true,true,true,true,true,true,true,true,false,false,false,false,false,false,false,false,false,false,false,false,false,false,false,false,false,false,false,false,false,false,false] rfl rfl (any_of HT_.out (by kernel_rfl)) (fun _ _ _ h => h) (Or.inl ⟨by rfl, ?_⟩) ?_ ?_
           rotate_left; · intro w'; go_simp; with_reducible rfl
           rotate_left; · simp only [Act.put, List.setIfInBounds_toArray, List.set_cons_zero, List.set_cons_succ, i64_w, i32_w]; rfl
           refine pure_ (i := 12) (N := some 27) (v := ?_) (a' := ?_) #[true,true,true,true,true,true,true,true,true,true,true,true,true,false,false,false,false,false,false,false,false,false,false,false,false,false,false,false,false,false,false,false,false,false,false] rfl rfl (any_of HT_.out (by kernel_rfl)) (fun _ _ _ h => h) (Or.inl ⟨by rfl, ?_⟩) ?_ ?_
           rotate_left; · intro w'; go_simp; with_reducible rfl
           rotate_left; · simp only [Act.put, List.setIfInBounds_toArray, List.set_cons_zero, List.set_cons_succ, i64_w, i32_w]; rfl
           refine pure_ (i := 13) (N := some 28) (v := ?_) (a' := ?_) #[true,true,true,true,true,true,true,true,true,true,true,true,true,true,false,false,false,false,false,false,false,false,false,false,false,false,false,false,false,false,false,false,false,false,false] rfl rfl (any_of HT_.out (by kernel_rfl)) (fun _ _ _ h => h) (Or.inl ⟨by rfl, ?_⟩) ?_ ?_
           rotate_left; · intro w'; go_simp; with_reducible rfl
           rotate_left; · simp only [Act.put, List.setIfInBounds_toArray, List.set_cons_zero, List.set_cons_succ, i64_w, i32_w]; rfl
           refine pure_ (i := 15) (N := some 30) (v := ?_) (a' := ?_) #[true,true,true,true,true,true,true,true,true,true,true,true,true,true,false,true,false,false,false,false,false,false,false,false,false,false,false,false,false,false,false,false,false,false,false] rfl rfl (any_of HT_.out (by kernel_rfl)) (fun _ _ _ h => h) (Or.inl ⟨by rfl, ?_⟩) ?_ ?_
           rotate_left; · intro w'; go_simp; with_reducible rfl
           rotate_left; · simp only [Act.put, List.setIfInBounds_toArray, List.set_cons_zero, List.set_cons_succ, i64_w, i32_w]; rfl
           refine pure_ (i := 16) (N := some 31) (v := ?_) (a' := ?_) #[true,true,true,true,true,true,true,true,true,true,true,true,true,true,false,true,true,false,false,false,false,false,false,false,false,false,false,false,false,false,false,false,false,false,false] rfl rfl (any_of HT_.out (by kernel_rfl)) (fun _ _ _ h => h) (Or.inl ⟨by rfl, ?_⟩) ?_ ?_
           rotate_left; · intro w'; go_simp; with_reducible rfl
           rotate_left; · simp only [Act.put, List.setIfInBounds_toArray, List.set_cons_zero, List.set_cons_succ, i64_w, i32_w]; rfl
           refine pure_ (i := 17) (N := some 32) (v := ?_) (a' := ?_) #[true,true,true,true,true,true,true,true,true,true,true,true,true,true,false,true,true,true,false,false,false,false,false,false,false,false,false,false,false,false,false,false,false,false,false] rfl rfl (any_of HT_.out (by kernel_rfl)) (fun _ _ _ h => h) (Or.inl ⟨by rfl, ?_⟩) ?_ ?_
           rotate_left; · intro w'; go_simp; with_reducible rfl
           rotate_left; · simp only [Act.put, List.setIfInBounds_toArray, List.set_cons_zero, List.set_cons_succ, i64_w, i32_w]; rfl
           refine pure_ (i := 18) (N := some 33) (v := ?_) (a' := ?_) #[true,true,true,true,true,true,true,true,true,true,true,true,true,true,false,true,true,true,true,false,false,false,false,false,false,false,false,false,false,false,false,false,false,false,false] rfl rfl (any_of HT_.out (by kernel_rfl)) (fun _ _ _ h => h) (Or.inl ⟨by rfl, ?_⟩) ?_ ?_
           rotate_left; · intro w'; go_simp; with_reducible rfl
           rotate_left; · simp only [Act.put, List.setIfInBounds_toArray, List.set_cons_zero, List.set_cons_succ, i64_w, i32_w]; rfl
           refine take_ (i := 14) (N := some 29) (v := ?_) (a' := ?_) #[true,true,true,true,true,true,true,true,true,true,true,true,true,true,true,true,true,true,true,false,false,false,false,false,false,false,false,false,false,false,false,false,false,false,false] rfl rfl (take_ofW HT_.out HW_.out (by kernel_rfl)) (fun _ _ _ h => h) (Or.inl ⟨by rfl, ?_⟩) hHeld ?_ ?_
           rotate_left; · rintro w' ⟨s0, s1, s2, s3, s4⟩; go_simp; with_reducible rfl
           rotate_left; · simp only [Act.put, List.setIfInBounds_toArray, List.set_cons_zero, List.set_cons_succ, i64_w, i32_w]; rfl
           refine take_ (i := 19) (N := some 34) (v := ?_) (a' := ?_) #[true,true,true,true,true,true,true,true,true,true,true,true,true,true,true,true,true,true,true,true,false,false,false,false,false,false,false,false,false,false,false,false,false,false,false] rfl rfl (take_ofW HT_.out HW_.out (by kernel_rfl)) (fun _ _ _ h => h) (Or.inl ⟨by rfl, ?_⟩) hHeld ?_ ?_
           rotate_left; · rintro w' ⟨s0, s1, s2, s3, s4⟩; go_simp; with_reducible rfl
           rotate_left; · simp only [Act.put, List.setIfInBounds_toArray, List.set_cons_zero, List.set_cons_succ, i64_w, i32_w]; rfl
           refine pure_ (i := 20) (N := some 35) (v := ?_) (a' := ?_) #[true,true,true,true,true,true,true,true,true,true,true,true,true,true,true,true,true,true,true,true,true,false,false,false,false,false,false,false,false,false,false,false,false,false,false] rfl rfl (any_of HT_.out (by kernel_rfl)) (fun _ _ _ h => h) (Or.inl ⟨by rfl, ?_⟩) ?_ ?_
           rotate_left; · intro w'; go_simp; with_reducible rfl
           rotate_left; · simp only [Act.put, List.setIfInBounds_toArray, List.set_cons_zero, List.set_cons_succ, i64_w, i32_w]; rfl
           refine pure_ (i := 21) (N := some 36) (v := ?_) (a' := ?_) #[true,true,true,true,true,true,true,true,true,true,true,true,true,true,true,true,true,true,true,true,true,true,false,false,false,false,false,false,false,false,false,false,false,false,false] rfl rfl (any_of HT_.out (by kernel_rfl)) (fun _ _ _ h => h) (Or.inl ⟨by rfl, ?_⟩) ?_ ?_
           rotate_left; · intro w'; go_simp; with_reducible rfl
           rotate_left; · simp only [Act.put, List.setIfInBounds_toArray, List.set_cons_zero, List.set_cons_succ, i64_w, i32_w]; rfl
           refine pure_ (i := 22) (N := some 37) (v := undef) (a' := ?_) #[true,true,true,true,true,true,true,true,true,true,true,true,true,true,true,true,true,true,true,true,true,true,true,false,false,false,false,false,false,false,false,false,false,false,false] rfl rfl (any_of HT_.out (by kernel_rfl)) (fun _ _ _ h => h) (Or.inr ⟨by rfl, rfl⟩) ?_ ?_
           rotate_left; · simp only [Act.put, List.setIfInBounds_toArray, List.set_cons_zero, List.set_cons_succ, i64_w, i32_w]; rfl
           refine pure_ (i := 23) (N := some 38) (v := undef) (a' := ?_) #[true,true,true,true,true,true,true,true,true,true,true,true,true,true,true,true,true,true,true,true,true,true,true,true,false,false,false,false,false,false,false,false,false,false,false] rfl rfl (any_of HT_.out (by kernel_rfl)) (fun _ _ _ h => h) (Or.inr ⟨by rfl, rfl⟩) ?_ ?_
           rotate_left; · simp only [Act.put, List.setIfInBounds_toArray, List.set_cons_zero, List.set_cons_succ, i64_w, i32_w]; rfl
           refine pure_ (i := 24) (N := some 39) (v := undef) (a' := ?_) #[true,true,true,true,true,true,true,true,true,true,true,true,true,true,true,true,true,true,true,true,true,true,true,true,true,false,false,false,false,false,false,false,false,false,false] rfl rfl (any_of HT_.out (by kernel_rfl)) (fun _ _ _ h => h) (Or.inr ⟨by rfl, rfl⟩) ?_ ?_
           rotate_left; · simp only [Act.put, List.setIfInBounds_toArray, List.set_cons_zero, List.set_cons_succ, i64_w, i32_w]; rfl
           refine pure_ (i := 25) (N := some 40) (v := undef) (a' := ?_) #[true,true,true,true,true,true,true,true,true,true,true,true,true,true,true,true,true,true,true,true,true,true,true,true,true,true,false,false,false,false,false,false,false,false,false] rfl rfl (any_of HT_.out (by kernel_rfl)) (fun _ _ _ h => h) (Or.inr ⟨by rfl, rfl⟩) ?_ ?_
           rotate_left; · simp only [Act.put, List.setIfInBounds_toArray, List.set_cons_zero, List.set_cons_succ, i64_w, i32_w]; rfl
           refine pure_ (i := 26) (N := some 41) (v := undef) (a' := ?_) #[true,true,true,true,true,true,true,true,true,true,true,true,true,true,true,true,true,true,true,true,true,true,true,true,true,true,true,false,false,false,false,false,false,false,false] rfl rfl (any_of HT_.out (by kernel_rfl)) (fun _ _ _ h => h) (Or.inr ⟨by rfl, rfl⟩) ?_ ?_
           rotate_left; · simp only [Act.put, List.setIfInBounds_toArray, List.set_cons_zero, List.set_cons_succ, i64_w, i32_w]; rfl
           refine pure_ (i := 27) (N := some 42) (v := undef) (a' := ?_) #[true,true,true,true,true,true,true,true,true,true,true,true,true,true,true,true,true,true,true,true,true,true,true,true,true,true,true,true,false,false,false,false,false,false,false] rfl rfl (any_of HT_.out (by kernel_rfl)) (fun _ _ _ h => h) (Or.inr ⟨by rfl, rfl⟩) ?_ ?_
           rotate_left; · simp only [Act.put, List.setIfInBounds_toArray, List.set_cons_zero, List.set_cons_succ, i64_w, i32_w]; rfl
           refine pure_ (i := 28) (N := some 43) (v := undef) (a' := ?_) #[true,true,true,true,true,true,true,true,true,true,true,true,true,true,true,true,true,true,true,true,true,true,true,true,true,true,true,true,true,false,false,false,false,false,false] rfl rfl (any_of HT_.out (by kernel_rfl)) (fun _ _ _ h => h) (Or.inr ⟨by rfl, rfl⟩) ?_ ?_
           rotate_left; · simp only [Act.put, List.setIfInBounds_toArray, List.set_cons_zero, List.set_cons_succ, i64_w, i32_w]; rfl
           refine pure_ (i := 29) (N := some 44) (v := undef) (a' := ?_) #[true,true,true,true,true,true,true,true,true,true,true,true,true,true,true,true,true,true,true,true,true,true,true,true,true,true,true,true,true,true,false,false,false,false,false] rfl rfl (any_of HT_.out (by kernel_rfl)) (fun _ _ _ h => h) (Or.inr ⟨by rfl, rfl⟩) ?_ ?_
           rotate_left; · simp only [Act.put, List.setIfInBounds_toArray, List.set_cons_zero, List.set_cons_succ, i64_w, i32_w]; rfl
           refine pure_ (i := 30) (N := some 45) (v := undef) (a' := ?_) #[true,true,true,true,true,true,true,true,true,true,true,true,true,true,true,true,true,true,true,true,true,true,true,true,true,true,true,true,true,true,true,false,false,false,false] rfl rfl (any_of HT_.out (by kernel_rfl)) (fun _ _ _ h => h) (Or.inr ⟨by rfl, rfl⟩) ?_ ?_
           rotate_left; · simp only [Act.put, List.setIfInBounds_toArray, List.set_cons_zero, List.set_cons_succ, i64_w, i32_w]; rfl
           refine pure_ (i := 31) (N := some 46) (v := undef) (a' := ?_) #[true,true,true,true,true,true,true,true,true,true,true,true,true,true,true,true,true,true,true,true,true,true,true,true,true,true,true,true,true,true,true,true,false,false,false] rfl rfl (any_of HT_.out (by kernel_rfl)) (fun _ _ _ h => h) (Or.inr ⟨by rfl, rfl⟩) ?_ ?_
           rotate_left; · simp only [Act.put, List.setIfInBounds_toArray, List.set_cons_zero, List.set_cons_succ, i64_w, i32_w]; rfl
           refine pure_ (i := 32) (N := some 47) (v := ?_) (a' := ?_) #[true,true,true,true,true,true,true,true,true,true,true,true,true,true,true,true,true,true,true,true,true,true,true,true,true,true,true,true,true,true,true,true,true,false,false] rfl rfl (any_of HT_.out (by kernel_rfl)) (fun _ _ _ h => h) (Or.inl ⟨by rfl, ?_⟩) ?_ ?_
           rotate_left; · intro w'; go_simp; with_reducible rfl
           rotate_left; · simp only [Act.put, List.setIfInBounds_toArray, List.set_cons_zero, List.set_cons_succ, i64_w, i32_w]; rfl
           refine pure_ (i := 33) (N := some 48) (v := ?_) (a' := ?_) #[true,true,true,true,true,true,true,true,true,true,true,true,true,true,true,true,true,true,true,true,true,true,true,true,true,true,true,true,true,true,true,true,true,true,false] rfl rfl (any_of HT_.out (by kernel_rfl)) (fun _ _ _ h => h) (Or.inl ⟨by rfl, ?_⟩) ?_ ?_
           rotate_left; · intro w'; go_simp; with_reducible rfl
           rotate_left; · simp only [Act.put, List.setIfInBounds_toArray, List.set_cons_zero, List.set_cons_succ, i64_w, i32_w]; rfl
           refine pure_ (i := 34) (N := some 49) (v := ?_) (a' := ?_) #[true,true,true,true,true,true,true,true,true,true,true,true,true,true,true,true,true,true,true,true,true,true,true,true,true,true,true,true,true,true,true,true,true,true,true] rfl rfl (any_of HT_.out (by kernel_rfl)) (fun _ _ _ h => h) (Or.inl ⟨by rfl, ?_⟩) ?_ ?_
           rotate_left; · intro w'; go_simp; with_reducible rfl
           rotate_left; · simp only [Act.put, List.setIfInBounds_toArray, List.set_cons_zero, List.set_cons_succ, i64_w, i32_w]; rfl
           refine done_ (done_of HT_.out (by kernel_rfl)) ?_
           try go_wp2
           go_ret
           exact ⟨by first | rfl | (simp [errW_none, errW_some] <;> rfl) | (simp only [← hji13]; first | rfl | (simp [errW_none, errW_some] <;> rfl)) | (simp [*, errW_none, errW_some] <;> rfl), by repeat (first | (with_reducible first | exact HB.out | apply below_alloc | apply pw_below_drewN | apply below_drew1 | refine below_set ?_ GE194.out) | exact HB.out)⟩
          ·rw [if_neg c16] at H
           have c16b0 : decide ((rd l1 x5_1) ≤ (rd l1 (ji13))) = false := decide_eq_false c16
           clear c16
           replace H := Option.bind_eq_some_iff.mp H
           obtain ⟨t201, A190, H⟩ := H
           replace H : (if 0 < (l1.length : Int) then ((spec_l01Ones.f k1 (rd l1 0)).bind fun t203 => (if t201 = t203 then (spec_l03Chain.l0 k1 l1 (wrap64 (x5_1 + 1)) a0_0 l0_1) else (some 2))) else (none)) = some r := H
           have A19 := Aside0.mk A190
           clear A190
           by_cases c20 : 0 < (l1.length : Int)
           ·rw [if_pos c20] at H
            have c20b0 : decide (0 < (l1.length : Int)) = true := decide_eq_true c20
            have c20b1 : decide (0 < l1.length) = true := decide_eq_true (by omega)
            clear c20
            replace H := Option.bind_eq_some_iff.mp H
            obtain ⟨t203, A210, H⟩ := H
            replace H : (if t201 = t203 then (spec_l03Chain.l0 k1 l1 (wrap64 (x5_1 + 1)) a0_0 l0_1) else (some 2)) = some r := H
            have A21 := Aside0.mk A210
            clear A210
            by_cases c22 : t201 = t203
            ·rw [if_pos c22] at H
             have c22b0 : (t201 == t203) = true := beq_iff_eq.mpr c22
             have c22b1 : (t201 != t203) = false := bne_eq_false_iff_eq.mpr c22
             clear c22
             have H' := Aside0.mk H
             clear H
             try go_wp2
             have n0_ := Aside0.mk (blk_drew BK194.out)
             have n1_ := Aside0.mk (below_drew1 HB.out)
             clear BK194
             clear HB
             have BK194 := n0_
             have HB := n1_
             clear n0_ n1_
             have p196 : 0 ≤ (x5_1 : Int) := of_decide_eq_true (by first | (with_reducible assumption) | assumption)
             have q196 : x5_1 < (l1.length : Int) := of_decide_eq_true (by first | (with_reducible assumption) | assumption)
             obtain ⟨ad196, e196, hx196_0⟩ := Kd.at_int HR1.out x5_1 p196 q196
             have hw196_0 := hx196_0
             cases e196
             replace hx196_0 := (HB.out.cell (World.block_lt_of_cell? w _ hx196_0)).trans hx196_0
             replace p196 := eq_true p196
             replace q196 := eq_true q196
             have p198 : 0 ≤ (x5_1 : Int) := of_decide_eq_true (by first | (with_reducible assumption) | assumption)
             have q198 : x5_1 < (l1.length : Int) := of_decide_eq_true (by first | (with_reducible assumption) | assumption)
             obtain ⟨ad198, e198, hx198_0⟩ := Kd.at_int HR1.out x5_1 p198 q198
             have hw198_0 := hx198_0
             obtain rfl : ad196 = ad198 := (by injection e198)
             replace hx198_0 := (HB.out.cell (World.block_lt_of_cell? w _ hx198_0)).trans hx198_0
             replace p198 := eq_true p198
             replace q198 := eq_true q198
             have p199 : 0 ≤ ((ji13) : Int) := of_decide_eq_true (by first | (with_reducible assumption) | assumption)
             have q199 : (ji13) < (l1.length : Int) := of_decide_eq_true (by first | (with_reducible assumption) | assumption)
             obtain ⟨ad199, e199, hx199_0⟩ := Kd.at_int HR1.out (ji13) p199 q199
             have hw199_0 := hx199_0
             obtain rfl : ad196 = ad199 := (by injection e199)
             replace hx199_0 := (HB.out.cell (World.block_lt_of_cell? w _ hx199_0)).trans hx199_0
             replace p199 := eq_true p199
             replace q199 := eq_true q199
             have p200 : 0 ≤ (x5_1 : Int) := of_decide_eq_true (by first | (with_reducible assumption) | assumption)
             have q200 : x5_1 < (l1.length : Int) := of_decide_eq_true (by first | (with_reducible assumption) | assumption)
             obtain ⟨ad200, e200, hx200_0⟩ := Kd.at_int HR1.out x5_1 p200 q200
             have hw200_0 := hx200_0
             obtain rfl : ad196 = ad200 := (by injection e200)
             replace hx200_0 := (HB.out.cell (World.block_lt_of_cell? w _ hx200_0)).trans hx200_0
             replace p200 := eq_true p200
             replace q200 := eq_true q200
             have p202 : 0 ≤ (0 : Int) := (by omega)
             have q202 : 0 < (l1.length : Int) := of_decide_eq_true (by first | (with_reducible assumption) | assumption)
             obtain ⟨ad202, e202, hx202_0⟩ := Kd.at_int HR1.out 0 p202 q202
             have hw202_0 := hx202_0
             (try rw [show ((0 : Int)).toNat = 0 from rfl] at hw202_0)
             (try rw [show 0 * 1 = 0 from rfl] at hw202_0)
             (try rw [Addr.add_zero'] at hw202_0)
             obtain rfl : ad196 = ad202 := (by injection e202)
             have qi202 : (0 < l1.length) = True := eq_true (by omega)
             (try rw [show ((0 : Int)).toNat = 0 from rfl] at hx202_0)
             (try rw [Addr.add_zero'] at hx202_0)
             replace hx202_0 := (HB.out.cell (World.block_lt_of_cell? w _ hx202_0)).trans hx202_0
             replace p202 := eq_true p202
             replace q202 := eq_true q202
             refine start_ (n := 35) (S := fun w' => w'.cell? ⟨gb194, 0, none⟩ = some (.int .i64 a0_0) ∧ w'.cell? ⟨gb194, 1, none⟩ = some (.slice A0_1 l0_1.length c0_1) ∧ w'.cell? (ad196.add (x5_1).toNat) = some (.int .i64 (rd l1 x5_1)) ∧ w'.cell? (ad196.add (x5_1).toNat) = some (.int .i64 (rd l1 x5_1)) ∧ w'.cell? (ad196.add ((ji13)).toNat) = some (.int .i64 (rd l1 (ji13))) ∧ w'.cell? (ad196.add (x5_1).toNat) = some (.int .i64 (rd l1 x5_1)) ∧ w'.cell? ad196 = some (.int .i64 (rd l1 0))) (ds := []) #[false,false,false,false,false,false,false,false,false,false,false,false,false,false,false,false,false,false,false,false,false,false,false,false,false,false,false,false,false,false,false,false,false,false,false] (by kernel_rfl) rfl rfl ⟨(blk_cell BK194.out 0).trans rfl, (blk_cell BK194.out 1).trans rfl, ((HB.out.cell (World.block_lt_of_cell? w _ hw196_0)).trans hw196_0), ((HB.out.cell (World.block_lt_of_cell? w _ hw198_0)).trans hw198_0), ((HB.out.cell (World.block_lt_of_cell? w _ hw199_0)).trans hw199_0), ((HB.out.cell (World.block_lt_of_cell? w _ hw200_0)).trans hw200_0), ((HB.out.cell (World.block_lt_of_cell? w _ hw202_0)).trans hw202_0)⟩ (fun hHeld => ?_); refine with_tabW spec_l03Chain.tab6 spec_l03Chain.bits6 (fun HT_ HW_ => ?_)
             generalize wr.drew = w23 at BK194 HB hx196_0 hx198_0 hx199_0 hx200_0 hx202_0 hHeld ⊢
             refine pure_ (i := 1) (N := some 16) (v := ?_) (a' := ?_) #[false,true,false,false,false,false,false,false,false,false,false,false,false,false,false,false,false,false,false,false,false,false,false,false,false,false,false,false,false,false,false,false,false,false,false] rfl rfl (any_of HT_.out (by kernel_rfl)) (fun _ _ _ h => h) (Or.inl ⟨by rfl, ?_⟩) ?_ ?_
             rotate_left; · intro w'; go_simp; with_reducible rfl
             rotate_left; · simp only [Act.put, List.setIfInBounds_toArray, List.set_cons_zero, List.set_cons_succ, i64_w, i32_w]; rfl
             refine pure_ (i := 2) (N := some 17) (v := ?_) (a' := ?_) #[false,true,true,false,false,false,false,false,false,false,false,false,false,false,false,false,false,false,false,false,false,false,false,false,false,false,false,false,false,false,false,false,false,false,false] rfl rfl (any_of HT_.out (by kernel_rfl)) (fun _ _ _ h => h) (Or.inl ⟨by rfl, ?_⟩) ?_ ?_
             rotate_left; · intro w'; go_simp; with_reducible rfl
             rotate_left; · simp only [Act.put, List.setIfInBounds_toArray, List.set_cons_zero, List.set_cons_succ, i64_w, i32_w]; rfl
             refine pure_ (i := 3) (N := some 18) (v := ?_) (a' := ?_) #[false,true,true,true,false,false,false,false,false,false,false,false,false,false,false,false,false,false,false,false,false,false,false,false,false,false,false,false,false,false,false,false,false,false,false] rfl rfl (any_of HT_.out (by kernel_rfl)) (fun _ _ _ h => h) (Or.inl ⟨by rfl, ?_⟩) ?_ ?_
             rotate_left; · intro w'; go_simp; with_reducible rfl
             rotate_left; · simp only [Act.put, List.setIfInBounds_toArray, List.set_cons_zero, List.set_cons_succ, i64_w, i32_w]; rfl
             refine take_ (i := 0) (N := some 15) (v := ?_) (a' := ?_) #[true,true,true,true,false,false,false,false,false,false,false,false,false,false,false,false,false,false,false,false,false,false,false,false,false,false,false,false,false,false,false,false,false,false,false] rfl rfl (take_ofW HT_.out HW_.out (by kernel_rfl)) (fun _ _ _ h => h) (Or.inl ⟨by rfl, ?_⟩) hHeld ?_ ?_
             rotate_left; · rintro w' ⟨s0, s1, s2, s3, s4, s5, s6⟩; go_simp; with_reducible rfl
             rotate_left; · simp only [Act.put, List.setIfInBounds_toArray, List.set_cons_zero, List.set_cons_succ, i64_w, i32_w]; rfl
             refine take_ (i := 4) (N := some 19) (v := ?_) (a' := ?_) #[true,true,true,true,true,false,false,false,false,false,false,false,false,false,false,false,false,false,false,false,false,false,false,false,false,false,false,false,false,false,false,false,false,false,false] rfl rfl (take_ofW HT_.out HW_.out (by kernel_rfl)) (fun _ _ _ h => h) (Or.inl ⟨by rfl, ?_⟩) hHeld ?_ ?_
             rotate_left; · rintro w' ⟨s0, s1, s2, s3, s4, s5, s6⟩; go_simp; with_reducible rfl
             rotate_left; · simp only [Act.put, List.setIfInBounds_toArray, List.set_cons_zero, List.set_cons_succ, i64_w, i32_w]; rfl
             refine one_ (i := 5) (N := some 20) #[true,true,true,true,true,true,false,false,false,false,false,false,false,false,false,false,false,false,false,false,false,false,false,false,false,false,false,false,false,false,false,false,false,false,false] rfl rfl (one_of HT_.out (by kernel_rfl)) (by decide) (fun K hK => ?_)
             refine goes_ Try.func50 (by kernel_rfl) rfl #[.agg #[.int .i64 a0_0, .slice A0_1 l0_1.length c0_1], .int .i64 (rd l1 x5_1)] (by rfl) rfl rfl (by (try simp only [List.map_toArray, List.map_cons, List.map_nil]); first | done | rfl | (simp only [List.length_drop, List.length_take]; rfl)) ?_
             with_reducible refine (spec_l01Has.calls k1 a0_0 _ _ l0_1 (rd l1 x5_1) true _ ?side1 ?side2 A10.out).mono ?_
             (case side1 => repeat (first | exact (Kd.C_below HR0_1.out HB.out) | (with_reducible refine Kd.C_alloc ?_ _) | (with_reducible refine Kd.C_drewN ?_ _) | (with_reducible refine Kd.C_drew ?_)))
             (case side2 => exact HC0_1.out)
             rintro e w24 ⟨rfl, hb⟩
             refine ⟨_, rfl, ?_⟩
             have n0_ := Aside0.mk (blk_below (g := gb194) (o := .cells #[.int .i64 a0_0, .slice A0_1 l0_1.length c0_1] 26 (0, 0)) (by (with_reducible repeat (first | refine blk_drewN ?_ _ | refine blk_drew ?_ | refine blk_alloc ?_ _)); exact BK194.out) hb)
             have n1_ := Aside0.mk (below_step (by repeat (first | (with_reducible first | exact HB.out | apply below_alloc | apply pw_below_drewN | apply below_drew1 | refine below_set ?_ GE194.out) | exact HB.out)) hb)
             clear BK194
             clear HB
             have BK194 := n0_
             have HB := n1_
             clear n0_ n1_
             (try clear hb)
             (try clear hb2)
             (try clear hk)
             (try clear hi)
             refine hK.out _ _ ⟨(blk_cell BK194.out 0).trans rfl, (blk_cell BK194.out 1).trans rfl, ((HB.out.cell (World.block_lt_of_cell? w _ hw196_0)).trans hw196_0), ((HB.out.cell (World.block_lt_of_cell? w _ hw198_0)).trans hw198_0), ((HB.out.cell (World.block_lt_of_cell? w _ hw199_0)).trans hw199_0), ((HB.out.cell (World.block_lt_of_cell? w _ hw200_0)).trans hw200_0), ((HB.out.cell (World.block_lt_of_cell? w _ hw202_0)).trans hw202_0)⟩ (fun hHeld => ?_)
             clear hK K
             refine norm_ (a' := ?_) ?_ ?_
             rotate_left
             ·show Act.put _ (some 20) _ = _
              simp only [Act.put, List.setIfInBounds_toArray, List.set_cons_zero, List.set_cons_succ, i64_w, i32_w]
              rfl
             refine pure_ (i := 6) (N := some 21) (v := ?_) (a' := ?_) #[true,true,true,true,true,true,true,false,false,false,false,false,false,false,false,false,false,false,false,false,false,false,false,false,false,false,false,false,false,false,false,false,false,false,false] rfl rfl (any_of HT_.out (by kernel_rfl)) (fun _ _ _ h => h) (Or.inl ⟨by rfl, ?_⟩) ?_ ?_
             rotate_left; · intro w'; go_simp; with_reducible rfl
             rotate_left; · simp only [Act.put, List.setIfInBounds_toArray, List.set_cons_zero, List.set_cons_succ, i64_w, i32_w]; rfl
             refine pure_ (i := 7) (N := some 22) (v := ?_) (a' := ?_) #[true,true,true,true,true,true,true,true,false,false,false,false,false,false,false,false,false,false,false,false,false,false,false,false,false,false,false,false,false,false,false,false,false,false,false] rfl rfl (any_of HT_.out (by kernel_rfl)) (fun _ _ _ h => h) (Or.inl ⟨by rfl, ?_⟩) ?_ ?_
             rotate_left; · intro w'; go_simp; with_reducible rfl
             rotate_left; · simp only [Act.put, List.setIfInBounds_toArray, List.set_cons_zero, List.set_cons_succ, i64_w, i32_w]; rfl
             refine pure_ (i := 8) (N := some 23) (v := ?_) (a' := ?_) #[true,true,true,true,true,true,true,true,true,false,false,false,false,false,false,false,false,false,false,false,false,false,false,false,false,false,false,false,false,false,false,false,false,false,false] rfl rfl (any_of HT_.out (by kernel_rfl)) (fun _ _ _ h => h) (Or.inl ⟨by rfl, ?_⟩) ?_ ?_
             rotate_left; · intro w'; go_simp; with_reducible rfl
             rotate_left; · simp only [Act.put, List.setIfInBounds_toArray, List.set_cons_zero, List.set_cons_succ, i64_w, i32_w]; rfl
             refine pure_ (i := 9) (N := some 24) (v := ?_) (a' := ?_) #[true,true,true,true,true,true,true,true,true,true,false,false,false,false,false,false,false,false,false,false,false,false,false,false,false,false,false,false,false,false,false,false,false,false,false] rfl rfl (any_of HT_.out (by kernel_rfl)) (fun _ _ _ h => h) (Or.inl ⟨by rfl, ?_⟩) ?_ ?_
             rotate_left; · intro w'; go_simp; with_reducible rfl
             rotate_left; · simp only [Act.put, List.setIfInBounds_toArray, List.set_cons_zero, List.set_cons_succ, i64_w, i32_w]; rfl
             refine pure_ (i := 10) (N := some 25) (v := ?_) (a' := ?_) #[true,true,true,true,true,true,true,true,true,true,true,false,false,false,false,false,false,false,false,false,false,false,false,false,false,false,false,false,false,false,false,false,false,false,false] rfl rfl (any_of HT_.out (by kernel_rfl)) (fun _ _ _ h => h) (Or.inl ⟨by rfl, ?_⟩) ?_ ?_
             rotate_left; · intro w'; go_simp; with_reducible rfl
             rotate_left; · simp only [Act.put, List.setIfInBounds_toArray, List.set_cons_zero, List.set_cons_succ, i64_w, i32_w]; rfl
             refine pure_ (i := 11) (N := some 26) (v := ?_) (a' := ?_) #[true,true,true,true,true,true,true,true,true,true,true,true,false,false,false,false,false,false,false,false,false,false,false,false,false,false,false,false,false,false,false,false,false,false,false] rfl rfl (any_of HT_.out (by kernel_rfl)) (fun _ _ _ h => h) (Or.inl ⟨by rfl, ?_⟩) ?_ ?_
             rotate_left; · intro w'; go_simp; with_reducible rfl
             rotate_left; · simp only [Act.put, List.setIfInBounds_toArray, List.set_cons_zero, List.set_cons_succ, i64_w, i32_w]; rfl
             refine pure_ (i := 12) (N := some 27) (v := ?_) (a' := ?_) #[true,true,true,true,true,true,true,true,true,true,true,true,true,false,false,false,false,false,false,false,false,false,false,false,false,false,false,false,false,false,false,false,false,false,false] rfl rfl (any_of HT_.out (by kernel_rfl)) (fun _ _ _ h => h) (Or.inl ⟨by rfl, ?_⟩) ?_ ?_
             rotate_left; · intro w'; go_simp; with_reducible rfl
             rotate_left; · simp only [Act.put, List.setIfInBounds_toArray, List.set_cons_zero, List.set_cons_succ, i64_w, i32_w]; rfl
             refine pure_ (i := 13) (N := some 28) (v := ?_) (a' := ?_) #[true,true,true,true,true,true,true,true,true,true,true,true,true,true,false,false,false,false,false,false,false,false,false,false,false,false,false,false,false,false,false,false,false,false,false] rfl rfl (any_of HT_.out (by kernel_rfl)) (fun _ _ _ h => h) (Or.inl ⟨by rfl, ?_⟩) ?_ ?_
             rotate_left; · intro w'; go_simp; with_reducible rfl
             rotate_left; · simp only [Act.put, List.setIfInBounds_toArray, List.set_cons_zero, List.set_cons_succ, i64_w, i32_w]; rfl
             refine pure_ (i := 15) (N := some 30) (v := ?_) (a' := ?_) #[true,true,true,true,true,true,true,true,true,true,true,true,true,true,false,true,false,false,false,false,false,false,false,false,false,false,false,false,false,false,false,false,false,false,false] rfl rfl (any_of HT_.out (by kernel_rfl)) (fun _ _ _ h => h) (Or.inl ⟨by rfl, ?_⟩) ?_ ?_
             rotate_left; · intro w'; go_simp; with_reducible rfl
             rotate_left; · simp only [Act.put, List.setIfInBounds_toArray, List.set_cons_zero, List.set_cons_succ, i64_w, i32_w]; rfl
             refine pure_ (i := 16) (N := some 31) (v := ?_) (a' := ?_) #[true,true,true,true,true,true,true,true,true,true,true,true,true,true,false,true,true,false,false,false,false,false,false,false,false,false,false,false,false,false,false,false,false,false,false] rfl rfl (any_of HT_.out (by kernel_rfl)) (fun _ _ _ h => h) (Or.inl ⟨by rfl, ?_⟩) ?_ ?_
             rotate_left; · intro w'; go_simp; with_reducible rfl
             rotate_left; · simp only [Act.put, List.setIfInBounds_toArray, List.set_cons_zero, List.set_cons_succ, i64_w, i32_w]; rfl
             refine pure_ (i := 17) (N := some 32) (v := ?_) (a' := ?_) #[true,true,true,true,true,true,true,true,true,true,true,true,true,true,false,true,true,true,false,false,false,false,false,false,false,false,false,false,false,false,false,false,false,false,false] rfl rfl (any_of HT_.out (by kernel_rfl)) (fun _ _ _ h => h) (Or.inl ⟨by rfl, ?_⟩) ?_ ?_
             rotate_left; · intro w'; go_simp; with_reducible rfl
             rotate_left; · simp only [Act.put, List.setIfInBounds_toArray, List.set_cons_zero, List.set_cons_succ, i64_w, i32_w]; rfl
             refine pure_ (i := 18) (N := some 33) (v := ?_) (a' := ?_) #[true,true,true,true,true,true,true,true,true,true,true,true,true,true,false,true,true,true,true,false,false,false,false,false,false,false,false,false,false,false,false,false,false,false,false] rfl rfl (any_of HT_.out (by kernel_rfl)) (fun _ _ _ h => h) (Or.inl ⟨by rfl, ?_⟩) ?_ ?_
             rotate_left; · intro w'; go_simp; with_reducible rfl
             rotate_left; · simp only [Act.put, List.setIfInBounds_toArray, List.set_cons_zero, List.set_cons_succ, i64_w, i32_w]; rfl
             refine take_ (i := 14) (N := some 29) (v := ?_) (a' := ?_) #[true,true,true,true,true,true,true,true,true,true,true,true,true,true,true,true,true,true,true,false,false,false,false,false,false,false,false,false,false,false,false,false,false,false,false] rfl rfl (take_ofW HT_.out HW_.out (by kernel_rfl)) (fun _ _ _ h => h) (Or.inl ⟨by rfl, ?_⟩) hHeld ?_ ?_
             rotate_left; · rintro w' ⟨s0, s1, s2, s3, s4, s5, s6⟩; go_simp; with_reducible rfl
             rotate_left; · simp only [Act.put, List.setIfInBounds_toArray, List.set_cons_zero, List.set_cons_succ, i64_w, i32_w]; rfl
             refine take_ (i := 19) (N := some 34) (v := ?_) (a' := ?_) #[true,true,true,true,true,true,true,true,true,true,true,true,true,true,true,true,true,true,true,true,false,false,false,false,false,false,false,false,false,false,false,false,false,false,false] rfl rfl (take_ofW HT_.out HW_.out (by kernel_rfl)) (fun _ _ _ h => h) (Or.inl ⟨by rfl, ?_⟩) hHeld ?_ ?_
             rotate_left; · rintro w' ⟨s0, s1, s2, s3, s4, s5, s6⟩; go_simp; with_reducible rfl
             rotate_left; · simp only [Act.put, List.setIfInBounds_toArray, List.set_cons_zero, List.set_cons_succ, i64_w, i32_w]; rfl
             refine pure_ (i := 20) (N := some 35) (v := ?_) (a' := ?_) #[true,true,true,true,true,true,true,true,true,true,true,true,true,true,true,true,true,true,true,true,true,false,false,false,false,false,false,false,false,false,false,false,false,false,false] rfl rfl (any_of HT_.out (by kernel_rfl)) (fun _ _ _ h => h) (Or.inl ⟨by rfl, ?_⟩) ?_ ?_
             rotate_left; · intro w'; go_simp; with_reducible rfl
             rotate_left; · simp only [Act.put, List.setIfInBounds_toArray, List.set_cons_zero, List.set_cons_succ, i64_w, i32_w]; rfl
             refine pure_ (i := 21) (N := some 36) (v := ?_) (a' := ?_) #[true,true,true,true,true,true,true,true,true,true,true,true,true,true,true,true,true,true,true,true,true,true,false,false,false,false,false,false,false,false,false,false,false,false,false] rfl rfl (any_of HT_.out (by kernel_rfl)) (fun _ _ _ h => h) (Or.inl ⟨by rfl, ?_⟩) ?_ ?_
             rotate_left; · intro w'; go_simp; with_reducible rfl
             rotate_left; · simp only [Act.put, List.setIfInBounds_toArray, List.set_cons_zero, List.set_cons_succ, i64_w, i32_w]; rfl
             refine pure_ (i := 22) (N := some 37) (v := ?_) (a' := ?_) #[true,true,true,true,true,true,true,true,true,true,true,true,true,true,true,true,true,true,true,true,true,true,true,false,false,false,false,false,false,false,false,false,false,false,false] rfl rfl (any_of HT_.out (by kernel_rfl)) (fun _ _ _ h => h) (Or.inl ⟨by rfl, ?_⟩) ?_ ?_
             rotate_left; · intro w'; go_simp; with_reducible rfl
             rotate_left; · simp only [Act.put, List.setIfInBounds_toArray, List.set_cons_zero, List.set_cons_succ, i64_w, i32_w]; rfl
             refine pure_ (i := 23) (N := some 38) (v := ?_) (a' := ?_) #[true,true,true,true,true,true,true,true,true,true,true,true,true,true,true,true,true,true,true,true,true,true,true,true,false,false,false,false,false,false,false,false,false,false,false] rfl rfl (any_of HT_.out (by kernel_rfl)) (fun _ _ _ h => h) (Or.inl ⟨by rfl, ?_⟩) ?_ ?_
             rotate_left; · intro w'; go_simp; with_reducible rfl
             rotate_left; · simp only [Act.put, List.setIfInBounds_toArray, List.set_cons_zero, List.set_cons_succ, i64_w, i32_w]; rfl
             refine pure_ (i := 24) (N := some 39) (v := ?_) (a' := ?_) #[true,true,true,true,true,true,true,true,true,true,true,true,true,true,true,true,true,true,true,true,true,true,true,true,true,false,false,false,false,false,false,false,false,false,false] rfl rfl (any_of HT_.out (by kernel_rfl)) (fun _ _ _ h => h) (Or.inl ⟨by rfl, ?_⟩) ?_ ?_
             rotate_left; · intro w'; go_simp; with_reducible rfl
             rotate_left; · simp only [Act.put, List.setIfInBounds_toArray, List.set_cons_zero, List.set_cons_succ, i64_w, i32_w]; rfl
             refine pure_ (i := 27) (N := some 42) (v := ?_) (a' := ?_) #[true,true,true,true,true,true,true,true,true,true,true,true,true,true,true,true,true,true,true,true,true,true,true,true,true,false,false,true,false,false,false,false,false,false,false] rfl rfl (any_of HT_.out (by kernel_rfl)) (fun _ _ _ h => h) (Or.inl ⟨by rfl, ?_⟩) ?_ ?_
             rotate_left; · intro w'; go_simp; with_reducible rfl
             rotate_left; · simp only [Act.put, List.setIfInBounds_toArray, List.set_cons_zero, List.set_cons_succ, i64_w, i32_w]; rfl
             refine pure_ (i := 28) (N := some 43) (v := ?_) (a' := ?_) #[true,true,true,true,true,true,true,true,true,true,true,true,true,true,true,true,true,true,true,true,true,true,true,true,true,false,false,true,true,false,false,false,false,false,false] rfl rfl (any_of HT_.out (by kernel_rfl)) (fun _ _ _ h => h) (Or.inl ⟨by rfl, ?_⟩) ?_ ?_
             rotate_left; · intro w'; go_simp; with_reducible rfl
             rotate_left; · simp only [Act.put, List.setIfInBounds_toArray, List.set_cons_zero, List.set_cons_succ, i64_w, i32_w]; rfl
             refine take_ (i := 25) (N := some 40) (v := ?_) (a' := ?_) #[true,true,true,true,true,true,true,true,true,true,true,true,true,true,true,true,true,true,true,true,true,true,true,true,true,true,false,true,true,false,false,false,false,false,false] rfl rfl (take_ofW HT_.out HW_.out (by kernel_rfl)) (fun _ _ _ h => h) (Or.inl ⟨by rfl, ?_⟩) hHeld ?_ ?_
             rotate_left; · rintro w' ⟨s0, s1, s2, s3, s4, s5, s6⟩; go_simp; with_reducible rfl
             rotate_left; · simp only [Act.put, List.setIfInBounds_toArray, List.set_cons_zero, List.set_cons_succ, i64_w, i32_w]; rfl
             refine take_ (i := 29) (N := some 44) (v := ?_) (a' := ?_) #[true,true,true,true,true,true,true,true,true,true,true,true,true,true,true,true,true,true,true,true,true,true,true,true,true,true,false,true,true,true,false,false,false,false,false] rfl rfl (take_ofW HT_.out HW_.out (by kernel_rfl)) (fun _ _ _ h => h) (Or.inl ⟨by rfl, ?_⟩) hHeld ?_ ?_
             rotate_left; · rintro w' ⟨s0, s1, s2, s3, s4, s5, s6⟩; go_simp; with_reducible rfl
             rotate_left; · simp only [Act.put, List.setIfInBounds_toArray, List.set_cons_zero, List.set_cons_succ, i64_w, i32_w]; rfl
             refine one_ (i := 26) (N := some 41) #[true,true,true,true,true,true,true,true,true,true,true,true,true,true,true,true,true,true,true,true,true,true,true,true,true,true,true,true,true,true,false,false,false,false,false] rfl rfl (one_of HT_.out (by kernel_rfl)) (by decide) (fun K hK => ?_)
             refine goes_ Try.func44 (by kernel_rfl) rfl #[.int .i64 (rd l1 x5_1)] (by rfl) rfl rfl (by (try simp only [List.map_toArray, List.map_cons, List.map_nil]); first | done | rfl | (simp only [List.length_drop, List.length_take]; rfl)) ?_
             with_reducible refine (spec_l01Ones.calls k1 (rd l1 x5_1) t201 _ A19.out).mono ?_
             rintro e w' ⟨rfl, ⟨nd, rfl⟩⟩
             refine ⟨_, rfl, ?_⟩
             refine hK.out _ _ ⟨(blk_cell BK194.out 0).trans rfl, (blk_cell BK194.out 1).trans rfl, ((HB.out.cell (World.block_lt_of_cell? w _ hw196_0)).trans hw196_0), ((HB.out.cell (World.block_lt_of_cell? w _ hw198_0)).trans hw198_0), ((HB.out.cell (World.block_lt_of_cell? w _ hw199_0)).trans hw199_0), ((HB.out.cell (World.block_lt_of_cell? w _ hw200_0)).trans hw200_0), ((HB.out.cell (World.block_lt_of_cell? w _ hw202_0)).trans hw202_0)⟩ (fun hHeld => ?_)
             clear hK K
             refine norm_ (a' := ?_) ?_ ?_
             rotate_left
             ·show Act.put _ (some 41) _ = _
              simp only [Act.put, List.setIfInBounds_toArray, List.set_cons_zero, List.set_cons_succ, i64_w, i32_w]
              rfl
             refine one_ (i := 30) (N := some 45) #[true,true,true,true,true,true,true,true,true,true,true,true,true,true,true,true,true,true,true,true,true,true,true,true,true,true,true,true,true,true,true,false,false,false,false] rfl rfl (one_of HT_.out (by kernel_rfl)) (by decide) (fun K hK => ?_)
             refine goes_ Try.func44 (by kernel_rfl) rfl #[.int .i64 (rd l1 0)] (by rfl) rfl rfl (by (try simp only [List.map_toArray, List.map_cons, List.map_nil]); first | done | rfl | (simp only [List.length_drop, List.length_take]; rfl)) ?_
             with_reducible refine (spec_l01Ones.calls k1 (rd l1 0) t203 _ A21.out).mono ?_
             rintro e w' ⟨rfl, ⟨nd, rfl⟩⟩
             refine ⟨_, rfl, ?_⟩
             refine hK.out _ _ ⟨(blk_cell BK194.out 0).trans rfl, (blk_cell BK194.out 1).trans rfl, ((HB.out.cell (World.block_lt_of_cell? w _ hw196_0)).trans hw196_0), ((HB.out.cell (World.block_lt_of_cell? w _ hw198_0)).trans hw198_0), ((HB.out.cell (World.block_lt_of_cell? w _ hw199_0)).trans hw199_0), ((HB.out.cell (World.block_lt_of_cell? w _ hw200_0)).trans hw200_0), ((HB.out.cell (World.block_lt_of_cell? w _ hw202_0)).trans hw202_0)⟩ (fun hHeld => ?_)
             clear hK K
             refine norm_ (a' := ?_) ?_ ?_
             rotate_left
             ·show Act.put _ (some 45) _ = _
              simp only [Act.put, List.setIfInBounds_toArray, List.set_cons_zero, List.set_cons_succ, i64_w, i32_w]
              rfl
             refine pure_ (i := 31) (N := some 46) (v := ?_) (a' := ?_) #[true,true,true,true,true,true,true,true,true,true,true,true,true,true,true,true,true,true,true,true,true,true,true,true,true,true,true,true,true,true,true,true,false,false,false] rfl rfl (any_of HT_.out (by kernel_rfl)) (fun _ _ _ h => h) (Or.inl ⟨by rfl, ?_⟩) ?_ ?_
             rotate_left; · intro w'; go_simp; with_reducible rfl
             rotate_left; · simp only [Act.put, List.setIfInBounds_toArray, List.set_cons_zero, List.set_cons_succ, i64_w, i32_w]; rfl
             refine pure_ (i := 32) (N := some 47) (v := ?_) (a' := ?_) #[true,true,true,true,true,true,true,true,true,true,true,true,true,true,true,true,true,true,true,true,true,true,true,true,true,true,true,true,true,true,true,true,true,false,false] rfl rfl (any_of HT_.out (by kernel_rfl)) (fun _ _ _ h => h) (Or.inl ⟨by rfl, ?_⟩) ?_ ?_
             rotate_left; · intro w'; go_simp; with_reducible rfl
             rotate_left; · simp only [Act.put, List.setIfInBounds_toArray, List.set_cons_zero, List.set_cons_succ, i64_w, i32_w]; rfl
             refine pure_ (i := 33) (N := some 48) (v := ?_) (a' := ?_) #[true,true,true,true,true,true,true,true,true,true,true,true,true,true,true,true,true,true,true,true,true,true,true,true,true,true,true,true,true,true,true,true,true,true,false] rfl rfl (any_of HT_.out (by kernel_rfl)) (fun _ _ _ h => h) (Or.inl ⟨by rfl, ?_⟩) ?_ ?_
             rotate_left; · intro w'; go_simp; with_reducible rfl
             rotate_left; · simp only [Act.put, List.setIfInBounds_toArray, List.set_cons_zero, List.set_cons_succ, i64_w, i32_w]; rfl
             refine pure_ (i := 34) (N := some 49) (v := ?_) (a' := ?_) #[true,true,true,true,true,true,true,true,true,true,true,true,true,true,true,true,true,true,true,true,true,true,true,true,true,true,true,true,true,true,true,true,true,true,true] rfl rfl (any_of HT_.out (by kernel_rfl)) (fun _ _ _ h => h) (Or.inl ⟨by rfl, ?_⟩) ?_ ?_
             rotate_left; · intro w'; go_simp; with_reducible rfl
             rotate_left; · simp only [Act.put, List.setIfInBounds_toArray, List.set_cons_zero, List.set_cons_succ, i64_w, i32_w]; rfl
             refine done_ (done_of HT_.out (by kernel_rfl)) ?_
             try go_wp2
             go_roundg k1
             case measure => have := HK1.out; omega
             case rel => exact ⟨(wrap64 (x5_1 + 1)), (by first | rfl | (simp; done) | (simp [*]; done)), H', ⟨by have := HK1.out; omega⟩, ⟨by (with_reducible repeat (first | refine blk_drewN ?_ _ | refine blk_drew ?_ | refine blk_alloc ?_ _)); exact BK194.out⟩, ⟨by repeat (first | (with_reducible first | exact HB.out | apply below_alloc | apply pw_below_drewN | apply below_drew1 | refine below_set ?_ GE194.out) | exact HB.out)⟩⟩
            ·rw [if_neg c22] at H
             have c22b0 : (t201 == t203) = false := beq_eq_false_iff_ne.mpr c22
             have c22b1 : (t201 != t203) = true := bne_iff_ne.mpr c22
             obtain rfl := Option.some.inj H
             try go_wp2
             have n0_ := Aside0.mk (blk_drew BK194.out)
             have n1_ := Aside0.mk (below_drew1 HB.out)
             clear BK194
             clear HB
             have BK194 := n0_
             have HB := n1_
             clear n0_ n1_
             have p196 : 0 ≤ (x5_1 : Int) := of_decide_eq_true (by first | (with_reducible assumption) | assumption)
             have q196 : x5_1 < (l1.length : Int) := of_decide_eq_true (by first | (with_reducible assumption) | assumption)
             obtain ⟨ad196, e196, hx196_0⟩ := Kd.at_int HR1.out x5_1 p196 q196
             have hw196_0 := hx196_0
             cases e196
             replace hx196_0 := (HB.out.cell (World.block_lt_of_cell? w _ hx196_0)).trans hx196_0
             replace p196 := eq_true p196
             replace q196 := eq_true q196
             have p198 : 0 ≤ (x5_1 : Int) := of_decide_eq_true (by first | (with_reducible assumption) | assumption)
             have q198 : x5_1 < (l1.length : Int) := of_decide_eq_true (by first | (with_reducible assumption) | assumption)
             obtain ⟨ad198, e198, hx198_0⟩ := Kd.at_int HR1.out x5_1 p198 q198
             have hw198_0 := hx198_0
             obtain rfl : ad196 = ad198 := (by injection e198)
             replace hx198_0 := (HB.out.cell (World.block_lt_of_cell? w _ hx198_0)).trans hx198_0
             replace p198 := eq_true p198
             replace q198 := eq_true q198
             have p199 : 0 ≤ ((ji13) : Int) := of_decide_eq_true (by first | (with_reducible assumption) | assumption)
             have q199 : (ji13) < (l1.length : Int) := of_decide_eq_true (by first | (with_reducible assumption) | assumption)
             obtain ⟨ad199, e199, hx199_0⟩ := Kd.at_int HR1.out (ji13) p199 q199
             have hw199_0 := hx199_0
             obtain rfl : ad196 = ad199 := (by injection e199)
             replace hx199_0 := (HB.out.cell (World.block_lt_of_cell? w _ hx199_0)).trans hx199_0
             replace p199 := eq_true p199
             replace q199 := eq_true q199
             have p200 : 0 ≤ (x5_1 : Int) := of_decide_eq_true (by first | (with_reducible assumption) | assumption)
             have q200 : x5_1 < (l1.length : Int) := of_decide_eq_true (by first | (with_reducible assumption) | assumption)
             obtain ⟨ad200, e200, hx200_0⟩ := Kd.at_int HR1.out x5_1 p200 q200
             have hw200_0 := hx200_0
             obtain rfl : ad196 = ad200 := (by injection e200)
             replace hx200_0 := (HB.out.cell (World.block_lt_of_cell? w _ hx200_0)).trans hx200_0
             replace p200 := eq_true p200
             replace q200 := eq_true q200
             have p202 : 0 ≤ (0 : Int) := (by omega)
             have q202 : 0 < (l1.length : Int) := of_decide_eq_true (by first | (with_reducible assumption) | assumption)
             obtain ⟨ad202, e202, hx202_0⟩ := Kd.at_int HR1.out 0 p202 q202
             have hw202_0 := hx202_0
             (try rw [show ((0 : Int)).toNat = 0 from rfl] at hw202_0)
             (try rw [show 0 * 1 = 0 from rfl] at hw202_0)
             (try rw [Addr.add_zero'] at hw202_0)
             obtain rfl : ad196 = ad202 := (by injection e202)
             have qi202 : (0 < l1.length) = True := eq_true (by omega)
             (try rw [show ((0 : Int)).toNat = 0 from rfl] at hx202_0)
             (try rw [Addr.add_zero'] at hx202_0)
             replace hx202_0 := (HB.out.cell (World.block_lt_of_cell? w _ hx202_0)).trans hx202_0
             replace p202 := eq_true p202
             replace q202 := eq_true q202
             refine start_ (n := 35) (S := fun w' => w'.cell? ⟨gb194, 0, none⟩ = some (.int .i64 a0_0) ∧ w'.cell? ⟨gb194, 1, none⟩ = some (.slice A0_1 l0_1.length c0_1) ∧ w'.cell? (ad196.add (x5_1).toNat) = some (.int .i64 (rd l1 x5_1)) ∧ w'.cell? (ad196.add (x5_1).toNat) = some (.int .i64 (rd l1 x5_1)) ∧ w'.cell? (ad196.add ((ji13)).toNat) = some (.int .i64 (rd l1 (ji13))) ∧ w'.cell? (ad196.add (x5_1).toNat) = some (.int .i64 (rd l1 x5_1)) ∧ w'.cell? ad196 = some (.int .i64 (rd l1 0))) (ds := []) #[false,false,false,false,false,false,false,false,false,false,false,false,false,false,false,false,false,false,false,false,false,false,false,false,false,false,false,false,false,false,false,false,false,false,false] (by kernel_rfl) rfl rfl ⟨(blk_cell BK194.out 0).trans rfl, (blk_cell BK194.out 1).trans rfl, ((HB.out.cell (World.block_lt_of_cell? w _ hw196_0)).trans hw196_0), ((HB.out.cell (World.block_lt_of_cell? w _ hw198_0)).trans hw198_0), ((HB.out.cell (World.block_lt_of_cell? w _ hw199_0)).trans hw199_0), ((HB.out.cell (World.block_lt_of_cell? w _ hw200_0)).trans hw200_0), ((HB.out.cell (World.block_lt_of_cell? w _ hw202_0)).trans hw202_0)⟩ (fun hHeld => ?_); refine with_tabW spec_l03Chain.tab6 spec_l03Chain.bits6 (fun HT_ HW_ => ?_)
             generalize wr.drew = w25 at BK194 HB hx196_0 hx198_0 hx199_0 hx200_0 hx202_0 hHeld ⊢
             refine pure_ (i := 1) (N := some 16) (v := ?_) (a' := ?_) #[false,true,false,false,false,false,false,false,false,false,false,false,false,false,false,false,false,false,false,false,false,false,false,false,false,false,false,false,false,false,false,false,false,false,false] rfl rfl (any_of HT_.out (by kernel_rfl)) (fun _ _ _ h => h) (Or.inl ⟨by rfl, ?_⟩) ?_ ?_
             rotate_left; · intro w'; go_simp; with_reducible rfl
             rotate_left; · simp only [Act.put, List.setIfInBounds_toArray, List.set_cons_zero, List.set_cons_succ, i64_w, i32_w]; rfl
             refine pure_ (i := 2) (N := some 17) (v := ?_) (a' := ?_) #[false,true,true,false,false,false,false,false,false,false,false,false,false,false,false,false,false,false,false,false,false,false,false,false,false,false,false,false,false,false,false,false,false,false,false] rfl rfl (any_of HT_.out (by kernel_rfl)) (fun _ _ _ h => h) (Or.inl ⟨by rfl, ?_⟩) ?_ ?_
             rotate_left; · intro w'; go_simp; with_reducible rfl
             rotate_left; · simp only [Act.put, List.setIfInBounds_toArray, List.set_cons_zero, List.set_cons_succ, i64_w, i32_w]; rfl
             refine pure_ (i := 3) (N := some 18) (v := ?_) (a' := ?_) #[false,true,true,true,false,false,false,false,false,false,false,false,false,false,false,false,false,false,false,false,false,false,false,false,false,false,false,false,false,false,false,false,false,false,false] rfl rfl (any_of HT_.out (by kernel_rfl)) (fun _ _ _ h => h) (Or.inl ⟨by rfl, ?_⟩) ?_ ?_
             rotate_left; · intro w'; go_simp; with_reducible rfl
             rotate_left; · simp only [Act.put, List.setIfInBounds_toArray, List.set_cons_zero, List.set_cons_succ, i64_w, i32_w]; rfl
             refine take_ (i := 0) (N := some 15) (v := ?_) (a' := ?_) #[true,true,true,true,false,false,false,false,false,false,false,false,false,false,false,false,false,false,false,false,false,false,false,false,false,false,false,false,false,false,false,false,false,false,false] rfl rfl (take_ofW HT_.out HW_.out (by kernel_rfl)) (fun _ _ _ h => h) (Or.inl ⟨by rfl, ?_⟩) hHeld ?_ ?_
             rotate_left; · rintro w' ⟨s0, s1, s2, s3, s4, s5, s6⟩; go_simp; with_reducible rfl
             rotate_left; · simp only [Act.put, List.setIfInBounds_toArray, List.set_cons_zero, List.set_cons_succ, i64_w, i32_w]; rfl
             refine take_ (i := 4) (N := some 19) (v := ?_) (a' := ?_) #[true,true,true,true,true,false,false,false,false,false,false,false,false,false,false,false,false,false,false,false,false,false,false,false,false,false,false,false,false,false,false,false,false,false,false] rfl rfl (take_ofW HT_.out HW_.out (by kernel_rfl)) (fun _ _ _ h => h) (Or.inl ⟨by rfl, ?_⟩) hHeld ?_ ?_
             rotate_left; · rintro w' ⟨s0, s1, s2, s3, s4, s5, s6⟩; go_simp; with_reducible rfl
             rotate_left; · simp only [Act.put, List.setIfInBounds_toArray, List.set_cons_zero, List.set_cons_succ, i64_w, i32_w]; rfl
             refine one_ (i := 5) (N := some 20) #[true,true,true,true,true,true,false,false,false,false,false,false,false,false,false,false,false,false,false,false,false,false,false,false,false,false,false,false,false,false,false,false,false,false,false] rfl rfl (one_of HT_.out (by kernel_rfl)) (by decide) (fun K hK => ?_)
             refine goes_ Try.func50 (by kernel_rfl) rfl #[.agg #[.int .i64 a0_0, .slice A0_1 l0_1.length c0_1], .int .i64 (rd l1 x5_1)] (by rfl) rfl rfl (by (try simp only [List.map_toArray, List.map_cons, List.map_nil]); first | done | rfl | (simp only [List.length_drop, List.length_take]; rfl)) ?_
             with_reducible refine (spec_l01Has.calls k1 a0_0 _ _ l0_1 (rd l1 x5_1) true _ ?side1 ?side2 A10.out).mono ?_
             (case side1 => repeat (first | exact (Kd.C_below HR0_1.out HB.out) | (with_reducible refine Kd.C_alloc ?_ _) | (with_reducible refine Kd.C_drewN ?_ _) | (with_reducible refine Kd.C_drew ?_)))
             (case side2 => exact HC0_1.out)
             rintro e w26 ⟨rfl, hb⟩
             refine ⟨_, rfl, ?_⟩
             have n0_ := Aside0.mk (blk_below (g := gb194) (o := .cells #[.int .i64 a0_0, .slice A0_1 l0_1.length c0_1] 26 (0, 0)) (by (with_reducible repeat (first | refine blk_drewN ?_ _ | refine blk_drew ?_ | refine blk_alloc ?_ _)); exact BK194.out) hb)
             have n1_ := Aside0.mk (below_step (by repeat (first | (with_reducible first | exact HB.out | apply below_alloc | apply pw_below_drewN | apply below_drew1 | refine below_set ?_ GE194.out) | exact HB.out)) hb)
             clear BK194
             clear HB
             have BK194 := n0_
             have HB := n1_
             clear n0_ n1_
             (try clear hb)
             (try clear hb2)
             (try clear hk)
             (try clear hi)
             refine hK.out _ _ ⟨(blk_cell BK194.out 0).trans rfl, (blk_cell BK194.out 1).trans rfl, ((HB.out.cell (World.block_lt_of_cell? w _ hw196_0)).trans hw196_0), ((HB.out.cell (World.block_lt_of_cell? w _ hw198_0)).trans hw198_0), ((HB.out.cell (World.block_lt_of_cell? w _ hw199_0)).trans hw199_0), ((HB.out.cell (World.block_lt_of_cell? w _ hw200_0)).trans hw200_0), ((HB.out.cell (World.block_lt_of_cell? w _ hw202_0)).trans hw202_0)⟩ (fun hHeld => ?_)
             clear hK K
             refine norm_ (a' := ?_) ?_ ?_
             rotate_left
             ·show Act.put _ (some 20) _ = _
              simp only [Act.put, List.setIfInBounds_toArray, List.set_cons_zero, List.set_cons_succ, i64_w, i32_w]
              rfl
             refine pure_ (i := 6) (N := some 21) (v := ?_) (a' := ?_) #[true,true,true,true,true,true,true,false,false,false,false,false,false,false,false,false,false,false,false,false,false,false,false,false,false,false,false,false,false,false,false,false,false,false,false] rfl rfl (any_of HT_.out (by kernel_rfl)) (fun _ _ _ h => h) (Or.inl ⟨by rfl, ?_⟩) ?_ ?_
             rotate_left; · intro w'; go_simp; with_reducible rfl
             rotate_left; · simp only [Act.put, List.setIfInBounds_toArray, List.set_cons_zero, List.set_cons_succ, i64_w, i32_w]; rfl
             refine pure_ (i := 7) (N := some 22) (v := ?_) (a' := ?_) #[true,true,true,true,true,true,true,true,false,false,false,false,false,false,false,false,false,false,false,false,false,false,false,false,false,false,false,false,false,false,false,false,false,false,false] rfl rfl (any_of HT_.out (by kernel_rfl)) (fun _ _ _ h => h) (Or.inl ⟨by rfl, ?_⟩) ?_ ?_
             rotate_left; · intro w'; go_simp; with_reducible rfl
             rotate_left; · simp only [Act.put, List.setIfInBounds_toArray, List.set_cons_zero, List.set_cons_succ, i64_w, i32_w]; rfl
             refine pure_ (i := 8) (N := some 23) (v := ?_) (a' := ?_) #[true,true,true,true,true,true,true,true,true,false,false,false,false,false,false,false,false,false,false,false,false,false,false,false,false,false,false,false,false,false,false,false,false,false,false] rfl rfl (any_of HT_.out (by kernel_rfl)) (fun _ _ _ h => h) (Or.inl ⟨by rfl, ?_⟩) ?_ ?_
             rotate_left; · intro w'; go_simp; with_reducible rfl
             rotate_left; · simp only [Act.put, List.setIfInBounds_toArray, List.set_cons_zero, List.set_cons_succ, i64_w, i32_w]; rfl
             refine pure_ (i := 9) (N := some 24) (v := ?_) (a' := ?_) #[true,true,true,true,true,true,true,true,true,true,false,false,false,false,false,false,false,false,false,false,false,false,false,false,false,false,false,false,false,false,false,false,false,false,false] rfl rfl (any_of HT_.out (by kernel_rfl)) (fun _ _ _ h => h) (Or.inl ⟨by rfl, ?_⟩) ?_ ?_
             rotate_left; · intro w'; go_simp; with_reducible rfl
             rotate_left; · simp only [Act.put, List.setIfInBounds_toArray, List.set_cons_zero, List.set_cons_succ, i64_w, i32_w]; rfl
             refine pure_ (i := 10) (N := some 25) (v := ?_) (a' := ?_) #[true,true,true,true,true,true,true,true,true,true,true,false,false,false,false,false,false,false,false,false,false,false,false,false,false,false,false,false,false,false,false,false,false,false,false] rfl rfl (any_of HT_.out (by kernel_rfl)) (fun _ _ _ h => h) (Or.inl ⟨by rfl, ?_⟩) ?_ ?_
             rotate_left; · intro w'; go_simp; with_reducible rfl
             rotate_left; · simp only [Act.put, List.setIfInBounds_toArray, List.set_cons_zero, List.set_cons_succ, i64_w, i32_w]; rfl
             refine pure_ (i := 11) (N := some 26) (v := ?_) (a' := ?_) #[true,true,true,true,true,true,true,true,true,true,true,true,false,false,false,false,false,false,false,false,false,false,false,false,false,false,false,false,false,false,false,false,false,false,false] rfl rfl (any_of HT_.out (by kernel_rfl)) (fun _ _ _ h => h) (Or.inl ⟨by rfl, ?_⟩) ?_ ?_
             rotate_left; · intro w'; go_simp; with_reducible rfl
             rotate_left; · simp only [Act.put, List.setIfInBounds_toArray, List.set_cons_zero, List.set_cons_succ, i64_w, i32_w]; rfl
             refine pure_ (i := 12) (N := some 27) (v := ?_) (a' := ?_) #[true,true,true,true,true,true,true,true,true,true,true,true,true,false,false,false,false,false,false,false,false,false,false,false,false,false,false,false,false,false,false,false,false,false,false] rfl rfl (any_of HT_.out (by kernel_rfl)) (fun _ _ _ h => h) (Or.inl ⟨by rfl, ?_⟩) ?_ ?_
             rotate_left; · intro w'; go_simp; with_reducible rfl
             rotate_left; · simp only [Act.put, List.setIfInBounds_toArray, List.set_cons_zero, List.set_cons_succ, i64_w, i32_w]; rfl
             refine pure_ (i := 13) (N := some 28) (v := ?_) (a' := ?_) #[true,true,true,true,true,true,true,true,true,true,true,true,true,true,false,false,false,false,false,false,false,false,false,false,false,false,false,false,false,false,false,false,false,false,false] rfl rfl (any_of HT_.out (by kernel_rfl)) (fun _ _ _ h => h) (Or.inl ⟨by rfl, ?_⟩) ?_ ?_
             rotate_left; · intro w'; go_simp; with_reducible rfl
             rotate_left; · simp only [Act.put, List.setIfInBounds_toArray, List.set_cons_zero, List.set_cons_succ, i64_w, i32_w]; rfl
             refine pure_ (i := 15) (N := some 30) (v := ?_) (a' := ?_) #[true,true,true,true,true,true,true,true,true,true,true,true,true,true,false,true,false,false,false,false,false,false,false,false,false,false,false,false,false,false,false,false,false,false,false] rfl rfl (any_of HT_.out (by kernel_rfl)) (fun _ _ _ h => h) (Or.inl ⟨by rfl, ?_⟩) ?_ ?_
             rotate_left; · intro w'; go_simp; with_reducible rfl
             rotate_left; · simp only [Act.put, List.setIfInBounds_toArray, List.set_cons_zero, List.set_cons_succ, i64_w, i32_w]; rfl
             refine pure_ (i := 16) (N := some 31) (v := ?_) (a' := ?_) #[true,true,true,true,true,true,true,true,true,true,true,true,true,true,false,true,true,false,false,false,false,false,false,false,false,false,false,false,false,false,false,false,false,false,false] rfl rfl (any_of HT_.out (by kernel_rfl)) (fun _ _ _ h => h) (Or.inl ⟨by rfl, ?_⟩) ?_ ?_
             rotate_left; · intro w'; go_simp; with_reducible rfl
             rotate_left; · simp only [Act.put, List.setIfInBounds_toArray, List.set_cons_zero, List.set_cons_succ, i64_w, i32_w]; rfl
             refine pure_ (i := 17) (N := some 32) (v := ?_) (a' := ?_) #[true,true,true,true,true,true,true,true,true,true,true,true,true,true,false,true,true,true,false,false,false,false,false,false,false,false,false,false,false,false,false,false,false,false,false] rfl rfl (any_of HT_.out (by kernel_rfl)) (fun _ _ _ h => h) (Or.inl ⟨by rfl, ?_⟩) ?_ ?_
             rotate_left; · intro w'; go_simp; with_reducible rfl
             rotate_left; · simp only [Act.put, List.setIfInBounds_toArray, List.set_cons_zero, List.set_cons_succ, i64_w, i32_w]; rfl
             refine pure_ (i := 18) (N := some 33) (v := ?_) (a' := ?_) #[true,true,true,true,true,true,true,true,true,true,true,true,true,true,false,true,true,true,true,false,false,false,false,false,false,false,false,false,false,false,false,false,false,false,false] rfl rfl (any_of HT_.out (by kernel_rfl)) (fun _ _ _ h => h) (Or.inl ⟨by rfl, ?_⟩) ?_ ?_
             rotate_left; · intro w'; go_simp; with_reducible rfl
             rotate_left; · simp only [Act.put, List.setIfInBounds_toArray, List.set_cons_zero, List.set_cons_succ, i64_w, i32_w]; rfl
             refine take_ (i := 14) (N := some 29) (v := ?_) (a' := ?_) #[true,true,true,true,true,true,true,true,true,true,true,true,true,true,true,true,true,true,true,false,false,false,false,false,false,false,false,false,false,false,false,false,false,false,false] rfl rfl (take_ofW HT_.out HW_.out (by kernel_rfl)) (fun _ _ _ h => h) (Or.inl ⟨by rfl, ?_⟩) hHeld ?_ ?_
             rotate_left; · rintro w' ⟨s0, s1, s2, s3, s4, s5, s6⟩; go_simp; with_reducible rfl
             rotate_left; · simp only [Act.put, List.setIfInBounds_toArray, List.set_cons_zero, List.set_cons_succ, i64_w, i32_w]; rfl
             refine take_ (i := 19) (N := some 34) (v := ?_) (a' := ?_) #[true,true,true,true,true,true,true,true,true,true,true,true,true,true,true,true,true,true,true,true,false,false,false,false,false,false,false,false,false,false,false,false,false,false,false] rfl rfl (take_ofW HT_.out HW_.out (by kernel_rfl)) (fun _ _ _ h => h) (Or.inl ⟨by rfl, ?_⟩) hHeld ?_ ?_
             rotate_left; · rintro w' ⟨s0, s1, s2, s3, s4, s5, s6⟩; go_simp; with_reducible rfl
             rotate_left; · simp only [Act.put, List.setIfInBounds_toArray, List.set_cons_zero, List.set_cons_succ, i64_w, i32_w]; rfl
             refine pure_ (i := 20) (N := some 35) (v := ?_) (a' := ?_) #[true,true,true,true,true,true,true,true,true,true,true,true,true,true,true,true,true,true,true,true,true,false,false,false,false,false,false,false,false,false,false,false,false,false,false] rfl rfl (any_of HT_.out (by kernel_rfl)) (fun _ _ _ h => h) (Or.inl ⟨by rfl, ?_⟩) ?_ ?_
             rotate_left; · intro w'; go_simp; with_reducible rfl
             rotate_left; · simp only [Act.put, List.setIfInBounds_toArray, List.set_cons_zero, List.set_cons_succ, i64_w, i32_w]; rfl
             refine pure_ (i := 21) (N := some 36) (v := ?_) (a' := ?_) #[true,true,true,true,true,true,true,true,true,true,true,true,true,true,true,true,true,true,true,true,true,true,false,false,false,false,false,false,false,false,false,false,false,false,false] rfl rfl (any_of HT_.out (by kernel_rfl)) (fun _ _ _ h => h) (Or.inl ⟨by rfl, ?_⟩) ?_ ?_
             rotate_left; · intro w'; go_simp; with_reducible rfl
             rotate_left; · simp only [Act.put, List.setIfInBounds_toArray, List.set_cons_zero, List.set_cons_succ, i64_w, i32_w]; rfl
             refine pure_ (i := 22) (N := some 37) (v := ?_) (a' := ?_) #[true,true,true,true,true,true,true,true,true,true,true,true,true,true,true,true,true,true,true,true,true,true,true,false,false,false,false,false,false,false,false,false,false,false,false] rfl rfl (any_of HT_.out (by kernel_rfl)) (fun _ _ _ h => h) (Or.inl ⟨by rfl, ?_⟩) ?_ ?_
             rotate_left; · intro w'; go_simp; with_reducible rfl
             rotate_left; · simp only [Act.put, List.setIfInBounds_toArray, List.set_cons_zero, List.set_cons_succ, i64_w, i32_w]; rfl
             refine pure_ (i := 23) (N := some 38) (v := ?_) (a' := ?_) #[true,true,true,true,true,true,true,true,true,true,true,true,true,true,true,true,true,true,true,true,true,true,true,true,false,false,false,false,false,false,false,false,false,false,false] rfl rfl (any_of HT_.out (by kernel_rfl)) (fun _ _ _ h => h) (Or.inl ⟨by rfl, ?_⟩) ?_ ?_
             rotate_left; · intro w'; go_simp; with_reducible rfl
             rotate_left; · simp only [Act.put, List.setIfInBounds_toArray, List.set_cons_zero, List.set_cons_succ, i64_w, i32_w]; rfl
             refine pure_ (i := 24) (N := some 39) (v := ?_) (a' := ?_) #[true,true,true,true,true,true,true,true,true,true,true,true,true,true,true,true,true,true,true,true,true,true,true,true,true,false,false,false,false,false,false,false,false,false,false] rfl rfl (any_of HT_.out (by kernel_rfl)) (fun _ _ _ h => h) (Or.inl ⟨by rfl, ?_⟩) ?_ ?_
             rotate_left; · intro w'; go_simp; with_reducible rfl
             rotate_left; · simp only [Act.put, List.setIfInBounds_toArray, List.set_cons_zero, List.set_cons_succ, i64_w, i32_w]; rfl
             refine pure_ (i := 27) (N := some 42) (v := ?_) (a' := ?_) #[true,true,true,true,true,true,true,true,true,true,true,true,true,true,true,true,true,true,true,true,true,true,true,true,true,false,false,true,false,false,false,false,false,false,false] rfl rfl (any_of HT_.out (by kernel_rfl)) (fun _ _ _ h => h) (Or.inl ⟨by rfl, ?_⟩) ?_ ?_
             rotate_left; · intro w'; go_simp; with_reducible rfl
             rotate_left; · simp only [Act.put, List.setIfInBounds_toArray, List.set_cons_zero, List.set_cons_succ, i64_w, i32_w]; rfl
             refine pure_ (i := 28) (N := some 43) (v := ?_) (a' := ?_) #[true,true,true,true,true,true,true,true,true,true,true,true,true,true,true,true,true,true,true,true,true,true,true,true,true,false,false,true,true,false,false,false,false,false,false] rfl rfl (any_of HT_.out (by kernel_rfl)) (fun _ _ _ h => h) (Or.inl ⟨by rfl, ?_⟩) ?_ ?_
             rotate_left; · intro w'; go_simp; with_reducible rfl
             rotate_left; · simp only [Act.put, List.setIfInBounds_toArray, List.set_cons_zero, List.set_cons_succ, i64_w, i32_w]; rfl
             refine take_ (i := 25) (N := some 40) (v := ?_) (a' := ?_) #[true,true,true,true,true,true,true,true,true,true,true,true,true,true,true,true,true,true,true,true,true,true,true,true,true,true,false,true,true,false,false,false,false,false,false] rfl rfl (take_ofW HT_.out HW_.out (by kernel_rfl)) (fun _ _ _ h => h) (Or.inl ⟨by rfl, ?_⟩) hHeld ?_ ?_
             rotate_left; · rintro w' ⟨s0, s1, s2, s3, s4, s5, s6⟩; go_simp; with_reducible rfl
             rotate_left; · simp only [Act.put, List.setIfInBounds_toArray, List.set_cons_zero, List.set_cons_succ, i64_w, i32_w]; rfl
             refine take_ (i := 29) (N := some 44) (v := ?_) (a' := ?_) #[true,true,true,true,true,true,true,true,true,true,true,true,true,true,true,true,true,true,true,true,true,true,true,true,true,true,false,true,true,true,false,false,false,false,false] rfl rfl (take_ofW HT_.out HW_.out (by kernel_rfl)) (fun _ _ _ h => h) (Or.inl ⟨by rfl, ?_⟩) hHeld ?_ ?_
             rotate_left; · rintro w' ⟨s0, s1, s2, s3, s4, s5, s6⟩; go_simp; with_reducible rfl
             rotate_left; · simp only [Act.put, List.setIfInBounds_toArray, List.set_cons_zero, List.set_cons_succ, i64_w, i32_w]; rfl
             refine one_ (i := 26) (N := some 41) #[true,true,true,true,true,true,true,true,true,true,true,true,true,true,true,true,true,true,true,true,true,true,true,true,true,true,true,true,true,true,false,false,false,false,false] rfl rfl (one_of HT_.out (by kernel_rfl)) (by decide) (fun K hK => ?_)
             refine goes_ Try.func44 (by kernel_rfl) rfl #[.int .i64 (rd l1 x5_1)] (by rfl) rfl rfl (by (try simp only [List.map_toArray, List.map_cons, List.map_nil]); first | done | rfl | (simp only [List.length_drop, List.length_take]; rfl)) ?_
             with_reducible refine (spec_l01Ones.calls k1 (rd l1 x5_1) t201 _ A19.out).mono ?_
             rintro e w' ⟨rfl, ⟨nd, rfl⟩⟩
             refine ⟨_, rfl, ?_⟩
             refine hK.out _ _ ⟨(blk_cell BK194.out 0).trans rfl, (blk_cell BK194.out 1).trans rfl, ((HB.out.cell (World.block_lt_of_cell? w _ hw196_0)).trans hw196_0), ((HB.out.cell (World.block_lt_of_cell? w _ hw198_0)).trans hw198_0), ((HB.out.cell (World.block_lt_of_cell? w _ hw199_0)).trans hw199_0), ((HB.out.cell (World.block_lt_of_cell? w _ hw200_0)).trans hw200_0), ((HB.out.cell (World.block_lt_of_cell? w _ hw202_0)).trans hw202_0)⟩ (fun hHeld => ?_)
             clear hK K
             refine norm_ (a' := ?_) ?_ ?_
             rotate_left
             ·show Act.put _ (some 41) _ = _
              simp only [Act.put, List.setIfInBounds_toArray, List.set_cons_zero, List.set_cons_succ, i64_w, i32_w]
              rfl
             refine one_ (i := 30) (N := some 45) #[true,true,true,true,true,true,true,true,true,true,true,true,true,true,true,true,true,true,true,true,true,true,true,true,true,true,true,true,true,true,true,false,false,false,false] rfl rfl (one_of HT_.out (by kernel_rfl)) (by decide) (fun K hK => ?_)
             refine goes_ Try.func44 (by kernel_rfl) rfl #[.int .i64 (rd l1 0)] (by rfl) rfl rfl (by (try simp only [List.map_toArray, List.map_cons, List.map_nil]); first | done | rfl | (simp only [List.length_drop, List.length_take]; rfl)) ?_
             with_reducible refine (spec_l01Ones.calls k1 (rd l1 0) t203 _ A21.out).mono ?_
             rintro e w' ⟨rfl, ⟨nd, rfl⟩⟩
             refine ⟨_, rfl, ?_⟩
             refine hK.out _ _ ⟨(blk_cell BK194.out 0).trans rfl, (blk_cell BK194.out 1).trans rfl, ((HB.out.cell (World.block_lt_of_cell? w _ hw196_0)).trans hw196_0), ((HB.out.cell (World.block_lt_of_cell? w _ hw198_0)).trans hw198_0), ((HB.out.cell (World.block_lt_of_cell? w _ hw199_0)).trans hw199_0), ((HB.out.cell (World.block_lt_of_cell? w _ hw200_0)).trans hw200_0), ((HB.out.cell (World.block_lt_of_cell? w _ hw202_0)).trans hw202_0)⟩ (fun hHeld => ?_)
             clear hK K
             refine norm_ (a' := ?_) ?_ ?_
             rotate_left
             ·show Act.put _ (some 45) _ = _
              simp only [Act.put, List.setIfInBounds_toArray, List.set_cons_zero, List.set_cons_succ, i64_w, i32_w]
              rfl
             refine pure_ (i := 31) (N := some 46) (v := ?_) (a' := ?_) #[true,true,true,true,true,true,true,true,true,true,true,true,true,true,true,true,true,true,true,true,true,true,true,true,true,true,true,true,true,true,true,true,false,false,false] rfl rfl (any_of HT_.out (by kernel_rfl)) (fun _ _ _ h => h) (Or.inl ⟨by rfl, ?_⟩) ?_ ?_
             rotate_left; · intro w'; go_simp; with_reducible rfl
             rotate_left; · simp only [Act.put, List.setIfInBounds_toArray, List.set_cons_zero, List.set_cons_succ, i64_w, i32_w]; rfl
             refine pure_ (i := 32) (N := some 47) (v := ?_) (a' := ?_) #[true,true,true,true,true,true,true,true,true,true,true,true,true,true,true,true,true,true,true,true,true,true,true,true,true,true,true,true,true,true,true,true,true,false,false] rfl rfl (any_of HT_.out (by kernel_rfl)) (fun _ _ _ h => h) (Or.inl ⟨by rfl, ?_⟩) ?_ ?_
             rotate_left; · intro w'; go_simp; with_reducible rfl
             rotate_left; · simp only [Act.put, List.setIfInBounds_toArray, List.set_cons_zero, List.set_cons_succ, i64_w, i32_w]; rfl
             refine pure_ (i := 33) (N := some 48) (v := ?_) (a' := ?_) #[true,true,true,true,true,true,true,true,true,true,true,true,true,true,true,true,true,true,true,true,true,true,true,true,true,true,true,true,true,true,true,true,true,true,false] rfl rfl (any_of HT_.out (by kernel_rfl)) (fun _ _ _ h => h) (Or.inl ⟨by rfl, ?_⟩) ?_ ?_
             rotate_left; · intro w'; go_simp; with_reducible rfl
             rotate_left; · simp only [Act.put, List.setIfInBounds_toArray, List.set_cons_zero, List.set_cons_succ, i64_w, i32_w]; rfl
             refine pure_ (i := 34) (N := some 49) (v := ?_) (a' := ?_) #[true,true,true,true,true,true,true,true,true,true,true,true,true,true,true,true,true,true,true,true,true,true,true,true,true,true,true,true,true,true,true,true,true,true,true] rfl rfl (any_of HT_.out (by kernel_rfl)) (fun _ _ _ h => h) (Or.inl ⟨by rfl, ?_⟩) ?_ ?_
             rotate_left; · intro w'; go_simp; with_reducible rfl
             rotate_left; · simp only [Act.put, List.setIfInBounds_toArray, List.set_cons_zero, List.set_cons_succ, i64_w, i32_w]; rfl
             refine done_ (done_of HT_.out (by kernel_rfl)) ?_
             try go_wp2
             go_ret
             exact ⟨by first | rfl | (simp [errW_none, errW_some] <;> rfl) | (simp only [← hji13]; first | rfl | (simp [errW_none, errW_some] <;> rfl)) | (simp [*, errW_none, errW_some] <;> rfl), by repeat (first | (with_reducible first | exact HB.out | apply below_alloc | apply pw_below_drewN | apply below_drew1 | refine below_set ?_ GE194.out) | exact HB.out)⟩
           ·rw [if_neg c20] at H
            exact absurd H (by simp)
         ·rw [if_neg c15] at H
          exact absurd H (by simp)
        ·rw [if_neg c14] at H
         exact absurd H (by simp)
       ·rw [if_neg c12] at H
        have c12b0 : decide (0 < x5_1) = false := decide_eq_false c12
        clear c12
        have H' := Aside0.mk H
        clear H
        try go_wp2
        have n0_ := Aside0.mk (blk_drew BK194.out)
        have n1_ := Aside0.mk (below_drew1 HB.out)
        clear BK194
        clear HB
        have BK194 := n0_
        have HB := n1_
        clear n0_ n1_
        have p196 : 0 ≤ (x5_1 : Int) := of_decide_eq_true (by first | (with_reducible assumption) | assumption)
        have q196 : x5_1 < (l1.length : Int) := of_decide_eq_true (by first | (with_reducible assumption) | assumption)
        obtain ⟨ad196, e196, hx196_0⟩ := Kd.at_int HR1.out x5_1 p196 q196
        have hw196_0 := hx196_0
        cases e196
        replace hx196_0 := (HB.out.cell (World.block_lt_of_cell? w _ hx196_0)).trans hx196_0
        replace p196 := eq_true p196
        replace q196 := eq_true q196
        refine start_ (n := 35) (S := fun w' => w'.cell? ⟨gb194, 0, none⟩ = some (.int .i64 a0_0) ∧ w'.cell? ⟨gb194, 1, none⟩ = some (.slice A0_1 l0_1.length c0_1) ∧ w'.cell? (ad196.add (x5_1).toNat) = some (.int .i64 (rd l1 x5_1))) (ds := []) #[false,false,false,false,false,false,false,false,false,false,false,false,false,false,false,false,false,false,false,false,false,false,false,false,false,false,false,false,false,false,false,false,false,false,false] (by kernel_rfl) rfl rfl ⟨(blk_cell BK194.out 0).trans rfl, (blk_cell BK194.out 1).trans rfl, ((HB.out.cell (World.block_lt_of_cell? w _ hw196_0)).trans hw196_0)⟩ (fun hHeld => ?_); refine with_tabW spec_l03Chain.tab6 spec_l03Chain.bits6 (fun HT_ HW_ => ?_)
        generalize wr.drew = w27 at BK194 HB hx196_0 hHeld ⊢
        refine pure_ (i := 1) (N := some 16) (v := ?_) (a' := ?_) #[false,true,false,false,false,false,false,false,false,false,false,false,false,false,false,false,false,false,false,false,false,false,false,false,false,false,false,false,false,false,false,false,false,false,false] rfl rfl (any_of HT_.out (by kernel_rfl)) (fun _ _ _ h => h) (Or.inl ⟨by rfl, ?_⟩) ?_ ?_
        rotate_left; · intro w'; go_simp; with_reducible rfl
        rotate_left; · simp only [Act.put, List.setIfInBounds_toArray, List.set_cons_zero, List.set_cons_succ, i64_w, i32_w]; rfl
        refine pure_ (i := 2) (N := some 17) (v := ?_) (a' := ?_) #[false,true,true,false,false,false,false,false,false,false,false,false,false,false,false,false,false,false,false,false,false,false,false,false,false,false,false,false,false,false,false,false,false,false,false] rfl rfl (any_of HT_.out (by kernel_rfl)) (fun _ _ _ h => h) (Or.inl ⟨by rfl, ?_⟩) ?_ ?_
        rotate_left; · intro w'; go_simp; with_reducible rfl
        rotate_left; · simp only [Act.put, List.setIfInBounds_toArray, List.set_cons_zero, List.set_cons_succ, i64_w, i32_w]; rfl
        refine pure_ (i := 3) (N := some 18) (v := ?_) (a' := ?_) #[false,true,true,true,false,false,false,false,false,false,false,false,false,false,false,false,false,false,false,false,false,false,false,false,false,false,false,false,false,false,false,false,false,false,false] rfl rfl (any_of HT_.out (by kernel_rfl)) (fun _ _ _ h => h) (Or.inl ⟨by rfl, ?_⟩) ?_ ?_
        rotate_left; · intro w'; go_simp; with_reducible rfl
        rotate_left; · simp only [Act.put, List.setIfInBounds_toArray, List.set_cons_zero, List.set_cons_succ, i64_w, i32_w]; rfl
        refine take_ (i := 0) (N := some 15) (v := ?_) (a' := ?_) #[true,true,true,true,false,false,false,false,false,false,false,false,false,false,false,false,false,false,false,false,false,false,false,false,false,false,false,false,false,false,false,false,false,false,false] rfl rfl (take_ofW HT_.out HW_.out (by kernel_rfl)) (fun _ _ _ h => h) (Or.inl ⟨by rfl, ?_⟩) hHeld ?_ ?_
        rotate_left; · rintro w' ⟨s0, s1, s2⟩; go_simp; with_reducible rfl
        rotate_left; · simp only [Act.put, List.setIfInBounds_toArray, List.set_cons_zero, List.set_cons_succ, i64_w, i32_w]; rfl
        refine take_ (i := 4) (N := some 19) (v := ?_) (a' := ?_) #[true,true,true,true,true,false,false,false,false,false,false,false,false,false,false,false,false,false,false,false,false,false,false,false,false,false,false,false,false,false,false,false,false,false,false] rfl rfl (take_ofW HT_.out HW_.out (by kernel_rfl)) (fun _ _ _ h => h) (Or.inl ⟨by rfl, ?_⟩) hHeld ?_ ?_
        rotate_left; · rintro w' ⟨s0, s1, s2⟩; go_simp; with_reducible rfl
        rotate_left; · simp only [Act.put, List.setIfInBounds_toArray, List.set_cons_zero, List.set_cons_succ, i64_w, i32_w]; rfl
        refine one_ (i := 5) (N := some 20) #[true,true,true,true,true,true,false,false,false,false,false,false,false,false,false,false,false,false,false,false,false,false,false,false,false,false,false,false,false,false,false,false,false,false,false] rfl rfl (one_of HT_.out (by kernel_rfl)) (by decide) (fun K hK => ?_)
        refine goes_ Try.func50 (by kernel_rfl) rfl #[.agg #[.int .i64 a0_0, .slice A0_1 l0_1.length c0_1], .int .i64 (rd l1 x5_1)] (by rfl) rfl rfl (by (try simp only [List.map_toArray, List.map_cons, List.map_nil]); first | done | rfl | (simp only [List.length_drop, List.length_take]; rfl)) ?_
        with_reducible refine (spec_l01Has.calls k1 a0_0 _ _ l0_1 (rd l1 x5_1) true _ ?side1 ?side2 A10.out).mono ?_
        (case side1 => repeat (first | exact (Kd.C_below HR0_1.out HB.out) | (with_reducible refine Kd.C_alloc ?_ _) | (with_reducible refine Kd.C_drewN ?_ _) | (with_reducible refine Kd.C_drew ?_)))
        (case side2 => exact HC0_1.out)
        rintro e w28 ⟨rfl, hb⟩
        refine ⟨_, rfl, ?_⟩
        have n0_ := Aside0.mk (blk_below (g := gb194) (o := .cells #[.int .i64 a0_0, .slice A0_1 l0_1.length c0_1] 26 (0, 0)) (by (with_reducible repeat (first | refine blk_drewN ?_ _ | refine blk_drew ?_ | refine blk_alloc ?_ _)); exact BK194.out) hb)
        have n1_ := Aside0.mk (below_step (by repeat (first | (with_reducible first | exact HB.out | apply below_alloc | apply pw_below_drewN | apply below_drew1 | refine below_set ?_ GE194.out) | exact HB.out)) hb)
        clear BK194
        clear HB
        have BK194 := n0_
        have HB := n1_
        clear n0_ n1_
        (try clear hb)
        (try clear hb2)
        (try clear hk)
        (try clear hi)
        refine hK.out _ _ ⟨(blk_cell BK194.out 0).trans rfl, (blk_cell BK194.out 1).trans rfl, ((HB.out.cell (World.block_lt_of_cell? w _ hw196_0)).trans hw196_0)⟩ (fun hHeld => ?_)
        clear hK K
        refine norm_ (a' := ?_) ?_ ?_
        rotate_left
        ·show Act.put _ (some 20) _ = _
         simp only [Act.put, List.setIfInBounds_toArray, List.set_cons_zero, List.set_cons_succ, i64_w, i32_w]
         rfl
        refine pure_ (i := 6) (N := some 21) (v := ?_) (a' := ?_) #[true,true,true,true,true,true,true,false,false,false,false,false,false,false,false,false,false,false,false,false,false,false,false,false,false,false,false,false,false,false,false,false,false,false,false] rfl rfl (any_of HT_.out (by kernel_rfl)) (fun _ _ _ h => h) (Or.inl ⟨by rfl, ?_⟩) ?_ ?_
        rotate_left; · intro w'; go_simp; with_reducible rfl
        rotate_left; · simp only [Act.put, List.setIfInBounds_toArray, List.set_cons_zero, List.set_cons_succ, i64_w, i32_w]; rfl
        refine pure_ (i := 7) (N := some 22) (v := ?_) (a' := ?_) #[true,true,true,true,true,true,true,true,false,false,false,false,false,false,false,false,false,false,false,false,false,false,false,false,false,false,false,false,false,false,false,false,false,false,false] rfl rfl (any_of HT_.out (by kernel_rfl)) (fun _ _ _ h => h) (Or.inl ⟨by rfl, ?_⟩) ?_ ?_
        rotate_left; · intro w'; go_simp; with_reducible rfl
        rotate_left; · simp only [Act.put, List.setIfInBounds_toArray, List.set_cons_zero, List.set_cons_succ, i64_w, i32_w]; rfl
        refine pure_ (i := 8) (N := some 23) (v := ?_) (a' := ?_) #[true,true,true,true,true,true,true,true,true,false,false,false,false,false,false,false,false,false,false,false,false,false,false,false,false,false,false,false,false,false,false,false,false,false,false] rfl rfl (any_of HT_.out (by kernel_rfl)) (fun _ _ _ h => h) (Or.inl ⟨by rfl, ?_⟩) ?_ ?_
        rotate_left; · intro w'; go_simp; with_reducible rfl
        rotate_left; · simp only [Act.put, List.setIfInBounds_toArray, List.set_cons_zero, List.set_cons_succ, i64_w, i32_w]; rfl
        refine pure_ (i := 9) (N := some 24) (v := ?_) (a' := ?_) #[true,true,true,true,true,true,true,true,true,true,false,false,false,false,false,false,false,false,false,false,false,false,false,false,false,false,false,false,false,false,false,false,false,false,false] rfl rfl (any_of HT_.out (by kernel_rfl)) (fun _ _ _ h => h) (Or.inl ⟨by rfl, ?_⟩) ?_ ?_
        rotate_left; · intro w'; go_simp; with_reducible rfl
        rotate_left; · simp only [Act.put, List.setIfInBounds_toArray, List.set_cons_zero, List.set_cons_succ, i64_w, i32_w]; rfl
        refine pure_ (i := 10) (N := some 25) (v := ?_) (a' := ?_) #[true,true,true,true,true,true,true,true,true,true,true,false,false,false,false,false,false,false,false,false,false,false,false,false,false,false,false,false,false,false,false,false,false,false,false] rfl rfl (any_of HT_.out (by kernel_rfl)) (fun _ _ _ h => h) (Or.inl ⟨by rfl, ?_⟩) ?_ ?_
        rotate_left; · intro w'; go_simp; with_reducible rfl
        rotate_left; · simp only [Act.put, List.setIfInBounds_toArray, List.set_cons_zero, List.set_cons_succ, i64_w, i32_w]; rfl
        refine pure_ (i := 11) (N := some 26) (v := undef) (a' := ?_) #[true,true,true,true,true,true,true,true,true,true,true,true,false,false,false,false,false,false,false,false,false,false,false,false,false,false,false,false,false,false,false,false,false,false,false] rfl rfl (any_of HT_.out (by kernel_rfl)) (fun _ _ _ h => h) (Or.inr ⟨by rfl, rfl⟩) ?_ ?_
        rotate_left; · simp only [Act.put, List.setIfInBounds_toArray, List.set_cons_zero, List.set_cons_succ, i64_w, i32_w]; rfl
        refine pure_ (i := 12) (N := some 27) (v := undef) (a' := ?_) #[true,true,true,true,true,true,true,true,true,true,true,true,true,false,false,false,false,false,false,false,false,false,false,false,false,false,false,false,false,false,false,false,false,false,false] rfl rfl (any_of HT_.out (by kernel_rfl)) (fun _ _ _ h => h) (Or.inr ⟨by rfl, rfl⟩) ?_ ?_
        rotate_left; · simp only [Act.put, List.setIfInBounds_toArray, List.set_cons_zero, List.set_cons_succ, i64_w, i32_w]; rfl
        refine pure_ (i := 13) (N := some 28) (v := undef) (a' := ?_) #[true,true,true,true,true,true,true,true,true,true,true,true,true,true,false,false,false,false,false,false,false,false,false,false,false,false,false,false,false,false,false,false,false,false,false] rfl rfl (any_of HT_.out (by kernel_rfl)) (fun _ _ _ h => h) (Or.inr ⟨by rfl, rfl⟩) ?_ ?_
        rotate_left; · simp only [Act.put, List.setIfInBounds_toArray, List.set_cons_zero, List.set_cons_succ, i64_w, i32_w]; rfl
        refine pure_ (i := 14) (N := some 29) (v := undef) (a' := ?_) #[true,true,true,true,true,true,true,true,true,true,true,true,true,true,true,false,false,false,false,false,false,false,false,false,false,false,false,false,false,false,false,false,false,false,false] rfl rfl (any_of HT_.out (by kernel_rfl)) (fun _ _ _ h => h) (Or.inr ⟨by rfl, rfl⟩) ?_ ?_
        rotate_left; · simp only [Act.put, List.setIfInBounds_toArray, List.set_cons_zero, List.set_cons_succ, i64_w, i32_w]; rfl
        refine pure_ (i := 15) (N := some 30) (v := undef) (a' := ?_) #[true,true,true,true,true,true,true,true,true,true,true,true,true,true,true,true,false,false,false,false,false,false,false,false,false,false,false,false,false,false,false,false,false,false,false] rfl rfl (any_of HT_.out (by kernel_rfl)) (fun _ _ _ h => h) (Or.inr ⟨by rfl, rfl⟩) ?_ ?_
        rotate_left; · simp only [Act.put, List.setIfInBounds_toArray, List.set_cons_zero, List.set_cons_succ, i64_w, i32_w]; rfl
        refine pure_ (i := 16) (N := some 31) (v := undef) (a' := ?_) #[true,true,true,true,true,true,true,true,true,true,true,true,true,true,true,true,true,false,false,false,false,false,false,false,false,false,false,false,false,false,false,false,false,false,false] rfl rfl (any_of HT_.out (by kernel_rfl)) (fun _ _ _ h => h) (Or.inr ⟨by rfl, rfl⟩) ?_ ?_
        rotate_left; · simp only [Act.put, List.setIfInBounds_toArray, List.set_cons_zero, List.set_cons_succ, i64_w, i32_w]; rfl
        refine pure_ (i := 17) (N := some 32) (v := undef) (a' := ?_) #[true,true,true,true,true,true,true,true,true,true,true,true,true,true,true,true,true,true,false,false,false,false,false,false,false,false,false,false,false,false,false,false,false,false,false] rfl rfl (any_of HT_.out (by kernel_rfl)) (fun _ _ _ h => h) (Or.inr ⟨by rfl, rfl⟩) ?_ ?_
        rotate_left; · simp only [Act.put, List.setIfInBounds_toArray, List.set_cons_zero, List.set_cons_succ, i64_w, i32_w]; rfl
        refine pure_ (i := 18) (N := some 33) (v := undef) (a' := ?_) #[true,true,true,true,true,true,true,true,true,true,true,true,true,true,true,true,true,true,true,false,false,false,false,false,false,false,false,false,false,false,false,false,false,false,false] rfl rfl (any_of HT_.out (by kernel_rfl)) (fun _ _ _ h => h) (Or.inr ⟨by rfl, rfl⟩) ?_ ?_
        rotate_left; · simp only [Act.put, List.setIfInBounds_toArray, List.set_cons_zero, List.set_cons_succ, i64_w, i32_w]; rfl
        refine pure_ (i := 19) (N := some 34) (v := undef) (a' := ?_) #[true,true,true,true,true,true,true,true,true,true,true,true,true,true,true,true,true,true,true,true,false,false,false,false,false,false,false,false,false,false,false,false,false,false,false] rfl rfl (any_of HT_.out (by kernel_rfl)) (fun _ _ _ h => h) (Or.inr ⟨by rfl, rfl⟩) ?_ ?_
        rotate_left; · simp only [Act.put, List.setIfInBounds_toArray, List.set_cons_zero, List.set_cons_succ, i64_w, i32_w]; rfl
        refine pure_ (i := 20) (N := some 35) (v := undef) (a' := ?_) #[true,true,true,true,true,true,true,true,true,true,true,true,true,true,true,true,true,true,true,true,true,false,false,false,false,false,false,false,false,false,false,false,false,false,false] rfl rfl (any_of HT_.out (by kernel_rfl)) (fun _ _ _ h => h) (Or.inr ⟨by rfl, rfl⟩) ?_ ?_
        rotate_left; · simp only [Act.put, List.setIfInBounds_toArray, List.set_cons_zero, List.set_cons_succ, i64_w, i32_w]; rfl
        refine pure_ (i := 21) (N := some 36) (v := undef) (a' := ?_) #[true,true,true,true,true,true,true,true,true,true,true,true,true,true,true,true,true,true,true,true,true,true,false,false,false,false,false,false,false,false,false,false,false,false,false] rfl rfl (any_of HT_.out (by kernel_rfl)) (fun _ _ _ h => h) (Or.inr ⟨by rfl, rfl⟩) ?_ ?_
        rotate_left; · simp only [Act.put, List.setIfInBounds_toArray, List.set_cons_zero, List.set_cons_succ, i64_w, i32_w]; rfl
        refine pure_ (i := 22) (N := some 37) (v := undef) (a' := ?_) #[true,true,true,true,true,true,true,true,true,true,true,true,true,true,true,true,true,true,true,true,true,true,true,false,false,false,false,false,false,false,false,false,false,false,false] rfl rfl (any_of HT_.out (by kernel_rfl)) (fun _ _ _ h => h) (Or.inr ⟨by rfl, rfl⟩) ?_ ?_
        rotate_left; · simp only [Act.put, List.setIfInBounds_toArray, List.set_cons_zero, List.set_cons_succ, i64_w, i32_w]; rfl
        refine pure_ (i := 23) (N := some 38) (v := undef) (a' := ?_) #[true,true,true,true,true,true,true,true,true,true,true,true,true,true,true,true,true,true,true,true,true,true,true,true,false,false,false,false,false,false,false,false,false,false,false] rfl rfl (any_of HT_.out (by kernel_rfl)) (fun _ _ _ h => h) (Or.inr ⟨by rfl, rfl⟩) ?_ ?_
        rotate_left; · simp only [Act.put, List.setIfInBounds_toArray, List.set_cons_zero, List.set_cons_succ, i64_w, i32_w]; rfl
        refine pure_ (i := 24) (N := some 39) (v := undef) (a' := ?_) #[true,true,true,true,true,true,true,true,true,true,true,true,true,true,true,true,true,true,true,true,true,true,true,true,true,false,false,false,false,false,false,false,false,false,false] rfl rfl (any_of HT_.out (by kernel_rfl)) (fun _ _ _ h => h) (Or.inr ⟨by rfl, rfl⟩) ?_ ?_
        rotate_left; · simp only [Act.put, List.setIfInBounds_toArray, List.set_cons_zero, List.set_cons_succ, i64_w, i32_w]; rfl
        refine pure_ (i := 25) (N := some 40) (v := undef) (a' := ?_) #[true,true,true,true,true,true,true,true,true,true,true,true,true,true,true,true,true,true,true,true,true,true,true,true,true,true,false,false,false,false,false,false,false,false,false] rfl rfl (any_of HT_.out (by kernel_rfl)) (fun _ _ _ h => h) (Or.inr ⟨by rfl, rfl⟩) ?_ ?_
        rotate_left; · simp only [Act.put, List.setIfInBounds_toArray, List.set_cons_zero, List.set_cons_succ, i64_w, i32_w]; rfl
        refine pure_ (i := 26) (N := some 41) (v := undef) (a' := ?_) #[true,true,true,true,true,true,true,true,true,true,true,true,true,true,true,true,true,true,true,true,true,true,true,true,true,true,true,false,false,false,false,false,false,false,false] rfl rfl (any_of HT_.out (by kernel_rfl)) (fun _ _ _ h => h) (Or.inr ⟨by rfl, rfl⟩) ?_ ?_
        rotate_left; · simp only [Act.put, List.setIfInBounds_toArray, List.set_cons_zero, List.set_cons_succ, i64_w, i32_w]; rfl
        refine pure_ (i := 27) (N := some 42) (v := undef) (a' := ?_) #[true,true,true,true,true,true,true,true,true,true,true,true,true,true,true,true,true,true,true,true,true,true,true,true,true,true,true,true,false,false,false,false,false,false,false] rfl rfl (any_of HT_.out (by kernel_rfl)) (fun _ _ _ h => h) (Or.inr ⟨by rfl, rfl⟩) ?_ ?_
        rotate_left; · simp only [Act.put, List.setIfInBounds_toArray, List.set_cons_zero, List.set_cons_succ, i64_w, i32_w]; rfl
        refine pure_ (i := 28) (N := some 43) (v := undef) (a' := ?_) #[true,true,true,true,true,true,true,true,true,true,true,true,true,true,true,true,true,true,true,true,true,true,true,true,true,true,true,true,true,false,false,false,false,false,false] rfl rfl (any_of HT_.out (by kernel_rfl)) (fun _ _ _ h => h) (Or.inr ⟨by rfl, rfl⟩) ?_ ?_
        rotate_left; · simp only [Act.put, List.setIfInBounds_toArray, List.set_cons_zero, List.set_cons_succ, i64_w, i32_w]; rfl
        refine pure_ (i := 29) (N := some 44) (v := undef) (a' := ?_) #[true,true,true,true,true,true,true,true,true,true,true,true,true,true,true,true,true,true,true,true,true,true,true,true,true,true,true,true,true,true,false,false,false,false,false] rfl rfl (any_of HT_.out (by kernel_rfl)) (fun _ _ _ h => h) (Or.inr ⟨by rfl, rfl⟩) ?_ ?_
        rotate_left; · simp only [Act.put, List.setIfInBounds_toArray, List.set_cons_zero, List.set_cons_succ, i64_w, i32_w]; rfl
        refine pure_ (i := 30) (N := some 45) (v := undef) (a' := ?_) #[true,true,true,true,true,true,true,true,true,true,true,true,true,true,true,true,true,true,true,true,true,true,true,true,true,true,true,true,true,true,true,false,false,false,false] rfl rfl (any_of HT_.out (by kernel_rfl)) (fun _ _ _ h => h) (Or.inr ⟨by rfl, rfl⟩) ?_ ?_
        rotate_left; · simp only [Act.put, List.setIfInBounds_toArray, List.set_cons_zero, List.set_cons_succ, i64_w, i32_w]; rfl
        refine pure_ (i := 31) (N := some 46) (v := undef) (a' := ?_) #[true,true,true,true,true,true,true,true,true,true,true,true,true,true,true,true,true,true,true,true,true,true,true,true,true,true,true,true,true,true,true,true,false,false,false] rfl rfl (any_of HT_.out (by kernel_rfl)) (fun _ _ _ h => h) (Or.inr ⟨by rfl, rfl⟩) ?_ ?_
        rotate_left; · simp only [Act.put, List.setIfInBounds_toArray, List.set_cons_zero, List.set_cons_succ, i64_w, i32_w]; rfl
        refine pure_ (i := 32) (N := some 47) (v := undef) (a' := ?_) #[true,true,true,true,true,true,true,true,true,true,true,true,true,true,true,true,true,true,true,true,true,true,true,true,true,true,true,true,true,true,true,true,true,false,false] rfl rfl (any_of HT_.out (by kernel_rfl)) (fun _ _ _ h => h) (Or.inr ⟨by rfl, rfl⟩) ?_ ?_
        rotate_left; · simp only [Act.put, List.setIfInBounds_toArray, List.set_cons_zero, List.set_cons_succ, i64_w, i32_w]; rfl
        refine pure_ (i := 33) (N := some 48) (v := ?_) (a' := ?_) #[true,true,true,true,true,true,true,true,true,true,true,true,true,true,true,true,true,true,true,true,true,true,true,true,true,true,true,true,true,true,true,true,true,true,false] rfl rfl (any_of HT_.out (by kernel_rfl)) (fun _ _ _ h => h) (Or.inl ⟨by rfl, ?_⟩) ?_ ?_
        rotate_left; · intro w'; go_simp; with_reducible rfl
        rotate_left; · simp only [Act.put, List.setIfInBounds_toArray, List.set_cons_zero, List.set_cons_succ, i64_w, i32_w]; rfl
        refine pure_ (i := 34) (N := some 49) (v := ?_) (a' := ?_) #[true,true,true,true,true,true,true,true,true,true,true,true,true,true,true,true,true,true,true,true,true,true,true,true,true,true,true,true,true,true,true,true,true,true,true] rfl rfl (any_of HT_.out (by kernel_rfl)) (fun _ _ _ h => h) (Or.inl ⟨by rfl, ?_⟩) ?_ ?_
        rotate_left; · intro w'; go_simp; with_reducible rfl
        rotate_left; · simp only [Act.put, List.setIfInBounds_toArray, List.set_cons_zero, List.set_cons_succ, i64_w, i32_w]; rfl
        refine done_ (done_of HT_.out (by kernel_rfl)) ?_
        try go_wp2
        go_roundg k1
        case measure => have := HK1.out; omega
        case rel => exact ⟨(wrap64 (x5_1 + 1)), (by first | rfl | (simp; done) | (simp [*]; done)), H', ⟨by have := HK1.out; omega⟩, ⟨by (with_reducible repeat (first | refine blk_drewN ?_ _ | refine blk_drew ?_ | refine blk_alloc ?_ _)); exact BK194.out⟩, ⟨by repeat (first | (with_reducible first | exact HB.out | apply below_alloc | apply pw_below_drewN | apply below_drew1 | refine below_set ?_ GE194.out) | exact HB.out)⟩⟩
      ·replace c11 := Bool.eq_false_iff.mpr c11
       subst c11
       have H1 : (some 2) = some r := by rw [if_neg (show ¬ (false = true) by decide)] at H; exact H
       clear H
       have H := H1
       clear H1
       obtain rfl := Option.some.inj H
       try go_wp2
       have n0_ := Aside0.mk (blk_drew BK194.out)
       have n1_ := Aside0.mk (below_drew1 HB.out)
       clear BK194
       clear HB
       have BK194 := n0_
       have HB := n1_
       clear n0_ n1_
       have p196 : 0 ≤ (x5_1 : Int) := of_decide_eq_true (by first | (with_reducible assumption) | assumption)
       have q196 : x5_1 < (l1.length : Int) := of_decide_eq_true (by first | (with_reducible assumption) | assumption)
       obtain ⟨ad196, e196, hx196_0⟩ := Kd.at_int HR1.out x5_1 p196 q196
       have hw196_0 := hx196_0
       cases e196
       replace hx196_0 := (HB.out.cell (World.block_lt_of_cell? w _ hx196_0)).trans hx196_0
       replace p196 := eq_true p196
       replace q196 := eq_true q196
       refine start_ (n := 35) (S := fun w' => w'.cell? ⟨gb194, 0, none⟩ = some (.int .i64 a0_0) ∧ w'.cell? ⟨gb194, 1, none⟩ = some (.slice A0_1 l0_1.length c0_1) ∧ w'.cell? (ad196.add (x5_1).toNat) = some (.int .i64 (rd l1 x5_1))) (ds := []) #[false,false,false,false,false,false,false,false,false,false,false,false,false,false,false,false,false,false,false,false,false,false,false,false,false,false,false,false,false,false,false,false,false,false,false] (by kernel_rfl) rfl rfl ⟨(blk_cell BK194.out 0).trans rfl, (blk_cell BK194.out 1).trans rfl, ((HB.out.cell (World.block_lt_of_cell? w _ hw196_0)).trans hw196_0)⟩ (fun hHeld => ?_); refine with_tabW spec_l03Chain.tab6 spec_l03Chain.bits6 (fun HT_ HW_ => ?_)
       generalize wr.drew = w29 at BK194 HB hx196_0 hHeld ⊢
       refine pure_ (i := 1) (N := some 16) (v := ?_) (a' := ?_) #[false,true,false,false,false,false,false,false,false,false,false,false,false,false,false,false,false,false,false,false,false,false,false,false,false,false,false,false,false,false,false,false,false,false,false] rfl rfl (any_of HT_.out (by kernel_rfl)) (fun _ _ _ h => h) (Or.inl ⟨by rfl, ?_⟩) ?_ ?_
       rotate_left; · intro w'; go_simp; with_reducible rfl
       rotate_left; · simp only [Act.put, List.setIfInBounds_toArray, List.set_cons_zero, List.set_cons_succ, i64_w, i32_w]; rfl
       refine pure_ (i := 2) (N := some 17) (v := ?_) (a' := ?_) #[false,true,true,false,false,false,false,false,false,false,false,false,false,false,false,false,false,false,false,false,false,false,false,false,false,false,false,false,false,false,false,false,false,false,false] rfl rfl (any_of HT_.out (by kernel_rfl)) (fun _ _ _ h => h) (Or.inl ⟨by rfl, ?_⟩) ?_ ?_
       rotate_left; · intro w'; go_simp; with_reducible rfl
       rotate_left; · simp only [Act.put, List.setIfInBounds_toArray, List.set_cons_zero, List.set_cons_succ, i64_w, i32_w]; rfl
       refine pure_ (i := 3) (N := some 18) (v := ?_) (a' := ?_) #[false,true,true,true,false,false,false,false,false,false,false,false,false,false,false,false,false,false,false,false,false,false,false,false,false,false,false,false,false,false,false,false,false,false,false] rfl rfl (any_of HT_.out (by kernel_rfl)) (fun _ _ _ h => h) (Or.inl ⟨by rfl, ?_⟩) ?_ ?_
       rotate_left; · intro w'; go_simp; with_reducible rfl
       rotate_left; · simp only [Act.put, List.setIfInBounds_toArray, List.set_cons_zero, List.set_cons_succ, i64_w, i32_w]; rfl
       refine take_ (i := 0) (N := some 15) (v := ?_) (a' := ?_) #[true,true,true,true,false,false,false,false,false,false,false,false,false,false,false,false,false,false,false,false,false,false,false,false,false,false,false,false,false,false,false,false,false,false,false] rfl rfl (take_ofW HT_.out HW_.out (by kernel_rfl)) (fun _ _ _ h => h) (Or.inl ⟨by rfl, ?_⟩) hHeld ?_ ?_
       rotate_left; · rintro w' ⟨s0, s1, s2⟩; go_simp; with_reducible rfl
       rotate_left; · simp only [Act.put, List.setIfInBounds_toArray, List.set_cons_zero, List.set_cons_succ, i64_w, i32_w]; rfl
       refine take_ (i := 4) (N := some 19) (v := ?_) (a' := ?_) #[true,true,true,true,true,false,false,false,false,false,false,false,false,false,false,false,false,false,false,false,false,false,false,false,false,false,false,false,false,false,false,false,false,false,false] rfl rfl (take_ofW HT_.out HW_.out (by kernel_rfl)) (fun _ _ _ h => h) (Or.inl ⟨by rfl, ?_⟩) hHeld ?_ ?_
       rotate_left; · rintro w' ⟨s0, s1, s2⟩; go_simp; with_reducible rfl
       rotate_left; · simp only [Act.put, List.setIfInBounds_toArray, List.set_cons_zero, List.set_cons_succ, i64_w, i32_w]; rfl
       refine one_ (i := 5) (N := some 20) #[true,true,true,true,true,true,false,false,false,false,false,false,false,false,false,false,false,false,false,false,false,false,false,false,false,false,false,false,false,false,false,false,false,false,false] rfl rfl (one_of HT_.out (by kernel_rfl)) (by decide) (fun K hK => ?_)
       refine goes_ Try.func50 (by kernel_rfl) rfl #[.agg #[.int .i64 a0_0, .slice A0_1 l0_1.length c0_1], .int .i64 (rd l1 x5_1)] (by rfl) rfl rfl (by (try simp only [List.map_toArray, List.map_cons, List.map_nil]); first | done | rfl | (simp only [List.length_drop, List.length_take]; rfl)) ?_
       with_reducible refine (spec_l01Has.calls k1 a0_0 _ _ l0_1 (rd l1 x5_1) false _ ?side1 ?side2 A10.out).mono ?_
       (case side1 => repeat (first | exact (Kd.C_below HR0_1.out HB.out) | (with_reducible refine Kd.C_alloc ?_ _) | (with_reducible refine Kd.C_drewN ?_ _) | (with_reducible refine Kd.C_drew ?_)))
       (case side2 => exact HC0_1.out)
       rintro e w30 ⟨rfl, hb⟩
       refine ⟨_, rfl, ?_⟩
       have n0_ := Aside0.mk (blk_below (g := gb194) (o := .cells #[.int .i64 a0_0, .slice A0_1 l0_1.length c0_1] 26 (0, 0)) (by (with_reducible repeat (first | refine blk_drewN ?_ _ | refine blk_drew ?_ | refine blk_alloc ?_ _)); exact BK194.out) hb)
       have n1_ := Aside0.mk (below_step (by repeat (first | (with_reducible first | exact HB.out | apply below_alloc | apply pw_below_drewN | apply below_drew1 | refine below_set ?_ GE194.out) | exact HB.out)) hb)
       clear BK194
       clear HB
       have BK194 := n0_
       have HB := n1_
       clear n0_ n1_
       (try clear hb)
       (try clear hb2)
       (try clear hk)
       (try clear hi)
       refine hK.out _ _ ⟨(blk_cell BK194.out 0).trans rfl, (blk_cell BK194.out 1).trans rfl, ((HB.out.cell (World.block_lt_of_cell? w _ hw196_0)).trans hw196_0)⟩ (fun hHeld => ?_)
       clear hK K
       refine norm_ (a' := ?_) ?_ ?_
       rotate_left
       ·show Act.put _ (some 20) _ = _
        simp only [Act.put, List.setIfInBounds_toArray, List.set_cons_zero, List.set_cons_succ, i64_w, i32_w]
        rfl
       refine pure_ (i := 6) (N := some 21) (v := ?_) (a' := ?_) #[true,true,true,true,true,true,true,false,false,false,false,false,false,false,false,false,false,false,false,false,false,false,false,false,false,false,false,false,false,false,false,false,false,false,false] rfl rfl (any_of HT_.out (by kernel_rfl)) (fun _ _ _ h => h) (Or.inl ⟨by rfl, ?_⟩) ?_ ?_
       rotate_left; · intro w'; go_simp; with_reducible rfl
       rotate_left; · simp only [Act.put, List.setIfInBounds_toArray, List.set_cons_zero, List.set_cons_succ, i64_w, i32_w]; rfl
       refine pure_ (i := 7) (N := some 22) (v := ?_) (a' := ?_) #[true,true,true,true,true,true,true,true,false,false,false,false,false,false,false,false,false,false,false,false,false,false,false,false,false,false,false,false,false,false,false,false,false,false,false] rfl rfl (any_of HT_.out (by kernel_rfl)) (fun _ _ _ h => h) (Or.inl ⟨by rfl, ?_⟩) ?_ ?_
       rotate_left; · intro w'; go_simp; with_reducible rfl
       rotate_left; · simp only [Act.put, List.setIfInBounds_toArray, List.set_cons_zero, List.set_cons_succ, i64_w, i32_w]; rfl
       refine pure_ (i := 8) (N := some 23) (v := undef) (a' := ?_) #[true,true,true,true,true,true,true,true,true,false,false,false,false,false,false,false,false,false,false,false,false,false,false,false,false,false,false,false,false,false,false,false,false,false,false] rfl rfl (any_of HT_.out (by kernel_rfl)) (fun _ _ _ h => h) (Or.inr ⟨by rfl, rfl⟩) ?_ ?_
       rotate_left; · simp only [Act.put, List.setIfInBounds_toArray, List.set_cons_zero, List.set_cons_succ, i64_w, i32_w]; rfl
       refine pure_ (i := 9) (N := some 24) (v := undef) (a' := ?_) #[true,true,true,true,true,true,true,true,true,true,false,false,false,false,false,false,false,false,false,false,false,false,false,false,false,false,false,false,false,false,false,false,false,false,false] rfl rfl (any_of HT_.out (by kernel_rfl)) (fun _ _ _ h => h) (Or.inr ⟨by rfl, rfl⟩) ?_ ?_
       rotate_left; · simp only [Act.put, List.setIfInBounds_toArray, List.set_cons_zero, List.set_cons_succ, i64_w, i32_w]; rfl
       refine pure_ (i := 10) (N := some 25) (v := undef) (a' := ?_) #[true,true,true,true,true,true,true,true,true,true,true,false,false,false,false,false,false,false,false,false,false,false,false,false,false,false,false,false,false,false,false,false,false,false,false] rfl rfl (any_of HT_.out (by kernel_rfl)) (fun _ _ _ h => h) (Or.inr ⟨by rfl, rfl⟩) ?_ ?_
       rotate_left; · simp only [Act.put, List.setIfInBounds_toArray, List.set_cons_zero, List.set_cons_succ, i64_w, i32_w]; rfl
       refine pure_ (i := 11) (N := some 26) (v := undef) (a' := ?_) #[true,true,true,true,true,true,true,true,true,true,true,true,false,false,false,false,false,false,false,false,false,false,false,false,false,false,false,false,false,false,false,false,false,false,false] rfl rfl (any_of HT_.out (by kernel_rfl)) (fun _ _ _ h => h) (Or.inr ⟨by rfl, rfl⟩) ?_ ?_
       rotate_left; · simp only [Act.put, List.setIfInBounds_toArray, List.set_cons_zero, List.set_cons_succ, i64_w, i32_w]; rfl
       refine pure_ (i := 12) (N := some 27) (v := undef) (a' := ?_) #[true,true,true,true,true,true,true,true,true,true,true,true,true,false,false,false,false,false,false,false,false,false,false,false,false,false,false,false,false,false,false,false,false,false,false] rfl rfl (any_of HT_.out (by kernel_rfl)) (fun _ _ _ h => h) (Or.inr ⟨by rfl, rfl⟩) ?_ ?_
       rotate_left; · simp only [Act.put, List.setIfInBounds_toArray, List.set_cons_zero, List.set_cons_succ, i64_w, i32_w]; rfl
       refine pure_ (i := 13) (N := some 28) (v := undef) (a' := ?_) #[true,true,true,true,true,true,true,true,true,true,true,true,true,true,false,false,false,false,false,false,false,false,false,false,false,false,false,false,false,false,false,false,false,false,false] rfl rfl (any_of HT_.out (by kernel_rfl)) (fun _ _ _ h => h) (Or.inr ⟨by rfl, rfl⟩) ?_ ?_
       rotate_left; · simp only [Act.put, List.setIfInBounds_toArray, List.set_cons_zero, List.set_cons_succ, i64_w, i32_w]; rfl
       refine pure_ (i := 14) (N := some 29) (v := undef) (a' := ?_) #[true,true,true,true,true,true,true,true,true,true,true,true,true,true,true,false,false,false,false,false,false,false,false,false,false,false,false,false,false,false,false,false,false,false,false] rfl rfl (any_of HT_.out (by kernel_rfl)) (fun _ _ _ h => h) (Or.inr ⟨by rfl, rfl⟩) ?_ ?_
       rotate_left; · simp only [Act.put, List.setIfInBounds_toArray, List.set_cons_zero, List.set_cons_succ, i64_w, i32_w]; rfl
       refine pure_ (i := 15) (N := some 30) (v := undef) (a' := ?_) #[true,true,true,true,true,true,true,true,true,true,true,true,true,true,true,true,false,false,false,false,false,false,false,false,false,false,false,false,false,false,false,false,false,false,false] rfl rfl (any_of HT_.out (by kernel_rfl)) (fun _ _ _ h => h) (Or.inr ⟨by rfl, rfl⟩) ?_ ?_
       rotate_left; · simp only [Act.put, List.setIfInBounds_toArray, List.set_cons_zero, List.set_cons_succ, i64_w, i32_w]; rfl
       refine pure_ (i := 16) (N := some 31) (v := undef) (a' := ?_) #[true,true,true,true,true,true,true,true,true,true,true,true,true,true,true,true,true,false,false,false,false,false,false,false,false,false,false,false,false,false,false,false,false,false,false] rfl rfl (any_of HT_.out (by kernel_rfl)) (fun _ _ _ h => h) (Or.inr ⟨by rfl, rfl⟩) ?_ ?_
       rotate_left; · simp only [Act.put, List.setIfInBounds_toArray, List.set_cons_zero, List.set_cons_succ, i64_w, i32_w]; rfl
       refine pure_ (i := 17) (N := some 32) (v := undef) (a' := ?_) #[true,true,true,true,true,true,true,true,true,true,true,true,true,true,true,true,true,true,false,false,false,false,false,false,false,false,false,false,false,false,false,false,false,false,false] rfl rfl (any_of HT_.out (by kernel_rfl)) (fun _ _ _ h => h) (Or.inr ⟨by rfl, rfl⟩) ?_ ?_
       rotate_left; · simp only [Act.put, List.setIfInBounds_toArray, List.set_cons_zero, List.set_cons_succ, i64_w, i32_w]; rfl
       refine pure_ (i := 18) (N := some 33) (v := undef) (a' := ?_) #[true,true,true,true,true,true,true,true,true,true,true,true,true,true,true,true,true,true,true,false,false,false,false,false,false,false,false,false,false,false,false,false,false,false,false] rfl rfl (any_of HT_.out (by kernel_rfl)) (fun _ _ _ h => h) (Or.inr ⟨by rfl, rfl⟩) ?_ ?_
       rotate_left; · simp only [Act.put, List.setIfInBounds_toArray, List.set_cons_zero, List.set_cons_succ, i64_w, i32_w]; rfl
       refine pure_ (i := 19) (N := some 34) (v := undef) (a' := ?_) #[true,true,true,true,true,true,true,true,true,true,true,true,true,true,true,true,true,true,true,true,false,false,false,false,false,false,false,false,false,false,false,false,false,false,false] rfl rfl (any_of HT_.out (by kernel_rfl)) (fun _ _ _ h => h) (Or.inr ⟨by rfl, rfl⟩) ?_ ?_
       rotate_left; · simp only [Act.put, List.setIfInBounds_toArray, List.set_cons_zero, List.set_cons_succ, i64_w, i32_w]; rfl
       refine pure_ (i := 20) (N := some 35) (v := undef) (a' := ?_) #[true,true,true,true,true,true,true,true,true,true,true,true,true,true,true,true,true,true,true,true,true,false,false,false,false,false,false,false,false,false,false,false,false,false,false] rfl rfl (any_of HT_.out (by kernel_rfl)) (fun _ _ _ h => h) (Or.inr ⟨by rfl, rfl⟩) ?_ ?_
       rotate_left; · simp only [Act.put, List.setIfInBounds_toArray, List.set_cons_zero, List.set_cons_succ, i64_w, i32_w]; rfl
       refine pure_ (i := 21) (N := some 36) (v := undef) (a' := ?_) #[true,true,true,true,true,true,true,true,true,true,true,true,true,true,true,true,true,true,true,true,true,true,false,false,false,false,false,false,false,false,false,false,false,false,false] rfl rfl (any_of HT_.out (by kernel_rfl)) (fun _ _ _ h => h) (Or.inr ⟨by rfl, rfl⟩) ?_ ?_
       rotate_left; · simp only [Act.put, List.setIfInBounds_toArray, List.set_cons_zero, List.set_cons_succ, i64_w, i32_w]; rfl
       refine pure_ (i := 22) (N := some 37) (v := undef) (a' := ?_) #[true,true,true,true,true,true,true,true,true,true,true,true,true,true,true,true,true,true,true,true,true,true,true,false,false,false,false,false,false,false,false,false,false,false,false] rfl rfl (any_of HT_.out (by kernel_rfl)) (fun _ _ _ h => h) (Or.inr ⟨by rfl, rfl⟩) ?_ ?_
       rotate_left; · simp only [Act.put, List.setIfInBounds_toArray, List.set_cons_zero, List.set_cons_succ, i64_w, i32_w]; rfl
       refine pure_ (i := 23) (N := some 38) (v := undef) (a' := ?_) #[true,true,true,true,true,true,true,true,true,true,true,true,true,true,true,true,true,true,true,true,true,true,true,true,false,false,false,false,false,false,false,false,false,false,false] rfl rfl (any_of HT_.out (by kernel_rfl)) (fun _ _ _ h => h) (Or.inr ⟨by rfl, rfl⟩) ?_ ?_
       rotate_left; · simp only [Act.put, List.setIfInBounds_toArray, List.set_cons_zero, List.set_cons_succ, i64_w, i32_w]; rfl
       refine pure_ (i := 24) (N := some 39) (v := undef) (a' := ?_) #[true,true,true,true,true,true,true,true,true,true,true,true,true,true,true,true,true,true,true,true,true,true,true,true,true,false,false,false,false,false,false,false,false,false,false] rfl rfl (any_of HT_.out (by kernel_rfl)) (fun _ _ _ h => h) (Or.inr ⟨by rfl, rfl⟩) ?_ ?_
       rotate_left; · simp only [Act.put, List.setIfInBounds_toArray, List.set_cons_zero, List.set_cons_succ, i64_w, i32_w]; rfl
       refine pure_ (i := 25) (N := some 40) (v := undef) (a' := ?_) #[true,true,true,true,true,true,true,true,true,true,true,true,true,true,true,true,true,true,true,true,true,true,true,true,true,true,false,false,false,false,false,false,false,false,false] rfl rfl (any_of HT_.out (by kernel_rfl)) (fun _ _ _ h => h) (Or.inr ⟨by rfl, rfl⟩) ?_ ?_
       rotate_left; · simp only [Act.put, List.setIfInBounds_toArray, List.set_cons_zero, List.set_cons_succ, i64_w, i32_w]; rfl
       refine pure_ (i := 26) (N := some 41) (v := undef) (a' := ?_) #[true,true,true,true,true,true,true,true,true,true,true,true,true,true,true,true,true,true,true,true,true,true,true,true,true,true,true,false,false,false,false,false,false,false,false] rfl rfl (any_of HT_.out (by kernel_rfl)) (fun _ _ _ h => h) (Or.inr ⟨by rfl, rfl⟩) ?_ ?_
       rotate_left; · simp only [Act.put, List.setIfInBounds_toArray, List.set_cons_zero, List.set_cons_succ, i64_w, i32_w]; rfl
       refine pure_ (i := 27) (N := some 42) (v := undef) (a' := ?_) #[true,true,true,true,true,true,true,true,true,true,true,true,true,true,true,true,true,true,true,true,true,true,true,true,true,true,true,true,false,false,false,false,false,false,false] rfl rfl (any_of HT_.out (by kernel_rfl)) (fun _ _ _ h => h) (Or.inr ⟨by rfl, rfl⟩) ?_ ?_
       rotate_left; · simp only [Act.put, List.setIfInBounds_toArray, List.set_cons_zero, List.set_cons_succ, i64_w, i32_w]; rfl
       refine pure_ (i := 28) (N := some 43) (v := undef) (a' := ?_) #[true,true,true,true,true,true,true,true,true,true,true,true,true,true,true,true,true,true,true,true,true,true,true,true,true,true,true,true,true,false,false,false,false,false,false] rfl rfl (any_of HT_.out (by kernel_rfl)) (fun _ _ _ h => h) (Or.inr ⟨by rfl, rfl⟩) ?_ ?_
       rotate_left; · simp only [Act.put, List.setIfInBounds_toArray, List.set_cons_zero, List.set_cons_succ, i64_w, i32_w]; rfl
       refine pure_ (i := 29) (N := some 44) (v := undef) (a' := ?_) #[true,true,true,true,true,true,true,true,true,true,true,true,true,true,true,true,true,true,true,true,true,true,true,true,true,true,true,true,true,true,false,false,false,false,false] rfl rfl (any_of HT_.out (by kernel_rfl)) (fun _ _ _ h => h) (Or.inr ⟨by rfl, rfl⟩) ?_ ?_
       rotate_left; · simp only [Act.put, List.setIfInBounds_toArray, List.set_cons_zero, List.set_cons_succ, i64_w, i32_w]; rfl
       refine pure_ (i := 30) (N := some 45) (v := undef) (a' := ?_) #[true,true,true,true,true,true,true,true,true,true,true,true,true,true,true,true,true,true,true,true,true,true,true,true,true,true,true,true,true,true,true,false,false,false,false] rfl rfl (any_of HT_.out (by kernel_rfl)) (fun _ _ _ h => h) (Or.inr ⟨by rfl, rfl⟩) ?_ ?_
       rotate_left; · simp only [Act.put, List.setIfInBounds_toArray, List.set_cons_zero, List.set_cons_succ, i64_w, i32_w]; rfl
       refine pure_ (i := 31) (N := some 46) (v := undef) (a' := ?_) #[true,true,true,true,true,true,true,true,true,true,true,true,true,true,true,true,true,true,true,true,true,true,true,true,true,true,true,true,true,true,true,true,false,false,false] rfl rfl (any_of HT_.out (by kernel_rfl)) (fun _ _ _ h => h) (Or.inr ⟨by rfl, rfl⟩) ?_ ?_
       rotate_left; · simp only [Act.put, List.setIfInBounds_toArray, List.set_cons_zero, List.set_cons_succ, i64_w, i32_w]; rfl
       refine pure_ (i := 32) (N := some 47) (v := undef) (a' := ?_) #[true,true,true,true,true,true,true,true,true,true,true,true,true,true,true,true,true,true,true,true,true,true,true,true,true,true,true,true,true,true,true,true,true,false,false] rfl rfl (any_of HT_.out (by kernel_rfl)) (fun _ _ _ h => h) (Or.inr ⟨by rfl, rfl⟩) ?_ ?_
       rotate_left; · simp only [Act.put, List.setIfInBounds_toArray, List.set_cons_zero, List.set_cons_succ, i64_w, i32_w]; rfl
       refine pure_ (i := 33) (N := some 48) (v := undef) (a' := ?_) #[true,true,true,true,true,true,true,true,true,true,true,true,true,true,true,true,true,true,true,true,true,true,true,true,true,true,true,true,true,true,true,true,true,true,false] rfl rfl (any_of HT_.out (by kernel_rfl)) (fun _ _ _ h => h) (Or.inr ⟨by rfl, rfl⟩) ?_ ?_
       rotate_left; · simp only [Act.put, List.setIfInBounds_toArray, List.set_cons_zero, List.set_cons_succ, i64_w, i32_w]; rfl
       refine pure_ (i := 34) (N := some 49) (v := ?_) (a' := ?_) #[true,true,true,true,true,true,true,true,true,true,true,true,true,true,true,true,true,true,true,true,true,true,true,true,true,true,true,true,true,true,true,true,true,true,true] rfl rfl (any_of HT_.out (by kernel_rfl)) (fun _ _ _ h => h) (Or.inl ⟨by rfl, ?_⟩) ?_ ?_
       rotate_left; · intro w'; go_simp; with_reducible rfl
       rotate_left; · simp only [Act.put, List.setIfInBounds_toArray, List.set_cons_zero, List.set_cons_succ, i64_w, i32_w]; rfl
       refine done_ (done_of HT_.out (by kernel_rfl)) ?_
       try go_wp2
       go_ret
       exact ⟨by first | rfl | (simp [errW_none, errW_some] <;> rfl) | (simp [*, errW_none, errW_some] <;> rfl), by repeat (first | (with_reducible first | exact HB.out | apply below_alloc | apply pw_below_drewN | apply below_drew1 | refine below_set ?_ GE194.out) | exact HB.out)⟩
     ·rw [if_neg c9] at H
      exact absurd H (by simp)
    ·rw [if_neg c8] at H
     have c8b0 : decide (x5_1 < (l1.length : Int)) = false := decide_eq_false c8
     clear c8
     obtain rfl := Option.some.inj H
     go_wp2
     go_ret
     exact ⟨by first | rfl | (simp [errW_none, errW_some] <;> rfl) | (simp [*, errW_none, errW_some] <;> rfl), by repeat (first | (with_reducible first | exact HB.out | apply below_alloc | apply pw_below_drewN | apply below_drew1 | refine below_set ?_ GE194.out) | exact HB.out)⟩
 ·replace c4 := Bool.eq_false_iff.mpr c4
  subst c4
  have H1 : (some 1) = some r := by rw [if_neg (show ¬ (false = true) by decide)] at H; exact H
  clear H
  have H := H1
  clear H1
  obtain rfl := Option.some.inj H
  go_enter Try.func39, Try.ntmps39
  go_wp2_with (first | ((with_reducible refine gate_dst (N := 2) rfl ?_); refine box_event ?hg (N := 2) ?hd (cs := #[.int .i64 a0_0, .slice A0_1 l0_1.length c0_1]) (t := 26) ?hr ?_; (case hd => rfl); (case hg => rfl); (case hr => first | (go_simp; done) | (go_simp; rfl)); intro gb194 hg w31 hbox hb; have n0_ := Aside0.mk (below_step (by repeat (first | (with_reducible first | exact HB.out | apply below_alloc | apply pw_below_drewN | apply below_drew1) | exact HB.out)) hb); have n1_ := Aside0.mk (hbox); have n2_ := Aside0.mk ((by rw [hg]; exact (below_size (by repeat (first | (with_reducible first | exact HB.out | apply below_alloc | apply pw_below_drewN | apply below_drew1) | exact HB.out))) : w.heap.size ≤ gb194)); have n3_ := Aside0.mk ((by rw [hg]; exact (below_size (by repeat (first | (with_reducible first | exact HB.out | apply below_alloc | apply pw_below_drewN | apply below_drew1) | exact HB.out))) : w.heap.size ≤ gb194)); clear HB; have HB := n0_; have BK194 := n1_; have GW194 := n2_; have GE194 := n3_; clear n0_ n1_ n2_ n3_; clear hb hbox hg; have hcz32_0 : w31.cell? ⟨gb194, 0, none⟩ = some (.int .i64 a0_0) := (blk_cell BK194.out 0).trans rfl; have hcz32_1 : w31.cell? ⟨gb194, 1, none⟩ = some (.slice A0_1 l0_1.length c0_1) := (blk_cell BK194.out 1).trans rfl; have hfz32_0 := blk_frozen BK194.out 0; have hfz32_1 := blk_frozen BK194.out 1) | ((with_reducible refine gate_callee (f := 24) rfl ?_); refine goesL_ (some 7) rfl rfl Try.func24 (by kernel_rfl) rfl #[.agg #[.int .i64 a0_0, .slice A0_1 l0_1.length c0_1]] rfl (by (try simp only [List.map_toArray, List.map_cons, List.map_nil]); first | done | rfl | (simp only [List.length_drop, List.length_take]; rfl)) ?_; (with_reducible refine (spec_l01Is.calls k a0_0 _ _ l0_1 false _ ?side1 ?side2 A3.out).mono ?_); (case side1 => repeat (first | exact (Kd.C_below HR0_1.out HB.out) | (with_reducible refine Kd.C_alloc ?_ _) | (with_reducible refine Kd.C_drewN ?_ _) | (with_reducible refine Kd.C_drew ?_))); (case side2 => exact HC0_1.out); rintro e w33 ⟨rfl, hb⟩; refine ⟨_, rfl, ?_⟩; have n0_ := Aside0.mk (blk_below (g := gb194) (o := .cells #[.int .i64 a0_0, .slice A0_1 l0_1.length c0_1] 26 (0, 0)) (by (with_reducible repeat (first | refine blk_drewN ?_ _ | refine blk_drew ?_ | refine blk_alloc ?_ _)); exact BK194.out) hb); have n1_ := Aside0.mk (below_step (by repeat (first | (with_reducible first | exact HB.out | apply below_alloc | apply pw_below_drewN | apply below_drew1 | refine below_set ?_ GE194.out) | exact HB.out)) hb); clear BK194; clear HB; have BK194 := n0_; have HB := n1_; clear n0_ n1_; (try clear hb); (try clear hb2); (try clear hk); (try clear hi)))
  go_ret
  exact ⟨by first | rfl | (simp [errW_none, errW_some] <;> rfl) | (simp [*, errW_none, errW_some] <;> rfl), by repeat (first | (with_reducible first | exact HB.out | apply below_alloc | apply pw_below_drewN | apply below_drew1 | refine below_set ?_ GE194.out) | exact HB.out)⟩

end Go.Proofs.Ytjoggjgmpoaaiaa.Q
end

section
/- Chains: impl.isChain and spec.l03Chain say the same. -/
namespace Go.Proofs.Ytjoggjgmpoaaiaa.K
open Go.RowKit Go.Shelf Go.Proofs.Ytjoggjgmpoaaiaa.Q Go.Proofs.YtjoggjgmpoaaiaaW.PrintWords Go.Proofs.YtjoggjgmpoaaiaaW.PrintLast Go.Proofs.YtjoggjgmpoaaiaaW.PrintMore
set_option linter.unusedVariables false
set_option linter.unusedSimpArgs false

def okC (l xs : List Int) (i : Nat) : Bool := hasB l (xs.getD i 0) && decide (onesI (xs.getD i 0) = onesI (xs.getD 0 0)) && (i == 0 || decide (xs.getD (i - 1) 0 < xs.getD i 0))
/-- The list is a chain of a complex. -/
def chainB (l xs : List Int) : Bool := (List.range xs.length).all (okC l xs)
theorem chain_false {l xs : List Int} {i : Nat} (hi : i < xs.length) (h : okC l xs i = false) : chainB l xs = false := by
  unfold chainB
  rw [List.all_eq_false]
  exact ⟨i, List.mem_range.2 hi, by simp [h]⟩
theorem chain_true {l xs : List Int} (h : ∀ i, i < xs.length → okC l xs i = true) : chainB l xs = true := by
  unfold chainB
  rw [List.all_eq_true]
  exact fun i hi => h i (List.mem_range.1 hi)
theorem chain_at {l xs : List Int} (h : chainB l xs = true) (i : Nat) (hi : i < xs.length) : okC l xs i = true := by
  unfold chainB at h
  rw [List.all_eq_true] at h
  exact h i (List.mem_range.2 hi)
theorem okC_eq (l xs : List Int) (i : Nat) (hi : i < xs.length) : okC l xs i = (hasB l xs[i] && decide (onesI xs[i] = onesI (xs[0]'(by omega))) && (i == 0 || decide (xs[i - 1]'(by omega) < xs[i]))) := by
  have h0 : 0 < xs.length := by omega
  have h1 : i - 1 < xs.length := by omega
  unfold okC
  rw [List.getD_eq_getElem?_getD, List.getD_eq_getElem?_getD, List.getD_eq_getElem?_getD, List.getElem?_eq_getElem hi, List.getElem?_eq_getElem h0, List.getElem?_eq_getElem h1]
  rfl
theorem rd_zero (l : List Int) (h : 0 < l.length) : rd l 0 = l[0] := rd_nat l 0 h
theorem isChain_l0 {n : Int} {l : List Int} (hi : isC n l = true) (xs : List Int) (hx : xs.length ≤ 2097152) : ∀ (m i k : Nat), i + m = xs.length → m + l.length + 2 ≤ k → (∀ j, j < i → okC l xs j = true) →
    impl_Complex_isChain.l0 k xs xs (xs.length : Int) (i : Int) n l = some (chainB l xs) := by
  have h63 := (isC_faces hi).2.2.2
  have hh : ∀ k f, l.length + 1 ≤ k → impl_Complex_has.f k n l f = some (hasB l f) := fun k f hk => by
    unfold impl_Complex_has.f
    obtain ⟨q, rfl⟩ : ∃ q, k = (l.length + 1) + q := ⟨k - (l.length + 1), by omega⟩
    have : ∀ q, slices_BinarySearch_int64_int64.f (l.length + 1 + q) l f = some (bsOf l f) := fun q => by
      induction q with
      | zero => exact bs_is l f (by omega)
      | succ q ih => exact (slices_BinarySearch_int64_int64.mono _ _ _) _ ih
    rw [this]
    rfl
  intro m
  induction m with
  | zero =>
    intro i k him hk ho
    obtain ⟨k, rfl⟩ : ∃ q, k = q + 1 := ⟨k - 1, by omega⟩
    simp only [impl_Complex_isChain.l0]
    rw [if_neg (by omega), chain_true (fun j hj => ho j (by omega))]
  | succ m ih =>
    intro i k him hk ho
    obtain ⟨k, rfl⟩ : ∃ q, k = q + 1 := ⟨k - 1, by omega⟩
    have hil : i < xs.length := by omega
    have h0l : 0 < xs.length := by omega
    simp only [impl_Complex_isChain.l0]
    rw [if_pos (by omega), if_pos (by omega), if_pos (by omega), rd_nat xs i hil, hh k _ (by omega)]
    simp only [Option.bind_some]
    by_cases h1 : hasB l xs[i] = true
    · have hm := has_mem hi h1
      rw [if_pos h1, size_is xs[i] (by omega) (by omega)]
      simp only [Option.bind_some]
      rw [if_pos (by omega), rd_zero xs h0l]
      have hm0 : 1 ≤ xs[0] ∧ xs[0] ≤ 63 := by
        rcases Nat.eq_zero_or_pos i with e | e
        · subst e; exact hm.2
        · have h2 := ho 0 e
          rw [okC_eq l xs 0 h0l] at h2
          simp only [Bool.and_eq_true] at h2
          exact (has_mem hi h2.1.1).2
      rw [size_is xs[0] (by omega) (by omega)]
      simp only [Option.bind_some]
      by_cases h2 : onesI xs[i] = onesI xs[0]
      · rw [if_pos h2]
        have hnext : okC l xs i = true → impl_Complex_isChain.l0 k xs xs (xs.length : Int) (wrap64 ((i : Int) + 1)) n l = some (chainB l xs) := fun hok => by
          rw [w64 ((i : Int) + 1) (by omega) (by omega), nat_succ]
          exact ih (i + 1) k (by omega) (by omega) (fun j hj => by
            rcases Nat.lt_succ_iff_lt_or_eq.1 hj with h | h
            · exact ho j h
            · rw [h]; exact hok)
        rcases Nat.eq_zero_or_pos i with e | e
        · subst e
          rw [if_neg (by omega)]
          exact hnext (by rw [okC_eq l xs 0 h0l, h1]; simp)
        · have e2 : wrap64 ((i : Int) - 1) = ((i - 1 : Nat) : Int) := by rw [w64 ((i : Int) - 1) (by omega) (by omega)]; omega
          rw [if_pos (by omega), e2, if_pos (by omega), if_pos (by omega), rd_nat xs (i - 1) (by omega)]
          by_cases h3 : xs[i] ≤ xs[i - 1]
          · rw [if_pos h3, chain_false hil]
            rw [okC_eq l xs i hil]
            have : ¬ xs[i - 1] < xs[i] := by omega
            simp [this, show i ≠ 0 by omega]
          · rw [if_neg h3]
            refine hnext ?_
            rw [okC_eq l xs i hil, h1, h2]
            have : xs[i - 1] < xs[i] := by omega
            simp [this]
      · rw [if_neg h2, chain_false hil]
        rw [okC_eq l xs i hil]
        simp [h2]
    · rw [if_neg h1, chain_false hil]
      rw [okC_eq l xs i hil]
      simp [h1]
theorem isChain_is {n : Int} {l : List Int} (hi : isC n l = true) (xs : List Int) (hx : xs.length ≤ 2097152) (k : Nat) (hk : xs.length + l.length + 2 ≤ k) : impl_Complex_isChain.f k n l xs = some (chainB l xs) := by
  unfold impl_Complex_isChain.f
  have := isChain_l0 hi xs hx xs.length 0 k (by omega) (by omega) (fun j hj => absurd hj (Nat.not_lt_zero j))
  exact this
theorem chain_l0 {n : Int} {l : List Int} (hi : isC n l = true) (xs : List Int) (hx : xs.length ≤ 2097152) : ∀ (m i k : Nat), i + m = xs.length → m + l.length + 20 ≤ k → (∀ j, j < i → okC l xs j = true) →
    spec_l03Chain.l0 k xs (i : Int) n l = some (if chainB l xs = true then 0 else 2) := by
  have h63 := (isC_faces hi).2.2.2
  have hhd : ∀ f, hasB l f = decide (f ∈ l) := fun f => has_asc l f (by omega) (isC_faces hi).2.1
  intro m
  induction m with
  | zero =>
    intro i k him hk ho
    obtain ⟨k, rfl⟩ : ∃ q, k = q + 1 := ⟨k - 1, by omega⟩
    simp only [spec_l03Chain.l0]
    rw [if_neg (by omega), chain_true (fun j hj => ho j (by omega)), if_pos rfl]
  | succ m ih =>
    intro i k him hk ho
    obtain ⟨k, rfl⟩ : ∃ q, k = q + 1 := ⟨k - 1, by omega⟩
    have hil : i < xs.length := by omega
    have h0l : 0 < xs.length := by omega
    simp only [spec_l03Chain.l0]
    rw [if_pos (by omega), if_pos (by omega), rd_nat xs i hil, specHas_is n xs[i] l (by omega) k (by omega)]
    simp only [Option.bind_some]
    by_cases h1 : xs[i] ∈ l
    · have hb : hasB l xs[i] = true := by rw [hhd]; exact decide_eq_true h1
      have hm := has_mem hi hb
      rw [if_pos (decide_eq_true h1)]
      have hnext : okC l xs i = true → spec_l03Chain.l0 k xs (wrap64 ((i : Int) + 1)) n l = some (if chainB l xs = true then 0 else 2) := fun hok => by
        rw [w64 ((i : Int) + 1) (by omega) (by omega), nat_succ]
        exact ih (i + 1) k (by omega) (by omega) (fun j hj => by
          rcases Nat.lt_succ_iff_lt_or_eq.1 hj with h | h
          · exact ho j h
          · rw [h]; exact hok)
      rcases Nat.eq_zero_or_pos i with e | e
      · subst e
        rw [if_neg (by omega)]
        exact hnext (by rw [okC_eq l xs 0 h0l, hb]; simp)
      · have e2 : wrap64 ((i : Int) - 1) = ((i - 1 : Nat) : Int) := by rw [w64 ((i : Int) - 1) (by omega) (by omega)]; omega
        rw [if_pos (by omega), e2, if_pos (by omega), if_pos (by omega), rd_nat xs (i - 1) (by omega)]
        by_cases h3 : xs[i] ≤ xs[i - 1]
        · rw [if_pos h3, chain_false hil, if_neg (by decide)]
          rw [okC_eq l xs i hil]
          have : ¬ xs[i - 1] < xs[i] := by omega
          simp [this, show i ≠ 0 by omega]
        · rw [if_neg h3]
          have hm0 : 1 ≤ xs[0] ∧ xs[0] ≤ 63 := by
            have h2 := ho 0 e
            rw [okC_eq l xs 0 h0l] at h2
            simp only [Bool.and_eq_true] at h2
            exact (has_mem hi h2.1.1).2
          rw [specOnes_is xs[i] (by omega) (by omega) k (by omega)]
          simp only [Option.bind_some]
          rw [if_pos (by omega), rd_zero xs h0l, specOnes_is xs[0] (by omega) (by omega) k (by omega)]
          simp only [Option.bind_some]
          by_cases h2 : onesI xs[i] = onesI xs[0]
          · rw [if_pos h2]
            refine hnext ?_
            rw [okC_eq l xs i hil, hb, h2]
            have : xs[i - 1] < xs[i] := by omega
            simp [this]
          · rw [if_neg h2, chain_false hil, if_neg (by decide)]
            rw [okC_eq l xs i hil]
            simp [h2]
    · rw [if_neg (by simp [h1]), chain_false hil, if_neg (by decide)]
      rw [okC_eq l xs i hil, hhd]
      simp [h1]
theorem specChain_is (n : Int) (l xs : List Int) (hl : l.length ≤ 2097152) (hx : xs.length ≤ 2097152) (k : Nat) (hk : isK l + xs.length + 40 ≤ k) : spec_l03Chain.f k n l xs = some (codeOf n l (chainB l xs)) := by
  unfold spec_l03Chain.f
  rw [specIs_is n l hl k (by omega)]
  simp only [Option.bind_some]
  by_cases hi : isC n l = true
  · have h63 := (isC_faces hi).2.2.2
    rw [if_pos hi]
    have := chain_l0 hi xs hx xs.length 0 k (by omega) (by unfold isK at hk; omega) (fun j hj => absurd hj (Nat.not_lt_zero j))
    rw [show ((0 : Nat) : Int) = 0 from rfl] at this
    rw [this]
    unfold codeOf
    rw [if_pos hi]
  · rw [if_neg hi]
    unfold codeOf
    rw [if_neg hi]
theorem chain_facts {n : Int} {l xs : List Int} (hi : isC n l = true) (h : chainB l xs = true) : xs.Pairwise (· < ·) ∧ ∀ x ∈ xs, x ∈ l ∧ onesI x = onesI (xs.getD 0 0) := by
  constructor
  · have hstep : ∀ i (h1 : i + 1 < xs.length), xs[i] < xs[i + 1] := fun i h1 => by
      have h2 := chain_at h (i + 1) h1
      rw [okC_eq l xs (i + 1) h1] at h2
      simp at h2
      exact h2.2
    rw [List.pairwise_iff_getElem]
    intro i j hi2 hj hij
    obtain ⟨m, rfl⟩ : ∃ m, j = i + 1 + m := ⟨j - (i + 1), by omega⟩
    clear hij
    induction m with
    | zero => exact hstep i hj
    | succ m ih =>
      have h3 := ih (by omega)
      have h4 := hstep (i + 1 + m) (by omega)
      exact Int.lt_trans h3 h4
  · intro x hx
    obtain ⟨i, hil, rfl⟩ := List.getElem_of_mem hx
    have h2 := chain_at h i hil
    rw [okC_eq l xs i hil] at h2
    simp only [Bool.and_eq_true, decide_eq_true_eq] at h2
    refine ⟨(has_mem hi h2.1.1).1, ?_⟩
    rw [h2.1.2]
    have h0l : 0 < xs.length := by omega
    simp [h0l]
end Go.Proofs.Ytjoggjgmpoaaiaa.K
end

section
/- Rows of numbers as elements of a slice: each is the slice, and what it holds. -/
namespace Go.Proofs.Ytjoggjgmpoaaiaa.K
open Go.RowKit Go.Shelf Go.Proofs.YtjoggjgmpoaaiaaW.PrintWords Go.Proofs.YtjoggjgmpoaaiaaW.PrintLast Go.Proofs.YtjoggjgmpoaaiaaW.PrintMore
set_option linter.unusedVariables false
/-- A row: its slice, and what it holds. -/
structure RowT where
  A : Option Addr
  c : Nat
  xs : List Int
def RowT.v (r : RowT) : Value := .slice r.A r.xs.length r.c
theorem RowT.one (r : RowT) : r.v.oneCell' = true := rfl
abbrev Kr : Kd RowT := Kd.scalar RowT.v RowT.one
def nilT : RowT := ⟨none, 0, []⟩
/-- What the rows hold lies in memory. -/
def RowsIn (w : World) (vs : List RowT) : Prop := ∀ x ∈ vs, Ki.C w x.A x.xs.length x.xs ∧ x.xs.length ≤ x.c ∧ x.xs.length ≤ 2097152
theorem RowsIn.later {w w' : World} {vs : List RowT} (h : RowsIn w vs) (hg : Grew w w') : RowsIn w' vs := fun x hx => ⟨Kd.C_below (h x hx).1 hg, (h x hx).2⟩
theorem Kr_read {W : World} {A : Option Addr} {vs : List RowT} (h : Kr.C W A vs.length vs) (i : Nat) (hi : i < vs.length) :
    ∃ ad : Addr, A = some ad ∧ W.cell? (ad.add i) = some vs[i].v := by
  obtain ⟨ad, e, hc⟩ := ReadsOf.at_ (Kd.reads_of_C (enc := RowT.v) (d := nilT) (h1 := RowT.one) h) (i : Int) (by omega) (by omega)
  refine ⟨ad, e, ?_⟩
  rw [Int.toNat_natCast] at hc
  rw [hc]
  simp [rdOf, hi]
theorem Kr_of {W : World} {vs : List RowT} (B : Nat) (t : TypeId) (hB : W.heap[B]? = some (.cells (vs.map RowT.v).toArray t (0, 0))) (hn : vs.length ≤ 9223372036854775807) : Kr.C W (some ⟨B, 0, none⟩) vs.length vs := by
  refine Kd.C_of_reads (d := nilT) ⟨rfl, hn, fun h0 => ⟨_, rfl, fun j hj => ?_⟩⟩
  have := blk_cell hB j
  have e : (⟨B, 0, none⟩ : Addr).add j = ⟨B, j, none⟩ := by simp only [Addr.add]; split <;> simp_all
  rw [e, this]
  simp [hj]
end Go.Proofs.Ytjoggjgmpoaaiaa.K
end

section
/- Contracts of the library's functions that take a function value, over rows of rows of numbers. -/
namespace Go.Proofs.Ytjoggjgmpoaaiaa.K
open Go.RowKit Go.Shelf Go.Proofs.YtjoggjgmpoaaiaaW.PrintWords Go.Proofs.YtjoggjgmpoaaiaaW.PrintLast Go.Proofs.YtjoggjgmpoaaiaaW.PrintMore
set_option linter.unusedVariables false
set_option linter.unusedSimpArgs false

set_option maxHeartbeats 2000000 in
theorem IndexFunc_v (p : RowT → Bool) (A : Option Addr) (c : Nat) (l : List RowT) (g : Nat) (first caps : Array Value) (w : World)
    (hr : Kr.C w A l.length l) (hc : l.length ≤ c) (hbig : l.length ≤ 9223372036854775807) (eg : EntersG g)
    (hp : ∀ x, x ∈ l → Answers w g (first.push x.v ++ caps) (.bool (p x))) :
    Calls Try.prog 105 #[.slice A l.length c, .func (.func g) first caps] w fun e w' => e = .returned (I (idx p l)) ∧ Grew w w' := by
  have HR := Aside0.mk hr
  have HC := Aside0.mk hc
  have HP := Aside0.mk hp
  clear hr hc hp
  go_enter Try.func105, Try.ntmps105
  go_wp2
  go_loopg [5, 8] l.length (fun gg _ s8 wr => ∃ kk : Nat, kk ≤ l.length ∧ l.length - kk ≤ gg ∧ s8 = .int .i64 kk ∧ Aside0 (Grew w wr) ∧ Aside0 (∀ j (h : j < l.length), j < kk → p l[j] = false))
  case atStart => exact ⟨0, Nat.zero_le _, by omega, rfl, ⟨Below.refl _ w⟩, ⟨fun j _ hj => absurd hj (Nat.not_lt_zero _)⟩⟩
  case round =>
    obtain ⟨kk, hkk, hg, rfl, BW, A0⟩ := hrel
    by_cases hlt : kk < l.length
    · have hltz : (kk : Int) < (l.length : Int) := by omega
      obtain ⟨ad, e0, hx⟩ := Kr_read (Kd.C_below HR.out BW.out) kk hlt
      cases e0
      have hcall := HP.out l[kk] (by simp) wr BW.out
      generalize hy : l[kk] = y at hx hcall
      have B := Aside0.mk hy
      clear hy
      cases hq : p y with
      | true =>
        rw [hq] at hcall
        go_wp2_with fail
        refine hcall.mono ?_
        rintro e w' ⟨rfl, hb'⟩
        clear hcall
        go_wp2_with fail
        go_ret
        refine ⟨?_, Grew.trans BW.out hb'⟩
        rw [idx_hit p l kk hlt (by rw [B.out]; exact hq) (fun j hj => A0.out j (by omega) hj)]
        rfl
      | false =>
        rw [hq] at hcall
        go_wp2_with fail
        refine hcall.mono ?_
        rintro e w' ⟨rfl, hb'⟩
        clear hcall
        go_wp2_with fail
        go_roundg (l.length - (kk + 1))
        case measure => omega
        case rel =>
          refine ⟨kk + 1, by omega, by omega, by go_num, ⟨Grew.trans BW.out hb'⟩, ⟨fun j h hj => ?_⟩⟩
          by_cases e : j = kk
          · subst e
            rw [B.out]; exact hq
          · exact A0.out j h (by omega)
    · have hltz : ¬ (kk : Int) < (l.length : Int) := by omega
      have e : kk = l.length := by omega
      have H := idx_miss p l (fun j hj => A0.out j hj (by omega))
      have HM := Aside0.mk H
      clear H e
      go_wp2
      go_ret
      exact ⟨by rw [HM.out]; rfl, BW.out⟩

set_option maxHeartbeats 2000000 in
theorem ContainsFunc_v (p : RowT → Bool) (A : Option Addr) (c : Nat) (l : List RowT) (g : Nat) (first caps : Array Value) (w : World)
    (hr : Kr.C w A l.length l) (hc : l.length ≤ c) (hbig : l.length ≤ 9223372036854775807) (eg : EntersG g)
    (hp : ∀ x, x ∈ l → Answers w g (first.push x.v ++ caps) (.bool (p x))) :
    Calls Try.prog 92 #[.slice A l.length c, .func (.func g) first caps] w fun e w' => e = .returned (.bool (l.any p)) ∧ Grew w w' := by
  rw [← idx_nonneg]
  have H := Aside0.mk (IndexFunc_v p A c l g first caps w hr hc hbig eg hp)
  clear hr hc hbig hp
  go_enter Try.func92, Try.ntmps92
  go_wp2_with fail
  refine H.out.mono ?_
  rintro e w' ⟨rfl, hb'⟩
  go_wp2_with fail
  go_ret
  exact ⟨by rfl, hb'⟩

set_option maxHeartbeats 1000000 in
theorem areAll1_v (b : Bool) (x : RowT) (B : Nat) (g : Nat) (first caps : Array Value) (w : World)
    (hB : w.cell? ⟨B, 0, none⟩ = some (.func (.func g) first caps)) (eg : EntersG g)
    (hp : Answers w g (first.push x.v ++ caps) (.bool b)) :
    Calls Try.prog 93 #[x.v, .pointer (some ⟨B, 0, none⟩)] w fun e w' => e = .returned (.bool (!b)) ∧ Grew w w' := by
  have HP := Aside0.mk hp
  clear hp
  go_enter Try.func93, Try.ntmps93
  go_wp2_with fail
  refine (HP.out _ (Grew.refl _)).mono ?_
  rintro e w' ⟨rfl, hb'⟩
  cases b <;> go_wp2_with fail
  all_goals go_ret
  all_goals exact ⟨by rfl, hb'⟩

set_option maxHeartbeats 1000000 in
theorem areAll_v (p : RowT → Bool) (A : Option Addr) (c : Nat) (l : List RowT) (g : Nat) (first caps : Array Value) (w : World)
    (hr : Kr.C w A l.length l) (hc : l.length ≤ c) (hbig : l.length ≤ 9223372036854775807) (eg : EntersG g)
    (hp : ∀ x, x ∈ l → Answers w g (first.push x.v ++ caps) (.bool (p x))) :
    Calls Try.prog 71 #[.slice A l.length c, .func (.func g) first caps] w fun e w' => e = .returned (.bool (l.all p)) ∧ Grew w w' := by
  have HR := Aside0.mk hr
  have HC := Aside0.mk hc
  have HP := Aside0.mk hp
  have hg : Grew w (w.alloc (.cells #[.func (.func g) first caps] 83)) := below_alloc (Below.refl _ _) _
  have H := Aside0.mk (ContainsFunc_v (fun x => !p x) A c l 93 #[] #[.pointer (some ⟨w.heap.size, 0, none⟩)] (w.alloc (.cells #[.func (.func g) first caps] 83))
    (Kd.C_below HR.out hg) hc hbig (enters_of Try.func93 (by kernel_rfl) rfl) (fun x hx W hW =>
      areAll1_v (p x) x w.heap.size g first caps W (blk_cell (blk_below (blk_new w _) hW) 0) eg (((HP.out x hx).later hg).later hW)))
  have hall : l.all p = !(l.any fun x => !p x) := by
    rw [List.not_any_eq_all_not]; simp
  rw [hall]
  clear hr hc hp hall
  generalize (l.any fun x => !p x) = b at H ⊢
  go_enter Try.func71, Try.ntmps71
  go_wp2_with fail
  refine H.out.mono ?_
  rintro e w' ⟨rfl, hb'⟩
  have HG := Aside0.mk (Grew.trans hg hb')
  clear hb' hg
  cases b <;> go_wp2_with fail
  all_goals go_ret
  all_goals exact ⟨by rfl, HG.out⟩

end Go.Proofs.Ytjoggjgmpoaaiaa.K
end

section
/- The code of chains. -/
namespace Go.Proofs.Ytjoggjgmpoaaiaa.K
open Go.RowKit Go.Shelf Go.Proofs.Ytjoggjgmpoaaiaa.Q Go.Proofs.YtjoggjgmpoaaiaaW.PrintWords Go.Proofs.YtjoggjgmpoaaiaaW.PrintLast Go.Proofs.YtjoggjgmpoaaiaaW.PrintMore
set_option linter.unusedVariables false
set_option linter.unusedSimpArgs false

theorem isChain_calls {n : Int} (A : Option Addr) (c : Nat) {l : List Int} (hi : isC n l = true) (A2 : Option Addr) (c2 : Nat) (xs : List Int) (w : World) (hk : Kx w A c l) (hr : Ki.C w A2 xs.length xs) (hc : xs.length ≤ c2) (hx : xs.length ≤ 2097152) :
    Calls Try.prog 72 #[.agg #[I n, .slice A l.length c], .slice A2 xs.length c2] w fun e w' => e = .returned (.bool (chainB l xs)) ∧ Grew w w' :=
  impl_Complex_isChain.calls (xs.length + l.length + 2) n A c l A2 c2 xs _ w hk.r hk.c hr hc (isChain_is hi xs hx _ (Nat.le_refl _))
set_option maxHeartbeats 2000000 in
theorem chainCode1_calls {n : Int} (A : Option Addr) (c : Nat) {l : List Int} (A2 : Option Addr) (c2 : Nat) (vs : List RowT) {Bk Bq : Nat} (w : World) (hi : isC n l = true) (h0 : CB w Bk n (.slice A l.length c)) (h1 : w.cell? ⟨Bq, 0, none⟩ = some (.slice A2 vs.length c2)) (hk : Kx w A c l) (hq : Kr.C w A2 vs.length vs) (hc2 : vs.length ≤ c2) (hv : RowsIn w vs) :
    Calls Try.prog 70 #[.pointer (some ⟨Bq, 0, none⟩), .pointer (some ⟨Bk, 0, none⟩)] w fun e w' => e = .returned (.bool (vs.all fun r => chainB l r.xs)) ∧ Grew w w' := by
  have k0 := h0.c0
  have k1 := h0.c1
  have H := Aside0.mk (areAll_v (fun r => chainB l r.xs) A2 c2 vs 72 #[.agg #[I n, .slice A l.length c]] #[] w hq hc2 (Kd.C_max hq) (enters_of Try.func72 (by kernel_rfl) rfl)
    (fun r hr W hW => isChain_calls A c hi r.A r.c r.xs W (hk.later hW) (Kd.C_below (hv r hr).1 hW) (hv r hr).2.1 (hv r hr).2.2))
  clear hk hq hc2 hv h0
  generalize (vs.all fun r => chainB l r.xs) = r at H ⊢
  go_enter Try.func70, Try.ntmps70
  go_wp2_with fail
  refine H.out.mono ?_
  rintro e w1 ⟨rfl, hG1⟩
  go_wp2_with fail
  go_ret
  exact ⟨rfl, hG1⟩
set_option maxHeartbeats 2000000 in
theorem chainCode_calls (n : Int) (A : Option Addr) (c : Nat) (l : List Int) (A2 : Option Addr) (c2 : Nat) (vs : List RowT) (w : World) (hk : Kx w A c l) (hq : Kr.C w A2 vs.length vs) (hc2 : vs.length ≤ c2) (hv : RowsIn w vs) :
    Calls Try.prog 41 #[.agg #[I n, .slice A l.length c], .slice A2 vs.length c2] w fun e w' => e = .returned (I (codeOf n l (vs.all fun r => chainB l r.xs))) ∧ Grew w w' := by
  obtain ⟨W, hW⟩ : ∃ W, W = (w.alloc (.cells #[I n, .slice A l.length c] 26)).alloc (.cells #[.slice A2 vs.length c2] 79) := ⟨_, rfl⟩
  have hB : CB W w.heap.size n (.slice A l.length c) := by rw [hW]; exact blk_alloc (blk_new w _) _
  have hL : W.heap[w.heap.size + 1]? = some (.cells #[.slice A2 vs.length c2] 79 (0, 0)) := by
    rw [hW]
    have := blk_new (w.alloc (.cells #[I n, .slice A l.length c] 26)) (.cells #[.slice A2 vs.length c2] 79)
    rwa [World.size_alloc] at this
  have hg : Grew w W := by rw [hW]; exact below_alloc (below_alloc (Grew.refl w) _) _
  have H := Aside0.mk (complexCode_calls (vs.all fun r => chainB l r.xs) n A c l 70 #[] #[.pointer (some ⟨w.heap.size + 1, 0, none⟩), .pointer (some ⟨w.heap.size, 0, none⟩)] W (hk.later hg) (enters_of Try.func70 (by kernel_rfl) rfl)
    (fun hi W2 hW2 => by
      have := chainCode1_calls A c A2 c2 vs W2 hi (blk_below hB hW2) (blk_cell (blk_below hL hW2) 0) (hk.later (Grew.trans hg hW2)) (Kd.C_below hq (Grew.trans hg hW2)) hc2 (hv.later (Grew.trans hg hW2))
      rw [Array.empty_append]
      exact this))
  have k0 := hB.c0
  have k1 := hB.c1
  have HG := Aside0.mk hg
  clear hk hq hc2 hB hL hg hv
  generalize codeOf n l (vs.all fun r => chainB l r.xs) = cc at H ⊢
  subst hW
  go_enter Try.func41, Try.ntmps41
  go_wp2_with fail
  refine H.out.mono ?_
  rintro e w1 ⟨rfl, hG1⟩
  go_wp2_with fail
  go_ret
  exact ⟨rfl, Grew.trans HG.out hG1⟩

end Go.Proofs.Ytjoggjgmpoaaiaa.K
end

section
/- Values of one cell, as elements of a slice. -/
namespace Go.Proofs.Ytjoggjgmpoaaiaa.K
open Go.RowKit Go.Shelf Go.Proofs.YtjoggjgmpoaaiaaW.PrintWords Go.Proofs.YtjoggjgmpoaaiaaW.PrintLast Go.Proofs.YtjoggjgmpoaaiaaW.PrintMore
set_option linter.unusedVariables false
/-- A value of one cell, as it is. -/
abbrev OneV : Type := { v : Value // v.oneCell' = true }
abbrev Kv : Kd OneV := Kd.scalar (fun v => v.1) (fun v => v.2)
def nilV : OneV := ⟨.slice none 0 0, rfl⟩
end Go.Proofs.Ytjoggjgmpoaaiaa.K
end

section
/- Rows of rows of numbers of the call's own, whose inner rows are written in place. -/
namespace Go.Proofs.Ytjoggjgmpoaaiaa.K
open Go.RowKit Go.Shelf Go.Proofs.YtjoggjgmpoaaiaaW.PrintWords Go.Proofs.YtjoggjgmpoaaiaaW.PrintLast Go.Proofs.YtjoggjgmpoaaiaaW.PrintMore
set_option linter.unusedVariables false
set_option linter.unusedSimpArgs false

theorem infoS : (Try.prog.info? 22).map (fun i => (i.zero, i.size, i.bytes)) = some (some (.slice none 0 0), 1, 24) := by kernel_rfl
/-- The rows vs of M; a block k that row i uses has the tag f k = i. -/
structure Rws (w : World) (base : Nat) (vs : List OneV) (f : Nat → Nat) (M : List (List Int)) : Prop where
  len : vs.length = M.length
  row : ∀ i (h : i < M.length), Ki.R 2 w base (fun k => f k = i) (vs[i]'(by omega)).1 M[i]
/-- A matrix of the call's own. -/
structure Mat (w : World) (base : Nat) (v : Value) (vs : List OneV) (f : Nat → Nat) (M : List (List Int)) : Prop extends Rws w base vs f M where
  outer : Kv.R 22 w base (fun k => M.length ≤ f k) v vs
  fresh : ∀ k, w.heap.size ≤ k → M.length ≤ f k
theorem Rws.step {w w1 : World} {base : Nat} {vs : List OneV} {f : Nat → Nat} {M : List (List Int)} (h : Rws w base vs f M) (hm : ∀ k, f k < M.length → k < w.heap.size → w1.heap[k]? = w.heap[k]?) : Rws w1 base vs f M :=
  ⟨h.len, fun i hi => Kd.R_step (h.row i hi) (fun k ho hk => hm k (by rw [ho]; exact hi) hk)⟩
theorem Rws.below {w w1 : World} {base : Nat} {vs : List OneV} {f : Nat → Nat} {M : List (List Int)} (h : Rws w base vs f M) (hb : Below w.heap.size w w1) : Rws w1 base vs f M :=
  h.step (fun k _ hk => hb.block k hk)
theorem Mat.below {w w1 : World} {base : Nat} {v : Value} {vs : List OneV} {f : Nat → Nat} {M : List (List Int)} (h : Mat w base v vs f M) (hb : Below w.heap.size w w1) : Mat w1 base v vs f M :=
  ⟨h.toRws.below hb, Kd.R_below h.outer hb, fun k hk => h.fresh k (Nat.le_trans hb.size hk)⟩
theorem Mat.nil (w : World) (base : Nat) : Mat w base (.slice none 0 0) [] (fun _ => 0) [] :=
  ⟨⟨rfl, fun i h => absurd h (Nat.not_lt_zero i)⟩, Kd.R_nil _ _ _ _ _, fun _ _ => Nat.zero_le _⟩
theorem Mat.slice {w : World} {base : Nat} {v : Value} {vs : List OneV} {f : Nat → Nat} {M : List (List Int)} (h : Mat w base v vs f M) : ∃ A c, v = .slice A M.length c ∧ M.length ≤ c := by
  obtain ⟨A, c, h1, h2, _⟩ := Kd.R_reads h.outer
  rw [h.len] at h1 h2
  exact ⟨A, c, h1, h2⟩
/-- The slice of row i, where it has numbers. -/
theorem Rws.form {w : World} {base : Nat} {vs : List OneV} {f : Nat → Nat} {M : List (List Int)} (h : Rws w base vs f M) (i : Nat) (hi : i < M.length) (hp : 0 < M[i].length) :
    ∃ g c, (vs[i]'(by have := h.len; omega)).1 = .slice (some ⟨g, 0, none⟩) M[i].length c ∧ M[i].length ≤ c ∧ f g = i ∧ base ≤ g ∧ g < w.heap.size := by
  obtain ⟨g, c, h1, h2, h3, _⟩ := Kd.R_form (h.row i hi) hp
  have hr := h.row i hi
  obtain ⟨A, c', h4, h5, _⟩ := Kd.R_reads hr
  rw [h1] at h4
  injection h4 with e1 e2 e3
  have h6 := hr.1 g (by rw [h1]; simp [Value.ownBlock])
  exact ⟨g, c, h1, by omega, h6, h2, h3⟩
/-- One number of row i is written. -/
theorem Mat.put {w : World} {base : Nat} {v : Value} {vs : List OneV} {f : Nat → Nat} {M : List (List Int)} (h : Mat w base v vs f M) (i : Nat) (hi : i < M.length) (g n c : Nat) (hv : (vs[i]'(by have := h.len; omega)).1 = .slice (some ⟨g, 0, none⟩) n c) (j : Int) (x : Int) :
    Mat (w.setCell ⟨g, j.toNat, none⟩ (I x)) base v vs f (M.set i (M[i].set j.toNat x)) := by
  have hr := h.row i hi
  rw [hv] at hr
  have hg : f g = i := hr.1 g (by simp [Value.ownBlock])
  have hw := Kd.R_putn hr j x
  have hfar : ∀ k, k ≠ g → (w.setCell ⟨g, j.toNat, none⟩ (I x)).heap[k]? = w.heap[k]? := fun k hk => Below.heap_setCell w _ _ k hk
  refine ⟨⟨by rw [List.length_set]; exact h.len, fun k hk => ?_⟩, ?_, fun k hk => ?_⟩
  · rw [List.length_set] at hk
    by_cases e : i = k
    · subst e
      rw [List.getElem_set_self, hv]
      exact hw
    · rw [List.getElem_set_ne e]
      exact Kd.R_step (h.row k hk) (fun b ho _ => hfar b (fun e2 => e (by rw [← hg, ← ho, e2])))
  · rw [List.length_set]
    exact Kd.R_step h.outer (fun k ho _ => hfar k (fun e2 => by rw [e2, hg] at ho; omega))
  · rw [List.length_set]
    rw [World.size_setCell] at hk
    exact h.fresh k hk
/-- Two rows change places. -/
def swapT (a b i : Nat) : Nat := if i = b then a else if i = a then b else i
theorem swapT_lt {a b i m : Nat} (ha : a < m) (hb : b < m) : swapT a b i < m ↔ i < m := by
  unfold swapT
  split
  · omega
  · split <;> omega
theorem swapT_swap (a b i : Nat) : swapT a b (swapT a b i) = i := by
  unfold swapT
  by_cases h1 : i = b <;> by_cases h2 : i = a <;> by_cases h3 : a = b <;> simp_all
theorem swap_get {α : Type} (l : List α) (a b : Nat) (ha : a < l.length) (hb : b < l.length) (i : Nat) (hi : i < l.length) : ((l.set a l[b]).set b l[a])[i]'(by simpa using hi) = l[swapT a b i]'((swapT_lt ha hb).2 hi) := by
  rw [List.getElem_set]
  by_cases e : b = i
  · rw [if_pos e]
    have : swapT a b i = a := if_pos e.symm
    simp only [this]
  · rw [if_neg e, List.getElem_set]
    by_cases e2 : a = i
    · rw [if_pos e2]
      have : swapT a b i = b := by unfold swapT; rw [if_neg (fun x => e x.symm), if_pos e2.symm]
      simp only [this]
    · rw [if_neg e2]
      have : swapT a b i = i := by unfold swapT; rw [if_neg (fun x => e x.symm), if_neg (fun x => e2 x.symm)]
      simp only [this]
theorem Mat.swap {w : World} {base : Nat} {vs : List OneV} {f : Nat → Nat} {M : List (List Int)} {G n c : Nat} (h : Mat w base (.slice (some ⟨G, 0, none⟩) n c) vs f M) (a b : Nat) (ha : a < M.length) (hb : b < M.length) :
    Mat ((w.setCell ⟨G, a, none⟩ (vs[b]'(by have := h.len; omega)).1).setCell ⟨G, b, none⟩ (vs[a]'(by have := h.len; omega)).1) base (.slice (some ⟨G, 0, none⟩) n c) ((vs.set a (vs[b]'(by have := h.len; omega))).set b (vs[a]'(by have := h.len; omega))) (fun k => swapT a b (f k)) ((M.set a M[b]).set b M[a]) := by
  have hl := h.len
  have h1 := Kd.R_putn h.outer (a : Int) (vs[b]'(by omega))
  rw [Int.toNat_natCast] at h1
  have h2 := Kd.R_putn h1 (b : Int) (vs[a]'(by omega))
  rw [Int.toNat_natCast] at h2
  have hG : M.length ≤ f G := h.outer.1 G (by simp [Value.ownBlock])
  have hfar : ∀ k, f k < M.length → ((w.setCell ⟨G, a, none⟩ (vs[b]'(by omega)).1).setCell ⟨G, b, none⟩ (vs[a]'(by omega)).1).heap[k]? = w.heap[k]? := fun k hk =>
    have hne : k ≠ G := fun e => by rw [e] at hk; omega
    (Below.heap_setCell _ _ _ _ hne).trans (Below.heap_setCell _ _ _ _ hne)
  refine ⟨⟨by simp [hl], fun i hi => ?_⟩, ?_, fun k hk => ?_⟩
  · simp only [List.length_set] at hi
    have hs := (swapT_lt (i := i) ha hb).2 hi
    rw [swap_get M a b ha hb i hi, swap_get vs a b (by omega) (by omega) i (by omega)]
    refine Kd.R_mono (Kd.R_step (h.row _ hs) (fun k ho _ => hfar k (by rw [ho]; exact hs))) (fun k hk => ?_)
    show swapT a b (f k) = i
    rw [hk, swapT_swap]
  · simp only [List.length_set]
    refine Kd.R_mono h2 (fun k hk => ?_)
    show M.length ≤ swapT a b (f k)
    have := swapT_lt (i := f k) ha hb
    omega
  · simp only [List.length_set]
    rw [World.size_setCell, World.size_setCell] at hk
    have h3 := h.fresh k hk
    show M.length ≤ swapT a b (f k)
    have := swapT_lt (i := f k) ha hb
    omega

section
variable {ops : Array Oper} {rest : List Oper} {o : Oper} {a : Act} {Q : Exit → Act → World → Prop}
end
/-- A row more (in block b). -/
theorem Mat.push {w w1 : World} {base : Nat} {v v1 : Value} {vs : List OneV} {f : Nat → Nat} {M : List (List Int)} {r : OneV} {l : List Int} {b : Nat} (h : Rws w base vs (fun k => if k = b then M.length else f k) M) (hr : Ki.R 2 w base (fun k => k = b) r.1 l)
    (ho : Kv.R 22 w1 base (fun k => M.length ≤ f k ∧ k ≠ b) v1 (vs ++ [r])) (hg : w.grownBy w1 v.ownBlock) (hv : ∀ k, v.ownBlock = some k → M.length ≤ f k ∧ k ≠ b) (hb : b < w.heap.size) (hfr : ∀ k, w.heap.size ≤ k → M.length ≤ f k) :
    Mat w1 base v1 (vs ++ [r]) (fun k => if k = b then M.length else if M.length ≤ f k then M.length + 1 else f k) (M ++ [l]) := by
  have hl := h.len
  refine ⟨⟨by simp [hl], fun i hi => ?_⟩, ?_, fun k hk => ?_⟩
  · rw [List.length_append, List.length_singleton] at hi
    by_cases e : i < M.length
    · have e1 : (vs ++ [r])[i]'(by simp; omega) = vs[i]'(by omega) := List.getElem_append_left (by omega)
      have e2 : (M ++ [l])[i]'(by simp; omega) = M[i] := List.getElem_append_left e
      rw [e1, e2]
      refine Kd.R_mono (Kd.R_step (h.row i e) (fun k ho hk => hg.block k hk (fun e3 => ?_))) (fun k hk => ?_)
      · have h3 := hv k e3.symm
        have h4 : (if k = b then M.length else f k) = i := ho
        rw [if_neg h3.2] at h4
        omega
      · have h4 : (if k = b then M.length else f k) = i := hk
        show (if k = b then M.length else if M.length ≤ f k then M.length + 1 else f k) = i
        split at h4
        · omega
        · rename_i h5
          rw [if_neg h5, if_neg (by omega)]
          exact h4
    · obtain rfl : i = M.length := by omega
      have e1 : (vs ++ [r])[M.length]'(by simp; omega) = r := by rw [List.getElem_append_right (by omega)]; simp [hl]
      have e2 : (M ++ [l])[M.length]'(by simp) = l := by simp
      rw [e1, e2]
      exact Kd.R_mono (Kd.R_step hr (fun k ho hk => hg.block k hk (fun e3 => (hv k e3.symm).2 ho))) (fun k hk => if_pos hk)
  · rw [List.length_append, List.length_singleton]
    refine Kd.R_mono ho (fun k hk => ?_)
    show M.length + 1 ≤ if k = b then M.length else if M.length ≤ f k then M.length + 1 else f k
    rw [if_neg hk.2, if_pos hk.1]
    exact Nat.le_refl _
  · rw [List.length_append, List.length_singleton]
    have h2 := hg.size
    show M.length + 1 ≤ if k = b then M.length else if M.length ≤ f k then M.length + 1 else f k
    rw [if_neg (by omega), if_pos (hfr k (by omega))]
    exact Nat.le_refl _

end Go.Proofs.Ytjoggjgmpoaaiaa.K
end

section
/- Matrices: out of the print's rows; what a walk reads of them; the elimination's steps. -/
namespace Go.Proofs.Ytjoggjgmpoaaiaa.K
open Go.RowKit Go.Shelf Go.Proofs.YtjoggjgmpoaaiaaW.PrintWords Go.Proofs.YtjoggjgmpoaaiaaW.PrintLast Go.Proofs.YtjoggjgmpoaaiaaW.PrintMore
set_option linter.unusedVariables false
set_option linter.unusedSimpArgs false

theorem Mat.of_S {w : World} {base : Nat} {ok : Nat → Prop} {v : Value} {M : List (List Int)} (h : Kd.S (Kd.slice 2 Ki) 22 w base ok v M) : ∃ vs f, Mat w base v vs f M := by
  obtain ⟨f, h⟩ := h
  obtain ⟨h0, inner, ho, hlen, hr⟩ := Kd.R_bound h
  rw [List.length_zipIdx] at ho hlen
  have hl : inner.length = M.length := by
    have : inner.length = M.length * 1 := hlen
    omega
  have hd : ∀ j (hj : j < inner.length), (inner.drop (j * 1)).take 1 = [inner[j]] := fun j hj => by
    rw [Nat.mul_one, List.drop_eq_getElem_cons hj, List.take_succ_cons, List.take_zero]
  have hj : ∀ j (hj : j < M.length), (inner[j]'(by omega)).oneCell' = true ∧ Ki.R 2 w base (fun k => (k < w.heap.size ∧ some k ≠ v.ownBlock) ∧ f k = j) (inner[j]'(by omega)) M[j] := by
    intro j hj
    have hq := hr j (M[j], j) (Kd.zip_at (List.getElem?_eq_getElem hj))
    have hq' : (Kd.slice 2 Ki).M w base (fun k => ((ok k ∧ base ≤ k ∧ k < w.heap.size ∧ ∃ q, q ∈ 22 :: (Kd.tag f (Kd.slice 2 Ki)).E ∧ ∃ cells, w.heap[k]? = some (.cells cells q (0, 0))) ∧ some k ≠ v.ownBlock) ∧ f k = j) M[j] ((inner.drop (j * 1)).take 1) := hq
    rw [hd j (by omega)] at hq'
    have hone := (Kd.slice 2 Ki).K_one ((Kd.slice 2 Ki).K_of_M hq') (inner[j]'(by omega)) (by simp)
    obtain ⟨u, hu, hR⟩ := hq'
    injection hu with hu
    rw [hu]
    rw [hu] at hone
    exact ⟨hone, Kd.R_mono hR (fun k hk => ⟨⟨hk.1.1.2.2.1, hk.1.2⟩, hk.2⟩)⟩
  let vs : List OneV := (List.range M.length).attach.map fun j => ⟨inner[j.1]'(by have := List.mem_range.1 j.2; omega), (hj j.1 (List.mem_range.1 j.2)).1⟩
  have hvl : vs.length = M.length := by simp [vs]
  have hv : ∀ j (h1 : j < M.length), (vs[j]'(by omega)).1 = inner[j]'(by omega) := fun j h1 => by simp [vs]
  refine ⟨vs, fun k => if k < w.heap.size ∧ some k ≠ v.ownBlock ∧ f k < M.length then f k else M.length, ⟨⟨hvl, fun i hi => ?_⟩, ?_, fun k hk => ?_⟩⟩
  · rw [hv i hi]
    refine Kd.R_mono (hj i hi).2 (fun k hk => ?_)
    show (if k < w.heap.size ∧ some k ≠ v.ownBlock ∧ f k < M.length then f k else M.length) = i
    rw [if_pos ⟨hk.1.1, hk.1.2, by rw [hk.2]; exact hi⟩]
    exact hk.2
  · refine ⟨fun k hk => ?_, inner, by rw [hvl]; exact ho, by rw [hvl]; exact hlen, fun j p hp => ?_⟩
    · show M.length ≤ if k < w.heap.size ∧ some k ≠ v.ownBlock ∧ f k < M.length then f k else M.length
      rw [if_neg (fun h => h.2.1 hk.symm)]
      exact Nat.le_refl _
    · obtain ⟨hj2, rfl⟩ := List.getElem?_eq_some_iff.1 hp
      show (inner.drop (j * 1)).take 1 = [(vs[j]).1]
      rw [hd j (by omega), hv j (by omega)]
  · show M.length ≤ if k < w.heap.size ∧ some k ≠ v.ownBlock ∧ f k < M.length then f k else M.length
    rw [if_neg (fun h => by omega)]
    exact Nat.le_refl _

/-- What a walk reads: row i's slice and its numbers. -/
theorem Mat.at {w : World} {base : Nat} {vs : List OneV} {f : Nat → Nat} {M : List (List Int)} {G n c : Nat} (h : Mat w base (.slice (some ⟨G, 0, none⟩) n c) vs f M) (i m : Nat) (hi : i < M.length) (hm : (M.getD i []).length = m) (hp : 0 < m) :
    ∃ g cc, (vs[i]'(by have := h.len; omega)).1 = .slice (some ⟨g, 0, none⟩) m cc ∧ m ≤ cc ∧ f g = i ∧ base ≤ g ∧ base ≤ G ∧ M.length ≤ f G ∧ w.cell? ⟨G, i, none⟩ = some (.slice (some ⟨g, 0, none⟩) m cc) ∧ w.frozen? ⟨G, i, none⟩ = false ∧
      ∀ j, j < m → w.cell? ⟨g, j, none⟩ = some (I ((M.getD i []).getD j 0)) ∧ w.frozen? ⟨g, j, none⟩ = false := by
  have hl := h.len
  rw [getD_get M i [] hi] at hm ⊢
  obtain ⟨g, cc, h1, h2, h3, h4, h5⟩ := h.form i hi (by omega)
  rw [hm] at h1 h2
  have hr := h.row i hi
  rw [h1] at hr
  obtain ⟨h6, h7⟩ := Kd.R_celln nilV h.outer (i : Int) (by omega) (by
    have := (Kd.R_reads' h.outer).1
    omega)
  rw [Int.toNat_natCast] at h6 h7
  have h8 : rdOf nilV vs (i : Int) = vs[i]'(by omega) := by simp [rdOf, show i < vs.length by omega]
  rw [h8] at h6
  have h6' : w.cell? ⟨G, i, none⟩ = some (vs[i]'(by omega)).1 := h6
  rw [h1] at h6'
  obtain ⟨G', c', e, hG, _, _⟩ := Kd.R_form h.outer (by omega)
  injection e with e1 e2 e3
  injection e1 with e1
  injection e1 with e1
  subst e1
  refine ⟨g, cc, h1, h2, h3, h4, hG, h.outer.1 G (by simp [Value.ownBlock]), h6', h7, fun j hj => ?_⟩
  obtain ⟨h9, h10⟩ := Kd.R_celln 0 hr (j : Int) (by omega) (by omega)
  rw [Int.toNat_natCast] at h9 h10
  have h11 : rdOf 0 M[i] (j : Int) = M[i].getD j 0 := by simp [rdOf]
  rw [h11] at h9
  exact ⟨h9, h10⟩
theorem Mat.split {w : World} {base : Nat} {v : Value} {vs : List OneV} {f : Nat → Nat} {M : List (List Int)} (h : Mat w base v vs f M) (b : Nat) (hb : w.heap.size ≤ b) :
    Rws w base vs (fun k => if k = b then M.length else f k) M ∧ Kv.R 22 w base (fun k => M.length ≤ f k ∧ k ≠ b) v vs := by
  refine ⟨⟨h.len, fun i hi => Kd.R_mono (Kd.R_bound (h.row i hi)) (fun k hk => ?_)⟩, Kd.R_mono (Kd.R_bound h.outer) (fun k hk => ⟨hk.1, by have := hk.2.2.1; omega⟩)⟩
  show (if k = b then M.length else f k) = i
  rw [if_neg (by have := hk.2.2.1; omega)]
  exact hk.1
theorem Mat.head {w : World} {base : Nat} {v : Value} {vs : List OneV} {f : Nat → Nat} {M : List (List Int)} (h : Mat w base v vs f M) (hp : 0 < M.length) : ∃ G c, v = .slice (some ⟨G, 0, none⟩) M.length c ∧ M.length ≤ c := by
  obtain ⟨A, c, h1, h2⟩ := h.slice
  obtain ⟨G, c', e, _⟩ := Kd.R_form h.outer (by rw [h.len]; exact hp)
  rw [h.len] at e
  rw [h1] at e
  injection e with e1 e2 e3
  exact ⟨G, c, by rw [h1, e1], h2⟩
/-- Between the two stores of a swap. -/
theorem Mat.mid {w : World} {base : Nat} {vs : List OneV} {f : Nat → Nat} {M : List (List Int)} {G n c : Nat} (h : Mat w base (.slice (some ⟨G, 0, none⟩) n c) vs f M) (a b : Nat) (ha : a < M.length) (hb : b < M.length) :
    (w.setCell ⟨G, a, none⟩ (vs[b]'(by have := h.len; omega)).1).cell? ⟨G, b, none⟩ = some (vs[b]'(by have := h.len; omega)).1 ∧ (w.setCell ⟨G, a, none⟩ (vs[b]'(by have := h.len; omega)).1).frozen? ⟨G, b, none⟩ = false := by
  have hl := h.len
  have h1 := Kd.R_putn h.outer (a : Int) (vs[b]'(by omega))
  rw [Int.toNat_natCast] at h1
  have hn := (Kd.R_reads' h1).1
  rw [List.length_set] at hn
  obtain ⟨h2, h3⟩ := Kd.R_celln nilV h1 (b : Int) (by omega) (by omega)
  rw [Int.toNat_natCast] at h2 h3
  refine ⟨?_, h3⟩
  rw [h2]
  have : rdOf nilV (vs.set a (vs[b]'(by omega))) (b : Int) = vs[b]'(by omega) := by
    have hb2 : b < (vs.set a (vs[b]'(by omega))).length := by rw [List.length_set]; omega
    have : rdOf nilV (vs.set a (vs[b]'(by omega))) (b : Int) = (vs.set a (vs[b]'(by omega)))[b] := by simp [rdOf, show b < vs.length by omega]
    rw [this, List.getElem_set]
    split <;> rfl
  rw [this]
theorem swapM_is (M : List (List Int)) (a b : Nat) (ha : a < M.length) (hb : b < M.length) : (M.set a M[b]).set b M[a] = swapM M a b := by
  unfold swapM
  rw [getD_get M a [] ha, getD_get M b [] hb]
theorem list_ext_getD (A B : List (List Int)) (h : A.length = B.length) (h2 : ∀ i, i < A.length → A.getD i [] = B.getD i []) : A = B := by
  apply List.ext_getElem h
  intro i h3 h4
  have := h2 i h3
  rw [getD_get A i [] h3, getD_get B i [] h4] at this
  exact this
theorem swapM_comm (M : List (List Int)) (a b : Nat) (ha : a < M.length) (hb : b < M.length) : swapM M a b = swapM M b a := by
  refine list_ext_getD _ _ (by rw [swapM_length, swapM_length]) fun i hi => ?_
  rw [swapM_get M a b i ha hb, swapM_get M b a i hb ha]
  by_cases e : i = b <;> by_cases e2 : i = a
  · rw [if_pos e, if_pos e2, ← e, ← e2]
  · rw [if_pos e, if_neg e2, if_pos e]
  · rw [if_neg e, if_pos e2, if_pos e2]
  · rw [if_neg e, if_neg e2, if_neg e2, if_neg e]

/-- A row in the midst of its elimination: places before j are done. -/
def elimP (p : Int) (c : Nat) (pv row : List Int) (j : Nat) : List Int := (List.range row.length).map fun n => if n < j then elimAt p c pv row n else row.getD n 0
theorem elimP_length (p : Int) (c : Nat) (pv row : List Int) (j : Nat) : (elimP p c pv row j).length = row.length := by simp [elimP]
theorem elimP_get (p : Int) (c : Nat) (pv row : List Int) (j n : Nat) (h : n < row.length) : (elimP p c pv row j).getD n 0 = if n < j then elimAt p c pv row n else row.getD n 0 := by
  unfold elimP
  rw [List.getD_eq_getElem?_getD, List.getElem?_map, List.getElem?_range h]
  rfl
theorem int_ext_getD (A B : List Int) (h : A.length = B.length) (h2 : ∀ i, i < A.length → A.getD i 0 = B.getD i 0) : A = B := by
  apply List.ext_getElem h
  intro i h3 h4
  have := h2 i h3
  rw [getD_get A i 0 h3, getD_get B i 0 h4] at this
  exact this
/-- Where the pivot's row is 0 nothing changes. -/
theorem elimP_start (p : Int) (c : Nat) (pv row : List Int) (hr : ∀ x ∈ row, 0 ≤ x ∧ x < p) (hz : ∀ n, n < c → pv.getD n 0 = 0) : elimP p c pv row c = row := by
  refine int_ext_getD _ _ (elimP_length _ _ _ _ _) fun i hi => ?_
  rw [elimP_length] at hi
  rw [elimP_get _ _ _ _ _ _ hi]
  split
  · rename_i h
    unfold elimAt
    rw [hz i h, Int.mul_zero, Int.sub_zero, getD_get row i 0 hi]
    have := hr _ (List.getElem_mem hi)
    exact Int.emod_eq_of_lt this.1 this.2
  · rfl
theorem elimP_end (p : Int) (c : Nat) (pv row : List Int) : elimP p c pv row row.length = elimR p c pv row := by
  refine int_ext_getD _ _ (by rw [elimP_length, elimR_length]) fun i hi => ?_
  rw [elimP_length] at hi
  rw [elimP_get _ _ _ _ _ _ hi, elimR_get _ _ _ _ _ hi, if_pos hi]
theorem elimP_succ (p : Int) (c : Nat) (pv row : List Int) (j : Nat) : elimP p c pv row (j + 1) = (elimP p c pv row j).set j (elimAt p c pv row j) := by
  apply List.ext_getElem
  · simp [elimP_length]
  · intro i h1 h2
    rw [elimP_length] at h1
    rw [List.getElem_set]
    simp only [elimP, List.getElem_map, List.getElem_range]
    by_cases e : j = i
    · subst e
      simp
    · rw [if_neg e]
      by_cases h3 : i < j
      · rw [if_pos (by omega), if_pos h3]
      · rw [if_neg (by omega), if_neg h3]
theorem elimM_start (p : Int) (c r : Nat) (M : List (List Int)) : elimM p c r M (r + 1) = M := by
  refine list_ext_getD _ _ (elimM_length _ _ _ _ _) fun i hi => ?_
  rw [elimM_length] at hi
  rw [elimM_get _ _ _ _ _ _ hi, if_neg (by omega)]
theorem elimM_succ (p : Int) (c r : Nat) (M : List (List Int)) (hi : Nat) (h : r < hi) : elimM p c r M (hi + 1) = (elimM p c r M hi).set hi (elimR p c (M.getD r []) (M.getD hi [])) := by
  apply List.ext_getElem
  · simp [elimM_length]
  · intro i h1 h2
    rw [elimM_length] at h1
    rw [List.getElem_set]
    simp only [elimM, List.getElem_map, List.getElem_range]
    by_cases e : hi = i
    · subst e
      rw [if_pos ⟨h, by omega⟩, if_pos rfl]
    · rw [if_neg e]
      by_cases h3 : r < i ∧ i < hi
      · rw [if_pos ⟨h3.1, by omega⟩, if_pos h3]
      · rw [if_neg (by omega), if_neg h3]
theorem set_same (M : List (List Int)) (i : Nat) (x : List Int) (h : i < M.length) (hx : M.getD i [] = x) : M.set i x = M := by
  rw [← hx, getD_get M i [] h, List.set_getElem_self]
theorem set_getD (M : List (List Int)) (i : Nat) (x : List Int) (h : i < M.length) : (M.set i x).getD i [] = x := by
  rw [getD_get _ i [] (by rw [List.length_set]; exact h), List.getElem_set_self]
theorem set_getD_ne (M : List (List Int)) (i j : Nat) (x : List Int) (h : i ≠ j) : (M.set i x).getD j [] = M.getD j [] := by
  rw [List.getD_eq_getElem?_getD, List.getElem?_set_ne h, List.getD_eq_getElem?_getD]
theorem pivI_hit {M : List (List Int)} {r c j : Nat} (hr : r ≤ j) (hj : j < M.length) (h : (M.getD j []).getD c 0 ≠ 0) (hz : ∀ i, r ≤ i → i < j → (M.getD i []).getD c 0 = 0) : pivI M r c = ((j - r : Nat) : Int) := by
  refine idx_hit _ (M.drop r) (j - r) (by rw [List.length_drop]; omega) ?_ (fun i hi => ?_)
  · rw [List.getElem_drop]
    have e : M[r + (j - r)]'(by omega) = M.getD j [] := by rw [getD_get M j [] hj]; congr 1; omega
    rw [e]
    simpa using h
  · rw [List.getElem_drop]
    have e : M[r + i]'(by omega) = M.getD (r + i) [] := (getD_get M (r + i) [] (by omega)).symm
    rw [e, hz (r + i) (by omega) (by omega)]
    rfl
theorem pivI_miss {M : List (List Int)} {r c : Nat} (hz : ∀ i, r ≤ i → i < M.length → (M.getD i []).getD c 0 = 0) : pivI M r c = -1 := by
  refine idx_miss _ (M.drop r) (fun i hi => ?_)
  rw [List.length_drop] at hi
  rw [List.getElem_drop]
  have e : M[r + i]'(by omega) = M.getD (r + i) [] := (getD_get M (r + i) [] (by omega)).symm
  rw [e, hz (r + i) (by omega) (by omega)]
  rfl
/-- The numbers that the two programs come to. -/
theorem specv : ∀ (p : Fin 4) (x a b y : Fin 3), 2 ≤ p.val → x.val < p.val → a.val < p.val → b.val < p.val → y.val < p.val → ((x.val : Int) + ((p.val : Int) - (a.val * b.val : Int) % p.val) * y.val) % p.val = ((x.val : Int) - (a.val : Int) * b.val * y.val) % p.val := by decide +kernel
theorem fins (p x : Int) (hp : 2 ≤ p ∧ p ≤ 3) (hx : 0 ≤ x ∧ x < p) : ∃ k : Fin 3, x = (k.val : Int) ∧ (k.val : Int) < p := ⟨⟨x.toNat, by omega⟩, by show x = ((x.toNat : Nat) : Int); omega, by show ((x.toNat : Nat) : Int) < p; omega⟩
theorem spec_val (p x a b y : Int) (hp : 2 ≤ p ∧ p ≤ 3) (hx : 0 ≤ x ∧ x < p) (ha : 0 ≤ a ∧ a < p) (hb : 0 ≤ b ∧ b < p) (hy : 0 ≤ y ∧ y < p) : (x + (p - a * b % p) * y) % p = (x - a * b * y) % p := by
  obtain ⟨p', rfl⟩ := Int.eq_ofNat_of_zero_le (show 0 ≤ p by omega)
  obtain ⟨x', rfl, h1⟩ := fins _ x hp hx
  obtain ⟨a', rfl, h2⟩ := fins _ a hp ha
  obtain ⟨b', rfl, h3⟩ := fins _ b hp hb
  obtain ⟨y', rfl, h4⟩ := fins _ y hp hy
  exact specv ⟨p', by omega⟩ x' a' b' y' (by show 2 ≤ p'; omega) (by show x'.val < p'; omega) (by show a'.val < p'; omega) (by show b'.val < p'; omega) (by show y'.val < p'; omega)
end Go.Proofs.Ytjoggjgmpoaaiaa.K
end

section
/- The reference's elimination: l03Rank. -/
namespace Go.Proofs.Ytjoggjgmpoaaiaa.K
open Go.RowKit Go.Shelf Go.Proofs.YtjoggjgmpoaaiaaW.PrintWords Go.Proofs.YtjoggjgmpoaaiaaW.PrintLast Go.Proofs.YtjoggjgmpoaaiaaW.PrintMore
set_option linter.unusedVariables false
set_option linter.unusedSimpArgs false

theorem prod_range (p a b : Int) (hp : 2 ≤ p ∧ p ≤ 3) (ha : 0 ≤ a ∧ a < p) (hb : 0 ≤ b ∧ b ≤ p) : 0 ≤ a * b ∧ a * b ≤ 9 := by
 have h1 : a ≤ 3 := by omega
 have h2 : b ≤ 3 := by omega
 refine ⟨Int.mul_nonneg ha.1 hb.1, ?_⟩
 calc a * b ≤ 3 * 3 := Int.mul_le_mul h1 h2 hb.1 (by omega)
  _ = 9 := rfl
theorem good_num {p : Int} {m : Nat} {M : List (List Int)} (h : Good p m M) (i : Nat) (hi : i < M.length) (j : Nat) (hj : j < m) : 0 ≤ (M.getD i []).getD j 0 ∧ (M.getD i []).getD j 0 < p := by
 have hg := h _ (getD_mem M i hi)
 rw [getD_get _ j 0 (by rw [hg.1]; exact hj)]
 exact hg.2 _ (List.getElem_mem _)

set_option maxRecDepth 100000 in
set_option maxHeartbeats 8000000 in
theorem sRank_calls (p : Int) (hp : 2 ≤ p ∧ p ≤ 3) (m : Nat) (hm : m ≤ 63) (M0 : List (List Int)) (hg : Good p m M0) (hlen : M0.length ≤ 63) (base : Nat) (v : Value) (vs0 : List OneV) (f0 : Nat → Nat) (w : World) (hbase : base ≤ w.heap.size) (hM : Mat w base v vs0 f0 M0) :
  Calls Try.prog 67 #[v, I p] w fun e w' => e = .returned (I (rankM p m M0)) ∧ Below base w w' := by
 rcases Nat.eq_zero_or_pos M0.length with h0 | hpos
 ·obtain ⟨A, c, hv, _⟩ := hM.slice
  rw [h0] at hv
  subst hv
  have HV : Aside0 (rankM p m M0 = 0) := ⟨by rw [List.length_eq_zero_iff.1 h0]; unfold rankM; rw [rankM_nil]; rfl⟩
  rw [HV.out]
  clear hM hg h0 hlen
  go_enter Try.func67, Try.ntmps67
  go_wp2_with fail
  go_loopg [5, 6] 0 (fun gg s5 s6 wr => s5 = .int .i64 0 ∧ s6 = .int .i64 0 ∧ Aside0 (Below base w wr))
  case atStart => exact ⟨rfl, rfl, ⟨Below.refl _ _⟩⟩
  case round =>
   obtain ⟨rfl, rfl, HGr⟩ := hrel
   go_wp2_with fail
   go_ret
   exact ⟨rfl, HGr.out⟩
 ·obtain ⟨G, cc, hv, hcc⟩ := hM.head hpos
  subst hv
  have HM0 := Aside0.mk hM
  have HGD := Aside0.mk hg
  have HP := Aside0.mk hp
  have hp0 : p ≠ 0 := by omega
  clear hM hg
  obtain ⟨n, hn⟩ : ∃ n, n = M0.length := ⟨_, rfl⟩
  rw [← hn] at HM0 hpos hlen hcc ⊢
  have HN := Aside0.mk hn
  clear hn
  go_enter Try.func67, Try.ntmps67
  go_wp2_with fail
  go_loopg [5, 6] m (fun gg s5 s6 wr => ∃ (c r : Nat) (M : List (List Int)), c ≤ m ∧ m - c ≤ gg ∧ s5 = .int .i64 r ∧ s6 = .int .i64 c ∧ Aside0 (rankTo p M0 c = (r, M)) ∧ (∃ vs f, Aside0 (Mat wr base (.slice (some ⟨G, 0, none⟩) n cc) vs f M)) ∧ Aside0 (Below base w wr))
  case atStart => exact ⟨0, 0, M0, Nat.zero_le _, by omega, rfl, rfl, ⟨rfl⟩, ⟨vs0, f0, HM0⟩, ⟨Below.refl _ _⟩⟩
  case round =>
   obtain ⟨c, r, M, hc, hgg, rfl, rfl, HS, ⟨vs, f, HM⟩, HGr⟩ := hrel
   obtain ⟨hr1, hr2, hr3, hr4, hr5⟩ := rank_good HP.out HGD.out c hc
   rw [HS.out] at hr1 hr2 hr3 hr4 hr5
   simp only at hr1 hr2 hr3 hr4 hr5
   rw [← HN.out] at hr1 hr3
   have HGM := Aside0.mk hr4
   have HCM := Aside0.mk hr5
   have HL := Aside0.mk hr3
   clear hr4 hr5 hr3
   by_cases hlt : c < m
   ·have hltz : (c : Int) < (m : Int) := by omega
    obtain ⟨g0, c0, _, _, _, _, hG, _, hx0, _, _⟩ := HM.out.at 0 m (by rw [HL.out]; omega) (HGM.out _ (getD_mem M 0 (by rw [HL.out]; omega))).1 (by omega)
    have hnz : (0 : Int) < (n : Int) := by omega
    go_wp2_with fail
    go_loopg [7, 8] n (fun gg s7 s8 wr1 => ∃ (b : Int) (i : Nat), s7 = .int .i64 b ∧ s8 = .int .i64 i ∧ i ≤ n ∧ n - i ≤ gg ∧ ((b = -1 ∧ r ≤ i ∧ Aside0 (∀ j, r ≤ j → j < i → (M.getD j []).getD c 0 = 0)) ∨ (∃ j : Nat, b = j ∧ i = j + 1 ∧ r ≤ j ∧ Aside0 ((M.getD j []).getD c 0 ≠ 0 ∧ ∀ q, r ≤ q → q < j → (M.getD q []).getD c 0 = 0))) ∧ Aside0 (Grew wr wr1))
    case atStart => exact ⟨-1, r, rfl, rfl, hr1, by omega, .inl ⟨rfl, Nat.le_refl _, ⟨fun j h1 h2 => by omega⟩⟩, ⟨Grew.refl _⟩⟩
    case round =>
     clear hx0 hG
     obtain ⟨b, i, rfl, rfl, hin, hgi, hb, HG1⟩ := hrel
     rcases hb with ⟨rfl, hri, HZ⟩ | ⟨j, rfl, rfl, hrj, HJ⟩
     ·by_cases hlti : i < n
      ·have hltz2 : (i : Int) < (n : Int) := by omega
       obtain ⟨gi, ci, _, _, _, _, _, _, hx1, _, hx2⟩ := (HM.out.below HG1.out).at i m (by rw [HL.out]; omega) (HGM.out _ (getD_mem M i (by rw [HL.out]; omega))).1 (by omega)
       obtain ⟨hx3, _⟩ := hx2 c hlt
       clear hx2
       have HX := Aside0.mk (show (M.getD i []).getD c 0 = (M.getD i []).getD c 0 from rfl)
       by_cases hx0 : (M.getD i []).getD c 0 = 0
       ·rw [hx0] at hx3
        have HZ2 : Aside0 (∀ j, r ≤ j → j < i + 1 → (M.getD j []).getD c 0 = 0) := ⟨fun j h1 h2 => by
         rcases Nat.lt_or_ge j i with h3 | h3
         ·exact HZ.out j h1 h3
         ·obtain rfl : j = i := by omega
          exact hx0⟩
        clear HX hx0
        go_wp2_with fail
        go_roundg (n - (i + 1))
        case measure => omega
        case rel => exact ⟨-1, i + 1, rfl, by go_num, by omega, by omega, .inl ⟨rfl, by omega, HZ2⟩, HG1⟩
       ·have HJ2 : Aside0 ((M.getD i []).getD c 0 ≠ 0 ∧ ∀ q, r ≤ q → q < i → (M.getD q []).getD c 0 = 0) := ⟨hx0, HZ.out⟩
        generalize (M.getD i []).getD c 0 = x at hx3 hx0
        clear HX
        go_wp2_with fail
        go_roundg (n - (i + 1))
        case measure => omega
        case rel => exact ⟨i, i + 1, rfl, by go_num, by omega, by omega, .inr ⟨i, rfl, rfl, hri, HJ2⟩, HG1⟩
      ·have hltz2 : ¬ (i : Int) < (n : Int) := by omega
       have HS2 : Aside0 (rankTo p M0 (c + 1) = (r, M)) := ⟨by
        have hpv : pivI M r c = -1 := pivI_miss fun q h1 h2 => HZ.out q h1 (by rw [HL.out] at h2; omega)
        rw [rankTo_succ, HS.out]
        unfold rstep
        simp only [hpv]
        rfl⟩
       go_wp2_with fail
       go_roundg (m - (c + 1))
       case measure => omega
       case rel => exact ⟨c + 1, r, M, by omega, by omega, rfl, by go_num, HS2, ⟨vs, f, ⟨HM.out.below HG1.out⟩⟩, ⟨Below.trans HGr.out (HG1.out.mono (Nat.le_trans hbase HGr.out.size))⟩⟩
     · -- the pivot is row j
      have hjn : j < n := by omega
      have hrn : r < n := by omega
      have HM1 := Aside0.mk (HM.out.below HG1.out)
      have HG2 : Aside0 (Below base w wr) := ⟨Below.trans HGr.out (HG1.out.mono (Nat.le_trans hbase HGr.out.size))⟩
      have hjl : j < M.length := by rw [HL.out]; omega
      have hrl : r < M.length := by rw [HL.out]; omega
      obtain ⟨gj, cj, ej, hcj, _, _, hbG, _, hxj, hfj, _⟩ := HM1.out.at j m hjl (HGM.out _ (getD_mem M j hjl)).1 (by omega)
      obtain ⟨gr, cr, er, hcr, _, _, _, _, hxr, hfr, _⟩ := HM1.out.at r m hrl (HGM.out _ (getD_mem M r hrl)).1 (by omega)
      obtain ⟨hmid, hfmid⟩ := HM1.out.mid j r hjl hrl
      rw [er] at hmid hfmid
      have hsw := HM1.out.swap j r hjl hrl
      rw [ej, er, swapM_is M j r hjl hrl, swapM_comm M j r hjl hrl] at hsw
      have HSW := Aside0.mk hsw
      clear hsw
      have hvl := HM1.out.len
      have HVR : Aside0 ((((vs.set j (vs[r]'(by omega))).set r (vs[j]'(by omega))).getD r nilV).1 = .slice (some ⟨gj, 0, none⟩) m cj) := ⟨by rw [getD_get _ r nilV (by simp; omega), List.getElem_set_self]; exact ej⟩
      have HS2 : Aside0 (rankTo p M0 (c + 1) = (r + 1, elimM p c r (swapM M r j) n)) := ⟨by
       have hpv : pivI M r c = ((j - r : Nat) : Int) := pivI_hit hrj (by omega) HJ.out.1 HJ.out.2
       rw [rankTo_succ, HS.out]
       unfold rstep
       simp only [hpv]
       rw [if_neg (by omega), Int.toNat_natCast, HL.out, show r + (j - r) = j by omega]⟩
      have HGS := Aside0.mk (swapM_good HGM.out r j hrl hjl)
      have HCS : Aside0 (∀ q, q < c → ((swapM M r j).getD r []).getD q 0 = 0) := ⟨fun q hq => by
       rw [swapM_get M r j r hrl hjl]
       split
       ·exact HCM.out r (Nat.le_refl _) hrl q hq
       ·rw [if_pos rfl]; exact HCM.out j hrj hjl q hq⟩
      have HLS : Aside0 ((swapM M r j).length = n) := ⟨by rw [swapM_length, HL.out]⟩
      generalize (vs.set j (vs[r]'(by omega))).set r (vs[j]'(by omega)) = vS at HSW HVR
      generalize (fun k => swapT j r (f k)) = fS at HSW
      generalize swapM M r j = S at HSW HS2 HGS HCS HLS
      clear HM1 HJ er ej
      have hjz : ¬ (j : Int) < 0 := by omega
      have hi1 : (0 : Int) ≤ (j : Int) := by omega
      have HB2 : Aside0 (Below base w ((wr.setCell ⟨G, j, none⟩ (.slice (some ⟨gr, 0, none⟩) m cr)).setCell ⟨G, r, none⟩ (.slice (some ⟨gj, 0, none⟩) m cj))) := ⟨Below.setCell (Below.setCell HG2.out hbG _) hbG _⟩
      by_cases hlast : ((j + 1 : Nat) : Int) < (n : Int)
      -- both ways alike
      ·go_wp2_with fail
       go_loopg [10] n (fun gg s10 wr3 => ∃ i2 : Nat, r < i2 ∧ i2 ≤ n ∧ n - i2 ≤ gg ∧ s10 = .int .i64 i2 ∧ Aside0 (Mat wr3 base (.slice (some ⟨G, 0, none⟩) n cc) vS fS (elimM p c r S i2)) ∧ Aside0 (Below base w wr3))
       case atStart => exact ⟨r + 1, by omega, by omega, by omega, by go_num, ⟨by rw [elimM_start]; exact HSW.out⟩, HB2⟩
       case round =>
        clear hxj hfj hxr hfr hltz hgi hmid hfmid
        obtain ⟨i2, hi2, hi2n, hg2, rfl, HM2, HB3⟩ := hrel
        have hrS : r < S.length := by rw [HLS.out]; omega
        by_cases hlt2 : i2 < n
        ·have hltz3 : (i2 : Int) < (n : Int) := by omega
         have hiS : i2 < S.length := by rw [HLS.out]; omega
         have HRW := Aside0.mk (elimM_get p c r i2 S r hrS)
         rw [if_neg (by omega)] at HRW
         have HIW := Aside0.mk (elimM_get p c r i2 S i2 hiS)
         rw [if_neg (by omega)] at HIW
         have hli := (HGS.out _ (getD_mem S i2 hiS)).1
         have hlr := (HGS.out _ (getD_mem S r hrS)).1
         obtain ⟨gi, ci, ei, hci, hfi, hbi, _, _, hxi, hfzi, hni⟩ := HM2.out.at i2 m (by rw [elimM_length]; exact hiS) (by rw [HIW.out]; exact hli) (by omega)
         obtain ⟨gq, cq, eq, hcq, hfq, _, _, _, _, _, hnr⟩ := HM2.out.at r m (by rw [elimM_length]; exact hrS) (by rw [HRW.out]; exact hlr) (by omega)
         have e1 := HVR.out
         rw [getD_get vS r nilV (by have := HM2.out.len; rw [elimM_length] at this; omega), eq] at e1
         injection e1 with e1 _ e2
         injection e1 with e1
         injection e1 with e1
         subst e1 e2
         rw [HIW.out] at hni
         rw [HRW.out] at hnr
         obtain ⟨hxa, _⟩ := hni c hlt
         obtain ⟨hxb, _⟩ := hnr c hlt
         have ha := good_num HGS.out i2 hiS c hlt
         have hb := good_num HGS.out r hrS c hlt
         clear hni hnr
         obtain ⟨a, hA⟩ : ∃ a, a = (S.getD i2 []).getD c 0 := ⟨_, rfl⟩
         obtain ⟨b, hB⟩ : ∃ b, b = (S.getD r []).getD c 0 := ⟨_, rfl⟩
         rw [← hA] at hxa ha
         rw [← hB] at hxb hb
         have HA := Aside0.mk hA
         have HB := Aside0.mk hB
         have hab := prod_range p a b hp ha ⟨hb.1, by omega⟩
         clear hA hB hli hlr
         go_wp2_with fail
         repeat (go_quiet (fail))
         try go_wp2_with fail
         have htm : 0 ≤ a * b % p ∧ a * b % p < p := ⟨Int.emod_nonneg _ hp0, Int.emod_lt_of_pos _ (by omega)⟩
         clear hxa hxb hxi hfzi
         go_loopg [13] m (fun gg s13 wr4 => ∃ j2 : Nat, c ≤ j2 ∧ j2 ≤ m ∧ m - j2 ≤ gg ∧ s13 = .int .i64 j2 ∧ Aside0 (Mat wr4 base (.slice (some ⟨G, 0, none⟩) n cc) vS fS ((elimM p c r S i2).set i2 (elimP p c (S.getD r []) (S.getD i2 []) j2))) ∧ Aside0 (Below base w wr4))
         case atStart => exact ⟨c, Nat.le_refl _, hc, by omega, rfl, ⟨by rw [elimP_start p c _ _ (HGS.out _ (getD_mem S i2 hiS)).2 HCS.out, set_same _ i2 _ (by rw [elimM_length]; exact hiS) HIW.out]; exact HM2.out.below (pw_below_drewN (Below.refl _ _) _)⟩, ⟨pw_below_drewN HB3.out _⟩⟩
         case round =>
          obtain ⟨j2, hcj, hjm, hg4, rfl, HM4, HB4⟩ := hrel
          by_cases hlt4 : j2 < m
          ·have hltz4 : (j2 : Int) < (m : Int) := by omega
           have HR4 : Aside0 ((((elimM p c r S i2).set i2 (elimP p c (S.getD r []) (S.getD i2 []) j2)).getD i2 []) = elimP p c (S.getD r []) (S.getD i2 []) j2) := ⟨set_getD _ _ _ (by rw [elimM_length]; exact hiS)⟩
           have HQ4 : Aside0 ((((elimM p c r S i2).set i2 (elimP p c (S.getD r []) (S.getD i2 []) j2)).getD r []) = S.getD r []) := ⟨by rw [set_getD_ne _ _ _ _ (by omega)]; exact HRW.out⟩
           have hlen4 : ((elimM p c r S i2).set i2 (elimP p c (S.getD r []) (S.getD i2 []) j2)).length = S.length := by rw [List.length_set, elimM_length]
           obtain ⟨g1, c1, e1, _, _, hb1, _, _, _, _, hn1⟩ := HM4.out.at i2 m (by rw [hlen4]; exact hiS) (by rw [HR4.out, elimP_length]; exact (HGS.out _ (getD_mem S i2 hiS)).1) (by omega)
           obtain ⟨g2, c2, e2, _, _, _, _, _, _, _, hn2⟩ := HM4.out.at r m (by rw [hlen4]; exact hrS) (by rw [HQ4.out]; exact (HGS.out _ (getD_mem S r hrS)).1) (by omega)
           rw [ei] at e1
           injection e1 with e1 _ e3
           injection e1 with e1
           injection e1 with e1
           subst e1 e3
           rw [eq] at e2
           injection e2 with e2 _ e3
           injection e2 with e2
           injection e2 with e2
           subst e2 e3
           obtain ⟨hx1, hf1⟩ := hn1 j2 hlt4
           obtain ⟨hy1, _⟩ := hn2 j2 hlt4
           rw [HR4.out, elimP_get _ _ _ _ _ _ (by rw [(HGS.out _ (getD_mem S i2 hiS)).1]; exact hlt4), if_neg (Nat.lt_irrefl _)] at hx1
           rw [HQ4.out] at hy1
           have hx := good_num HGS.out i2 hiS j2 hlt4
           have hy := good_num HGS.out r hrS j2 hlt4
           have HW := HM4.out.put i2 (by rw [hlen4]; exact hiS) gi m ci ei (j2 : Int) (elimAt p c (S.getD r []) (S.getD i2 []) j2)
           have HE : Aside0 (elimAt p c (S.getD r []) (S.getD i2 []) j2 = ((S.getD i2 []).getD j2 0 + (p - a * b % p) * (S.getD r []).getD j2 0) % p) := ⟨by
            rw [HA.out, HB.out]
            exact (spec_val p _ _ _ _ hp hx (good_num HGS.out i2 hiS c hlt) (good_num HGS.out r hrS c hlt) hy).symm⟩
           obtain ⟨x, hX⟩ : ∃ x, x = (S.getD i2 []).getD j2 0 := ⟨_, rfl⟩
           obtain ⟨y, hY⟩ : ∃ y, y = (S.getD r []).getD j2 0 := ⟨_, rfl⟩
           rw [← hX] at hx1 hx HE
           rw [← hY] at hy1 hy HE
           have hpr := prod_range p y (p - a * b % p) hp hy ⟨by omega, by omega⟩
           rw [Int.mul_comm] at hpr
           have HW2 : Aside0 (Mat (wr.setCell ⟨gi, j2, none⟩ (I ((x + (p - a * b % p) * y) % p))) base (.slice (some ⟨G, 0, none⟩) n cc) vS fS ((elimM p c r S i2).set i2 (elimP p c (S.getD r []) (S.getD i2 []) (j2 + 1)))) := ⟨by
            rw [← HE.out]
            have h := HW
            rw [Int.toNat_natCast, List.getElem_set_self, List.set_set, ← elimP_succ] at h
            exact h⟩
           have HB5 : Aside0 (Below base w (wr.setCell ⟨gi, j2, none⟩ (I ((x + (p - a * b % p) * y) % p)))) := ⟨Below.setCell HB4.out hb1 _⟩
           clear hn1 hn2 hX hY HR4 HQ4 HW
           go_wp2_with fail
           go_region_with (fail)
           all_goals (
            go_wp2_with fail
            go_roundg (m - (j2 + 1))
            (case measure => omega)
            (case rel => exact ⟨j2 + 1, by omega, by omega, by omega, by go_num, ⟨HW2.out.below (below_drew (Below.refl _ _))⟩, ⟨below_drew HB5.out⟩⟩))
          ·obtain rfl : j2 = m := by omega
           have hltz4 : ¬ (j2 : Int) < (j2 : Int) := by omega
           have HE2 : Aside0 (elimM p c r S (i2 + 1) = (elimM p c r S i2).set i2 (elimP p c (S.getD r []) (S.getD i2 []) j2)) := ⟨by
            rw [elimM_succ p c r S i2 hi2, ← elimP_end, (HGS.out _ (getD_mem S i2 hiS)).1]⟩
           go_wp2_with fail
           go_roundg (n - (i2 + 1))
           case measure => omega
           case rel => exact ⟨i2 + 1, by omega, by omega, by omega, by go_num, ⟨by rw [HE2.out]; exact HM4.out⟩, HB4⟩
        ·obtain rfl : i2 = n := by omega
         have hltz3 : ¬ (i2 : Int) < (i2 : Int) := by omega
         go_wp2_with fail
         go_roundg (m - (c + 1))
         case measure => omega
         case rel => exact ⟨c + 1, r + 1, elimM p c r S i2, by omega, by omega, by go_num, by go_num, HS2, ⟨vS, fS, HM2⟩, HB3⟩
      ·go_wp2_with fail
       go_loopg [10] n (fun gg s10 wr3 => ∃ i2 : Nat, r < i2 ∧ i2 ≤ n ∧ n - i2 ≤ gg ∧ s10 = .int .i64 i2 ∧ Aside0 (Mat wr3 base (.slice (some ⟨G, 0, none⟩) n cc) vS fS (elimM p c r S i2)) ∧ Aside0 (Below base w wr3))
       case atStart => exact ⟨r + 1, by omega, by omega, by omega, by go_num, ⟨by rw [elimM_start]; exact HSW.out⟩, HB2⟩
       case round =>
        clear hxj hfj hxr hfr hltz hgi hmid hfmid
        obtain ⟨i2, hi2, hi2n, hg2, rfl, HM2, HB3⟩ := hrel
        have hrS : r < S.length := by rw [HLS.out]; omega
        by_cases hlt2 : i2 < n
        ·have hltz3 : (i2 : Int) < (n : Int) := by omega
         have hiS : i2 < S.length := by rw [HLS.out]; omega
         have HRW := Aside0.mk (elimM_get p c r i2 S r hrS)
         rw [if_neg (by omega)] at HRW
         have HIW := Aside0.mk (elimM_get p c r i2 S i2 hiS)
         rw [if_neg (by omega)] at HIW
         have hli := (HGS.out _ (getD_mem S i2 hiS)).1
         have hlr := (HGS.out _ (getD_mem S r hrS)).1
         obtain ⟨gi, ci, ei, hci, hfi, hbi, _, _, hxi, hfzi, hni⟩ := HM2.out.at i2 m (by rw [elimM_length]; exact hiS) (by rw [HIW.out]; exact hli) (by omega)
         obtain ⟨gq, cq, eq, hcq, hfq, _, _, _, _, _, hnr⟩ := HM2.out.at r m (by rw [elimM_length]; exact hrS) (by rw [HRW.out]; exact hlr) (by omega)
         have e1 := HVR.out
         rw [getD_get vS r nilV (by have := HM2.out.len; rw [elimM_length] at this; omega), eq] at e1
         injection e1 with e1 _ e2
         injection e1 with e1
         injection e1 with e1
         subst e1 e2
         rw [HIW.out] at hni
         rw [HRW.out] at hnr
         obtain ⟨hxa, _⟩ := hni c hlt
         obtain ⟨hxb, _⟩ := hnr c hlt
         have ha := good_num HGS.out i2 hiS c hlt
         have hb := good_num HGS.out r hrS c hlt
         clear hni hnr
         obtain ⟨a, hA⟩ : ∃ a, a = (S.getD i2 []).getD c 0 := ⟨_, rfl⟩
         obtain ⟨b, hB⟩ : ∃ b, b = (S.getD r []).getD c 0 := ⟨_, rfl⟩
         rw [← hA] at hxa ha
         rw [← hB] at hxb hb
         have HA := Aside0.mk hA
         have HB := Aside0.mk hB
         have hab := prod_range p a b hp ha ⟨hb.1, by omega⟩
         clear hA hB hli hlr
         go_wp2_with fail
         repeat (go_quiet (fail))
         try go_wp2_with fail
         have htm : 0 ≤ a * b % p ∧ a * b % p < p := ⟨Int.emod_nonneg _ hp0, Int.emod_lt_of_pos _ (by omega)⟩
         clear hxa hxb hxi hfzi
         go_loopg [13] m (fun gg s13 wr4 => ∃ j2 : Nat, c ≤ j2 ∧ j2 ≤ m ∧ m - j2 ≤ gg ∧ s13 = .int .i64 j2 ∧ Aside0 (Mat wr4 base (.slice (some ⟨G, 0, none⟩) n cc) vS fS ((elimM p c r S i2).set i2 (elimP p c (S.getD r []) (S.getD i2 []) j2))) ∧ Aside0 (Below base w wr4))
         case atStart => exact ⟨c, Nat.le_refl _, hc, by omega, rfl, ⟨by rw [elimP_start p c _ _ (HGS.out _ (getD_mem S i2 hiS)).2 HCS.out, set_same _ i2 _ (by rw [elimM_length]; exact hiS) HIW.out]; exact HM2.out.below (pw_below_drewN (Below.refl _ _) _)⟩, ⟨pw_below_drewN HB3.out _⟩⟩
         case round =>
          obtain ⟨j2, hcj, hjm, hg4, rfl, HM4, HB4⟩ := hrel
          by_cases hlt4 : j2 < m
          ·have hltz4 : (j2 : Int) < (m : Int) := by omega
           have HR4 : Aside0 ((((elimM p c r S i2).set i2 (elimP p c (S.getD r []) (S.getD i2 []) j2)).getD i2 []) = elimP p c (S.getD r []) (S.getD i2 []) j2) := ⟨set_getD _ _ _ (by rw [elimM_length]; exact hiS)⟩
           have HQ4 : Aside0 ((((elimM p c r S i2).set i2 (elimP p c (S.getD r []) (S.getD i2 []) j2)).getD r []) = S.getD r []) := ⟨by rw [set_getD_ne _ _ _ _ (by omega)]; exact HRW.out⟩
           have hlen4 : ((elimM p c r S i2).set i2 (elimP p c (S.getD r []) (S.getD i2 []) j2)).length = S.length := by rw [List.length_set, elimM_length]
           obtain ⟨g1, c1, e1, _, _, hb1, _, _, _, _, hn1⟩ := HM4.out.at i2 m (by rw [hlen4]; exact hiS) (by rw [HR4.out, elimP_length]; exact (HGS.out _ (getD_mem S i2 hiS)).1) (by omega)
           obtain ⟨g2, c2, e2, _, _, _, _, _, _, _, hn2⟩ := HM4.out.at r m (by rw [hlen4]; exact hrS) (by rw [HQ4.out]; exact (HGS.out _ (getD_mem S r hrS)).1) (by omega)
           rw [ei] at e1
           injection e1 with e1 _ e3
           injection e1 with e1
           injection e1 with e1
           subst e1 e3
           rw [eq] at e2
           injection e2 with e2 _ e3
           injection e2 with e2
           injection e2 with e2
           subst e2 e3
           obtain ⟨hx1, hf1⟩ := hn1 j2 hlt4
           obtain ⟨hy1, _⟩ := hn2 j2 hlt4
           rw [HR4.out, elimP_get _ _ _ _ _ _ (by rw [(HGS.out _ (getD_mem S i2 hiS)).1]; exact hlt4), if_neg (Nat.lt_irrefl _)] at hx1
           rw [HQ4.out] at hy1
           have hx := good_num HGS.out i2 hiS j2 hlt4
           have hy := good_num HGS.out r hrS j2 hlt4
           have HW := HM4.out.put i2 (by rw [hlen4]; exact hiS) gi m ci ei (j2 : Int) (elimAt p c (S.getD r []) (S.getD i2 []) j2)
           have HE : Aside0 (elimAt p c (S.getD r []) (S.getD i2 []) j2 = ((S.getD i2 []).getD j2 0 + (p - a * b % p) * (S.getD r []).getD j2 0) % p) := ⟨by
            rw [HA.out, HB.out]
            exact (spec_val p _ _ _ _ hp hx (good_num HGS.out i2 hiS c hlt) (good_num HGS.out r hrS c hlt) hy).symm⟩
           obtain ⟨x, hX⟩ : ∃ x, x = (S.getD i2 []).getD j2 0 := ⟨_, rfl⟩
           obtain ⟨y, hY⟩ : ∃ y, y = (S.getD r []).getD j2 0 := ⟨_, rfl⟩
           rw [← hX] at hx1 hx HE
           rw [← hY] at hy1 hy HE
           have hpr := prod_range p y (p - a * b % p) hp hy ⟨by omega, by omega⟩
           rw [Int.mul_comm] at hpr
           have HW2 : Aside0 (Mat (wr.setCell ⟨gi, j2, none⟩ (I ((x + (p - a * b % p) * y) % p))) base (.slice (some ⟨G, 0, none⟩) n cc) vS fS ((elimM p c r S i2).set i2 (elimP p c (S.getD r []) (S.getD i2 []) (j2 + 1)))) := ⟨by
            rw [← HE.out]
            have h := HW
            rw [Int.toNat_natCast, List.getElem_set_self, List.set_set, ← elimP_succ] at h
            exact h⟩
           have HB5 : Aside0 (Below base w (wr.setCell ⟨gi, j2, none⟩ (I ((x + (p - a * b % p) * y) % p)))) := ⟨Below.setCell HB4.out hb1 _⟩
           clear hn1 hn2 hX hY HR4 HQ4 HW
           go_wp2_with fail
           go_region_with (fail)
           all_goals (
            go_wp2_with fail
            go_roundg (m - (j2 + 1))
            (case measure => omega)
            (case rel => exact ⟨j2 + 1, by omega, by omega, by omega, by go_num, ⟨HW2.out.below (below_drew (Below.refl _ _))⟩, ⟨below_drew HB5.out⟩⟩))
          ·obtain rfl : j2 = m := by omega
           have hltz4 : ¬ (j2 : Int) < (j2 : Int) := by omega
           have HE2 : Aside0 (elimM p c r S (i2 + 1) = (elimM p c r S i2).set i2 (elimP p c (S.getD r []) (S.getD i2 []) j2)) := ⟨by
            rw [elimM_succ p c r S i2 hi2, ← elimP_end, (HGS.out _ (getD_mem S i2 hiS)).1]⟩
           go_wp2_with fail
           go_roundg (n - (i2 + 1))
           case measure => omega
           case rel => exact ⟨i2 + 1, by omega, by omega, by omega, by go_num, ⟨by rw [HE2.out]; exact HM4.out⟩, HB4⟩
        ·obtain rfl : i2 = n := by omega
         have hltz3 : ¬ (i2 : Int) < (i2 : Int) := by omega
         go_wp2_with fail
         go_roundg (m - (c + 1))
         case measure => omega
         case rel => exact ⟨c + 1, r + 1, elimM p c r S i2, by omega, by omega, by go_num, by go_num, HS2, ⟨vS, fS, HM2⟩, HB3⟩
   ·obtain rfl : c = m := by omega
    have HV : Aside0 (rankM p c M0 = (r : Int)) := ⟨by unfold rankM; rw [HS.out]⟩
    have hnz : (0 : Int) < (n : Int) := by omega
    have hcell : ∃ A0 c0, wr.cell? ⟨G, 0, none⟩ = some (.slice A0 c c0) := by
     have hl := HM.out.len
     obtain ⟨h6, _⟩ := Kd.R_celln nilV HM.out.outer (0 : Int) (by omega) (by omega)
     have h7 := HM.out.row 0 (by rw [HL.out]; omega)
     obtain ⟨A0, c0, h8, _⟩ := Kd.R_reads h7
     have h9 : rdOf nilV vs (0 : Int) = vs[0]'(by rw [hl, HL.out]; omega) := by simp [rdOf, show 0 < vs.length by rw [hl, HL.out]; omega]
     rw [h9] at h6
     have h10 : wr.cell? ⟨G, 0, none⟩ = some (vs[0]'(by rw [hl, HL.out]; omega)).1 := h6
     rw [h8] at h10
     have h11 := (HGM.out _ (getD_mem M 0 (by rw [HL.out]; omega))).1
     rw [getD_get M 0 [] (by rw [HL.out]; omega)] at h11
     rw [h11] at h10
     exact ⟨A0, c0, h10⟩
    obtain ⟨A0, c0, hx0⟩ := hcell
    have hcc2 : ¬ (c : Int) < (c : Int) := by omega
    go_wp2_with fail
    go_ret
    exact ⟨by rw [HV.out]; rfl, HGr.out⟩

end Go.Proofs.Ytjoggjgmpoaaiaa.K
end

section
/- The reference's rank of a dimension: l03RankOf. -/
namespace Go.Proofs.Ytjoggjgmpoaaiaa.K
open Go.RowKit Go.Shelf Go.Proofs.Ytjoggjgmpoaaiaa.Q Go.Proofs.YtjoggjgmpoaaiaaW.PrintWords Go.Proofs.YtjoggjgmpoaaiaaW.PrintLast Go.Proofs.YtjoggjgmpoaaiaaW.PrintMore
set_option linter.unusedVariables false
set_option linter.unusedSimpArgs false

theorem sTop_calls (n : Int) (A : Option Addr) (c : Nat) (l : List Int) (w : World) (hk : Kx w A c l) (hl : l.length ≤ 63) (hr : ∀ x ∈ l, 0 ≤ x ∧ x ≤ 63) :
    Calls Try.prog 66 #[.agg #[I n, .slice A l.length c]] w fun e w' => e = .returned (I (topI l)) ∧ Grew w w' :=
  spec_l01Dim.calls 80 n A c l (topI l) w hk.r hk.c (specTop_is n l hl hr 80 (Nat.le_refl _))

set_option maxRecDepth 100000 in
set_option maxHeartbeats 4000000 in
theorem sRankOf_calls (n : Int) (A : Option Addr) (c : Nat) (l : List Int) (d p : Int) (w : World) (hk : Kx w A c l) (hi : isC n l = true) (hd : 0 ≤ d ∧ d ≤ 7) (hp : 2 ≤ p ∧ p ≤ 3) :
    Calls Try.prog 69 #[.agg #[I n, .slice A l.length c], I d, I p] w fun e w' => e = .returned (I (rankL l d p)) ∧ Grew w w' := by
  have hg : Grew w (w.alloc (.cells #[I n, .slice A l.length c] 26)) := below_alloc (Grew.refl w) _
  have hB : CB (w.alloc (.cells #[I n, .slice A l.length c] 26)) w.heap.size n (.slice A l.length c) := blk_new w _
  have hf := isC_faces hi
  have hl := hf.2.2.2
  have HT := Aside0.mk (sTop_calls n A c l _ (hk.later hg) hl (isC_of hi))
  have ht := top_range l
  have HO := Aside0.mk (fun h => rankL_out hi d p h)
  have HR := Aside0.mk (fun (w1 : World) (h : Kx w1 A c l) => spec_l03Rows.calls 5200 n A c l d p (rowsL l d p) w1 h.r h.c (specRows_is hi d p hd hp 5200 (Nat.le_refl _)))
  have HGD := Aside0.mk (rowsL_good l d p hp.1)
  have hC63 := of_length l (d - 1)
  have hF63 := of_length l d
  have hrl : (rowsL l d p).length = (ofL l d).length := by simp [rowsL]
  have HRK := Aside0.mk (show rankL l d p = rankM p (ofL l (d - 1)).length (rowsL l d p) from rfl)
  have HK := Aside0.mk hk
  have HB := Aside0.mk hB
  have HG := Aside0.mk hg
  have k0 := hB.c0
  have k1 := hB.c1
  clear hk hi hf hB hg
  by_cases h1 : d < 1
  · have HV := Aside0.mk (HO.out (.inl h1))
    rw [HV.out]
    go_enter Try.func69, Try.ntmps69
    go_wp2_with fail
    go_ret
    exact ⟨rfl, HG.out⟩
  · by_cases h2 : topI l < d
    · have HV := Aside0.mk (HO.out (.inr h2))
      rw [HV.out]
      generalize topI l = t at HT ht h2
      go_enter Try.func69, Try.ntmps69
      go_wp2_with fail
      refine HT.out.mono ?_
      rintro e w1 ⟨rfl, hG1⟩
      go_wp2_with fail
      go_ret
      exact ⟨rfl, Grew.trans HG.out hG1⟩
    · generalize topI l = t at HT ht h2
      rw [HRK.out]
      generalize rowsL l d p = M at HR HGD hrl ⊢
      generalize (ofL l (d - 1)).length = m at HGD hC63 ⊢
      clear HRK HO
      go_enter Try.func69, Try.ntmps69
      go_wp2_with fail
      refine HT.out.mono ?_
      rintro e w1 ⟨rfl, hG1⟩
      have HB1 := Aside0.mk (CB.later HB.out hG1)
      have HG1 := Aside0.mk (Grew.trans HG.out hG1)
      clear hG1 k0 k1 HT
      have k0 := HB1.out.c0
      have k1 := HB1.out.c1
      have hm63 : M.length ≤ 63 := by omega
      clear hrl
      go_wp2_with fail
      refine (HR.out w1 (HK.out.later HG1.out)).mono ?_
      rintro e w2 ⟨v, rfl, hS, hG2⟩
      obtain ⟨vs, f, hM⟩ := Mat.of_S hS
      have HM := Aside0.mk hM
      have HG2 := Aside0.mk (Grew.trans HG1.out hG2)
      have H3 := Aside0.mk (sRank_calls p hp m (by omega) M HGD.out hm63 w1.heap.size v vs f w2 hG2.size hM)
      have hs := HG1.out.size
      clear hS hM hG2 k0 k1
      obtain ⟨A8, c8, e8, _⟩ := HM.out.slice
      subst e8
      go_wp2_with fail
      refine H3.out.mono ?_
      rintro e w3 ⟨rfl, hG3⟩
      go_wp2_with fail
      go_ret
      exact ⟨rfl, Below.trans HG2.out (hG3.mono hs)⟩

end Go.Proofs.Ytjoggjgmpoaaiaa.K
end

section
/- The reference's test of a bounding chain: plain words. -/
namespace Go.Proofs.Ytjoggjgmpoaaiaa.K
open Go.RowKit Go.Shelf Go.Proofs.Ytjoggjgmpoaaiaa.Q Go.Proofs.YtjoggjgmpoaaiaaW.PrintWords Go.Proofs.YtjoggjgmpoaaiaaW.PrintLast Go.Proofs.YtjoggjgmpoaaiaaW.PrintMore
set_option linter.unusedVariables false
set_option linter.unusedSimpArgs false

theorem specPlace_any (xs : List Int) (g : Int) (hl : xs.length ≤ 1000000000) : ∀ (m i k : Nat), i + m = xs.length → m < k → (∀ j (h : j < xs.length), j < i → xs[j] ≠ g) →
    ∃ v, spec_l03Place.l0 k xs g (i : Int) = some v ∧ -1 ≤ v ∧ v ≤ 1000000000 ∧ (0 ≤ v ↔ g ∈ xs) := by
  intro m
  induction m with
  | zero =>
    intro i k him hk ho
    obtain ⟨k, rfl⟩ : ∃ q, k = q + 1 := ⟨k - 1, by omega⟩
    simp only [spec_l03Place.l0]
    refine ⟨-1, by rw [if_neg (by omega)], by omega, by omega, ⟨fun h => absurd h (by omega), fun h => ?_⟩⟩
    obtain ⟨j, hj, e⟩ := List.getElem_of_mem h
    exact absurd e (ho j hj (by omega))
  | succ m ih =>
    intro i k him hk ho
    obtain ⟨k, rfl⟩ : ∃ q, k = q + 1 := ⟨k - 1, by omega⟩
    have hil : i < xs.length := by omega
    simp only [spec_l03Place.l0]
    rw [if_pos (by omega), if_pos (by omega), rd_nat xs i hil]
    by_cases e : xs[i] = g
    · exact ⟨i, by rw [if_pos e], by omega, by omega, ⟨fun _ => by rw [← e]; exact List.getElem_mem hil, fun _ => by omega⟩⟩
    · rw [if_neg e, w64 ((i : Int) + 1) (by omega) (by omega), nat_succ]
      exact ih (i + 1) k (by omega) (by omega) (fun j hj h => by
        rcases Nat.lt_succ_iff_lt_or_eq.1 h with h2 | h2
        · exact ho j hj h2
        · subst h2; exact e)
theorem place_calls (A : Option Addr) (c : Nat) (xs : List Int) (g : Int) (w : World) (hr : Ki.C w A xs.length xs) (hc : xs.length ≤ c) (hl : xs.length ≤ 1000000000) :
    Calls Try.prog 65 #[.slice A xs.length c, I g] w fun e w' => ∃ v, e = .returned (I v) ∧ -1 ≤ v ∧ v ≤ 1000000000 ∧ (0 ≤ v ↔ g ∈ xs) ∧ Grew w w' := by
  obtain ⟨v, h1, h2, h3, h4⟩ := specPlace_any xs g hl xs.length 0 (xs.length + 1) (by omega) (by omega) (fun j _ h => absurd h (Nat.not_lt_zero j))
  exact (spec_l03Place.calls (xs.length + 1) A c xs g v w hr hc h1).mono fun e w' ⟨he, hd⟩ => ⟨v, he, h2, h3, h4, hd.below⟩
theorem redN_zero (L : List Nat) : redN 0 L = 0 := by
  unfold redN
  induction L with
  | nil => rfl
  | cons o r ih => rw [List.foldl_cons, show redS 0 o = 0 by simp [redS]]; exact ih
theorem bndB_nil (l : List Int) : bndB l (chN []) = true := by
  unfold bndB chN
  rw [List.foldl_nil, redN_zero]
  rfl
/-- A list of faces of one dimension, ascending. -/
structure ChainOf (l xs : List Int) : Prop where
  asc : xs.Pairwise (· < ·)
  mem : ∀ x ∈ xs, x ∈ l ∧ onesI x = onesI (xs.getD 0 0)
theorem ChainOf.of {l xs : List Int} (h : ChainOf l xs) (hp : 0 < xs.length) : ∀ x ∈ xs, x ∈ ofL l (onesI xs[0] - 1) := fun x hx => by
  obtain ⟨h1, h2⟩ := h.mem x hx
  have h3 : xs.getD 0 0 = xs[0] := by simp [hp]
  rw [h3] at h2
  unfold ofL
  rw [List.mem_filter]
  exact ⟨h1, by simp [dimI, h2]⟩
theorem ofs_less (l : List Int) (d : Int) (x : Int) (h1 : x ∈ l) (h2 : x ∈ ofL l d) : (ofL l (d + 1)).length < l.length := by
  unfold ofL at h2 ⊢
  rw [List.mem_filter] at h2
  refine List.length_filter_lt_length_iff_exists.2 ⟨x, h1, ?_⟩
  have h3 : dimI x = d := by simpa using h2.2
  simp [h3]
  omega
/-- Nothing of the greatest dimension bounds. -/
theorem bnd_top {n : Int} {l xs : List Int} (hi : isC n l = true) (h : ChainOf l xs) (hp : 0 < xs.length) (ht : onesI xs[0] - 1 = topI l) : bndB l (chN xs) = false := by
  cases hb : bndB l (chN xs) with
  | false => rfl
  | true =>
    have hb := (bndB_iff l (chN xs)).1 hb
    have hx := h.mem xs[0] (List.getElem_mem hp)
    have hf := isC_faces hi
    have hr := hf.2.2.1 xs[0] hx.1
    have hz : cvN (chN xs) xs[0].toNat = false := Span.zeroAt (c := xs[0].toNat) (fun s hs => by
      obtain ⟨f, hfl, rfl⟩ := hs
      have hfr := hf.2.2.1 f hfl
      show (chN (bords f)).testBit xs[0].toNat = false
      rw [bch_bits f (by omega) (by omega), decide_eq_false_iff_not]
      intro hmem
      rw [show ((xs[0].toNat : Nat) : Int) = xs[0] by omega] at hmem
      have h1 := (bords_dim f (by omega) (by omega) _ hmem).1
      have h2 := top_mem l f hfl
      unfold dimI at h1 h2
      omega) hb
    have ho : cvN (chN xs) xs[0].toNat = true := by
      show (chN xs).testBit xs[0].toNat = true
      rw [chN_bits xs h.asc (fun x hx => by have := hf.2.2.1 x (h.mem x hx).1; omega), show ((xs[0].toNat : Nat) : Int) = xs[0] by omega]
      exact decide_eq_true (List.getElem_mem hp)
    rw [hz] at ho
    cases ho

end Go.Proofs.Ytjoggjgmpoaaiaa.K
end

section
/- slices.Clone over rows of numbers. -/
namespace Go.Proofs.Ytjoggjgmpoaaiaa.K
open Go.RowKit Go.Shelf Go.Proofs.YtjoggjgmpoaaiaaW.PrintWords Go.Proofs.YtjoggjgmpoaaiaaW.PrintLast Go.Proofs.YtjoggjgmpoaaiaaW.PrintMore
set_option linter.unusedVariables false
set_option linter.unusedSimpArgs false

section
variable {ops : Array Oper} {rest : List Oper} {o : Oper} {a : Act} {Q : Exit → Act → World → Prop}
end
theorem Ri.empty (w : World) (base : Nat) (hb : base ≤ w.heap.size) : Ki.R 2 (w.alloc (.cells #[] 2)) base (fun _ => True) (.slice (some ⟨w.heap.size, 0, none⟩) 0 0) [] := by
  have := own_lit w base 2 .i64 [] hb (by simp)
  exact ⟨fun _ _ => trivial, [], this, Reps.none _ _⟩

end Go.Proofs.Ytjoggjgmpoaaiaa.K
end

section
/- The reference's test of a bounding chain: l03Bounds. -/
namespace Go.Proofs.Ytjoggjgmpoaaiaa.K
open Go.RowKit Go.Shelf Go.Proofs.Ytjoggjgmpoaaiaa.Q Go.Proofs.YtjoggjgmpoaaiaaW.PrintWords Go.Proofs.YtjoggjgmpoaaiaaW.PrintLast Go.Proofs.YtjoggjgmpoaaiaaW.PrintMore
set_option linter.unusedVariables false
set_option linter.unusedSimpArgs false

/-- Faces, and a row of the call's own that is none of theirs. -/
structure FaceRow (w : World) (base gF : Nat) (v6 v7 : Value) (F R : List Int) : Prop where
 faces : Ki.R 2 w base (fun k => k = gF) v6 F
 row : Ki.R 2 w base (fun k => k ≠ gF) v7 R
 lt : gF < w.heap.size
theorem FaceRow.later {w w' : World} {base gF : Nat} {v6 v7 : Value} {F R : List Int} (h : FaceRow w base gF v6 v7 F R) (hg : Grew w w') : FaceRow w' base gF v6 v7 F R :=
 ⟨Kd.R_below h.faces hg, Kd.R_below h.row hg, Nat.lt_of_lt_of_le h.lt hg.size⟩
/-- The faces ahead of the row. -/
theorem FaceRow.facesFirst {Wa w4 w5 : World} {base : Nat} {v : Value} {F : List Int} (hb : base ≤ Wa.heap.size) (hs : Wa.heap.size ≤ w4.heap.size) (hR : Ki.R 2 w4 Wa.heap.size (fun _ => True) v F) (hG : Grew w4 w5) (hp : 0 < F.length) :
  ∃ gF c6, v = .slice (some ⟨gF, 0, none⟩) F.length c6 ∧ FaceRow (w5.alloc (.cells #[] 2)) base gF (.slice (some ⟨gF, 0, none⟩) F.length c6) (.slice (some ⟨w5.heap.size, 0, none⟩) 0 0) F [] := by
 obtain ⟨g, c6, e, h1, h2, _⟩ := Kd.R_form hR hp
 have h3 := hG.size
 refine ⟨g, c6, e, ⟨?_, ?_, by rw [World.size_alloc]; omega⟩⟩
 ·rw [← e]
  have hF : Ki.R 2 w4 Wa.heap.size (fun k => k = g) v F := ⟨fun k hk => by
   rw [e] at hk
   simp [Value.ownBlock] at hk
   exact hk.symm, hR.2⟩
  exact Kd.R_alloc (Kd.R_below (Kd.R_lower hF hb) hG) _
 ·refine ⟨fun k hk => ?_, (Ri.empty w5 base (by omega)).2⟩
  simp [Value.ownBlock] at hk
  omega
section
variable {ops : Array Oper} {o : Oper} {rest : List Oper} {a : Act} {Q : Exit → Act → World → Prop}
theorem append_fr {W : World} (base : Nat) (hgd : o.guard = none) (s x : Operand)
  (ho : o.op = .call { callee := .builtin .append, args := #[s, x], argTypes := #[22, 22] })
  (gF : Nat) (v6 v : Value) (F xs : List Int) (p : Int) (hs : a.eval s = v) (hx : a.eval x = .slice (some ⟨W.heap.size, 0, none⟩) 1 1)
  (HO : FaceRow W base gF v6 v F xs) (hbase : base ≤ W.heap.size) (hl : xs.length ≤ 1000000000000)
  (h : ∀ A c w1, FaceRow w1 base gF v6 (.slice A (xs.length + 1) c) F (xs ++ [p]) → Below base W w1 → wpList Try.prog ops Q rest (a.put o.dst (.slice A (xs.length + 1) c)) w1) :
  wpList Try.prog ops Q (o :: rest) a (W.alloc (.cells #[I p] 2)) := by
 have hlt := HO.lt
 refine Kd.R_append Ki (w0 := W) base hgd s x 22 2 (.int .i64 0) 8 ho Try.underlying22 infoI rfl (by decide) (by omega) v xs p [I p] (fun k => k ≠ gF) (fun _ => False) hs hx rfl (fun _ hk => hk.elim) (fun k hk => by omega) HO.row (Below.refl _ _) hbase (by omega) ?_
 intro v1 w1 hR hB hg _
 obtain ⟨A, c, e⟩ := Kd.R_slice hR
 rw [List.length_append] at e
 subst e
 exact h A c w1 ⟨Kd.R_grown HO.faces hg (fun k hk e => HO.row.1 k e.symm hk), hR, Nat.lt_of_lt_of_le HO.lt hB.size⟩ hB
theorem append_mat {Kc : Act → World → Prop} {W : World} (base0 baseM : Nat) (hw : Region.wanted o (yielded ops a.tmps) = true) (s x : Operand)
  (ho : o.op = .call { callee := .builtin .append, args := #[s, x], argTypes := #[79, 79] })
  (v : Value) (vs : List OneV) (f : Nat → Nat) (M : List (List Int)) (r : OneV) (R : List Int) (G : Nat) (ok : Nat → Prop) (hs : a.eval s = v) (hx : a.eval x = .slice (some ⟨G, 0, none⟩) 1 1)
  (hG : W.cell? ⟨G, 0, none⟩ = some r.1) (HM : Mat W baseM v vs f M) (HR : Ki.R 2 W base0 ok r.1 R) (hp : 0 < R.length) (hlow : ∀ k, r.1.ownBlock = some k → k < baseM) (h0 : base0 ≤ baseM) (h1 : baseM ≤ W.heap.size) (hl : M.length ≤ 1000)
  (h : ∀ A c vs' f' w1, Mat w1 base0 (.slice A (M.length + 1) c) vs' f' (M ++ [R]) → Below base0 W w1 → Kc (a.put o.dst (.slice A (M.length + 1) c)) w1) :
  if Region.wanted o (yielded ops a.tmps) = true then Oper.wp Try.prog o a W Kc Q else Kc (a.put o.dst undef) W := by
 obtain ⟨b, cb, eb, hb1, hb2, _⟩ := Kd.R_form HR hp
 have hbM : b < baseM := hlow b (by rw [eb]; simp [Value.ownBlock])
 have hr : Ki.R 2 W base0 (fun k => k = b) r.1 R := ⟨fun k hk => by
  rw [eb] at hk
  simp [Value.ownBlock] at hk
  exact hk.symm, HR.2⟩
 have hrws : Rws W base0 vs (fun k => if k = b then M.length else f k) M := ⟨HM.len, fun i hi => Kd.R_lower (Kd.R_mono (Kd.R_bound (HM.row i hi)) (fun k hk => by
  have h3 := hk.2.1
  show (if k = b then M.length else f k) = i
  rw [if_neg (by omega)]
  exact hk.1)) h0⟩
 have hout : Kv.R 22 W base0 (fun k => M.length ≤ f k ∧ k ≠ b) v vs := Kd.R_lower (Kd.R_mono (Kd.R_bound HM.outer) (fun k hk => ⟨hk.1, by have := hk.2.1; omega⟩)) h0
 refine Kd.R_append_rows_step Kv (Rr := fun x cs => cs = [x.1]) (w0 := W) base0 hw s x 79 22 (.slice none 0 0) 24 ho Try.underlying79 infoS rfl (by decide) (by omega) v vs [r] _ 1 1 (fun k => M.length ≤ f k ∧ k ≠ b) (fun _ => False) hs hx hout
  ⟨rfl, by omega, fun _ => ⟨_, rfl, fun j p hj => ?_⟩⟩ (fun _ _ h => h) (fun _ h => h.elim) (fun k hk => ⟨HM.fresh k hk, by omega⟩) (Below.refl _ _) (by omega) (by have := HM.len; simp; omega) ?_
 ·have hj0 : j = 0 := by
   rcases Nat.eq_zero_or_pos j with e | e
   ·exact e
   ·rw [List.getElem?_eq_none (by simp; omega)] at hj; cases hj
  subst hj0
  simp at hj
  subst hj
  refine ⟨[r.1], rfl, rfl, fun i u hu => ?_⟩
  have hi0 : i = 0 := by
   rcases Nat.eq_zero_or_pos i with e | e
   ·exact e
   ·rw [List.getElem?_eq_none (by simp; omega)] at hu; cases hu
  subst hi0
  simp at hu
  subst hu
  have e : (⟨G, 0, none⟩ : Addr).add (0 * Kv.sz + 0) = ⟨G, 0, none⟩ := by simp [Addr.add]
  rw [e]
  exact hG
 ·intro v1 w1 hR1 hB1 hg1 _
  obtain ⟨A, c, e⟩ := Kd.R_slice hR1
  rw [List.length_append, HM.len] at e
  have e2 : v1 = .slice A (M.length + 1) c := e
  subst e2
  exact h A c _ _ w1 (Mat.push hrws hr hR1 hg1 (fun k hk => hout.1 k hk) hb2 (fun k hk => HM.fresh k hk)) hB1
end

set_option maxRecDepth 100000 in
set_option maxHeartbeats 16000000 in
theorem sBounds_calls (n : Int) (A : Option Addr) (c : Nat) (l : List Int) (A2 : Option Addr) (c2 : Nat) (xs : List Int) (w : World) (hk : Kx w A c l) (hi : isC n l = true) (hx : Ki.C w A2 xs.length xs) (hc2 : xs.length ≤ c2) (hx2 : xs.length ≤ 2097152) (hch : ChainOf l xs) :
  Calls Try.prog 40 #[.agg #[I n, .slice A l.length c], .slice A2 xs.length c2] w fun e w' => e = .returned (.bool (bndB l (chN xs))) ∧ Grew w w' := by
 obtain ⟨W3, hW3⟩ : ∃ W3, W3 = (w.alloc (.cells #[I n, .slice A l.length c] 26)) := ⟨_, rfl⟩
 have hB : CB W3 w.heap.size n (.slice A l.length c) := by rw [hW3]; exact blk_new w _
 have hg : Grew w W3 := by rw [hW3]; exact below_alloc (Grew.refl w) _
 have hsz3 : W3.heap.size = w.heap.size + 1 := by rw [hW3]; exact World.size_alloc _ _
 have k0 := hB.c0
 have k1 := hB.c1
 have HB3 := Aside0.mk hB
 have HG3 := Aside0.mk hg
 have HK3 := Aside0.mk (hk.later hg)
 have HX3 := Aside0.mk (Kd.C_below hx hg)
 have HC2 := Aside0.mk hc2
 have HCH := Aside0.mk hch
 have HI := Aside0.mk hi
 clear hk hx hc2 hch hB hg
 rcases Nat.eq_zero_or_pos xs.length with h0 | hp
 ·have HV : Aside0 (bndB l (chN xs) = true) := ⟨by rw [List.length_eq_zero_iff.1 h0]; exact bndB_nil l⟩
  rw [HV.out]
  clear HV HCH
  rw [h0] at HX3 HC2 ⊢
  subst hW3
  go_enter Try.func40, Try.ntmps40
  go_wp2_with fail
  go_ret
  exact ⟨rfl, HG3.out⟩
 ·have hxm := HCH.out.mem xs[0] (List.getElem_mem hp)
  have hfc := isC_faces HI.out
  have hl63 := hfc.2.2.2
  have hlr := isC_of HI.out
  have hx0 := hfc.2.2.1 xs[0] hxm.1
  have hon := ones_range xs[0] (by omega) (by omega)
  have hof := HCH.out.of hp
  obtain ⟨d, hd⟩ : ∃ d, d = onesI xs[0] - 1 := ⟨_, rfl⟩
  rw [← hd] at hof
  have hd5 : 0 ≤ d ∧ d ≤ 5 := by omega
  have hFp : 0 < (ofL l d).length := List.length_pos_of_mem (hof xs[0] (List.getElem_mem hp))
  have hF63 : (ofL l d).length ≤ 63 := by have := of_length l d; omega
  have hM63 : (rowsL l (d + 1) 2).length + 1 ≤ 63 := by
   have h1 := ofs_less l d xs[0] hxm.1 (hof xs[0] (List.getElem_mem hp))
   have h2 : (rowsL l (d + 1) 2).length = (ofL l (d + 1)).length := by simp [rowsL]
   omega
  have HVT : Aside0 (d = topI l → bndB l (chN xs) = false) := ⟨fun e => bnd_top HI.out HCH.out hp (by omega)⟩
  have HVR : Aside0 (bndB l (chN xs) = decide (rankM 2 (ofL l d).length (rowsL l (d + 1) 2 ++ [rowC (ofL l d) xs]) = rankL l (d + 1) 2)) := ⟨bndB_rank HI.out d xs HCH.out.asc hof⟩
  have HGD : Aside0 (Good 2 (ofL l d).length (rowsL l (d + 1) 2 ++ [rowC (ofL l d) xs])) := ⟨fun row hrow => by
   rcases List.mem_append.1 hrow with h | h
   ·have := rowsL_good l (d + 1) 2 (by omega) row h
    rwa [show d + 1 - 1 = d by omega] at this
   ·rw [List.mem_singleton.1 h]; exact rowC_good (ofL l d) xs⟩
  have ht := top_range l
  have HX1 : Aside0 (∀ W, Calls Try.prog 44 #[I xs[0]] W fun e w' => e = .returned (I (d + 1)) ∧ Grew W w') := ⟨fun W => (spec_l01Ones.calls 8 xs[0] _ W (specOnes_is xs[0] (by omega) (by omega) 8 (by omega))).mono fun e w' ⟨he, hdr⟩ => ⟨by rw [he, hd]; simp, hdr.below⟩⟩
  have HOF : Aside0 (∀ W, Grew W3 W → Calls Try.prog 64 #[.agg #[I n, .slice A l.length c], I d] W fun e w' => ∃ v, e = .returned v ∧ Ki.R 2 w' W.heap.size (fun _ => True) v (ofL l d) ∧ Grew W w') := ⟨fun W h => spec_l01Of.calls 80 n A c l d _ W (HK3.out.later h).r HK3.out.c (specOf_is n d (by omega) l hl63 hlr 80 (by omega))⟩
  have HPL : Aside0 (∀ g W, Grew W3 W → Calls Try.prog 65 #[.slice A2 xs.length c2, I g] W fun e w' => ∃ v, e = .returned (I v) ∧ -1 ≤ v ∧ v ≤ 1000000000 ∧ (0 ≤ v ↔ g ∈ xs) ∧ Grew W w') := ⟨fun g W h => place_calls A2 c2 xs g W (Kd.C_below HX3.out h) HC2.out (by omega)⟩
  have HT : Aside0 (∀ W, Grew W3 W → Calls Try.prog 66 #[.agg #[I n, .slice A l.length c]] W fun e w' => e = .returned (I (topI l)) ∧ Grew W w') := ⟨fun W h => sTop_calls n A c l W (HK3.out.later h) hl63 hlr⟩
  have HRW : Aside0 (∀ W, Grew W3 W → Calls Try.prog 68 #[.agg #[I n, .slice A l.length c], I (d + 1), I 2] W fun e w' => ∃ v vs f, e = .returned v ∧ Mat w' W.heap.size v vs f (rowsL l (d + 1) 2) ∧ Grew W w') := ⟨fun W h => (spec_l03Rows.calls 5200 n A c l (d + 1) 2 _ W (HK3.out.later h).r HK3.out.c (specRows_is HI.out (d + 1) 2 (by omega) (by omega) 5200 (by omega))).mono fun e w' ⟨v, he, hS, hG⟩ => by
   obtain ⟨vs, f, hM⟩ := Mat.of_S hS
   exact ⟨v, vs, f, he, hM, hG⟩⟩
  have HRO : Aside0 (∀ W, Grew W3 W → Calls Try.prog 69 #[.agg #[I n, .slice A l.length c], I (d + 1), I 2] W fun e w' => e = .returned (I (rankL l (d + 1) 2)) ∧ Grew W w') := ⟨fun W h => sRankOf_calls n A c l (d + 1) 2 W (HK3.out.later h) HI.out (by omega) (by omega)⟩
  obtain ⟨ad, e0, hx⟩ := Kd.at_int HX3.out 0 (by omega) (by omega)
  cases e0
  rw [rd_zero xs hp, show ad.add (0 : Int).toNat = ad by first | rfl | (simp only [Addr.add]; split <;> simp_all)] at hx
  have hne : ¬ (xs.length : Int) = 0 := by omega
  have h0n : (0 : Int) < (xs.length : Int) := by omega
  clear hxm hfc hlr hon hof hx0 hd
  generalize xs[0] = x0 at hx HX1
  have HS3 := Aside0.mk hsz3
  clear hsz3
  obtain ⟨w3, hw3⟩ : ∃ w3, w3 = W3 := ⟨_, rfl⟩
  rw [← hw3] at HB3 HG3 HK3 HX3 HOF HPL HT HRW HRO HS3
  rw [hW3] at k0 k1 hx hw3
  have HW3 := Aside0.mk hw3
  clear hW3 hw3
  go_enter Try.func40, Try.ntmps40
  go_wp2_with fail
  rw [← HW3.out] at k0 k1 hx ⊢
  clear HW3
  refine (HX1.out _).mono ?_
  rintro e w1 ⟨rfl, hG1⟩
  have HB1 := Aside0.mk (CB.later HB3.out hG1)
  have HG1 := Aside0.mk hG1
  clear k0 k1 hx hG1
  have k0 := HB1.out.c0
  have k1 := HB1.out.c1
  obtain ⟨F, hF⟩ : ∃ F, F = ofL l d := ⟨_, rfl⟩
  rw [← hF] at hFp hF63 HVR HGD HOF
  clear hF
  have hs1 := HG1.out.size
  have hs3 := HS3.out
  go_wp2_with fail
  refine (HOF.out _ HG1.out).mono ?_
  rintro e w4 ⟨v6, rfl, hR6, hG4⟩
  obtain ⟨gF, c6, e6, hFR⟩ := FaceRow.facesFirst (base := w3.heap.size) hs1 hG4.size hR6 (Grew.refl w4) hFp
  subst e6
  have HFR := Aside0.mk hFR
  have hs4 := hG4.size
  have HB4 := Aside0.mk (CB.later HB1.out hG4)
  have HG4 := Aside0.mk (Grew.trans HG1.out hG4)
  clear hR6 hFR hG4 k0 k1 HB1 HG1
  go_wp2_with fail
  have hs34 : w3.heap.size ≤ w4.heap.size := by omega
  have HW4 : Aside0 (Below w3.heap.size w3 (w4.alloc (.cells #[] 2))) := ⟨below_alloc HG4.out _⟩
  clear HG4 hs3 hs1
  go_loopg [7, 8] F.length (fun gg s7 s8 wr => ∃ (kk : Nat) (A7 : Option Addr) (c7 : Nat), kk ≤ F.length ∧ F.length - kk ≤ gg ∧ s7 = .slice A7 kk c7 ∧ s8 = .int .i64 kk ∧ Aside0 (FaceRow wr w3.heap.size gF (.slice (some ⟨gF, 0, none⟩) F.length c6) (.slice A7 kk c7) F (rowC (F.take kk) xs)) ∧ Aside0 (Below w3.heap.size w3 wr))
  case atStart => exact ⟨0, _, _, Nat.zero_le _, by omega, rfl, rfl, HFR, HW4⟩
  case round =>
   clear HFR HW4 hs34 hs4
   obtain ⟨kk, A7, c7, hkk, hg, rfl, rfl, HFR, HGr⟩ := hrel
   have HBr := Aside0.mk (CB.later HB3.out HGr.out)
   have k0 := HBr.out.c0
   have k1 := HBr.out.c1
   have hsr := HGr.out.size
   by_cases hlt : kk < F.length
   ·have hltz : (kk : Int) < (F.length : Int) := by omega
    obtain ⟨_, _, hFC⟩ := Kd.R_reads' HFR.out.faces
    obtain ⟨adf, ef, hy⟩ := Kd.at_int hFC (kk : Int) (by omega) (by omega)
    cases ef
    rw [rd_nat F kk hlt, Int.toNat_natCast, show (⟨gF, 0, none⟩ : Addr).add kk = ⟨gF, kk, none⟩ by (simp only [Addr.add]; split <;> simp_all)] at hy
    have HN : Aside0 (rowC (F.take (kk + 1)) xs = rowC (F.take kk) xs ++ [if F[kk] ∈ xs then 1 else 0]) := ⟨by rw [List.take_succ_eq_append_getElem hlt]; simp only [rowC, List.map_append, List.map_cons, List.map_nil]⟩
    have hL : (rowC (F.take kk) xs).length = kk := by simp [rowC]; omega
    generalize rowC (F.take kk) xs = L at HFR HN hL
    generalize F[kk] = y at hy HN
    subst hL
    have HP := Aside0.mk (HPL.out y _ HGr.out)
    clear hFC
    go_wp2_with fail
    refine HP.out.mono ?_
    rintro e w5 ⟨v, rfl, hv1, hv2, hv3, hG5⟩
    have HFR5 := Aside0.mk (HFR.out.later hG5)
    have HG5 := Aside0.mk (Below.trans HGr.out (Below.mono hG5 hsr))
    have hs5 := hG5.size
    have hs35 : w3.heap.size ≤ w5.heap.size := by omega
    clear hG5 HFR HGr k0 k1 hy HP
    by_cases hm : y ∈ xs
    ·have hge : 0 ≤ v := hv3.2 hm
     rw [if_pos hm] at HN
     have HV3 := Aside0.mk hv3
     clear hv3 hm
     go_wp2_with (at_builtin; refine append_fr w3.heap.size rfl (.tmp 34) (.tmp 35) rfl gF _ _ F L 1 rfl rfl HFR5.out hs35 (by omega) ?_; intro A9 c9 w9 hFR9 hB9; have HFR9 := Aside0.mk hFR9; have HG9 : Aside0 (Below w3.heap.size w3 w9) := ⟨Below.trans HG5.out hB9⟩; clear hFR9 hB9)
     go_roundg (F.length - (L.length + 1))
     case measure => omega
     case rel => exact ⟨L.length + 1, _, _, by omega, by omega, rfl, by go_num, ⟨by rw [HN.out]; exact HFR9.out⟩, HG9⟩
    ·have hge : ¬ 0 ≤ v := fun h => hm (hv3.1 h)
     rw [if_neg hm] at HN
     have HV3 := Aside0.mk hv3
     have HM := Aside0.mk hm
     clear hv3 hm
     go_wp2_with (at_builtin; refine append_fr w3.heap.size rfl (.tmp 37) (.tmp 38) rfl gF _ _ F L 0 rfl rfl HFR5.out hs35 (by omega) ?_; intro A9 c9 w9 hFR9 hB9; have HFR9 := Aside0.mk hFR9; have HG9 : Aside0 (Below w3.heap.size w3 w9) := ⟨Below.trans HG5.out hB9⟩; clear hFR9 hB9)
     go_roundg (F.length - (L.length + 1))
     case measure => omega
     case rel => exact ⟨L.length + 1, _, _, by omega, by omega, rfl, by go_num, ⟨by rw [HN.out]; exact HFR9.out⟩, HG9⟩
   ·obtain rfl : kk = F.length := by omega
    rw [List.take_length] at HFR
    have hltz : ¬ (F.length : Int) < (F.length : Int) := by omega
    have HTT := Aside0.mk (HT.out _ HGr.out)
    go_wp2_with fail
    refine HTT.out.mono ?_
    rintro e w5 ⟨rfl, hG5⟩
    have HFR5 := Aside0.mk (HFR.out.later hG5)
    have HG5 := Aside0.mk (Below.trans HGr.out (Below.mono hG5 hsr))
    have hs5 := hG5.size
    have hs35 : w3.heap.size ≤ w5.heap.size := by omega
    have HB5 := Aside0.mk (CB.later HBr.out hG5)
    clear hG5 HFR HGr k0 k1 HTT HBr
    have k0 := HB5.out.c0
    have k1 := HB5.out.c1
    by_cases hdt : d = topI l
    ·have HV := Aside0.mk (HVT.out hdt)
     clear HVT HVR
     go_wp2_with fail
     go_ret
     exact ⟨by rw [HV.out]; rfl, Grew.trans HG3.out HG5.out⟩
    ·have hdt2 : ¬ topI l = d := fun h => hdt h.symm
     have hlk : w.heap.size < w5.heap.size := World.block_lt_of_cell? w5 _ k0
     go_wp2_with fail
     have hlk3 : w.heap.size < w3.heap.size := by have := HS3.out; omega
     have KK : Aside0 (∀ Wy, Below w3.heap.size w5 Wy → Wy.cell? ⟨w.heap.size, 0, none⟩ = some (I n) ∧ Wy.cell? ⟨w.heap.size, 1, none⟩ = some (.slice A l.length c)) := ⟨fun Wy h => ⟨(h.cell (p := ⟨w.heap.size, 0, none⟩) hlk3).trans k0, (h.cell (p := ⟨w.heap.size, 1, none⟩) hlk3).trans k1⟩⟩
     have HA0 : Aside0 (∀ o, Below w3.heap.size w5 (w5.drew.alloc o)) := ⟨fun o => Below.mono (below_alloc (below_drew (Below.refl _ _)) o) hs35⟩
     have HD0 : Aside0 (Below w3.heap.size w5 w5.drew) := ⟨Below.mono (below_drew (Below.refl _ _)) hs35⟩
     have HR5 := Aside0.mk HFR5.out.row
     have hRl : 0 < (rowC F xs).length := by simp [rowC]; omega
     have HRL := Aside0.mk hRl
     have HML : Aside0 ((rowsL l (d + 1) 2).length ≤ 1000) := ⟨by omega⟩
     have HMR : Aside0 ((rowsL l (d + 1) 2 ++ [rowC F xs]).length ≤ 63) := ⟨by rw [List.length_append]; exact hM63⟩
     generalize rowsL l (d + 1) 2 = M at HRW HVR HGD HML HMR
     generalize rowC F xs = R at HVR HGD HR5 HRL HMR
     generalize rankL l (d + 1) 2 = rk at HRO HVR
     clear hM63 hRl HFR5
     have hw : IntKind.i64.wrap (d + 1) = d + 1 := by unfold IntKind.wrap; simp [IntKind.bits, IntKind.signed]; omega
     go_region_held3 (fun w' => w'.cell? ⟨w.heap.size, 0, none⟩ = some (I n) ∧ w'.cell? ⟨w.heap.size, 1, none⟩ = some (.slice A l.length c))
      ((refine KK.out _ ?_; first | exact HD9.out | exact HD8.out | exact HD7.out | exact HA6.out _ | exact HD6.out | exact HD0.out | exact HA0.out _))
      (first
       | (go_at_call 68; (with_reducible refine Calls.mono (HRW.out _ (Below.trans HG5.out (Below.mono ?_ hs35))) ?_); (focus (repeat (first | exact Below.refl _ _ | apply below_drew | apply pw_below_drewN | apply below_alloc))); rintro e w6 ⟨v8, vs, f, rfl, hM, hG6⟩; have HM6 := Aside0.mk hM; have HG6 := Aside0.mk hG6; have HD6g : Aside0 (Grew w5 w6) := ⟨Grew.trans (by repeat (first | exact Below.refl _ _ | apply below_drew | apply pw_below_drewN | apply below_alloc)) hG6⟩; have HD6 : Aside0 (Below w3.heap.size w5 w6) := ⟨Below.mono HD6g.out hs35⟩; have HA6 : Aside0 (∀ o, Below w3.heap.size w5 (w6.alloc o)) := ⟨fun o => Below.mono (below_alloc HD6g.out o) hs35⟩; obtain ⟨A8, c8, e8, hc8⟩ := HM6.out.slice; subst e8; clear hM hG6)
       | (go_at_call 67; refine (sRank_calls 2 (by decide) F.length hF63 (M ++ [R]) HGD.out HMR.out w3.heap.size _ vs9 f9 w7 (Nat.le_trans hs35 (Nat.le_trans (by exact Nat.le_refl _) HD7.out.size)) HM7.out).mono ?_; rintro e w8 ⟨rfl, hG8⟩; have HD8 : Aside0 (Below w3.heap.size w5 w8) := ⟨Below.trans HD7.out hG8⟩; clear hG8)
       | (go_at_call 69; refine (HRO.out _ (Below.trans HG5.out HD8.out)).mono ?_; rintro e w9 ⟨rfl, hG9⟩; have HD9 : Aside0 (Below w3.heap.size w5 w9) := ⟨Below.trans HD8.out (Below.mono hG9 (Nat.le_trans hs35 HD8.out.size))⟩; clear hG9)
       | (refine append_mat w3.heap.size _ (by rfl) _ _ (by rfl) _ vs f M ⟨.slice A7 F.length c7, rfl⟩ R _ _ (by rfl) (by rfl) (by first | exact blk_cell (blk_new _ _) 0 | exact blk_cell (blk_below (blk_new _ _) HG6.out) 0 | exact blk_cell (blk_below (blk_drew (blk_new _ _)) HG6.out) 0) (by first | exact HM6.out | exact HM6.out.below (below_alloc (Below.refl _ _) _)) (by first | exact Kd.R_below HR5.out HD6g.out | exact Kd.R_below HR5.out (below_alloc HD6g.out _)) HRL.out (fun k hk => Nat.lt_of_lt_of_le (Kd.R_lt HR5.out k hk) (by first | exact Nat.le_refl _ | (rw [World.size_alloc]; exact Nat.le_succ _) | (show w5.heap.size ≤ (w5.alloc _).heap.size; rw [World.size_alloc]; exact Nat.le_succ _))) (Nat.le_trans hs35 (by first | exact Nat.le_refl _ | (rw [World.size_alloc]; exact Nat.le_succ _) | (show w5.heap.size ≤ (w5.alloc _).heap.size; rw [World.size_alloc]; exact Nat.le_succ _))) (by first | exact HG6.out.size | exact Nat.le_trans HG6.out.size (by rw [World.size_alloc]; exact Nat.le_succ _)) HML.out ?_; intro A9 c9 vs9 f9 w7 hM7 hB7; have HM7 := Aside0.mk hM7; have HD7 : Aside0 (Below w3.heap.size w5 w7) := ⟨by first | exact Below.trans HD6.out hB7 | exact Below.trans (HA6.out _) hB7⟩; clear hM7 hB7))
     all_goals (go_wp2_with fail; go_ret; exact ⟨by rw [HVR.out]; first | rfl | simp, Grew.trans HG3.out (Below.trans HG5.out HD9.out)⟩)

end Go.Proofs.Ytjoggjgmpoaaiaa.K
end

section
/- Bounds: the program's and the reference's. -/
namespace Go.Proofs.Ytjoggjgmpoaaiaa.K
open Go.RowKit Go.Shelf Go.Proofs.Ytjoggjgmpoaaiaa.Q Go.Proofs.YtjoggjgmpoaaiaaW.PrintWords Go.Proofs.YtjoggjgmpoaaiaaW.PrintLast Go.Proofs.YtjoggjgmpoaaiaaW.PrintMore
set_option linter.unusedVariables false
set_option linter.unusedSimpArgs false

/-- What Bounds answers. -/
def bndsA (n : Int) (l xs : List Int) : Bool := if codeOf n l (chainB l xs) = 0 then bndB l (chN xs) else false
theorem chain_of {n : Int} {l xs : List Int} (h : codeOf n l (chainB l xs) = 0) : isC n l = true ∧ ChainOf l xs := by
  obtain ⟨hi, hb⟩ := codeOf_zero h
  obtain ⟨h1, h2⟩ := chain_facts hi hb
  exact ⟨hi, h1, h2⟩
theorem chain_small {n : Int} {l xs : List Int} (hi : isC n l = true) (h : ChainOf l xs) : ∀ x ∈ xs, 0 ≤ x ∧ x ≤ 63 := fun x hx => by
  have := (isC_faces hi).2.2.1 x (h.mem x hx).1
  omega
set_option maxHeartbeats 2000000 in
theorem Bounds_calls (n : Int) (A : Option Addr) (c : Nat) (l : List Int) (A2 : Option Addr) (c2 : Nat) (xs : List Int) (w : World) (hk : Kx w A c l) (hx : Ki.C w A2 xs.length xs) (hc2 : xs.length ≤ c2) (hx2 : xs.length ≤ 2097152) :
    Calls Try.prog 20 #[.agg #[I n, .slice A l.length c], .slice A2 xs.length c2] w fun e w' => e = .returned (.tuple #[.bool (bndsA n l xs), I (codeOf n l (chainB l xs))]) ∧ Grew w w' := by
  have hB : CB (w.alloc (.cells #[I n, .slice A l.length c] 26)) w.heap.size n (.slice A l.length c) := blk_new w _
  have HG : Aside0 (Grew w (w.alloc (.cells #[I n, .slice A l.length c] 26))) := ⟨below_alloc (Grew.refl w) _⟩
  have HCC : Aside0 (∀ (G : Nat) W, Grew w W → W.heap[G]? = some (.cells #[.slice A2 xs.length c2] 22 (0, 0)) → Calls Try.prog 41 #[.agg #[I n, .slice A l.length c], .slice (some ⟨G, 0, none⟩) 1 1] W fun e w' => e = .returned (I (codeOf n l (chainB l xs))) ∧ Grew W w') := ⟨fun G W hW hG => by
    have h := chainCode_calls n A c l (some ⟨G, 0, none⟩) 1 [⟨A2, c2, xs⟩] W (hk.later hW) (Kr_of G 22 hG (by simp)) (by simp) (fun r hr => by
      rw [List.mem_singleton.1 hr]
      exact ⟨Kd.C_below hx hW, hc2, hx2⟩)
    simp only [List.all_cons, List.all_nil, Bool.and_true] at h
    exact h⟩
  have hL : ((w.alloc (.cells #[I n, .slice A l.length c] 26)).alloc (.cells #[.slice A2 xs.length c2] 22)).heap[w.heap.size + 1]? = some (.cells #[.slice A2 xs.length c2] 22 (0, 0)) := by
    have := blk_new (w.alloc (.cells #[I n, .slice A l.length c] 26)) (.cells #[.slice A2 xs.length c2] 22)
    rwa [World.size_alloc] at this
  have HC3 := Aside0.mk (HCC.out _ _ (below_alloc HG.out _) hL)
  have HK := Aside0.mk hk
  have HX := Aside0.mk hx
  have HC2 := Aside0.mk hc2
  have HB := Aside0.mk hB
  have k0 := hB.c0
  have k1 := hB.c1
  clear hk hx hc2 hB hL HCC
  obtain ⟨cc, hcc⟩ : ∃ cc, cc = codeOf n l (chainB l xs) := ⟨_, rfl⟩
  rw [← hcc] at HC3 ⊢
  by_cases hz : cc = 0
  · obtain ⟨hi, hch⟩ := chain_of (by rw [← hcc]; exact hz : codeOf n l (chainB l xs) = 0)
    have HV : Aside0 (bndsA n l xs = bndB l (chN xs)) := ⟨by unfold bndsA; rw [← hcc, if_pos hz]⟩
    have hsm := chain_small hi hch
    have HCO : Aside0 (∀ W, Grew w W → Calls Try.prog 43 #[.slice A2 xs.length c2] W fun e w' => e = .returned (.int .u64 (chN xs : Int)) ∧ Grew W w') := ⟨fun W hW => (impl_chainOf.calls _ A2 c2 xs _ W (Kd.C_below HX.out hW) HC2.out (chainOf_is xs (by omega) hsm)).mono fun e w' ⟨he, hd⟩ => ⟨he, hd.below⟩⟩
    have HBN : Aside0 (∀ W, Grew w W → Calls Try.prog 42 #[.agg #[I n, .slice A l.length c], .int .u64 (chN xs : Int)] W fun e w' => e = .returned (.bool (bndB l (chN xs))) ∧ Grew W w') := ⟨fun W hW => bounds_calls n A c l _ (chN_lt xs hsm 0 (by decide)) W (HK.out.later hW) hi⟩
    subst hz
    clear hi hch hsm hcc
    rw [HV.out]
    clear HV
    generalize chN xs = q at HCO HBN ⊢
    generalize bndB l q = b at HBN ⊢
    go_enter Try.func20, Try.ntmps20
    go_wp2_with fail
    refine HC3.out.mono ?_
    rintro e w1 ⟨rfl, hG1⟩
    have HB1 := Aside0.mk (CB.later (blk_alloc HB.out _) hG1)
    have HG1 := Aside0.mk (Grew.trans (below_alloc HG.out _) hG1)
    clear hG1 k0 k1
    have k0 := HB1.out.c0
    have k1 := HB1.out.c1
    have hlk : w.heap.size < w1.heap.size := World.block_lt_of_cell? w1 _ k0
    go_wp2_with fail
    go_region_held3 (fun w' => w'.cell? ⟨w.heap.size, 0, none⟩ = some (I n) ∧ w'.cell? ⟨w.heap.size, 1, none⟩ = some (.slice A l.length c))
      (first | exact ⟨(HDb.out.cell (p := ⟨w.heap.size, 0, none⟩) hlk).trans k0, (HDb.out.cell (p := ⟨w.heap.size, 1, none⟩) hlk).trans k1⟩ | exact ⟨(HDa.out.cell (p := ⟨w.heap.size, 0, none⟩) hlk).trans k0, (HDa.out.cell (p := ⟨w.heap.size, 1, none⟩) hlk).trans k1⟩ | go_keep)
      (first
        | (go_at_call 43; refine (HCO.out _ (Below.trans HG1.out (Below.mono ((Below.refl _ w1).drew) HG1.out.size))).mono ?_; rintro e w2 ⟨rfl, hGa⟩; have HDa : Aside0 (Grew w1 w2) := ⟨Below.trans ((Below.refl _ w1).drew) hGa⟩; clear hGa)
        | (go_at_call 42; refine (HBN.out _ (Grew.trans HG1.out HDa.out)).mono ?_; rintro e w3 ⟨rfl, hGb⟩; have HDb : Aside0 (Grew w1 w3) := ⟨Grew.trans HDa.out hGb⟩; clear hGb))
    all_goals (go_wp2_with fail; go_ret2; exact ⟨rfl, Grew.trans HG1.out HDb.out⟩)
  · have HV : Aside0 (bndsA n l xs = false) := ⟨by unfold bndsA; rw [← hcc, if_neg hz]⟩
    clear hcc
    rw [HV.out]
    go_enter Try.func20, Try.ntmps20
    go_wp2_with fail
    refine HC3.out.mono ?_
    rintro e w1 ⟨rfl, hG1⟩
    have HG1 := Aside0.mk (Grew.trans (below_alloc HG.out _) hG1)
    clear hG1 k0 k1
    go_wp2_with fail
    go_ret2
    exact ⟨rfl, HG1.out⟩
set_option maxHeartbeats 2000000 in
theorem sBoundsX_calls (n : Int) (A : Option Addr) (c : Nat) (l : List Int) (A2 : Option Addr) (c2 : Nat) (xs : List Int) (w : World) (hk : Kx w A c l) (hl2 : l.length ≤ 2097152) (hx : Ki.C w A2 xs.length xs) (hc2 : xs.length ≤ c2) (hx2 : xs.length ≤ 2097152) :
    Calls Try.prog 19 #[.agg #[I n, .slice A l.length c], .slice A2 xs.length c2] w fun e w' => e = .returned (.tuple #[.bool (bndsA n l xs), I (codeOf n l (chainB l xs))]) ∧ Grew w w' := by
  have hB : CB (w.alloc (.cells #[I n, .slice A l.length c] 26)) w.heap.size n (.slice A l.length c) := blk_new w _
  have HG : Aside0 (Grew w (w.alloc (.cells #[I n, .slice A l.length c] 26))) := ⟨below_alloc (Grew.refl w) _⟩
  have HCC : Aside0 (∀ W, Grew w W → Calls Try.prog 39 #[.agg #[I n, .slice A l.length c], .slice A2 xs.length c2] W fun e w' => e = .returned (I (codeOf n l (chainB l xs))) ∧ Grew W w') := ⟨fun W hW => spec_l03Chain.calls (isK l + xs.length + 40) n A c l A2 c2 xs _ W (hk.later hW).r hk.c (Kd.C_below hx hW) hc2 (specChain_is n l xs hl2 hx2 _ (Nat.le_refl _))⟩
  have HK := Aside0.mk hk
  have HX := Aside0.mk hx
  have HC2 := Aside0.mk hc2
  have HB := Aside0.mk hB
  have k0 := hB.c0
  have k1 := hB.c1
  clear hk hx hc2 hB
  obtain ⟨cc, hcc⟩ : ∃ cc, cc = codeOf n l (chainB l xs) := ⟨_, rfl⟩
  rw [← hcc] at HCC ⊢
  by_cases hz : cc = 0
  · obtain ⟨hi, hch⟩ := chain_of (by rw [← hcc]; exact hz : codeOf n l (chainB l xs) = 0)
    have HV : Aside0 (bndsA n l xs = bndB l (chN xs)) := ⟨by unfold bndsA; rw [← hcc, if_pos hz]⟩
    have HBN : Aside0 (∀ W, Grew w W → Calls Try.prog 40 #[.agg #[I n, .slice A l.length c], .slice A2 xs.length c2] W fun e w' => e = .returned (.bool (bndB l (chN xs))) ∧ Grew W w') := ⟨fun W hW => sBounds_calls n A c l A2 c2 xs W (HK.out.later hW) hi (Kd.C_below HX.out hW) HC2.out hx2 hch⟩
    subst hz
    clear hi hch hcc
    rw [HV.out]
    clear HV
    generalize chN xs = q at HBN ⊢
    generalize bndB l q = b at HBN ⊢
    go_enter Try.func19, Try.ntmps19
    go_wp2_with fail
    refine (HCC.out _ HG.out).mono ?_
    rintro e w1 ⟨rfl, hG1⟩
    have HB1 := Aside0.mk (CB.later HB.out hG1)
    have HG1 := Aside0.mk (Grew.trans HG.out hG1)
    clear hG1 k0 k1
    have k0 := HB1.out.c0
    have k1 := HB1.out.c1
    go_wp2_with fail
    refine (HBN.out _ HG1.out).mono ?_
    rintro e w2 ⟨rfl, hG2⟩
    go_wp2_with fail
    go_ret2
    exact ⟨rfl, Grew.trans HG1.out hG2⟩
  · have HV : Aside0 (bndsA n l xs = false) := ⟨by unfold bndsA; rw [← hcc, if_neg hz]⟩
    clear hcc
    rw [HV.out]
    go_enter Try.func19, Try.ntmps19
    go_wp2_with fail
    refine (HCC.out _ HG.out).mono ?_
    rintro e w1 ⟨rfl, hG1⟩
    have HG1 := Aside0.mk (Grew.trans HG.out hG1)
    clear hG1 k0 k1
    go_wp2_with fail
    go_ret2
    exact ⟨rfl, HG1.out⟩

end Go.Proofs.Ytjoggjgmpoaaiaa.K
end

section
/- The walk through the law FnExactBounds. -/
namespace Go.Proofs.Ytjoggjgmpoaaiaa.K
open Go.RowKit Go.Shelf Go.Proofs.Ytjoggjgmpoaaiaa.Q Go.Proofs.YtjoggjgmpoaaiaaW.PrintWords Go.Proofs.YtjoggjgmpoaaiaaW.PrintLast Go.Proofs.YtjoggjgmpoaaiaaW.PrintMore
set_option linter.unusedVariables false
set_option linter.unusedSimpArgs false

set_option maxRecDepth 100000 in
set_option maxHeartbeats 8000000 in
theorem LBounds_i0 (n0 : Int) (A0 : Option Addr) (c0 : Nat) (l0 : List Int) (A1 : Option Addr) (c1 : Nat) (l1 : List Int) (w : World) (hr0 : Ki.C w A0 l0.length l0) (hc0 : l0.length ≤ c0) (hr1 : Ki.C w A1 l1.length l1) (hc1 : l1.length ≤ c1)  (hz : (1048576 : Int) < (l1.length : Int)) :
    Calls Try.prog 5 #[.agg #[I n0, .slice A0 l0.length c0], .slice A1 l1.length c1] w fun e w' => e = .returned (.bool true) ∧ Grew w w' := by
  have hbig0 := hr0.2.1
  have HR0 := Aside0.mk hr0
  have HC0 := Aside0.mk hc0
  clear hr0 hc0
  have hbig1 := hr1.2.1
  have HR1 := Aside0.mk hr1
  have HC1 := Aside0.mk hc1
  clear hr1 hc1
  obtain ⟨W0, hW0⟩ : ∃ W0, W0 = (w.alloc (.cells #[I n0, .slice A0 l0.length c0] 24)) := ⟨_, rfl⟩
  have hb_p0 : (Item.box w.heap.size 24 #[I n0, .slice A0 l0.length c0]).ok W0 := by
    rw [hW0]
    have := blk_new w (.cells #[I n0, .slice A0 l0.length c0] 24)
    exact this
  have HM0 : Aside0 (Mem W0 [.box w.heap.size 24 #[I n0, .slice A0 l0.length c0]]) := ⟨Mem.cons (it := .box w.heap.size 24 #[I n0, .slice A0 l0.length c0]) hb_p0 (Mem.nil _)⟩
  have HG0 : Aside0 (Grew w W0) := ⟨by rw [hW0]; exact below_alloc (Grew.refl w) _⟩
  have hs0 : W0.heap.size = w.heap.size + 1 := by rw [hW0]; simp
  clear hb_p0
  subst hW0
  go_enter Try.func5, Try.ntmps5
  go_wp2_with fail
  go_ret
  exact ⟨rfl, HG0.out⟩

set_option maxRecDepth 100000 in
set_option maxHeartbeats 8000000 in
theorem LBounds_b0 (n0 : Int) (A0 : Option Addr) (c0 : Nat) (l0 : List Int) (A1 : Option Addr) (c1 : Nat) (l1 : List Int) (w : World) (hr0 : Ki.C w A0 l0.length l0) (hc0 : l0.length ≤ c0) (hr1 : Ki.C w A1 l1.length l1) (hc1 : l1.length ≤ c1) (hn1 : ¬ (1048576 : Int) < (l1.length : Int))  (hz : (1048576 : Int) < (l0.length : Int)) :
    Calls Try.prog 5 #[.agg #[I n0, .slice A0 l0.length c0], .slice A1 l1.length c1] w fun e w' => e = .returned (.bool true) ∧ Grew w w' := by
  have hbig0 := hr0.2.1
  have HR0 := Aside0.mk hr0
  have HC0 := Aside0.mk hc0
  clear hr0 hc0
  have hbig1 := hr1.2.1
  have HR1 := Aside0.mk hr1
  have HC1 := Aside0.mk hc1
  clear hr1 hc1
  obtain ⟨W0, hW0⟩ : ∃ W0, W0 = (w.alloc (.cells #[I n0, .slice A0 l0.length c0] 24)) := ⟨_, rfl⟩
  have hb_p0 : (Item.box w.heap.size 24 #[I n0, .slice A0 l0.length c0]).ok W0 := by
    rw [hW0]
    have := blk_new w (.cells #[I n0, .slice A0 l0.length c0] 24)
    exact this
  have HM0 : Aside0 (Mem W0 [.box w.heap.size 24 #[I n0, .slice A0 l0.length c0]]) := ⟨Mem.cons (it := .box w.heap.size 24 #[I n0, .slice A0 l0.length c0]) hb_p0 (Mem.nil _)⟩
  have HG0 : Aside0 (Grew w W0) := ⟨by rw [hW0]; exact below_alloc (Grew.refl w) _⟩
  have hs0 : W0.heap.size = w.heap.size + 1 := by rw [hW0]; simp
  clear hb_p0
  have H0 := Aside0.mk (szC_calls n0 A0 c0 l0 (1048576 : Int) (by omega) W0 (Kd.C_below HR0.out HG0.out) HC0.out)
  rw [if_pos (by omega)] at H0
  have p0_0 : W0.cell? ⟨w.heap.size, 0, none⟩ = some (I n0) := blk_cell HM0.out.head 0
  have p0_1 : W0.cell? ⟨w.heap.size, 1, none⟩ = some (.slice A0 l0.length c0) := blk_cell HM0.out.head 1
  subst hW0
  go_enter Try.func5, Try.ntmps5
  go_wp2_with fail
  refine H0.out.mono ?_
  rintro e w1 ⟨rfl, hG1⟩
  clear p0_0 p0_1
  have HM1 := Aside0.mk (HM0.out.grew hG1)
  have HG1 := Aside0.mk (Grew.trans HG0.out hG1)
  have hs1 := hG1.size
  try simp at hs1
  clear hG1 H0
  go_wp2_with fail
  go_ret
  exact ⟨rfl, HG1.out⟩

set_option maxRecDepth 100000 in
set_option maxHeartbeats 8000000 in
theorem LBounds_main (n0 : Int) (A0 : Option Addr) (c0 : Nat) (l0 : List Int) (A1 : Option Addr) (c1 : Nat) (l1 : List Int) (w : World) (hr0 : Ki.C w A0 l0.length l0) (hc0 : l0.length ≤ c0) (hr1 : Ki.C w A1 l1.length l1) (hc1 : l1.length ≤ c1) (hn1 : ¬ (1048576 : Int) < (l1.length : Int)) (hl0 : ¬ (1048576 : Int) < (l0.length : Int)) :
    Calls Try.prog 5 #[.agg #[I n0, .slice A0 l0.length c0], .slice A1 l1.length c1] w fun e w' => e = .returned (.bool true) ∧ Grew w w' := by
    obtain ⟨r0, r1, HS, HI⟩ : ∃ (r0 : Bool) (r1 : Int), Aside0 (∀ W A0 c0 A1 c1, Ki.C W A0 l0.length l0 → l0.length ≤ c0 → Ki.C W A1 l1.length l1 → l1.length ≤ c1 → Calls Try.prog 19 #[.agg #[I n0, .slice A0 l0.length c0], .slice A1 l1.length c1] W fun e w' => e = .returned (.tuple #[.bool r0, I r1]) ∧ Grew W w') ∧ Aside0 (∀ W A0 c0 A1 c1, Ki.C W A0 l0.length l0 → l0.length ≤ c0 → Ki.C W A1 l1.length l1 → l1.length ≤ c1 → Calls Try.prog 20 #[.agg #[I n0, .slice A0 l0.length c0], .slice A1 l1.length c1] W fun e w' => e = .returned (.tuple #[.bool r0, I r1]) ∧ Grew W w') := by
      have hbig0 := hr0.2.1
      have hbig1 := hr1.2.1
      have hS := fun (W : World) (A0 : Option Addr) (c0 : Nat) (A1 : Option Addr) (c1 : Nat) (hr0 : Ki.C W A0 l0.length l0) (hc0 : l0.length ≤ c0) (hr1 : Ki.C W A1 l1.length l1) (hc1 : l1.length ≤ c1) => sBoundsX_calls n0 A0 c0 l0 A1 c1 l1 W ⟨hr0, hc0, by omega⟩ (by omega) hr1 hc1 (by omega)
      have hI := fun (W : World) (A0 : Option Addr) (c0 : Nat) (A1 : Option Addr) (c1 : Nat) (hr0 : Ki.C W A0 l0.length l0) (hc0 : l0.length ≤ c0) (hr1 : Ki.C W A1 l1.length l1) (hc1 : l1.length ≤ c1) => Bounds_calls n0 A0 c0 l0 A1 c1 l1 W ⟨hr0, hc0, by omega⟩ hr1 hc1 (by omega)
      exact ⟨(bndsA n0 l0 l1), (codeOf n0 l0 (chainB l0 l1)), ⟨hS⟩, ⟨hI⟩⟩
    have hbig0 := hr0.2.1
    have HR0 := Aside0.mk hr0
    have HC0 := Aside0.mk hc0
    clear hr0 hc0
    have hbig1 := hr1.2.1
    have HR1 := Aside0.mk hr1
    have HC1 := Aside0.mk hc1
    clear hr1 hc1
    obtain ⟨W0, hW0⟩ : ∃ W0, W0 = (w.alloc (.cells #[I n0, .slice A0 l0.length c0] 24)) := ⟨_, rfl⟩
    have hb_p0 : (Item.box w.heap.size 24 #[I n0, .slice A0 l0.length c0]).ok W0 := by
      rw [hW0]
      have := blk_new w (.cells #[I n0, .slice A0 l0.length c0] 24)
      exact this
    have HM0 : Aside0 (Mem W0 [.box w.heap.size 24 #[I n0, .slice A0 l0.length c0]]) := ⟨Mem.cons (it := .box w.heap.size 24 #[I n0, .slice A0 l0.length c0]) hb_p0 (Mem.nil _)⟩
    have HG0 : Aside0 (Grew w W0) := ⟨by rw [hW0]; exact below_alloc (Grew.refl w) _⟩
    have hs0 : W0.heap.size = w.heap.size + 1 := by rw [hW0]; simp
    clear hb_p0
    have H0 := Aside0.mk (szC_calls n0 A0 c0 l0 (1048576 : Int) (by omega) W0 (Kd.C_below HR0.out HG0.out) HC0.out)
    rw [if_neg (by omega)] at H0
    have p0_0 : W0.cell? ⟨w.heap.size, 0, none⟩ = some (I n0) := blk_cell HM0.out.head 0
    have p0_1 : W0.cell? ⟨w.heap.size, 1, none⟩ = some (.slice A0 l0.length c0) := blk_cell HM0.out.head 1
    subst hW0
    go_enter Try.func5, Try.ntmps5
    have hneg0 : ¬ (((1048576 : Int) - (l0.length : Int)) < 0) := by omega
    go_wp2_with fail
    refine H0.out.mono ?_
    rintro e w1 ⟨rfl, hG1⟩
    clear p0_0 p0_1
    have HM1 := Aside0.mk (HM0.out.grew hG1)
    have HG1 := Aside0.mk (Grew.trans HG0.out hG1)
    have hs1 := hG1.size
    try simp at hs1
    clear hG1 H0
    have p0_0 : w1.cell? ⟨w.heap.size, 0, none⟩ = some (I n0) := blk_cell HM1.out.head 0
    have p0_1 : w1.cell? ⟨w.heap.size, 1, none⟩ = some (.slice A0 l0.length c0) := blk_cell HM1.out.head 1
    go_wp2_with fail
    clear p0_0 p0_1
    refine (toC_calls n0 A0 c0 l0 w1 (Kd.C_below HR0.out HG1.out) HC0.out (by omega)).mono ?_
    rintro e w2 ⟨AS0, cS0, rfl, hR2, hG2⟩
    have HM2 : Aside0 (Mem w2 [.row w1.heap.size w2.heap.size (.slice AS0 l0.length cS0) l0, .box w.heap.size 24 #[I n0, .slice A0 l0.length c0]]) := ⟨Mem.cons (it := .row w1.heap.size w2.heap.size (.slice AS0 l0.length cS0) l0) (hR2) (HM1.out.grew hG2)⟩
    have HG2 := Aside0.mk (Grew.trans HG1.out hG2)
    have hs2 := hG2.size
    clear hG2 
    go_wp2_with fail
    refine (toI_calls A1 c1 l1 w2 (Kd.C_below HR1.out HG2.out) HC1.out (by omega)).mono ?_
    rintro e w3 ⟨AS1, cS1, rfl, hR3, hG3⟩
    have HM3 : Aside0 (Mem w3 [.row w2.heap.size w3.heap.size (.slice AS1 l1.length cS1) l1, .row w1.heap.size w2.heap.size (.slice AS0 l0.length cS0) l0, .box w.heap.size 24 #[I n0, .slice A0 l0.length c0]]) := ⟨Mem.cons (it := .row w2.heap.size w3.heap.size (.slice AS1 l1.length cS1) l1) (hR3) (HM2.out.grew hG3)⟩
    have HG3 := Aside0.mk (Grew.trans HG2.out hG3)
    have hs3 := hG3.size
    clear hG3 
    go_wp2_with fail
    refine (HS.out w3 AS0 cS0 AS1 cS1 (Row.slice HM3.out.tail.head).2.2 (Row.slice HM3.out.tail.head).2.1 (Row.slice HM3.out.head).2.2 (Row.slice HM3.out.head).2.1).mono ?_
    rintro e w4 ⟨rfl, hG4⟩
    have HM4 := Aside0.mk (HM3.out.grew hG4)
    have HG4 := Aside0.mk (Grew.trans HG3.out hG4)
    have hs4 := hG4.size
    clear hG4
    have p0_0 : w4.cell? ⟨w.heap.size, 0, none⟩ = some (I n0) := blk_cell HM4.out.tail.tail.head 0
    have p0_1 : w4.cell? ⟨w.heap.size, 1, none⟩ = some (.slice A0 l0.length c0) := blk_cell HM4.out.tail.tail.head 1
    go_wp2_with fail
    clear p0_0 p0_1
    refine (toC_calls n0 A0 c0 l0 w4 (Kd.C_below HR0.out HG4.out) HC0.out (by omega)).mono ?_
    rintro e w5 ⟨Ax0, cx0, rfl, hR5, hG5⟩
    have HM5 : Aside0 (Mem w5 [.row w4.heap.size w5.heap.size (.slice Ax0 l0.length cx0) l0, .row w2.heap.size w3.heap.size (.slice AS1 l1.length cS1) l1, .row w1.heap.size w2.heap.size (.slice AS0 l0.length cS0) l0, .box w.heap.size 24 #[I n0, .slice A0 l0.length c0]]) := ⟨Mem.cons (it := .row w4.heap.size w5.heap.size (.slice Ax0 l0.length cx0) l0) (hR5) (HM4.out.grew hG5)⟩
    have HG5 := Aside0.mk (Grew.trans HG4.out hG5)
    have hs5 := hG5.size
    clear hG5 
    have HM6 : Aside0 (Mem (w5.alloc (.cells #[I n0, .slice Ax0 l0.length cx0] 26)) [.box w5.heap.size 26 #[I n0, .slice Ax0 l0.length cx0], .row w4.heap.size w5.heap.size (.slice Ax0 l0.length cx0) l0, .row w2.heap.size w3.heap.size (.slice AS1 l1.length cS1) l1, .row w1.heap.size w2.heap.size (.slice AS0 l0.length cS0) l0, .box w.heap.size 24 #[I n0, .slice A0 l0.length c0]]) := ⟨Mem.cons (blk_new w5 _) (HM5.out.grew (below_alloc (Grew.refl w5) _))⟩
    have HG6 : Aside0 (Grew w (w5.alloc (.cells #[I n0, .slice Ax0 l0.length cx0] 26))) := ⟨Grew.trans HG5.out (below_alloc (Grew.refl w5) _)⟩
    have hS6 : (w5.alloc (.cells #[I n0, .slice Ax0 l0.length cx0] 26)).heap.size = w5.heap.size + 1 := by simp
    go_wp2_with fail
    generalize (w5.alloc (.cells #[I n0, .slice Ax0 l0.length cx0] 26)) = W6 at HM6 HG6 hS6  ⊢
    refine (toI_calls A1 c1 l1 W6 (Kd.C_below HR1.out HG6.out) HC1.out (by omega)).mono ?_
    rintro e w7 ⟨Ax1, cx1, rfl, hR7, hG7⟩
    have HM7 : Aside0 (Mem w7 [.row W6.heap.size w7.heap.size (.slice Ax1 l1.length cx1) l1, .box w5.heap.size 26 #[I n0, .slice Ax0 l0.length cx0], .row w4.heap.size w5.heap.size (.slice Ax0 l0.length cx0) l0, .row w2.heap.size w3.heap.size (.slice AS1 l1.length cS1) l1, .row w1.heap.size w2.heap.size (.slice AS0 l0.length cS0) l0, .box w.heap.size 24 #[I n0, .slice A0 l0.length c0]]) := ⟨Mem.cons (it := .row W6.heap.size w7.heap.size (.slice Ax1 l1.length cx1) l1) (hR7) (HM6.out.grew hG7)⟩
    have HG7 := Aside0.mk (Grew.trans HG6.out hG7)
    have hs7 := hG7.size
    clear hG7 
    have bx0_0 : w7.cell? ⟨w5.heap.size, 0, none⟩ = some (I n0) := blk_cell HM7.out.tail.head 0
    have bx0_1 : w7.cell? ⟨w5.heap.size, 1, none⟩ = some (.slice Ax0 l0.length cx0) := blk_cell HM7.out.tail.head 1
    go_wp2_with fail
    clear bx0_0 bx0_1
    refine (HI.out w7 Ax0 cx0 Ax1 cx1 (Row.slice HM7.out.tail.tail.head).2.2 (Row.slice HM7.out.tail.tail.head).2.1 (Row.slice HM7.out.head).2.2 (Row.slice HM7.out.head).2.1).mono ?_
    rintro e w8 ⟨rfl, hG8⟩
    have HM8 := Aside0.mk (HM7.out.grew hG8)
    have HG8 := Aside0.mk (Grew.trans HG7.out hG8)
    have hs8 := hG8.size
    clear hG8
    go_wp2_with fail
    have bx0_0 : w8.cell? ⟨w5.heap.size, 0, none⟩ = some (I n0) := blk_cell HM8.out.tail.head 0
    have bx0_1 : w8.cell? ⟨w5.heap.size, 1, none⟩ = some (.slice Ax0 l0.length cx0) := blk_cell HM8.out.tail.head 1
    have p0_0 : w8.cell? ⟨w.heap.size, 0, none⟩ = some (I n0) := blk_cell HM8.out.tail.tail.tail.tail.tail.head 0
    have p0_1 : w8.cell? ⟨w.heap.size, 1, none⟩ = some (.slice A0 l0.length c0) := blk_cell HM8.out.tail.tail.tail.tail.tail.head 1
    have hlx : w5.heap.size < w8.heap.size := World.block_lt_of_cell? w8 _ bx0_0
    have hlp : w.heap.size < w8.heap.size := World.block_lt_of_cell? w8 _ p0_0
    go_region_held3 (fun w' => w'.cell? ⟨w5.heap.size, 0, none⟩ = some (I n0) ∧ w'.cell? ⟨w5.heap.size, 1, none⟩ = some (.slice Ax0 l0.length cx0) ∧ w'.cell? ⟨w.heap.size, 0, none⟩ = some (I n0) ∧ w'.cell? ⟨w.heap.size, 1, none⟩ = some (.slice A0 l0.length c0))
      (first | exact ⟨(HDb.out.cell (p := ⟨w5.heap.size, 0, none⟩) hlx).trans bx0_0, (HDb.out.cell (p := ⟨w5.heap.size, 1, none⟩) hlx).trans bx0_1, (HDb.out.cell (p := ⟨w.heap.size, 0, none⟩) hlp).trans p0_0, (HDb.out.cell (p := ⟨w.heap.size, 1, none⟩) hlp).trans p0_1⟩ | exact ⟨(HDa.out.cell (p := ⟨w5.heap.size, 0, none⟩) hlx).trans bx0_0, (HDa.out.cell (p := ⟨w5.heap.size, 1, none⟩) hlx).trans bx0_1, (HDa.out.cell (p := ⟨w.heap.size, 0, none⟩) hlp).trans p0_0, (HDa.out.cell (p := ⟨w.heap.size, 1, none⟩) hlp).trans p0_1⟩ | go_keep)
      (first
        | (go_at_call 9; refine (toC_calls n0 A0 c0 l0 _ (Kd.C_below HR0.out (Below.trans HG8.out ((Below.refl _ w8).drew))) HC0.out (by omega)).mono ?_; rintro e w9 ⟨Aq0, cq0, rfl, hRa, hGa⟩; have HDa : Aside0 (Grew w8 w9) := ⟨Below.trans ((Below.refl _ w8).drew) hGa⟩; have HRa := Aside0.mk hRa; clear hRa hGa)
        | (go_at_call 12; refine (eqC_calls n0 l0 Ax0 Aq0 cx0 cq0 _ _ _ _ _ _ w9 (HM8.out.grew HDa.out).tail.tail.head HRa.out).mono ?_; rintro e w10 ⟨rfl, hGb⟩; have HDb : Aside0 (Grew w8 w10) := ⟨Grew.trans HDa.out hGb⟩; clear hGb))
    clear bx0_0 bx0_1 p0_0 p0_1
    have hG10 := HDb.out
    clear hlx hlp HDa HDb HRa
    have HM10 := Aside0.mk (HM8.out.grew hG10)
    have HG10 := Aside0.mk (Grew.trans HG8.out hG10)
    have hs10 := hG10.size
    clear hG10
    go_wp2_with fail
    refine (toI_calls A1 c1 l1 w10 (Kd.C_below HR1.out HG10.out) HC1.out (by omega)).mono ?_
    rintro e w11 ⟨Ay1, cy1, rfl, hR11, hG11⟩
    have HM11 : Aside0 (Mem w11 [.row w10.heap.size w11.heap.size (.slice Ay1 l1.length cy1) l1, .row W6.heap.size w7.heap.size (.slice Ax1 l1.length cx1) l1, .box w5.heap.size 26 #[I n0, .slice Ax0 l0.length cx0], .row w4.heap.size w5.heap.size (.slice Ax0 l0.length cx0) l0, .row w2.heap.size w3.heap.size (.slice AS1 l1.length cS1) l1, .row w1.heap.size w2.heap.size (.slice AS0 l0.length cS0) l0, .box w.heap.size 24 #[I n0, .slice A0 l0.length c0]]) := ⟨Mem.cons (it := .row w10.heap.size w11.heap.size (.slice Ay1 l1.length cy1) l1) (hR11) (HM10.out.grew hG11)⟩
    have HG11 := Aside0.mk (Grew.trans HG10.out hG11)
    have hs11 := hG11.size
    clear hG11 
    go_wp2_with fail
    refine (eqI_calls l1 Ax1 Ay1 cx1 cy1 _ _ _ _ _ _ w11 HM11.out.tail.head HM11.out.head).mono ?_
    rintro e w12 ⟨rfl, hG12⟩
    have HM12 := Aside0.mk (HM11.out.grew hG12)
    have HG12 := Aside0.mk (Grew.trans HG11.out hG12)
    have hs12 := hG12.size
    clear hG12
    go_wp2_with fail
    go_ret
    exact ⟨rfl, HG12.out⟩

theorem LBounds_calls (n0 : Int) (A0 : Option Addr) (c0 : Nat) (l0 : List Int) (A1 : Option Addr) (c1 : Nat) (l1 : List Int) (w : World) (hr0 : Ki.C w A0 l0.length l0) (hc0 : l0.length ≤ c0) (hr1 : Ki.C w A1 l1.length l1) (hc1 : l1.length ≤ c1) :
    Calls Try.prog 5 #[.agg #[I n0, .slice A0 l0.length c0], .slice A1 l1.length c1] w fun e w' => e = .returned (.bool true) ∧ Grew w w' := by
  by_cases hn1 : (1048576 : Int) < (l1.length : Int)
  · exact LBounds_i0 n0 A0 c0 l0 A1 c1 l1 w hr0 hc0 hr1 hc1  hn1
  by_cases hl0 : (1048576 : Int) < (l0.length : Int)
  · exact LBounds_b0 n0 A0 c0 l0 A1 c1 l1 w hr0 hc0 hr1 hc1 hn1  hl0
  exact LBounds_main n0 A0 c0 l0 A1 c1 l1 w hr0 hc0 hr1 hc1 hn1 hl0

end Go.Proofs.Ytjoggjgmpoaaiaa.K
end

section

namespace Go.Proofs.Ytjoggjgmpoaaiaa.fnExactBounds
open Go.ChangeShapes Go.WideShapes Go.ChangeAt Go.RowKit Go.Joins Go.Proofs.Ytjoggjgmpoaaiaa.K Go.Proofs.YtjoggjgmpoaaiaaW.PrintWords
open Go.ChangeMaps (open_string shut_string)
set_option linter.unusedVariables false
set_option maxRecDepth 100000 in
theorem lifted (os : Os) (started : os.Started) (H : Type) (enc : TypeId × Value → H) :
    ReturnsInHanded {} Try.checked os 5 .any (Rows.fnExactBoundsSpec.pre6 enc Try.prog Try.f5 Rows.fnExactBoundsRow.domain false) (Rows.fnExactBoundsSpec.post enc Try.prog Try.f5 false true false false) := by
  refine returnsInHanded_of_change_sized (C := Try.checked) ownKnob_none started (by kernel_rfl) Try.func5
    (ChangeSpec.witness6 (enc := enc) (C := Try.checked) false ⟨#[], #[.agg #[.int .i64 0, .slice none 0 0], .slice none 0 0], []⟩ 8 (by kernel_rfl) (by kernel_rfl) (by kernel_rfl) (by kernel_rfl)) ?_
  intro W base args ds gs before hval0 hW hcnd hsz0 _
  have hsz : (DataW.weightsEach Try.prog (Try.f5.params.toList ++ Rows.fnExactBoundsSpec.plain.varTypes Try.prog) (ds ++ gs)).all (· ≤ reachBytes) = true := hsz0
  have hval : ∀ (j : Nat) t v, Try.f5.params[j]? = some t → args[j]? = some v → Value.okWide Try.prog W .any base t v := hval0
  have hW' := hW
  obtain ⟨p, q, hA0, hV, rfl, hfz, hnd⟩ := hW
  have hA : DataW.TrodAll enc Try.prog W 0 (fun _ => true) true Try.f5.params.toList args.toList ds p := hA0
  rw [Try.params5] at hA hval hsz
  obtain ⟨v0, vs0, d0, ds0, p0, q0, hargs, rfl, rfl, h0, r0⟩ := trodAll_cons hA
  obtain ⟨v1, vs1, d1, ds1, p1, q1, rfl, rfl, rfl, h1, r1⟩ := trodAll_cons r0
  obtain ⟨rfl, rfl, rfl⟩ := trodAll_nil r1
  obtain rfl : args = #[v0, v1] := by cases args; simp_all
  obtain ⟨rfl, rfl⟩ := trodVars_none hV
  have k0 := h0
  have lt0 : ∀ x ∈ p0, x.block < W.heap.size := by obtain ⟨m, hm⟩ := k0; exact DataW.trod_lt m _ _ _ hm
  obtain ⟨x0, z0, y0_0, y1_0, m0, hv0, hd0, hp0, hy0_0, hy1_0⟩ := open_agg2 Try.underlying24 (by kernel_rfl) (show Try.prog.cellsOf 24 = 2 by kernel_rfl) (hval 0 24 v0 rfl rfl) h0
  obtain ⟨n0, e0_0, _, w0⟩ := DataW.trod_int Try.underlying2 hy0_0
  obtain ⟨A0, c0, l0, e1_0, hc0, hr0, _⟩ := ints_open hy1_0
  simp only [List.cons.injEq, and_true] at e0_0
  subst e0_0 e1_0
  subst hv0
  have k1 := h1
  have lt1 : ∀ x ∈ p1, x.block < W.heap.size := by obtain ⟨m, hm⟩ := k1; exact DataW.trod_lt m _ _ _ hm
  obtain ⟨a1, len1, cap1, hv1⟩ := okWide_slice Try.underlying22 (hval 1 22 v1 rfl rfl)
  obtain ⟨A1, c1, l1, e1, hc1, hr1, _⟩ : ∃ A c l, v1 = .slice A l.length c ∧ l.length ≤ c ∧ Ki.C W A l.length l ∧ ∀ n ∈ l, (Lit.int .i64 n).wf = true := by
    obtain ⟨fuel, hf⟩ := h1
    subst hv1
    exact ints_open hf
  subst e1
  clear hA0 hval0 hsz0 hsz
  refine (K.LBounds_calls n0 A0 c0 l0 A1 c1 l1 W hr0 hc0 hr1 hc1).mono fun e W' ⟨he, bel0⟩ => ?_
  have bel : Below W.heap.size W W' := bel0
  subst he
  exact ⟨_, rfl, _, _, _, [], _, [], hW', trodAll_mk1 (shut_bool Try.underlying4 _), (trodAll_cons_mk (Below.trod laidOut (by kernel_rfl) (of_decide_eq_true (by kernel_rfl)) k0 bel lt0) (trodAll_cons_mk (Below.trod laidOut (by kernel_rfl) (of_decide_eq_true (by kernel_rfl)) k1 bel lt1) trodAll_mk0)), rfl, bel.frame _, fun h => by cases h⟩
set_option maxRecDepth 100000 in
theorem starts : ∃ r, behindMainWord (wordsSigns Try.prog.initOrder.toList) = "cut".toList :: r := by
  have h : Try.prog.initOrder = String.ofList _ := rfl
  rw [h, String.toList_ofList, signs_take 7 _ rfl rfl, signs_take 64 _ rfl rfl, signs_take 3 _ rfl rfl]
  generalize wordsSigns _ = r
  exact ⟨r, by kernel_rfl⟩
set_option maxRecDepth 100000 in
theorem closed : joinedFacts Try.prog 5 Try.f5 Rows.fnExactBoundsSpec Rows.fnExactBoundsRow = true := by
  obtain ⟨r, h⟩ := starts
  unfold joinedFacts
  rw [cut_enter _ r h (by kernel_rfl) (by kernel_rfl) (by kernel_rfl), cut_make _ r h, cut_lifts _ r h]
  exact of_decide_eq_true (by kernel_rfl)
theorem over : Rows.fnExactBoundsRow.holds Try.pinned (OpenSpec.ofChange Rows.fnExactBoundsSpec) :=
  OpenClaim.holds_of_wide 5 Try.f5 rfl rfl rfl rfl rfl rfl rfl ⟨rfl, rfl, rfl, rfl, rfl⟩ rfl rfl rfl rfl rfl (by kernel_rfl) Try.func5 closed
    (of_decide_eq_true (by kernel_rfl)) (by unfold Func.isWrapper; first | (rw [if_pos (by decide +kernel)]; kernel_rfl) | (rw [if_neg (by decide +kernel)]; exact ⟨rfl, rfl⟩))
    (fun os started H enc _ => lifted os started H enc)
theorem proved : Rows.FnExactBoundsSaid := over
#print axioms proved
end Go.Proofs.Ytjoggjgmpoaaiaa.fnExactBounds
namespace Go.Proofs.Ytjoggjgmpoaaiaa
theorem fnExactBounds_holds : Rows.FnExactBoundsSaid := fnExactBounds.proved
end Go.Proofs.Ytjoggjgmpoaaiaa
end
