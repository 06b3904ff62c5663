/- The row of the law FnExactJoinOf: for every input the law answers true, and the arguments read as before. No conditions. -/
import Derived.Test.YtjoggjgmpoaaiaaJJoin2
import Derived.Below
import Derived.Deep.Draws
import Derived.Deep.AppendLies
import Derived.Maps.AppendAt
import Derived.OwnWalk
import Derived.Laws.BytesArg
import Derived.Laws.MakeOwn
import Derived.Laws.OwnMore
import Derived.Deep.OwnRows
import Derived.Tactics
import Derived.Lib.ConvBytes
import Derived.Laws.Slices
import Derived.WalkKit
import Derived.KernelRfl
import Derived.RowKit3
import Derived.Deep.LoopGhost
import Derived.Deep.QuietTactic
import Derived.BigQuiet
import Derived.WideLaws
import Derived.Deep.DeepCutAuto
import Derived.Deep.CutBlock
import Derived.Deep.RegionHeld3
import Derived.Laws.Rows
import Derived.Lib.AppendStr
import Derived.ArgAppend
import Derived.Laws.IdiomCopy
import Derived.RowKit
import Derived.OrdersHeld
import Derived.Laws.BitsLemmas
import Derived.Laws.StructEq
import Derived.Test.YtjoggjgmpoaaiaaProg
import Derived.Shelf.Abstract
import Derived.RangeFuncBox
import Derived.RangeFuncLeaves
import Derived.OwnWalkIn
import Derived.TacticsInMore
import Derived.LoopNIn
import Derived.LoopIn
import Derived.Test.YtjoggjgmpoaaiaaRows
import Derived.ProofKit
import Derived.OpenShut
import Derived.ShutString
import Derived.ChangeOld
import Derived.SizedLaws
import Derived.Lib.SmallJoins
section
/- Written by a program of this session (myprint.py over the kit's print). -/
namespace Go.Proofs.Ytjoggjgmpoaaiaa.Q
open Go.RowKit Go.Proofs.YtjoggjgmpoaaiaaW.PrintWords Go.Proofs.YtjoggjgmpoaaiaaW.PrintLast Go.Proofs.YtjoggjgmpoaaiaaW.PrintMore
attribute [local go_sem] max2_int min2_int max_two min_two max_three min_three max_four min_four   -- for this text's walks alone
set_option linter.unusedVariables false
set_option linter.unusedSimpArgs false

/-! ### spec_l01Join: function 33 -/
mutual
def spec_l01Join.l0 : Nat → Int → Int → List Int → Int → List Int → Int → List Int → Option (Int × List Int)
  | 0, _, _, _, _, _, _, _ => none
  | k + 1, x6, x171000, x171001, x172000, x172001, x177000, x177001 => if x6 < (x172001.length : Int) then (if 0 ≤ x6 then (if 0 ≤ (IntKind.u64.wrap (x171000)) then (if x177001.length < 17592186044416 then (spec_l01Join.l1 k x6 (shl .i64 (rd x172001 x6) (IntKind.u64.wrap (x171000))) 0 x171000 x171001 x172000 x172001 x177000 (x177001 ++ [shl .i64 (rd x172001 x6) (IntKind.u64.wrap (x171000))])) else (none)) else (none)) else (none)) else (some (x177000, x177001))
def spec_l01Join.l1 : Nat → Int → Int → Int → Int → List Int → Int → List Int → Int → List Int → Option (Int × List Int)
  | 0, _, _, _, _, _, _, _, _, _ => none
  | k + 1, x6, x7, x8, x171000, x171001, x172000, x172001, x177000, x177001 => if x8 < (x171001.length : Int) then (if 0 ≤ x8 then (if x177001.length < 17592186044416 then (spec_l01Join.l1 k x6 x7 (wrap64 (x8 + 1)) x171000 x171001 x172000 x172001 x177000 (x177001 ++ [wrap64 (x7 + (rd x171001 x8))])) else (none)) else (none)) else (spec_l01Join.l0 k (wrap64 (x6 + 1)) x171000 x171001 x172000 x172001 x177000 x177001)
end
def spec_l01Join.f (k : Nat) (a0_0 : Int) (l0_1 : List Int) (a1_0 : Int) (l1_1 : List Int) : Option (Int × List Int) := (spec_l01Own.f l0_1).bind fun t173 => (spec_l01Join.l0 k 0 a0_0 l0_1 a1_0 l1_1 (wrap64 (a0_0 + a1_0)) t173)
theorem spec_l01Join.mono_l : ∀ k, (∀ y0 y1 y2 y3 y4 y5 y6, LeO (spec_l01Join.l0 k y0 y1 y2 y3 y4 y5 y6) (spec_l01Join.l0 (k + 1) y0 y1 y2 y3 y4 y5 y6)) ∧ (∀ y0 y1 y2 y3 y4 y5 y6 y7 y8, LeO (spec_l01Join.l1 k y0 y1 y2 y3 y4 y5 y6 y7 y8) (spec_l01Join.l1 (k + 1) y0 y1 y2 y3 y4 y5 y6 y7 y8))
  | 0 => ⟨fun _ _ _ _ _ _ _ r h => by simp [spec_l01Join.l0] at h, fun _ _ _ _ _ _ _ _ _ r h => by simp [spec_l01Join.l1] at h⟩
  | k + 1 => by
    obtain ⟨ih0, ih1⟩ := spec_l01Join.mono_l k
    refine ⟨?_, ?_⟩
    · intro y0 y1 y2 y3 y4 y5 y6
      unfold spec_l01Join.l0
      repeat' first
      | (with_reducible exact ih0 _ _ _ _ _ _ _)
      | (with_reducible exact ih1 _ _ _ _ _ _ _ _ _)
      | (with_reducible exact LeO.refl _)
      | (with_reducible exact LeO.none _)
      | (with_reducible refine LeO.ite ?_ ?_)
      | (with_reducible refine LeO.bind ?_ (fun _ => ?_))
      | exact ih0 _ _ _ _ _ _ _
      | exact ih1 _ _ _ _ _ _ _ _ _
      | exact LeO.none _
      | refine LeO.ite ?_ ?_
      | refine LeO.bind ?_ (fun _ => ?_)
    · intro y0 y1 y2 y3 y4 y5 y6 y7 y8
      unfold spec_l01Join.l1
      repeat' first
      | (with_reducible exact ih0 _ _ _ _ _ _ _)
      | (with_reducible exact ih1 _ _ _ _ _ _ _ _ _)
      | (with_reducible exact LeO.refl _)
      | (with_reducible exact LeO.none _)
      | (with_reducible refine LeO.ite ?_ ?_)
      | (with_reducible refine LeO.bind ?_ (fun _ => ?_))
      | exact ih0 _ _ _ _ _ _ _
      | exact ih1 _ _ _ _ _ _ _ _ _
      | exact LeO.none _
      | refine LeO.ite ?_ ?_
      | refine LeO.bind ?_ (fun _ => ?_)
theorem spec_l01Join.mono : ∀ a0 a1 a2 a3 k, LeO (spec_l01Join.f k a0 a1 a2 a3) (spec_l01Join.f (k + 1) a0 a1 a2 a3) := by
  intro a0 a1 a2 a3 k
  obtain ⟨ih0, ih1⟩ := spec_l01Join.mono_l k
  unfold spec_l01Join.f
  repeat' first
      | (with_reducible exact ih0 _ _ _ _ _ _ _)
      | (with_reducible exact ih1 _ _ _ _ _ _ _ _ _)
      | (with_reducible exact LeO.refl _)
      | (with_reducible exact LeO.none _)
      | (with_reducible refine LeO.ite ?_ ?_)
      | (with_reducible refine LeO.bind ?_ (fun _ => ?_))
      | exact ih0 _ _ _ _ _ _ _
      | exact ih1 _ _ _ _ _ _ _ _ _
      | exact LeO.none _
      | refine LeO.ite ?_ ?_
      | refine LeO.bind ?_ (fun _ => ?_)
def spec_l01Join.T1 : Bool × List (List Nat × List Nat) := (true, [([], []), ([0], [0]), ([], []), ([2], [2]), ([1, 3], [1, 3]), ([], []), ([5], [5]), ([6], [6]), ([4, 7], [4, 7]), ([], []), ([9, 8, 7, 0, 1, 2, 3, 4, 5, 6, 7, 8, 9], [8, 9])])
def spec_l01Join.B1 : List Nat := [0, 1, 0, 4, 15, 0, 32, 96, 255, 0, 1023]
theorem spec_l01Join.tab1 : rtab .any (opsOf Try.f33 1) = spec_l01Join.T1 := by kernel_rfl
theorem spec_l01Join.bits1 : waitsOk spec_l01Join.T1.2 spec_l01Join.B1 = true := by kernel_rfl
def spec_l01Join.T5 : Bool × List (List Nat × List Nat) := (true, [([], []), ([0], [0]), ([], []), ([1, 2], [1, 2]), ([3], [3]), ([], []), ([5], [5]), ([6], [6]), ([4, 7], [4, 7]), ([8, 0, 1, 2, 3, 4, 5, 6, 7, 8], [8])])
def spec_l01Join.B5 : List Nat := [0, 1, 0, 7, 15, 0, 32, 96, 255, 511]
theorem spec_l01Join.tab5 : rtab .any (opsOf Try.f33 5) = spec_l01Join.T5 := by kernel_rfl
theorem spec_l01Join.bits5 : waitsOk spec_l01Join.T5.2 spec_l01Join.B5 = true := by kernel_rfl
def spec_l01Join.T10 : Bool × List (List Nat × List Nat) := (true, [([], []), ([0], [0]), ([], []), ([], []), ([3], [3]), ([], []), ([4, 5], [4, 5]), ([6], [6]), ([2, 7], [2, 7]), ([8], [8]), ([1, 9], [1, 9]), ([0, 1, 2, 3, 4, 5, 6, 7, 8, 9, 10], []), ([11, 10, 10, 0, 1, 2, 3, 4, 5, 6, 7, 8, 9, 10], [10, 11])])
def spec_l01Join.B10 : List Nat := [0, 1, 0, 0, 8, 0, 56, 120, 252, 508, 1023, 2047, 4095]
theorem spec_l01Join.tab10 : rtab .any (opsOf Try.f33 10) = spec_l01Join.T10 := by kernel_rfl
theorem spec_l01Join.bits10 : waitsOk spec_l01Join.T10.2 spec_l01Join.B10 = true := by kernel_rfl
set_option maxHeartbeats 8000000 in
set_option maxRecDepth 100000 in
theorem spec_l01Join.calls (k : Nat) (a0_0 : Int) (A0_1 : Option Addr) (c0_1 : Nat) (l0_1 : List Int) (a1_0 : Int) (A1_1 : Option Addr) (c1_1 : Nat) (l1_1 : List Int) (r1 : Int) (r2 : List Int) (w : World) (hr0_1 : Kd.C (Kd.int .i64) w A0_1 l0_1.length l0_1) (hc0_1 : l0_1.length ≤ c0_1) (hr1_1 : Kd.C (Kd.int .i64) w A1_1 l1_1.length l1_1) (hc1_1 : l1_1.length ≤ c1_1) (h : spec_l01Join.f k a0_0 l0_1 a1_0 l1_1 = some (r1, r2)) :
    Calls Try.prog 33 #[.agg #[.int .i64 a0_0, .slice A0_1 l0_1.length c0_1], .agg #[.int .i64 a1_0, .slice A1_1 l1_1.length c1_1]] w fun e w' => ∃ v1_ : Value, e = .returned (.agg #[.int .i64 r1, v1_]) ∧ Kd.R (Kd.int .i64) 2 w' w.heap.size (fun _ => True) v1_ r2 ∧ Below w.heap.size w w' := by
  have hu26 := Try.underlying26
  have HR0_1 := Aside0.mk hr0_1
  have HC0_1 := Aside0.mk hc0_1
  clear hr0_1 hc0_1
  have HR1_1 := Aside0.mk hr1_1
  have HC1_1 := Aside0.mk hc1_1
  clear hr1_1 hc1_1
  have HB := Aside0.mk (Below.refl w.heap.size w)
  have H : ((spec_l01Own.f l0_1).bind fun t173 => (spec_l01Join.l0 k 0 a0_0 l0_1 a1_0 l1_1 (wrap64 (a0_0 + a1_0)) t173)) = some (r1, r2) := h
  clear h
  replace H := Option.bind_eq_some_iff.mp H
  obtain ⟨t173, A30, H⟩ := H
  replace H : (spec_l01Join.l0 k 0 a0_0 l0_1 a1_0 l1_1 (wrap64 (a0_0 + a1_0)) t173) = some (r1, r2) := H
  have A3 := Aside0.mk A30
  clear A30
  have H' := Aside0.mk H
  clear H
  go_enter Try.func33, Try.ntmps33
  try go_wp2_with (first | ((with_reducible refine gate_dst (N := 2) rfl ?_); refine box_event ?hg (N := 2) ?hd (cs := #[.int .i64 a0_0, .slice A0_1 l0_1.length c0_1]) (t := 26) ?hr ?_; (case hd => rfl); (case hg => rfl); (case hr => first | (go_simp; done) | (go_simp; rfl)); intro gb170 hg w4 hbox hb; have n0_ := Aside0.mk (below_step (by repeat (first | (with_reducible first | exact HB.out | apply below_alloc | apply pw_below_drewN | apply below_drew1) | exact HB.out)) hb); have n1_ := Aside0.mk (hbox); have n2_ := Aside0.mk ((by rw [hg]; exact (below_size (by repeat (first | (with_reducible first | exact HB.out | apply below_alloc | apply pw_below_drewN | apply below_drew1) | exact HB.out))) : w.heap.size ≤ gb170)); have n3_ := Aside0.mk ((by rw [hg]; exact (below_size (by repeat (first | (with_reducible first | exact HB.out | apply below_alloc | apply pw_below_drewN | apply below_drew1) | exact HB.out))) : w.heap.size ≤ gb170)); clear HB; have HB := n0_; have BK170 := n1_; have GW170 := n2_; have GE170 := n3_; clear n0_ n1_ n2_ n3_; clear hb hbox hg) | ((with_reducible refine gate_dst (N := 3) rfl ?_); refine box_event ?hg (N := 3) ?hd (cs := #[.int .i64 a1_0, .slice A1_1 l1_1.length c1_1]) (t := 26) ?hr ?_; (case hd => rfl); (case hg => rfl); (case hr => first | (go_simp; done) | (go_simp; rfl)); intro gb171 hg w5 hbox hb; have n0_ := Aside0.mk (blk_below (g := gb170) (o := .cells #[.int .i64 a0_0, .slice A0_1 l0_1.length c0_1] 26 (0, 0)) (by (with_reducible repeat (first | refine blk_drewN ?_ _ | refine blk_drew ?_ | refine blk_alloc ?_ _)); exact BK170.out) hb); have n1_ := Aside0.mk (below_step (by repeat (first | (with_reducible first | exact HB.out | apply below_alloc | apply pw_below_drewN | apply below_drew1 | refine below_set ?_ GE170.out) | exact HB.out)) hb); have n2_ := Aside0.mk (hbox); have n3_ := Aside0.mk ((by rw [hg]; exact (below_size (by repeat (first | (with_reducible first | exact HB.out | apply below_alloc | apply pw_below_drewN | apply below_drew1 | refine below_set ?_ GE170.out) | exact HB.out))) : w.heap.size ≤ gb171)); have n4_ := Aside0.mk ((by rw [hg]; exact (below_size (by repeat (first | (with_reducible first | exact HB.out | apply below_alloc | apply pw_below_drewN | apply below_drew1 | refine below_set ?_ GE170.out) | exact HB.out))) : w.heap.size ≤ gb171)); have n5_ := Aside0.mk ((by rw [hg]; exact Nat.ne_of_lt (blk_lt (g := gb170) (o := .cells #[.int .i64 a0_0, .slice A0_1 l0_1.length c0_1] 26 (0, 0)) (by (with_reducible repeat (first | refine blk_drewN ?_ _ | refine blk_drew ?_ | refine blk_alloc ?_ _)); exact BK170.out)) : gb170 ≠ gb171)); have n6_ := Aside0.mk ((by rw [hg]; exact Nat.ne_of_gt (blk_lt (g := gb170) (o := .cells #[.int .i64 a0_0, .slice A0_1 l0_1.length c0_1] 26 (0, 0)) (by (with_reducible repeat (first | refine blk_drewN ?_ _ | refine blk_drew ?_ | refine blk_alloc ?_ _)); exact BK170.out)) : gb171 ≠ gb170)); clear BK170; clear HB; have BK170 := n0_; have HB := n1_; have BK171 := n2_; have GW171 := n3_; have GE171 := n4_; have NB170_171 := n5_; have NB171_170 := n6_; clear n0_ n1_ n2_ n3_ n4_ n5_ n6_; clear hb hbox hg) | ((with_reducible refine gate_dst (N := 4) rfl ?_); refine box_event ?hg (N := 4) ?hd (cs := #[.int .i64 0, .slice none 0 0]) (t := 26) ?hr ?_; (case hd => rfl); (case hg => rfl); (case hr => first | (go_simp; done) | (go_simp; rfl)); intro gb172 hg w6 hbox hb; have n0_ := Aside0.mk (blk_below (g := gb170) (o := .cells #[.int .i64 a0_0, .slice A0_1 l0_1.length c0_1] 26 (0, 0)) (by (with_reducible repeat (first | refine blk_drewN ?_ _ | refine blk_drew ?_ | refine blk_alloc ?_ _)); exact BK170.out) hb); have n1_ := Aside0.mk (blk_below (g := gb171) (o := .cells #[.int .i64 a1_0, .slice A1_1 l1_1.length c1_1] 26 (0, 0)) (by (with_reducible repeat (first | refine blk_drewN ?_ _ | refine blk_drew ?_ | refine blk_alloc ?_ _)); exact BK171.out) hb); have n2_ := Aside0.mk (below_step (by repeat (first | (with_reducible first | exact HB.out | apply below_alloc | apply pw_below_drewN | apply below_drew1 | refine below_set ?_ GE170.out | refine below_set ?_ GE171.out) | exact HB.out)) hb); have n3_ := Aside0.mk (hbox); have n4_ := Aside0.mk ((by rw [hg]; exact (below_size (by repeat (first | (with_reducible first | exact HB.out | apply below_alloc | apply pw_below_drewN | apply below_drew1 | refine below_set ?_ GE170.out | refine below_set ?_ GE171.out) | exact HB.out))) : w.heap.size ≤ gb172)); have n5_ := Aside0.mk ((by rw [hg]; exact (below_size (by repeat (first | (with_reducible first | exact HB.out | apply below_alloc | apply pw_below_drewN | apply below_drew1 | refine below_set ?_ GE170.out | refine below_set ?_ GE171.out) | exact HB.out))) : w.heap.size ≤ gb172)); have n6_ := Aside0.mk ((by rw [hg]; exact Nat.ne_of_lt (blk_lt (g := gb170) (o := .cells #[.int .i64 a0_0, .slice A0_1 l0_1.length c0_1] 26 (0, 0)) (by (with_reducible repeat (first | refine blk_drewN ?_ _ | refine blk_drew ?_ | refine blk_alloc ?_ _)); exact BK170.out)) : gb170 ≠ gb172)); have n7_ := Aside0.mk ((by rw [hg]; exact Nat.ne_of_gt (blk_lt (g := gb170) (o := .cells #[.int .i64 a0_0, .slice A0_1 l0_1.length c0_1] 26 (0, 0)) (by (with_reducible repeat (first | refine blk_drewN ?_ _ | refine blk_drew ?_ | refine blk_alloc ?_ _)); exact BK170.out)) : gb172 ≠ gb170)); have n8_ := Aside0.mk ((by rw [hg]; exact Nat.ne_of_lt (blk_lt (g := gb171) (o := .cells #[.int .i64 a1_0, .slice A1_1 l1_1.length c1_1] 26 (0, 0)) (by (with_reducible repeat (first | refine blk_drewN ?_ _ | refine blk_drew ?_ | refine blk_alloc ?_ _)); exact BK171.out)) : gb171 ≠ gb172)); have n9_ := Aside0.mk ((by rw [hg]; exact Nat.ne_of_gt (blk_lt (g := gb171) (o := .cells #[.int .i64 a1_0, .slice A1_1 l1_1.length c1_1] 26 (0, 0)) (by (with_reducible repeat (first | refine blk_drewN ?_ _ | refine blk_drew ?_ | refine blk_alloc ?_ _)); exact BK171.out)) : gb172 ≠ gb171)); clear BK170; clear BK171; clear HB; have BK170 := n0_; have BK171 := n1_; have HB := n2_; have BK172 := n3_; have GW172 := n4_; have GE172 := n5_; have NB170_172 := n6_; have NB172_170 := n7_; have NB171_172 := n8_; have NB172_171 := n9_; clear n0_ n1_ n2_ n3_ n4_ n5_ n6_ n7_ n8_ n9_; clear hb hbox hg))
  have n0_ := Aside0.mk (blk_drew BK170.out)
  have n1_ := Aside0.mk (blk_drew BK171.out)
  have n2_ := Aside0.mk (blk_drew BK172.out)
  have n3_ := Aside0.mk (below_drew1 HB.out)
  clear BK170
  clear BK171
  clear BK172
  clear HB
  have BK170 := n0_
  have BK171 := n1_
  have BK172 := n2_
  have HB := n3_
  clear n0_ n1_ n2_ n3_
  refine start_ (n := 11) (S := fun w' => w'.cell? ⟨gb170, 0, none⟩ = some (.int .i64 a0_0) ∧ w'.cell? ⟨gb170, 1, none⟩ = some (.slice A0_1 l0_1.length c0_1) ∧ w'.cell? ⟨gb171, 0, none⟩ = some (.int .i64 a1_0) ∧ w'.cell? ⟨gb171, 1, none⟩ = some (.slice A1_1 l1_1.length c1_1)) (ds := []) #[false, false, false, false, false, false, false, false, false, false, false] (by kernel_rfl) rfl rfl ⟨(blk_cell BK170.out 0).trans rfl, (blk_cell BK170.out 1).trans rfl, (blk_cell BK171.out 0).trans rfl, (blk_cell BK171.out 1).trans rfl⟩ (fun hHeld => ?_); refine with_tabW spec_l01Join.tab1 spec_l01Join.bits1 (fun HT_ HW_ => ?_)
  generalize w6.drew = w7 at BK170 BK171 BK172 HB hHeld ⊢
  refine pure_ (i := 0) (N := some 9) (v := ?_) (a' := ?_) #[true, false, false, false, false, false, false, false, false, false, false] rfl rfl (any_of HT_.out (by kernel_rfl)) (fun _ _ _ h => h) (Or.inl ⟨by rfl, ?_⟩) ?_ ?_
  rotate_left
  · intro w'
    go_simp
    with_reducible rfl
  rotate_left
  · simp only [Act.put, List.setIfInBounds_toArray, List.set_cons_zero, List.set_cons_succ, i64_w, i32_w]
    rfl
  refine pure_ (i := 2) (N := some 11) (v := ?_) (a' := ?_) #[true, false, true, false, false, false, false, false, false, false, false] rfl rfl (any_of HT_.out (by kernel_rfl)) (fun _ _ _ h => h) (Or.inl ⟨by rfl, ?_⟩) ?_ ?_
  rotate_left
  · intro w'
    go_simp
    with_reducible rfl
  rotate_left
  · simp only [Act.put, List.setIfInBounds_toArray, List.set_cons_zero, List.set_cons_succ, i64_w, i32_w]
    rfl
  refine pure_ (i := 5) (N := some 14) (v := ?_) (a' := ?_) #[true, false, true, false, false, true, false, false, false, false, false] rfl rfl (any_of HT_.out (by kernel_rfl)) (fun _ _ _ h => h) (Or.inl ⟨by rfl, ?_⟩) ?_ ?_
  rotate_left
  · intro w'
    go_simp
    with_reducible rfl
  rotate_left
  · simp only [Act.put, List.setIfInBounds_toArray, List.set_cons_zero, List.set_cons_succ, i64_w, i32_w]
    rfl
  refine take_ (i := 1) (N := some 10) (v := ?_) (a' := ?_) #[true, true, true, false, false, true, false, false, false, false, false] rfl rfl (take_ofW HT_.out HW_.out (by kernel_rfl)) (fun _ _ _ h => h) (Or.inl ⟨by rfl, ?_⟩) hHeld ?_ ?_
  rotate_left
  · rintro w' ⟨s0, s1, s2, s3⟩
    go_simp
    with_reducible rfl
  rotate_left
  · simp only [Act.put, List.setIfInBounds_toArray, List.set_cons_zero, List.set_cons_succ, i64_w, i32_w]
    rfl
  refine take_ (i := 3) (N := some 12) (v := ?_) (a' := ?_) #[true, true, true, true, false, true, false, false, false, false, false] rfl rfl (take_ofW HT_.out HW_.out (by kernel_rfl)) (fun _ _ _ h => h) (Or.inl ⟨by rfl, ?_⟩) hHeld ?_ ?_
  rotate_left
  · rintro w' ⟨s0, s1, s2, s3⟩
    go_simp
    with_reducible rfl
  rotate_left
  · simp only [Act.put, List.setIfInBounds_toArray, List.set_cons_zero, List.set_cons_succ, i64_w, i32_w]
    rfl
  refine pure_ (i := 4) (N := some 13) (v := ?_) (a' := ?_) #[true, true, true, true, true, true, false, false, false, false, false] rfl rfl (any_of HT_.out (by kernel_rfl)) (fun _ _ _ h => h) (Or.inl ⟨by rfl, ?_⟩) ?_ ?_
  rotate_left
  · intro w'
    go_simp
    with_reducible rfl
  rotate_left
  · simp only [Act.put, List.setIfInBounds_toArray, List.set_cons_zero, List.set_cons_succ, i64_w, i32_w]
    rfl
  refine take_ (i := 6) (N := some 15) (v := ?_) (a' := ?_) #[true, true, true, true, true, true, true, false, false, false, false] rfl rfl (take_ofW HT_.out HW_.out (by kernel_rfl)) (fun _ _ _ h => h) (Or.inl ⟨by rfl, ?_⟩) hHeld ?_ ?_
  rotate_left
  · rintro w' ⟨s0, s1, s2, s3⟩
    go_simp
    with_reducible rfl
  rotate_left
  · simp only [Act.put, List.setIfInBounds_toArray, List.set_cons_zero, List.set_cons_succ, i64_w, i32_w]
    rfl
  refine join_ (σ := Value × Nat) 1 #[true, true, true, true, true, true, true, true, true, true, false] (fun s_ => [(16, s_.1), (5, .pointer (some ⟨s_.2, 0, none⟩)), (17, .agg #[.int .i64 (wrap64 (a0_0 + a1_0)), s_.1])]) (fun s_ w' => (w'.cell? ⟨gb170, 0, none⟩ = some (.int .i64 a0_0) ∧ w'.cell? ⟨gb170, 1, none⟩ = some (.slice A0_1 l0_1.length c0_1) ∧ w'.cell? ⟨gb171, 0, none⟩ = some (.int .i64 a1_0) ∧ w'.cell? ⟨gb171, 1, none⟩ = some (.slice A1_1 l1_1.length c1_1)) ∧ (Kd.R (Kd.int .i64) 2 w' w.heap.size (fun _ => True) s_.1 t173) ∧ (w'.heap[gb170]? = some (.cells #[.int .i64 a0_0, .slice A0_1 l0_1.length c0_1] 26 (0, 0))) ∧ (w'.heap[gb171]? = some (.cells #[.int .i64 a1_0, .slice A1_1 l1_1.length c1_1] 26 (0, 0))) ∧ (w'.heap[gb172]? = some (.cells #[.int .i64 0, .slice none 0 0] 26 (0, 0))) ∧ (w'.heap[s_.2]? = some (.cells #[.int .i64 0, .slice none 0 0] 26 (0, 0))) ∧ (w.heap.size ≤ s_.2) ∧ (w.heap.size ≤ s_.2) ∧ (gb170 ≠ s_.2) ∧ (s_.2 ≠ gb170) ∧ (gb171 ≠ s_.2) ∧ (s_.2 ≠ gb171) ∧ (gb172 ≠ s_.2) ∧ (s_.2 ≠ gb172) ∧ (Below w.heap.size w w')) ?_ ?_
  rotate_left
  · intro hCont
    refine two_ (i := 7) (j := 9) (Ni := some 16) (Nj := some 5) #[true, true, true, true, true, true, true, true, false, false, false] #[true, true, true, true, true, true, true, false, false, true, false] rfl rfl rfl rfl (two_of HT_.out (by kernel_rfl)) (by decide) (by decide) (fun K hK => ?_) (fun K hK => ?_)
    · skip
      refine goes_ Try.func58 (by kernel_rfl) rfl #[.slice A0_1 l0_1.length c0_1] (by rfl) rfl rfl (by (try simp only [List.map_toArray, List.map_cons, List.map_nil]); first | done | rfl | (simp only [List.length_drop, List.length_take]; rfl)) ?_
      with_reducible refine (spec_l01Own.calls _ _ l0_1 t173 _ ?side1 ?side2 A3.out).mono ?_
      (case side1 => repeat (first | exact (Kd.C_below HR0_1.out HB.out) | (with_reducible refine Kd.C_alloc ?_ _) | (with_reducible refine Kd.C_drewN ?_ _) | (with_reducible refine Kd.C_drew ?_)))
      (case side2 => exact HC0_1.out)
      rintro e w8 ⟨v174, rfl, ho0, hb⟩
      refine ⟨_, rfl, ?_⟩
      have n0_ := Aside0.mk (Kd.R_lower ho0 (below_size (by repeat (first | (with_reducible first | exact HB.out | apply below_alloc | apply pw_below_drewN | apply below_drew1 | refine below_set ?_ GE170.out | refine below_set ?_ GE171.out | refine below_set ?_ GE172.out) | exact HB.out))))
      have n1_ := Aside0.mk (blk_below (g := gb170) (o := .cells #[.int .i64 a0_0, .slice A0_1 l0_1.length c0_1] 26 (0, 0)) (by (with_reducible repeat (first | refine blk_drewN ?_ _ | refine blk_drew ?_ | refine blk_alloc ?_ _)); exact BK170.out) hb)
      have n2_ := Aside0.mk (blk_below (g := gb171) (o := .cells #[.int .i64 a1_0, .slice A1_1 l1_1.length c1_1] 26 (0, 0)) (by (with_reducible repeat (first | refine blk_drewN ?_ _ | refine blk_drew ?_ | refine blk_alloc ?_ _)); exact BK171.out) hb)
      have n3_ := Aside0.mk (blk_below (g := gb172) (o := .cells #[.int .i64 0, .slice none 0 0] 26 (0, 0)) (by (with_reducible repeat (first | refine blk_drewN ?_ _ | refine blk_drew ?_ | refine blk_alloc ?_ _)); exact BK172.out) hb)
      have n4_ := Aside0.mk (below_step (by repeat (first | (with_reducible first | exact HB.out | apply below_alloc | apply pw_below_drewN | apply below_drew1 | refine below_set ?_ GE170.out | refine below_set ?_ GE171.out | refine below_set ?_ GE172.out) | exact HB.out)) hb)
      clear BK170
      clear BK171
      clear BK172
      clear HB
      have HO175 := n0_
      have BK170 := n1_
      have BK171 := n2_
      have BK172 := n3_
      have HB := n4_
      clear n0_ n1_ n2_ n3_ n4_
      (try clear hb)
      (try clear hb2)
      (try clear hk)
      (try clear hi)
      (try clear ho0)
      obtain ⟨Ao9, co9, eo9⟩ := Kd.R_slice HO175.out
      (first | subst eo9 | (injection eo9 with f1_ f2_ f3_; have f4_ := f1_.symm; have f5_ := f3_.symm; clear f1_ f2_ f3_; subst f4_; subst f5_))
      refine hK.out _ _ ⟨(blk_cell BK170.out 0).trans rfl, (blk_cell BK170.out 1).trans rfl, (blk_cell BK171.out 0).trans rfl, (blk_cell BK171.out 1).trans rfl⟩ (fun hHeld => ?_)
      clear hK K
      refine norm_ (a' := ?_) ?_ ?_
      rotate_left
      · show Act.put _ (some 16) _ = _
        simp only [Act.put, List.setIfInBounds_toArray, List.set_cons_zero, List.set_cons_succ, i64_w, i32_w]
        rfl
      refine pure_ (i := 8) (N := some 17) (v := ?_) (a' := ?_) #[true, true, true, true, true, true, true, true, true, false, false] rfl rfl (any_of HT_.out (by kernel_rfl)) (fun _ _ _ h => h) (Or.inl ⟨by rfl, ?_⟩) ?_ ?_
      rotate_left
      · intro w'
        go_simp
        with_reducible rfl
      rotate_left
      · simp only [Act.put, List.setIfInBounds_toArray, List.set_cons_zero, List.set_cons_succ, i64_w, i32_w]
        rfl
      refine one_ (i := 9) (N := some 5) #[true, true, true, true, true, true, true, true, true, true, false] rfl rfl (one_of HT_.out (by kernel_rfl)) (by decide) (fun K hK => ?_)
      refine box_step ?hg (N := 5) ?hd (cs := #[.int .i64 0, .slice none 0 0]) (t := 26) ?hr ?_; (case hd => rfl); (case hg => rfl); (case hr => first | (go_simp; done) | (go_simp; rfl))
      intro gb176 hg w10 hbox hb
      have n0_ := Aside0.mk (Kd.R_below (by (with_reducible repeat (first | apply Kd.R_alloc | apply Kd.R_drewN | apply Kd.R_drew)); exact HO175.out) hb)
      have n1_ := Aside0.mk (blk_below (g := gb170) (o := .cells #[.int .i64 a0_0, .slice A0_1 l0_1.length c0_1] 26 (0, 0)) (by (with_reducible repeat (first | refine blk_drewN ?_ _ | refine blk_drew ?_ | refine blk_alloc ?_ _)); exact BK170.out) hb)
      have n2_ := Aside0.mk (blk_below (g := gb171) (o := .cells #[.int .i64 a1_0, .slice A1_1 l1_1.length c1_1] 26 (0, 0)) (by (with_reducible repeat (first | refine blk_drewN ?_ _ | refine blk_drew ?_ | refine blk_alloc ?_ _)); exact BK171.out) hb)
      have n3_ := Aside0.mk (blk_below (g := gb172) (o := .cells #[.int .i64 0, .slice none 0 0] 26 (0, 0)) (by (with_reducible repeat (first | refine blk_drewN ?_ _ | refine blk_drew ?_ | refine blk_alloc ?_ _)); exact BK172.out) hb)
      have n4_ := Aside0.mk (below_step (by repeat (first | (with_reducible first | exact HB.out | apply below_alloc | apply pw_below_drewN | apply below_drew1 | refine below_set ?_ GE170.out | refine below_set ?_ GE171.out | refine below_set ?_ GE172.out) | exact HB.out)) hb)
      have n5_ := Aside0.mk (hbox)
      have n6_ := Aside0.mk ((by rw [hg]; exact (below_size (by repeat (first | (with_reducible first | exact HB.out | apply below_alloc | apply pw_below_drewN | apply below_drew1 | refine below_set ?_ GE170.out | refine below_set ?_ GE171.out | refine below_set ?_ GE172.out) | exact HB.out))) : w.heap.size ≤ gb176))
      have n7_ := Aside0.mk ((by rw [hg]; exact (below_size (by repeat (first | (with_reducible first | exact HB.out | apply below_alloc | apply pw_below_drewN | apply below_drew1 | refine below_set ?_ GE170.out | refine below_set ?_ GE171.out | refine below_set ?_ GE172.out) | exact HB.out))) : w.heap.size ≤ gb176))
      have n8_ := Aside0.mk ((by rw [hg]; exact Nat.ne_of_lt (blk_lt (g := gb170) (o := .cells #[.int .i64 a0_0, .slice A0_1 l0_1.length c0_1] 26 (0, 0)) (by (with_reducible repeat (first | refine blk_drewN ?_ _ | refine blk_drew ?_ | refine blk_alloc ?_ _)); exact BK170.out)) : gb170 ≠ gb176))
      have n9_ := Aside0.mk ((by rw [hg]; exact Nat.ne_of_gt (blk_lt (g := gb170) (o := .cells #[.int .i64 a0_0, .slice A0_1 l0_1.length c0_1] 26 (0, 0)) (by (with_reducible repeat (first | refine blk_drewN ?_ _ | refine blk_drew ?_ | refine blk_alloc ?_ _)); exact BK170.out)) : gb176 ≠ gb170))
      have n10_ := Aside0.mk ((by rw [hg]; exact Nat.ne_of_lt (blk_lt (g := gb171) (o := .cells #[.int .i64 a1_0, .slice A1_1 l1_1.length c1_1] 26 (0, 0)) (by (with_reducible repeat (first | refine blk_drewN ?_ _ | refine blk_drew ?_ | refine blk_alloc ?_ _)); exact BK171.out)) : gb171 ≠ gb176))
      have n11_ := Aside0.mk ((by rw [hg]; exact Nat.ne_of_gt (blk_lt (g := gb171) (o := .cells #[.int .i64 a1_0, .slice A1_1 l1_1.length c1_1] 26 (0, 0)) (by (with_reducible repeat (first | refine blk_drewN ?_ _ | refine blk_drew ?_ | refine blk_alloc ?_ _)); exact BK171.out)) : gb176 ≠ gb171))
      have n12_ := Aside0.mk ((by rw [hg]; exact Nat.ne_of_lt (blk_lt (g := gb172) (o := .cells #[.int .i64 0, .slice none 0 0] 26 (0, 0)) (by (with_reducible repeat (first | refine blk_drewN ?_ _ | refine blk_drew ?_ | refine blk_alloc ?_ _)); exact BK172.out)) : gb172 ≠ gb176))
      have n13_ := Aside0.mk ((by rw [hg]; exact Nat.ne_of_gt (blk_lt (g := gb172) (o := .cells #[.int .i64 0, .slice none 0 0] 26 (0, 0)) (by (with_reducible repeat (first | refine blk_drewN ?_ _ | refine blk_drew ?_ | refine blk_alloc ?_ _)); exact BK172.out)) : gb176 ≠ gb172))
      clear HO175
      clear BK170
      clear BK171
      clear BK172
      clear HB
      have HO175 := n0_
      have BK170 := n1_
      have BK171 := n2_
      have BK172 := n3_
      have HB := n4_
      have BK176 := n5_
      have GW176 := n6_
      have GE176 := n7_
      have NB170_176 := n8_
      have NB176_170 := n9_
      have NB171_176 := n10_
      have NB176_171 := n11_
      have NB172_176 := n12_
      have NB176_172 := n13_
      clear n0_ n1_ n2_ n3_ n4_ n5_ n6_ n7_ n8_ n9_ n10_ n11_ n12_ n13_
      clear hb hbox hg
      refine hK.out _ _ ⟨(blk_cell BK170.out 0).trans rfl, (blk_cell BK170.out 1).trans rfl, (blk_cell BK171.out 0).trans rfl, (blk_cell BK171.out 1).trans rfl⟩ (fun hHeld => ?_)
      clear hK K
      refine norm_ (a' := ?_) ?_ ?_
      rotate_left
      · show Act.put _ (some 5) _ = _
        simp only [Act.put, List.setIfInBounds_toArray, List.set_cons_zero, List.set_cons_succ, i64_w, i32_w]
        rfl
      exact norm_ (by simp only [putAll, Act.put, List.setIfInBounds_toArray, List.set_cons_zero, List.set_cons_succ]) (hCont (.slice Ao9 t173.length co9, gb176) _ ⟨hHeld, (by (with_reducible repeat (first | apply Kd.R_alloc | apply Kd.R_drewN | apply Kd.R_drew)); exact HO175.out), (by (with_reducible repeat (first | refine blk_drewN ?_ _ | refine blk_drew ?_ | refine blk_alloc ?_ _)); exact BK170.out), (by (with_reducible repeat (first | refine blk_drewN ?_ _ | refine blk_drew ?_ | refine blk_alloc ?_ _)); exact BK171.out), (by (with_reducible repeat (first | refine blk_drewN ?_ _ | refine blk_drew ?_ | refine blk_alloc ?_ _)); exact BK172.out), (by (with_reducible repeat (first | refine blk_drewN ?_ _ | refine blk_drew ?_ | refine blk_alloc ?_ _)); exact BK176.out), GW176.out, GE176.out, NB170_176.out, NB176_170.out, NB171_176.out, NB176_171.out, NB172_176.out, NB176_172.out, (by repeat (first | (with_reducible first | exact HB.out | apply below_alloc | apply pw_below_drewN | apply below_drew1 | refine below_set ?_ GE170.out | refine below_set ?_ GE171.out | refine below_set ?_ GE172.out | refine below_set ?_ GE176.out) | exact HB.out))⟩)
    · skip
      refine box_step ?hg (N := 5) ?hd (cs := #[.int .i64 0, .slice none 0 0]) (t := 26) ?hr ?_; (case hd => rfl); (case hg => rfl); (case hr => first | (go_simp; done) | (go_simp; rfl))
      intro gb176 hg w8 hbox hb
      have n0_ := Aside0.mk (blk_below (g := gb170) (o := .cells #[.int .i64 a0_0, .slice A0_1 l0_1.length c0_1] 26 (0, 0)) (by (with_reducible repeat (first | refine blk_drewN ?_ _ | refine blk_drew ?_ | refine blk_alloc ?_ _)); exact BK170.out) hb)
      have n1_ := Aside0.mk (blk_below (g := gb171) (o := .cells #[.int .i64 a1_0, .slice A1_1 l1_1.length c1_1] 26 (0, 0)) (by (with_reducible repeat (first | refine blk_drewN ?_ _ | refine blk_drew ?_ | refine blk_alloc ?_ _)); exact BK171.out) hb)
      have n2_ := Aside0.mk (blk_below (g := gb172) (o := .cells #[.int .i64 0, .slice none 0 0] 26 (0, 0)) (by (with_reducible repeat (first | refine blk_drewN ?_ _ | refine blk_drew ?_ | refine blk_alloc ?_ _)); exact BK172.out) hb)
      have n3_ := Aside0.mk (below_step (by repeat (first | (with_reducible first | exact HB.out | apply below_alloc | apply pw_below_drewN | apply below_drew1 | refine below_set ?_ GE170.out | refine below_set ?_ GE171.out | refine below_set ?_ GE172.out) | exact HB.out)) hb)
      have n4_ := Aside0.mk (hbox)
      have n5_ := Aside0.mk ((by rw [hg]; exact (below_size (by repeat (first | (with_reducible first | exact HB.out | apply below_alloc | apply pw_below_drewN | apply below_drew1 | refine below_set ?_ GE170.out | refine below_set ?_ GE171.out | refine below_set ?_ GE172.out) | exact HB.out))) : w.heap.size ≤ gb176))
      have n6_ := Aside0.mk ((by rw [hg]; exact (below_size (by repeat (first | (with_reducible first | exact HB.out | apply below_alloc | apply pw_below_drewN | apply below_drew1 | refine below_set ?_ GE170.out | refine below_set ?_ GE171.out | refine below_set ?_ GE172.out) | exact HB.out))) : w.heap.size ≤ gb176))
      have n7_ := Aside0.mk ((by rw [hg]; exact Nat.ne_of_lt (blk_lt (g := gb170) (o := .cells #[.int .i64 a0_0, .slice A0_1 l0_1.length c0_1] 26 (0, 0)) (by (with_reducible repeat (first | refine blk_drewN ?_ _ | refine blk_drew ?_ | refine blk_alloc ?_ _)); exact BK170.out)) : gb170 ≠ gb176))
      have n8_ := Aside0.mk ((by rw [hg]; exact Nat.ne_of_gt (blk_lt (g := gb170) (o := .cells #[.int .i64 a0_0, .slice A0_1 l0_1.length c0_1] 26 (0, 0)) (by (with_reducible repeat (first | refine blk_drewN ?_ _ | refine blk_drew ?_ | refine blk_alloc ?_ _)); exact BK170.out)) : gb176 ≠ gb170))
      have n9_ := Aside0.mk ((by rw [hg]; exact Nat.ne_of_lt (blk_lt (g := gb171) (o := .cells #[.int .i64 a1_0, .slice A1_1 l1_1.length c1_1] 26 (0, 0)) (by (with_reducible repeat (first | refine blk_drewN ?_ _ | refine blk_drew ?_ | refine blk_alloc ?_ _)); exact BK171.out)) : gb171 ≠ gb176))
      have n10_ := Aside0.mk ((by rw [hg]; exact Nat.ne_of_gt (blk_lt (g := gb171) (o := .cells #[.int .i64 a1_0, .slice A1_1 l1_1.length c1_1] 26 (0, 0)) (by (with_reducible repeat (first | refine blk_drewN ?_ _ | refine blk_drew ?_ | refine blk_alloc ?_ _)); exact BK171.out)) : gb176 ≠ gb171))
      have n11_ := Aside0.mk ((by rw [hg]; exact Nat.ne_of_lt (blk_lt (g := gb172) (o := .cells #[.int .i64 0, .slice none 0 0] 26 (0, 0)) (by (with_reducible repeat (first | refine blk_drewN ?_ _ | refine blk_drew ?_ | refine blk_alloc ?_ _)); exact BK172.out)) : gb172 ≠ gb176))
      have n12_ := Aside0.mk ((by rw [hg]; exact Nat.ne_of_gt (blk_lt (g := gb172) (o := .cells #[.int .i64 0, .slice none 0 0] 26 (0, 0)) (by (with_reducible repeat (first | refine blk_drewN ?_ _ | refine blk_drew ?_ | refine blk_alloc ?_ _)); exact BK172.out)) : gb176 ≠ gb172))
      clear BK170
      clear BK171
      clear BK172
      clear HB
      have BK170 := n0_
      have BK171 := n1_
      have BK172 := n2_
      have HB := n3_
      have BK176 := n4_
      have GW176 := n5_
      have GE176 := n6_
      have NB170_176 := n7_
      have NB176_170 := n8_
      have NB171_176 := n9_
      have NB176_171 := n10_
      have NB172_176 := n11_
      have NB176_172 := n12_
      clear n0_ n1_ n2_ n3_ n4_ n5_ n6_ n7_ n8_ n9_ n10_ n11_ n12_
      clear hb hbox hg
      refine hK.out _ _ ⟨(blk_cell BK170.out 0).trans rfl, (blk_cell BK170.out 1).trans rfl, (blk_cell BK171.out 0).trans rfl, (blk_cell BK171.out 1).trans rfl⟩ (fun hHeld => ?_)
      clear hK K
      refine norm_ (a' := ?_) ?_ ?_
      rotate_left
      · show Act.put _ (some 5) _ = _
        simp only [Act.put, List.setIfInBounds_toArray, List.set_cons_zero, List.set_cons_succ, i64_w, i32_w]
        rfl
      refine one_ (i := 7) (N := some 16) #[true, true, true, true, true, true, true, true, false, true, false] rfl rfl (one_of HT_.out (by kernel_rfl)) (by decide) (fun K hK => ?_)
      refine goes_ Try.func58 (by kernel_rfl) rfl #[.slice A0_1 l0_1.length c0_1] (by rfl) rfl rfl (by (try simp only [List.map_toArray, List.map_cons, List.map_nil]); first | done | rfl | (simp only [List.length_drop, List.length_take]; rfl)) ?_
      with_reducible refine (spec_l01Own.calls _ _ l0_1 t173 _ ?side1 ?side2 A3.out).mono ?_
      (case side1 => repeat (first | exact (Kd.C_below HR0_1.out HB.out) | (with_reducible refine Kd.C_alloc ?_ _) | (with_reducible refine Kd.C_drewN ?_ _) | (with_reducible refine Kd.C_drew ?_)))
      (case side2 => exact HC0_1.out)
      rintro e w9 ⟨v174, rfl, ho0, hb⟩
      refine ⟨_, rfl, ?_⟩
      have n0_ := Aside0.mk (Kd.R_lower ho0 (below_size (by repeat (first | (with_reducible first | exact HB.out | apply below_alloc | apply pw_below_drewN | apply below_drew1 | refine below_set ?_ GE170.out | refine below_set ?_ GE171.out | refine below_set ?_ GE172.out | refine below_set ?_ GE176.out) | exact HB.out))))
      have n1_ := Aside0.mk (blk_below (g := gb170) (o := .cells #[.int .i64 a0_0, .slice A0_1 l0_1.length c0_1] 26 (0, 0)) (by (with_reducible repeat (first | refine blk_drewN ?_ _ | refine blk_drew ?_ | refine blk_alloc ?_ _)); exact BK170.out) hb)
      have n2_ := Aside0.mk (blk_below (g := gb171) (o := .cells #[.int .i64 a1_0, .slice A1_1 l1_1.length c1_1] 26 (0, 0)) (by (with_reducible repeat (first | refine blk_drewN ?_ _ | refine blk_drew ?_ | refine blk_alloc ?_ _)); exact BK171.out) hb)
      have n3_ := Aside0.mk (blk_below (g := gb172) (o := .cells #[.int .i64 0, .slice none 0 0] 26 (0, 0)) (by (with_reducible repeat (first | refine blk_drewN ?_ _ | refine blk_drew ?_ | refine blk_alloc ?_ _)); exact BK172.out) hb)
      have n4_ := Aside0.mk (blk_below (g := gb176) (o := .cells #[.int .i64 0, .slice none 0 0] 26 (0, 0)) (by (with_reducible repeat (first | refine blk_drewN ?_ _ | refine blk_drew ?_ | refine blk_alloc ?_ _)); exact BK176.out) hb)
      have n5_ := Aside0.mk (below_step (by repeat (first | (with_reducible first | exact HB.out | apply below_alloc | apply pw_below_drewN | apply below_drew1 | refine below_set ?_ GE170.out | refine below_set ?_ GE171.out | refine below_set ?_ GE172.out | refine below_set ?_ GE176.out) | exact HB.out)) hb)
      clear BK170
      clear BK171
      clear BK172
      clear BK176
      clear HB
      have HO175 := n0_
      have BK170 := n1_
      have BK171 := n2_
      have BK172 := n3_
      have BK176 := n4_
      have HB := n5_
      clear n0_ n1_ n2_ n3_ n4_ n5_
      (try clear hb)
      (try clear hb2)
      (try clear hk)
      (try clear hi)
      (try clear ho0)
      obtain ⟨Ao10, co10, eo10⟩ := Kd.R_slice HO175.out
      (first | subst eo10 | (injection eo10 with f1_ f2_ f3_; have f4_ := f1_.symm; have f5_ := f3_.symm; clear f1_ f2_ f3_; subst f4_; subst f5_))
      refine hK.out _ _ ⟨(blk_cell BK170.out 0).trans rfl, (blk_cell BK170.out 1).trans rfl, (blk_cell BK171.out 0).trans rfl, (blk_cell BK171.out 1).trans rfl⟩ (fun hHeld => ?_)
      clear hK K
      refine norm_ (a' := ?_) ?_ ?_
      rotate_left
      · show Act.put _ (some 16) _ = _
        simp only [Act.put, List.setIfInBounds_toArray, List.set_cons_zero, List.set_cons_succ, i64_w, i32_w]
        rfl
      refine pure_ (i := 8) (N := some 17) (v := ?_) (a' := ?_) #[true, true, true, true, true, true, true, true, true, true, false] rfl rfl (any_of HT_.out (by kernel_rfl)) (fun _ _ _ h => h) (Or.inl ⟨by rfl, ?_⟩) ?_ ?_
      rotate_left
      · intro w'
        go_simp
        with_reducible rfl
      rotate_left
      · simp only [Act.put, List.setIfInBounds_toArray, List.set_cons_zero, List.set_cons_succ, i64_w, i32_w]
        rfl
      exact norm_ (by simp only [putAll, Act.put, List.setIfInBounds_toArray, List.set_cons_zero, List.set_cons_succ]) (hCont (.slice Ao10 t173.length co10, gb176) _ ⟨hHeld, (by (with_reducible repeat (first | apply Kd.R_alloc | apply Kd.R_drewN | apply Kd.R_drew)); exact HO175.out), (by (with_reducible repeat (first | refine blk_drewN ?_ _ | refine blk_drew ?_ | refine blk_alloc ?_ _)); exact BK170.out), (by (with_reducible repeat (first | refine blk_drewN ?_ _ | refine blk_drew ?_ | refine blk_alloc ?_ _)); exact BK171.out), (by (with_reducible repeat (first | refine blk_drewN ?_ _ | refine blk_drew ?_ | refine blk_alloc ?_ _)); exact BK172.out), (by (with_reducible repeat (first | refine blk_drewN ?_ _ | refine blk_drew ?_ | refine blk_alloc ?_ _)); exact BK176.out), GW176.out, GE176.out, NB170_176.out, NB176_170.out, NB171_176.out, NB176_171.out, NB172_176.out, NB176_172.out, (by repeat (first | (with_reducible first | exact HB.out | apply below_alloc | apply pw_below_drewN | apply below_drew1 | refine below_set ?_ GE170.out | refine below_set ?_ GE171.out | refine below_set ?_ GE172.out | refine below_set ?_ GE176.out) | exact HB.out))⟩)
  rintro ⟨v174, gb176⟩ w11 ⟨hS_, h0_, h1_, h2_, h3_, h4_, h5_, h6_, h7_, h8_, h9_, h10_, h11_, h12_, h13_⟩
  have n0_ : Aside0 (Kd.R (Kd.int .i64) 2 w11 w.heap.size (fun _ => True) v174 t173) := ⟨h0_⟩
  have n1_ : Aside0 (w11.heap[gb170]? = some (.cells #[.int .i64 a0_0, .slice A0_1 l0_1.length c0_1] 26 (0, 0))) := ⟨h1_⟩
  have n2_ : Aside0 (w11.heap[gb171]? = some (.cells #[.int .i64 a1_0, .slice A1_1 l1_1.length c1_1] 26 (0, 0))) := ⟨h2_⟩
  have n3_ : Aside0 (w11.heap[gb172]? = some (.cells #[.int .i64 0, .slice none 0 0] 26 (0, 0))) := ⟨h3_⟩
  have n4_ : Aside0 (w11.heap[gb176]? = some (.cells #[.int .i64 0, .slice none 0 0] 26 (0, 0))) := ⟨h4_⟩
  have n5_ : Aside0 (w.heap.size ≤ gb176) := ⟨h5_⟩
  have n6_ : Aside0 (w.heap.size ≤ gb176) := ⟨h6_⟩
  have n7_ : Aside0 (gb170 ≠ gb176) := ⟨h7_⟩
  have n8_ : Aside0 (gb176 ≠ gb170) := ⟨h8_⟩
  have n9_ : Aside0 (gb171 ≠ gb176) := ⟨h9_⟩
  have n10_ : Aside0 (gb176 ≠ gb171) := ⟨h10_⟩
  have n11_ : Aside0 (gb172 ≠ gb176) := ⟨h11_⟩
  have n12_ : Aside0 (gb176 ≠ gb172) := ⟨h12_⟩
  have n13_ : Aside0 (Below w.heap.size w w11) := ⟨h13_⟩
  clear BK170
  clear BK171
  clear BK172
  clear HB
  clear h0_ h1_ h2_ h3_ h4_ h5_ h6_ h7_ h8_ h9_ h10_ h11_ h12_ h13_
  have HO175 := n0_
  have BK170 := n1_
  have BK171 := n2_
  have BK172 := n3_
  have BK176 := n4_
  have GW176 := n5_
  have GE176 := n6_
  have NB170_176 := n7_
  have NB176_170 := n8_
  have NB171_176 := n9_
  have NB176_171 := n10_
  have NB172_176 := n11_
  have NB176_172 := n12_
  have HB := n13_
  clear n0_ n1_ n2_ n3_ n4_ n5_ n6_ n7_ n8_ n9_ n10_ n11_ n12_ n13_
  have hHeld : w11.cell? ⟨gb170, 0, none⟩ = some (.int .i64 a0_0) ∧ w11.cell? ⟨gb170, 1, none⟩ = some (.slice A0_1 l0_1.length c0_1) ∧ w11.cell? ⟨gb171, 0, none⟩ = some (.int .i64 a1_0) ∧ w11.cell? ⟨gb171, 1, none⟩ = some (.slice A1_1 l1_1.length c1_1) := hS_
  obtain ⟨Ao12, co12, eo12⟩ := Kd.R_slice HO175.out
  (first | subst eo12 | (injection eo12 with f1_ f2_ f3_; have f4_ := f1_.symm; have f5_ := f3_.symm; clear f1_ f2_ f3_; subst f4_; subst f5_))
  refine norm_ (a' := ?_) ?_ ?_
  rotate_left
  · simp only [putAll, Act.put, List.setIfInBounds_toArray, List.set_cons_zero, List.set_cons_succ]
    rfl
  refine one_ (i := 10) (N := none) #[true, true, true, true, true, true, true, true, true, true, true] rfl rfl (one_of HT_.out (by kernel_rfl)) (by decide) (fun K hK => ?_)
  have hs13 : w11.cell? ⟨gb176, 0, none⟩ = some (.int .i64 0) := (blk_cell BK176.out 0).trans rfl
  have hfs13 := blk_frozen BK176.out 0
  have hns13_0 := NB170_176.out
  have hns13_1 := NB171_176.out
  have hns13_2 := NB172_176.out
  have hms13_0 := NB176_170.out
  have hms13_1 := NB176_171.out
  have hms13_2 := NB176_172.out
  have hs14 : w11.cell? ⟨gb176, 1, none⟩ = some (.slice none 0 0) := (blk_cell BK176.out 1).trans rfl
  have hfs14 := blk_frozen BK176.out 1
  have hns14_0 := NB170_176.out
  have hns14_1 := NB171_176.out
  have hns14_2 := NB172_176.out
  have hms14_0 := NB176_170.out
  have hms14_1 := NB176_171.out
  have hms14_2 := NB176_172.out
  refine skip_ (w1 := ?_) (by rfl) rfl ?_ ?_
  rotate_left
  · go_simp
    rfl
  refine hK.out _ _ ⟨((cell_far (p := ⟨gb176, _, none⟩) NB170_176.out _).trans (((cell_far (p := ⟨gb176, _, none⟩) NB170_176.out _).trans (hHeld.1)))), ((cell_far (p := ⟨gb176, _, none⟩) NB170_176.out _).trans (((cell_far (p := ⟨gb176, _, none⟩) NB170_176.out _).trans (hHeld.2.1)))), ((cell_far (p := ⟨gb176, _, none⟩) NB171_176.out _).trans (((cell_far (p := ⟨gb176, _, none⟩) NB171_176.out _).trans (hHeld.2.2.1)))), ((cell_far (p := ⟨gb176, _, none⟩) NB171_176.out _).trans (((cell_far (p := ⟨gb176, _, none⟩) NB171_176.out _).trans (hHeld.2.2.2))))⟩ (fun hHeld => ?_)
  clear hK K
  refine done_ (done_of HT_.out (by kernel_rfl)) ?_
  try go_wp2
  go_loopg [6] k (fun kq v6 w' => ∃ (x6_1 : Int) (x177001_1 : List Int) (u177001 : Value), v6 = .int .i64 x6_1 ∧ Aside0 (spec_l01Join.l0 kq x6_1 a0_0 l0_1 a1_0 l1_1 (wrap64 (a0_0 + a1_0)) x177001_1 = some (r1, r2)) ∧ Aside0 (kq ≤ k) ∧ Aside0 (Kd.R (Kd.int .i64) 2 w' w.heap.size (fun _ => True) u177001 x177001_1) ∧ Aside0 (w'.heap[gb170]? = some (.cells #[.int .i64 a0_0, (.slice A0_1 l0_1.length c0_1)] 26 (0, 0))) ∧ Aside0 (w'.heap[gb171]? = some (.cells #[.int .i64 a1_0, (.slice A1_1 l1_1.length c1_1)] 26 (0, 0))) ∧ Aside0 (w'.heap[gb172]? = some (.cells #[.int .i64 0, (.slice none 0 0)] 26 (0, 0))) ∧ Aside0 (w'.heap[gb176]? = some (.cells #[.int .i64 (wrap64 (a0_0 + a1_0)), u177001] 26 (0, 0))) ∧ Aside0 (Below w.heap.size w w'))
  case atStart => exact ⟨(0), (t173), (.slice Ao12 t173.length co12), (by first | rfl | (simp; done) | (simp [*]; done)), H', ⟨Nat.le_refl _⟩, ⟨by (with_reducible repeat (first | apply Kd.R_alloc | apply Kd.R_drewN | apply Kd.R_drew)); exact Kd.R_mono (Kd.R_far (p := ⟨gb176, 1, none⟩) (Kd.R_far (p := ⟨gb176, 0, none⟩) (Kd.R_types HO175.out BK176.out (by decide)) (fun _ hk => hk.2) (.int .i64 (wrap64 (a0_0 + a1_0)))) (fun _ hk => hk.2) (.slice Ao12 t173.length co12)) (fun _ hk => trivial)⟩, ⟨by (with_reducible repeat (first | refine blk_drewN ?_ _ | refine blk_drew ?_ | refine blk_alloc ?_ _)); refine blk_far ?_ NB170_176.out _; (with_reducible repeat (first | refine blk_drewN ?_ _ | refine blk_drew ?_ | refine blk_alloc ?_ _)); refine blk_far ?_ NB170_176.out _; (with_reducible repeat (first | refine blk_drewN ?_ _ | refine blk_drew ?_ | refine blk_alloc ?_ _)); exact BK170.out⟩, ⟨by (with_reducible repeat (first | refine blk_drewN ?_ _ | refine blk_drew ?_ | refine blk_alloc ?_ _)); refine blk_far ?_ NB171_176.out _; (with_reducible repeat (first | refine blk_drewN ?_ _ | refine blk_drew ?_ | refine blk_alloc ?_ _)); refine blk_far ?_ NB171_176.out _; (with_reducible repeat (first | refine blk_drewN ?_ _ | refine blk_drew ?_ | refine blk_alloc ?_ _)); exact BK171.out⟩, ⟨by (with_reducible repeat (first | refine blk_drewN ?_ _ | refine blk_drew ?_ | refine blk_alloc ?_ _)); refine blk_far ?_ NB172_176.out _; (with_reducible repeat (first | refine blk_drewN ?_ _ | refine blk_drew ?_ | refine blk_alloc ?_ _)); refine blk_far ?_ NB172_176.out _; (with_reducible repeat (first | refine blk_drewN ?_ _ | refine blk_drew ?_ | refine blk_alloc ?_ _)); exact BK172.out⟩, ⟨by (with_reducible repeat (first | refine blk_drewN ?_ _ | refine blk_drew ?_ | refine blk_alloc ?_ _)); refine blk_put (cs := #[.int .i64 (wrap64 (a0_0 + a1_0)), .slice none 0 0]) ?_ 1 _ rfl; (with_reducible repeat (first | refine blk_drewN ?_ _ | refine blk_drew ?_ | refine blk_alloc ?_ _)); refine blk_put (cs := #[.int .i64 0, .slice none 0 0]) ?_ 0 _ rfl; (with_reducible repeat (first | refine blk_drewN ?_ _ | refine blk_drew ?_ | refine blk_alloc ?_ _)); exact BK176.out⟩, ⟨by repeat (first | (with_reducible first | exact HB.out | apply below_alloc | apply pw_below_drewN | apply below_drew1 | refine below_set ?_ GE170.out | refine below_set ?_ GE171.out | refine below_set ?_ GE172.out | refine below_set ?_ GE176.out) | exact HB.out)⟩⟩
  case round =>
    clear H'
    try clear c1
    try clear p2
    try clear c3
    try clear c5
    try clear p6
    obtain ⟨x6_1, x177001_1, u177001, rfl, HA, HK1, HO_177001, BK170, BK171, BK172, BK176, HB⟩ := hrel
    cases gk with
    | zero => exact absurd HA.out (by simp [spec_l01Join.l0])
    | succ k1 =>
      have H := HA.out
      clear HA
      simp only [spec_l01Join.l0] at H
      by_cases c15 : x6_1 < (l1_1.length : Int)
      · rw [if_pos c15] at H
        have c15b0 : decide (x6_1 < (l1_1.length : Int)) = true := decide_eq_true c15
        clear c15
        by_cases c16 : 0 ≤ x6_1
        · rw [if_pos c16] at H
          have c16b0 : decide (0 ≤ x6_1) = true := decide_eq_true c16
          clear c16
          obtain ⟨ji17, hji17⟩ : ∃ j_ : Int, (IntKind.u64.wrap (a0_0)) = j_ := ⟨_, rfl⟩
          replace H : (if 0 ≤ (ji17) then (if x177001_1.length < 17592186044416 then (spec_l01Join.l1 k1 x6_1 (shl .i64 (rd l1_1 x6_1) (ji17)) 0 a0_0 l0_1 a1_0 l1_1 (wrap64 (a0_0 + a1_0)) (x177001_1 ++ [shl .i64 (rd l1_1 x6_1) (ji17)])) else (none)) else (none)) = some (r1, r2) := by first | (rw [hji17] at H; exact H) | (simp only [hji17] at H ⊢; exact H)
          by_cases c18 : 0 ≤ (ji17)
          · rw [if_pos c18] at H
            have c18b0 := eq_true c18
            have c18b1 : decide (0 ≤ (ji17)) = true := decide_eq_true c18
            clear c18
            obtain ⟨ji19, hji19⟩ : ∃ j_ : Int, (shl .i64 (rd l1_1 x6_1) (ji17)) = j_ := ⟨_, rfl⟩
            replace H : (if x177001_1.length < 17592186044416 then (spec_l01Join.l1 k1 x6_1 ji19 0 a0_0 l0_1 a1_0 l1_1 (wrap64 (a0_0 + a1_0)) (x177001_1 ++ [ji19])) else (none)) = some (r1, r2) := by first | (rw [hji19] at H; exact H) | (simp only [hji19] at H ⊢; exact H)
            have hji19_ : (IntKind.i64.wrap ((rd l1_1 x6_1) * 2 ^ min (ji17).toNat 64)) = ji19 := hji19
            have hji19z : (ji17) ≤ 64 → (IntKind.i64.wrap ((rd l1_1 x6_1) * 2 ^ (ji17).toNat)) = ji19 := shl_small hji19
            have hji19y : (wrap64 ((rd l1_1 x6_1) * 2 ^ min (ji17).toNat 64)) = ji19 := (i64_w _).symm.trans hji19_
            have hji19x : (ji17) ≤ 64 → (wrap64 ((rd l1_1 x6_1) * 2 ^ (ji17).toNat)) = ji19 := fun h_ => (i64_w _).symm.trans (hji19z h_)
            by_cases c20 : x177001_1.length < 17592186044416
            · rw [if_pos c20] at H
              have LMc20 := Aside0.mk c20
              clear c20
              obtain ⟨y178, hy178⟩ : ∃ y_ : List Int, y_ = (x177001_1 ++ [ji19]) := ⟨_, rfl⟩
              replace H : (spec_l01Join.l1 k1 x6_1 ji19 0 a0_0 l0_1 a1_0 l1_1 (wrap64 (a0_0 + a1_0)) y178) = some (r1, r2) := by first | (rw [hy178]; with_reducible exact H) | (have H2_ := (Option.bind_some _ _).symm.trans H; rw [hy178]; with_reducible exact H2_) | (have H2_ := (Option.bind_some _ _).symm.trans H; with_reducible exact H2_) | with_reducible exact H | (rw [hy178]; exact H) | exact H
              have Ny178 := Aside0.mk hy178
              clear hy178
              have H' := Aside0.mk H
              clear H
              have hnb21 := NB171_170.out
              have hnc21 := NB170_171.out
              have hnb22 := NB171_172.out
              have hnc22 := NB172_171.out
              have hnb23 := NB171_176.out
              have hnc23 := NB176_171.out
              have hcz24_0 : wr.cell? ⟨gb171, 0, none⟩ = some (.int .i64 a1_0) := (blk_cell BK171.out 0).trans rfl
              have hcz24_1 : wr.cell? ⟨gb171, 1, none⟩ = some (.slice A1_1 l1_1.length c1_1) := (blk_cell BK171.out 1).trans rfl
              have hfz24_0 := blk_frozen BK171.out 0
              have hfz24_1 := blk_frozen BK171.out 1
              try go_wp2
              have n0_ := Aside0.mk (Kd.R_drew HO_177001.out)
              have n1_ := Aside0.mk (blk_drew BK170.out)
              have n2_ := Aside0.mk (blk_drew BK171.out)
              have n3_ := Aside0.mk (blk_drew BK172.out)
              have n4_ := Aside0.mk (blk_drew BK176.out)
              have n5_ := Aside0.mk (below_drew1 HB.out)
              clear HO_177001
              clear BK170
              clear BK171
              clear BK172
              clear BK176
              clear HB
              have HO_177001 := n0_
              have BK170 := n1_
              have BK171 := n2_
              have BK172 := n3_
              have BK176 := n4_
              have HB := n5_
              clear n0_ n1_ n2_ n3_ n4_ n5_
              have p177 : 0 ≤ (x6_1 : Int) := of_decide_eq_true (by first | (with_reducible assumption) | assumption)
              have q177 : x6_1 < (l1_1.length : Int) := of_decide_eq_true (by first | (with_reducible assumption) | assumption)
              obtain ⟨ad177, e177, hx177_0⟩ := Kd.at_int HR1_1.out x6_1 p177 q177
              have hw177_0 := hx177_0
              cases e177
              replace hx177_0 := (HB.out.cell (World.block_lt_of_cell? w _ hx177_0)).trans hx177_0
              replace p177 := eq_true p177
              replace q177 := eq_true q177
              refine start_ (n := 10) (S := fun w' => w'.cell? ⟨gb171, 0, none⟩ = some (.int .i64 a1_0) ∧ w'.cell? ⟨gb171, 1, none⟩ = some (.slice (some ad177) l1_1.length c1_1) ∧ w'.cell? ⟨gb170, 0, none⟩ = some (.int .i64 a0_0) ∧ w'.cell? ⟨gb170, 1, none⟩ = some (.slice A0_1 l0_1.length c0_1) ∧ w'.cell? (ad177.add (x6_1).toNat) = some (.int .i64 (rd l1_1 x6_1))) (ds := []) #[false, false, false, false, false, false, false, false, false, false] (by kernel_rfl) rfl rfl ⟨(blk_cell BK171.out 0).trans rfl, (blk_cell BK171.out 1).trans rfl, (blk_cell BK170.out 0).trans rfl, (blk_cell BK170.out 1).trans rfl, ((HB.out.cell (World.block_lt_of_cell? w _ hw177_0)).trans hw177_0)⟩ (fun hHeld => ?_); refine with_tabW spec_l01Join.tab5 spec_l01Join.bits5 (fun HT_ HW_ => ?_)
              generalize wr.drew = w25 at HO_177001 BK170 BK171 BK172 BK176 HB hx177_0 hHeld ⊢
              refine pure_ (i := 0) (N := some 25) (v := ?_) (a' := ?_) #[true, false, false, false, false, false, false, false, false, false] rfl rfl (any_of HT_.out (by kernel_rfl)) (fun _ _ _ h => h) (Or.inl ⟨by rfl, ?_⟩) ?_ ?_
              rotate_left
              · intro w'
                go_simp
                with_reducible rfl
              rotate_left
              · simp only [Act.put, List.setIfInBounds_toArray, List.set_cons_zero, List.set_cons_succ, i64_w, i32_w]
                rfl
              refine pure_ (i := 2) (N := some 27) (v := ?_) (a' := ?_) #[true, false, true, false, false, false, false, false, false, false] rfl rfl (any_of HT_.out (by kernel_rfl)) (fun _ _ _ h => h) (Or.inl ⟨by rfl, ?_⟩) ?_ ?_
              rotate_left
              · intro w'
                go_simp
                with_reducible rfl
              rotate_left
              · simp only [Act.put, List.setIfInBounds_toArray, List.set_cons_zero, List.set_cons_succ, i64_w, i32_w]
                rfl
              refine pure_ (i := 5) (N := some 30) (v := ?_) (a' := ?_) #[true, false, true, false, false, true, false, false, false, false] rfl rfl (any_of HT_.out (by kernel_rfl)) (fun _ _ _ h => h) (Or.inl ⟨by rfl, ?_⟩) ?_ ?_
              rotate_left
              · intro w'
                go_simp
                with_reducible rfl
              rotate_left
              · simp only [Act.put, List.setIfInBounds_toArray, List.set_cons_zero, List.set_cons_succ, i64_w, i32_w]
                rfl
              refine take_ (i := 1) (N := some 26) (v := ?_) (a' := ?_) #[true, true, true, false, false, true, false, false, false, false] rfl rfl (take_ofW HT_.out HW_.out (by kernel_rfl)) (fun _ _ _ h => h) (Or.inl ⟨by rfl, ?_⟩) hHeld ?_ ?_
              rotate_left
              · rintro w' ⟨s0, s1, s2, s3, s4⟩
                go_simp
                with_reducible rfl
              rotate_left
              · simp only [Act.put, List.setIfInBounds_toArray, List.set_cons_zero, List.set_cons_succ, i64_w, i32_w]
                rfl
              refine pure_ (i := 3) (N := some 28) (v := ?_) (a' := ?_) #[true, true, true, true, false, true, false, false, false, false] rfl rfl (any_of HT_.out (by kernel_rfl)) (fun _ _ _ h => h) (Or.inl ⟨by rfl, ?_⟩) ?_ ?_
              rotate_left
              · intro w'
                go_simp
                with_reducible rfl
              rotate_left
              · simp only [Act.put, List.setIfInBounds_toArray, List.set_cons_zero, List.set_cons_succ, i64_w, i32_w]
                rfl
              refine take_ (i := 4) (N := some 29) (v := ?_) (a' := ?_) #[true, true, true, true, true, true, false, false, false, false] rfl rfl (take_ofW HT_.out HW_.out (by kernel_rfl)) (fun _ _ _ h => h) (Or.inl ⟨by rfl, ?_⟩) hHeld ?_ ?_
              rotate_left
              · rintro w' ⟨s0, s1, s2, s3, s4⟩
                go_simp
                with_reducible rfl
              rotate_left
              · simp only [Act.put, List.setIfInBounds_toArray, List.set_cons_zero, List.set_cons_succ, i64_w, i32_w]
                rfl
              refine take_ (i := 6) (N := some 31) (v := ?_) (a' := ?_) #[true, true, true, true, true, true, true, false, false, false] rfl rfl (take_ofW HT_.out HW_.out (by kernel_rfl)) (fun _ _ _ h => h) (Or.inl ⟨by rfl, ?_⟩) hHeld ?_ ?_
              rotate_left
              · rintro w' ⟨s0, s1, s2, s3, s4⟩
                go_simp
                with_reducible rfl
              rotate_left
              · simp only [Act.put, List.setIfInBounds_toArray, List.set_cons_zero, List.set_cons_succ, i64_w, i32_w]
                rfl
              refine pure_ (i := 7) (N := some 32) (v := ?_) (a' := ?_) #[true, true, true, true, true, true, true, true, false, false] rfl rfl (any_of HT_.out (by kernel_rfl)) (fun _ _ _ h => h) (Or.inl ⟨by rfl, ?_⟩) ?_ ?_
              rotate_left
              · intro w'
                go_simp
                with_reducible rfl
              rotate_left
              · simp only [Act.put, List.setIfInBounds_toArray, List.set_cons_zero, List.set_cons_succ, i64_w, i32_w]
                rfl
              refine pure_ (i := 8) (N := some 33) (v := ?_) (a' := ?_) #[true, true, true, true, true, true, true, true, true, false] rfl rfl (any_of HT_.out (by kernel_rfl)) (fun _ _ _ h => h) (Or.inl ⟨by rfl, ?_⟩) ?_ ?_
              rotate_left
              · intro w'
                go_simp
                with_reducible rfl
              rotate_left
              · simp only [Act.put, List.setIfInBounds_toArray, List.set_cons_zero, List.set_cons_succ, i64_w, i32_w]
                rfl
              refine pure_ (i := 9) (N := some 7) (v := ?_) (a' := ?_) #[true, true, true, true, true, true, true, true, true, true] rfl rfl (any_of HT_.out (by kernel_rfl)) (fun _ _ _ h => h) (Or.inl ⟨by rfl, ?_⟩) ?_ ?_
              rotate_left
              · intro w'
                go_simp
                with_reducible rfl
              rotate_left
              · simp only [Act.put, List.setIfInBounds_toArray, List.set_cons_zero, List.set_cons_succ, i64_w, i32_w]
                rfl
              refine done_ (done_of HT_.out (by kernel_rfl)) ?_
              have hnb26 := NB176_170.out
              have hnc26 := NB170_176.out
              have hnb27 := NB176_172.out
              have hnc27 := NB172_176.out
              have hcz28_0 : w25.cell? ⟨gb176, 0, none⟩ = some (.int .i64 (wrap64 (a0_0 + a1_0))) := (blk_cell BK176.out 0).trans rfl
              have hcz28_1 : w25.cell? ⟨gb176, 1, none⟩ = some (u177001) := (blk_cell BK176.out 1).trans rfl
              have hfz28_0 := blk_frozen BK176.out 0
              have hfz28_1 := blk_frozen BK176.out 1
              try go_wp2_with (first | ((with_reducible refine gate_builtin (b := .append) (xs := #[.tmp 35, .tmp 37]) rfl ?_); at_builtin; refine Kd.R_append (Kd.int .i64) (w0 := w) w.heap.size rfl (.tmp 35) (.tmp 37) 22 2 (.int .i64 0) 8 rfl Try.underlying22 info2 rfl (by decide) (by omega) u177001 x177001_1 ji19 [.int .i64 ji19] (fun _ => True) (fun _ => False) rfl rfl ?aP (fun _ hk => hk.elim) ?aF ?aO ?aB ?aS ?aL ?_; (case aP => exact rfl); (case aB => exact (by repeat (first | (with_reducible first | exact HB.out | apply below_alloc | apply pw_below_drewN | apply below_drew1 | refine below_set ?_ GE170.out | refine below_set ?_ GE171.out | refine below_set ?_ GE172.out | refine below_set ?_ GE176.out) | exact HB.out))); (case aF => exact (fun _ _ => trivial)); (case aO => exact (by (with_reducible repeat (first | apply Kd.R_alloc | apply Kd.R_drewN | apply Kd.R_drew)); exact HO_177001.out)); (case aS => exact (below_size (by repeat (first | (with_reducible first | exact HB.out | apply below_alloc | apply pw_below_drewN | apply below_drew1 | refine below_set ?_ GE170.out | refine below_set ?_ GE171.out | refine below_set ?_ GE172.out | refine below_set ?_ GE176.out) | exact HB.out)))); (case aL => have := LMc20.out; omega); intro v179 w29 ho hb hg hat; rw [← Ny178.out] at ho; have n0_ := Aside0.mk (blk_grown (g := gb170) (o := .cells #[.int .i64 a0_0, .slice A0_1 l0_1.length c0_1] 26 (0, 0)) (by (with_reducible repeat (first | refine blk_drewN ?_ _ | refine blk_drew ?_ | refine blk_alloc ?_ _)); exact BK170.out) hg (Kd.R_ne HO_177001.out BK170.out (by decide))); have n1_ := Aside0.mk (blk_grown (g := gb171) (o := .cells #[.int .i64 a1_0, .slice (some ad177) l1_1.length c1_1] 26 (0, 0)) (by (with_reducible repeat (first | refine blk_drewN ?_ _ | refine blk_drew ?_ | refine blk_alloc ?_ _)); exact BK171.out) hg (Kd.R_ne HO_177001.out BK171.out (by decide))); have n2_ := Aside0.mk (blk_grown (g := gb172) (o := .cells #[.int .i64 0, .slice none 0 0] 26 (0, 0)) (by (with_reducible repeat (first | refine blk_drewN ?_ _ | refine blk_drew ?_ | refine blk_alloc ?_ _)); exact BK172.out) hg (Kd.R_ne HO_177001.out BK172.out (by decide))); have n3_ := Aside0.mk (blk_grown (g := gb176) (o := .cells #[.int .i64 (wrap64 (a0_0 + a1_0)), u177001] 26 (0, 0)) (by (with_reducible repeat (first | refine blk_drewN ?_ _ | refine blk_drew ?_ | refine blk_alloc ?_ _)); exact BK176.out) hg (Kd.R_ne HO_177001.out BK176.out (by decide))); have n4_ := Aside0.mk (hb); have n5_ := Aside0.mk (ho); clear BK170; clear BK171; clear BK172; clear BK176; clear HB; clear HO_177001; have BK170 := n0_; have BK171 := n1_; have BK172 := n2_; have BK176 := n3_; have HB := n4_; have HO180 := n5_; clear n0_ n1_ n2_ n3_ n4_ n5_; clear ho hb hg hat; obtain ⟨Ao30, co30, eo30⟩ := Kd.R_slice HO180.out; subst eo30; have hcz31_0 : w29.cell? ⟨gb176, 0, none⟩ = some (.int .i64 (wrap64 (a0_0 + a1_0))) := (blk_cell BK176.out 0).trans rfl; have hcz31_1 : w29.cell? ⟨gb176, 1, none⟩ = some (u177001) := (blk_cell BK176.out 1).trans rfl; have hfz31_0 := blk_frozen BK176.out 0; have hfz31_1 := blk_frozen BK176.out 1))
              go_loopg [8] k1 (fun kq v8 w' => ∃ (x8_2 : Int) (x177001_2 : List Int) (u177001 : Value), v8 = .int .i64 x8_2 ∧ Aside0 (spec_l01Join.l1 kq x6_1 ji19 x8_2 a0_0 l0_1 a1_0 l1_1 (wrap64 (a0_0 + a1_0)) x177001_2 = some (r1, r2)) ∧ Aside0 (kq ≤ k1) ∧ Aside0 (Kd.R (Kd.int .i64) 2 w' w.heap.size (fun _ => True) u177001 x177001_2) ∧ Aside0 (w'.heap[gb170]? = some (.cells #[.int .i64 a0_0, (.slice A0_1 l0_1.length c0_1)] 26 (0, 0))) ∧ Aside0 (w'.heap[gb171]? = some (.cells #[.int .i64 a1_0, (.slice (some ad177) l1_1.length c1_1)] 26 (0, 0))) ∧ Aside0 (w'.heap[gb172]? = some (.cells #[.int .i64 0, (.slice none 0 0)] 26 (0, 0))) ∧ Aside0 (w'.heap[gb176]? = some (.cells #[.int .i64 (wrap64 (a0_0 + a1_0)), u177001] 26 (0, 0))) ∧ Aside0 (Below w.heap.size w w'))
              case atStart => exact ⟨(0), (y178), (.slice Ao30 y178.length co30), (by first | rfl | (simp; done) | (simp [*]; done)), H', ⟨Nat.le_refl _⟩, ⟨by (with_reducible repeat (first | apply Kd.R_alloc | apply Kd.R_drewN | apply Kd.R_drew)); exact Kd.R_mono (Kd.R_far (p := ⟨gb176, 1, none⟩) (Kd.R_types HO180.out BK176.out (by decide)) (fun _ hk => hk.2) (.slice Ao30 y178.length co30)) (fun _ hk => trivial)⟩, ⟨by (with_reducible repeat (first | refine blk_drewN ?_ _ | refine blk_drew ?_ | refine blk_alloc ?_ _)); refine blk_far ?_ NB170_176.out _; (with_reducible repeat (first | refine blk_drewN ?_ _ | refine blk_drew ?_ | refine blk_alloc ?_ _)); exact BK170.out⟩, ⟨by (with_reducible repeat (first | refine blk_drewN ?_ _ | refine blk_drew ?_ | refine blk_alloc ?_ _)); refine blk_far ?_ NB171_176.out _; (with_reducible repeat (first | refine blk_drewN ?_ _ | refine blk_drew ?_ | refine blk_alloc ?_ _)); exact BK171.out⟩, ⟨by (with_reducible repeat (first | refine blk_drewN ?_ _ | refine blk_drew ?_ | refine blk_alloc ?_ _)); refine blk_far ?_ NB172_176.out _; (with_reducible repeat (first | refine blk_drewN ?_ _ | refine blk_drew ?_ | refine blk_alloc ?_ _)); exact BK172.out⟩, ⟨by (with_reducible repeat (first | refine blk_drewN ?_ _ | refine blk_drew ?_ | refine blk_alloc ?_ _)); refine blk_put (cs := #[.int .i64 (wrap64 (a0_0 + a1_0)), u177001]) ?_ 1 _ rfl; (with_reducible repeat (first | refine blk_drewN ?_ _ | refine blk_drew ?_ | refine blk_alloc ?_ _)); exact BK176.out⟩, ⟨by repeat (first | (with_reducible first | exact HB.out | apply below_alloc | apply pw_below_drewN | apply below_drew1 | refine below_set ?_ GE170.out | refine below_set ?_ GE171.out | refine below_set ?_ GE172.out | refine below_set ?_ GE176.out) | exact HB.out)⟩⟩
              case round =>
                clear H'
                try clear c1
                try clear p1
                try clear q1
                try clear hx1
                try clear c2
                try clear p2
                try clear c3
                try clear c5
                try clear p6
                try clear c15
                try clear c15b0
                try clear c16
                try clear c16b0
                try clear p17
                try clear q17
                try clear hx17
                try clear c18
                try clear c18b0
                try clear c18b1
                try clear c20
                try clear c21
                try clear c22
                try clear c23
                try clear c26
                try clear c27
                try clear hcz24_0
                try clear hcz24_1
                try clear hcz28_0
                try clear hcz28_1
                try clear hcz31_0
                try clear hcz31_1
                try clear hfz24_0
                try clear hfz24_1
                try clear hfz28_0
                try clear hfz28_1
                try clear hfz31_0
                try clear hfz31_1
                try clear hx177_0
                try clear p177
                try clear p2
                try clear p6
                try clear q177
                obtain ⟨x8_2, x177001_2, u177001, rfl, HA, HK2, HO_177001, BK170, BK171, BK172, BK176, HB⟩ := hrel
                cases gk with
                | zero => exact absurd HA.out (by simp [spec_l01Join.l1])
                | succ k2 =>
                  have H := HA.out
                  clear HA
                  simp only [spec_l01Join.l1] at H
                  by_cases c32 : x8_2 < (l0_1.length : Int)
                  · rw [if_pos c32] at H
                    have c32b0 : decide (x8_2 < (l0_1.length : Int)) = true := decide_eq_true c32
                    clear c32
                    by_cases c33 : 0 ≤ x8_2
                    · rw [if_pos c33] at H
                      have c33b0 : decide (0 ≤ x8_2) = true := decide_eq_true c33
                      clear c33
                      by_cases c34 : x177001_2.length < 17592186044416
                      · rw [if_pos c34] at H
                        have LMc34 := Aside0.mk c34
                        clear c34
                        obtain ⟨y182, hy182⟩ : ∃ y_ : List Int, y_ = (x177001_2 ++ [wrap64 (ji19 + (rd l0_1 x8_2))]) := ⟨_, rfl⟩
                        replace H : (spec_l01Join.l1 k2 x6_1 ji19 (wrap64 (x8_2 + 1)) a0_0 l0_1 a1_0 l1_1 (wrap64 (a0_0 + a1_0)) y182) = some (r1, r2) := by first | (rw [hy182]; with_reducible exact H) | (have H2_ := (Option.bind_some _ _).symm.trans H; rw [hy182]; with_reducible exact H2_) | (have H2_ := (Option.bind_some _ _).symm.trans H; with_reducible exact H2_) | with_reducible exact H | (rw [hy182]; exact H) | exact H
                        have Ny182 := Aside0.mk hy182
                        clear hy182
                        have H' := Aside0.mk H
                        clear H
                        have hnb35 := NB170_171.out
                        have hnc35 := NB171_170.out
                        have hnb36 := NB170_172.out
                        have hnc36 := NB172_170.out
                        have hnb37 := NB170_176.out
                        have hnc37 := NB176_170.out
                        have hcz38_0 : wr.cell? ⟨gb170, 0, none⟩ = some (.int .i64 a0_0) := (blk_cell BK170.out 0).trans rfl
                        have hcz38_1 : wr.cell? ⟨gb170, 1, none⟩ = some (.slice A0_1 l0_1.length c0_1) := (blk_cell BK170.out 1).trans rfl
                        have hfz38_0 := blk_frozen BK170.out 0
                        have hfz38_1 := blk_frozen BK170.out 1
                        try go_wp2
                        have n0_ := Aside0.mk (Kd.R_drew HO_177001.out)
                        have n1_ := Aside0.mk (blk_drew BK170.out)
                        have n2_ := Aside0.mk (blk_drew BK171.out)
                        have n3_ := Aside0.mk (blk_drew BK172.out)
                        have n4_ := Aside0.mk (blk_drew BK176.out)
                        have n5_ := Aside0.mk (below_drew1 HB.out)
                        clear HO_177001
                        clear BK170
                        clear BK171
                        clear BK172
                        clear BK176
                        clear HB
                        have HO_177001 := n0_
                        have BK170 := n1_
                        have BK171 := n2_
                        have BK172 := n3_
                        have BK176 := n4_
                        have HB := n5_
                        clear n0_ n1_ n2_ n3_ n4_ n5_
                        have p181 : 0 ≤ (x8_2 : Int) := of_decide_eq_true (by first | (with_reducible assumption) | assumption)
                        have q181 : x8_2 < (l0_1.length : Int) := of_decide_eq_true (by first | (with_reducible assumption) | assumption)
                        obtain ⟨ad181, e181, hx181_0⟩ := Kd.at_int HR0_1.out x8_2 p181 q181
                        have hw181_0 := hx181_0
                        cases e181
                        replace hx181_0 := (HB.out.cell (World.block_lt_of_cell? w _ hx181_0)).trans hx181_0
                        replace p181 := eq_true p181
                        replace q181 := eq_true q181
                        refine start_ (n := 13) (S := fun w' => w'.cell? ⟨gb176, 0, none⟩ = some (.int .i64 (wrap64 (a0_0 + a1_0))) ∧ w'.cell? ⟨gb176, 1, none⟩ = some (u177001) ∧ w'.cell? ⟨gb170, 0, none⟩ = some (.int .i64 a0_0) ∧ w'.cell? ⟨gb170, 1, none⟩ = some (.slice (some ad181) l0_1.length c0_1) ∧ w'.cell? (ad181.add (x8_2).toNat) = some (.int .i64 (rd l0_1 x8_2))) (ds := [12]) #[false, false, false, false, false, false, false, false, false, false, false, false, false] (by kernel_rfl) rfl rfl ⟨(blk_cell BK176.out 0).trans rfl, (blk_cell BK176.out 1).trans rfl, (blk_cell BK170.out 0).trans rfl, (blk_cell BK170.out 1).trans rfl, ((HB.out.cell (World.block_lt_of_cell? w _ hw181_0)).trans hw181_0)⟩ (fun hHeld => ?_); refine with_tabW spec_l01Join.tab10 spec_l01Join.bits10 (fun HT_ HW_ => ?_)
                        generalize wr.drew = w39 at HO_177001 BK170 BK171 BK172 BK176 HB hx181_0 hHeld ⊢
                        refine pure_ (i := 0) (N := some 47) (v := ?_) (a' := ?_) #[true, false, false, false, false, false, false, false, false, false, false, false, false] rfl rfl (any_of HT_.out (by kernel_rfl)) (fun _ _ _ h => h) (Or.inl ⟨by rfl, ?_⟩) ?_ ?_
                        rotate_left
                        · intro w'
                          go_simp
                          with_reducible rfl
                        rotate_left
                        · simp only [Act.put, List.setIfInBounds_toArray, List.set_cons_zero, List.set_cons_succ, i64_w, i32_w]
                          rfl
                        refine pure_ (i := 2) (N := some 49) (v := ?_) (a' := ?_) #[true, false, true, false, false, false, false, false, false, false, false, false, false] rfl rfl (any_of HT_.out (by kernel_rfl)) (fun _ _ _ h => h) (Or.inl ⟨by rfl, ?_⟩) ?_ ?_
                        rotate_left
                        · intro w'
                          go_simp
                          with_reducible rfl
                        rotate_left
                        · simp only [Act.put, List.setIfInBounds_toArray, List.set_cons_zero, List.set_cons_succ, i64_w, i32_w]
                          rfl
                        refine pure_ (i := 3) (N := some 50) (v := ?_) (a' := ?_) #[true, false, true, true, false, false, false, false, false, false, false, false, false] rfl rfl (any_of HT_.out (by kernel_rfl)) (fun _ _ _ h => h) (Or.inl ⟨by rfl, ?_⟩) ?_ ?_
                        rotate_left
                        · intro w'
                          go_simp
                          with_reducible rfl
                        rotate_left
                        · simp only [Act.put, List.setIfInBounds_toArray, List.set_cons_zero, List.set_cons_succ, i64_w, i32_w]
                          rfl
                        refine pure_ (i := 5) (N := some 52) (v := ?_) (a' := ?_) #[true, false, true, true, false, true, false, false, false, false, false, false, false] rfl rfl (any_of HT_.out (by kernel_rfl)) (fun _ _ _ h => h) (Or.inl ⟨by rfl, ?_⟩) ?_ ?_
                        rotate_left
                        · intro w'
                          go_simp
                          with_reducible rfl
                        rotate_left
                        · simp only [Act.put, List.setIfInBounds_toArray, List.set_cons_zero, List.set_cons_succ, i64_w, i32_w]
                          rfl
                        refine take_ (i := 1) (N := some 48) (v := ?_) (a' := ?_) #[true, true, true, true, false, true, false, false, false, false, false, false, false] rfl rfl (take_ofW HT_.out HW_.out (by kernel_rfl)) (fun _ _ _ h => h) (Or.inl ⟨by rfl, ?_⟩) hHeld ?_ ?_
                        rotate_left
                        · rintro w' ⟨s0, s1, s2, s3, s4⟩
                          go_simp
                          with_reducible rfl
                        rotate_left
                        · simp only [Act.put, List.setIfInBounds_toArray, List.set_cons_zero, List.set_cons_succ, i64_w, i32_w]
                          rfl
                        refine take_ (i := 4) (N := some 51) (v := ?_) (a' := ?_) #[true, true, true, true, true, true, false, false, false, false, false, false, false] rfl rfl (take_ofW HT_.out HW_.out (by kernel_rfl)) (fun _ _ _ h => h) (Or.inl ⟨by rfl, ?_⟩) hHeld ?_ ?_
                        rotate_left
                        · rintro w' ⟨s0, s1, s2, s3, s4⟩
                          go_simp
                          with_reducible rfl
                        rotate_left
                        · simp only [Act.put, List.setIfInBounds_toArray, List.set_cons_zero, List.set_cons_succ, i64_w, i32_w]
                          rfl
                        refine pure_ (i := 6) (N := some 53) (v := ?_) (a' := ?_) #[true, true, true, true, true, true, true, false, false, false, false, false, false] rfl rfl (any_of HT_.out (by kernel_rfl)) (fun _ _ _ h => h) (Or.inl ⟨by rfl, ?_⟩) ?_ ?_
                        rotate_left
                        · intro w'
                          go_simp
                          with_reducible rfl
                        rotate_left
                        · simp only [Act.put, List.setIfInBounds_toArray, List.set_cons_zero, List.set_cons_succ, i64_w, i32_w]
                          rfl
                        refine take_ (i := 7) (N := some 54) (v := ?_) (a' := ?_) #[true, true, true, true, true, true, true, true, false, false, false, false, false] rfl rfl (take_ofW HT_.out HW_.out (by kernel_rfl)) (fun _ _ _ h => h) (Or.inl ⟨by rfl, ?_⟩) hHeld ?_ ?_
                        rotate_left
                        · rintro w' ⟨s0, s1, s2, s3, s4⟩
                          go_simp
                          with_reducible rfl
                        rotate_left
                        · simp only [Act.put, List.setIfInBounds_toArray, List.set_cons_zero, List.set_cons_succ, i64_w, i32_w]
                          rfl
                        refine pure_ (i := 8) (N := some 55) (v := ?_) (a' := ?_) #[true, true, true, true, true, true, true, true, true, false, false, false, false] rfl rfl (any_of HT_.out (by kernel_rfl)) (fun _ _ _ h => h) (Or.inl ⟨by rfl, ?_⟩) ?_ ?_
                        rotate_left
                        · intro w'
                          go_simp
                          with_reducible rfl
                        rotate_left
                        · simp only [Act.put, List.setIfInBounds_toArray, List.set_cons_zero, List.set_cons_succ, i64_w, i32_w]
                          rfl
                        refine one_ (i := 9) (N := some 56) #[true, true, true, true, true, true, true, true, true, true, false, false, false] rfl rfl (one_of HT_.out (by kernel_rfl)) (by decide) (fun K hK => ?_)
                        refine value_ (w1 := ?_) (v := ?_) (by rfl) rfl ?_ ?_
                        rotate_left 2
                        · go_simp
                          constructor
                          · rfl
                          · rfl
                        refine hK.out _ _ ⟨(blk_cell (blk_alloc BK176.out _) 0).trans rfl, (blk_cell (blk_alloc BK176.out _) 1).trans rfl, (blk_cell (blk_alloc BK170.out _) 0).trans rfl, (blk_cell (blk_alloc BK170.out _) 1).trans rfl, (World.cell?_alloc_lt _ _ _ (World.block_lt_of_cell? _ _ (((HB.out.cell (World.block_lt_of_cell? w _ hw181_0)).trans hw181_0)))).trans (((HB.out.cell (World.block_lt_of_cell? w _ hw181_0)).trans hw181_0))⟩ (fun hHeld => ?_)
                        clear hK K
                        refine norm_ (a' := ?_) ?_ ?_
                        rotate_left
                        · show Act.put _ (some 56) _ = _
                          simp only [Act.put, List.setIfInBounds_toArray, List.set_cons_zero, List.set_cons_succ, i64_w, i32_w]
                          rfl
                        refine one_ (i := 10) (N := some 57) #[true, true, true, true, true, true, true, true, true, true, true, false, false] rfl rfl (one_of HT_.out (by kernel_rfl)) (by decide) (fun K hK => ?_)
                        refine Kd.R_append_step (Kd.int .i64) (w0 := w) w.heap.size (by rfl) (.tmp 48) (.tmp 56) 22 2 (.int .i64 0) 8 rfl Try.underlying22 info2 rfl (by decide) (by omega) u177001 x177001_2 (wrap64 (ji19 + (rd l0_1 x8_2))) [.int .i64 (wrap64 (ji19 + (rd l0_1 x8_2)))] (fun _ => True) (fun _ => False) rfl rfl ?aP (fun _ hk => hk.elim) ?aF ?aO ?aB ?aS ?aL ?_
                        (case aP => exact rfl)
                        (case aB => exact (by repeat (first | (with_reducible first | exact HB.out | apply below_alloc | apply pw_below_drewN | apply below_drew1 | refine below_set ?_ GE170.out | refine below_set ?_ GE171.out | refine below_set ?_ GE172.out | refine below_set ?_ GE176.out) | exact HB.out)))
                        (case aF => exact (fun _ _ => trivial))
                        (case aO => exact (by (with_reducible repeat (first | apply Kd.R_alloc | apply Kd.R_drewN | apply Kd.R_drew)); exact HO_177001.out))
                        (case aS => exact (below_size (by repeat (first | (with_reducible first | exact HB.out | apply below_alloc | apply pw_below_drewN | apply below_drew1 | refine below_set ?_ GE170.out | refine below_set ?_ GE171.out | refine below_set ?_ GE172.out | refine below_set ?_ GE176.out) | exact HB.out))))
                        (case aL => have := LMc34.out; omega)
                        intro v183 w40 ho hb hg hat
                        rw [← Ny182.out] at ho
                        have n0_ := Aside0.mk (blk_grown (g := gb170) (o := .cells #[.int .i64 a0_0, .slice (some ad181) l0_1.length c0_1] 26 (0, 0)) (by (with_reducible repeat (first | refine blk_drewN ?_ _ | refine blk_drew ?_ | refine blk_alloc ?_ _)); exact BK170.out) hg (Kd.R_ne HO_177001.out BK170.out (by decide)))
                        have n1_ := Aside0.mk (blk_grown (g := gb171) (o := .cells #[.int .i64 a1_0, .slice (some ad177) l1_1.length c1_1] 26 (0, 0)) (by (with_reducible repeat (first | refine blk_drewN ?_ _ | refine blk_drew ?_ | refine blk_alloc ?_ _)); exact BK171.out) hg (Kd.R_ne HO_177001.out BK171.out (by decide)))
                        have n2_ := Aside0.mk (blk_grown (g := gb172) (o := .cells #[.int .i64 0, .slice none 0 0] 26 (0, 0)) (by (with_reducible repeat (first | refine blk_drewN ?_ _ | refine blk_drew ?_ | refine blk_alloc ?_ _)); exact BK172.out) hg (Kd.R_ne HO_177001.out BK172.out (by decide)))
                        have n3_ := Aside0.mk (blk_grown (g := gb176) (o := .cells #[.int .i64 (wrap64 (a0_0 + a1_0)), u177001] 26 (0, 0)) (by (with_reducible repeat (first | refine blk_drewN ?_ _ | refine blk_drew ?_ | refine blk_alloc ?_ _)); exact BK176.out) hg (Kd.R_ne HO_177001.out BK176.out (by decide)))
                        have n4_ := Aside0.mk (hb)
                        have n5_ := Aside0.mk (ho)
                        clear BK170
                        clear BK171
                        clear BK172
                        clear BK176
                        clear HB
                        clear HO_177001
                        have BK170 := n0_
                        have BK171 := n1_
                        have BK172 := n2_
                        have BK176 := n3_
                        have HB := n4_
                        have HO184 := n5_
                        clear n0_ n1_ n2_ n3_ n4_ n5_
                        clear ho hb hg hat
                        obtain ⟨Ao41, co41, eo41⟩ := Kd.R_slice HO184.out
                        (first | subst eo41 | (injection eo41 with f1_ f2_ f3_; have f4_ := f1_.symm; have f5_ := f3_.symm; clear f1_ f2_ f3_; subst f4_; subst f5_))
                        refine hK.out _ _ ⟨(blk_cell BK176.out 0).trans rfl, (blk_cell BK176.out 1).trans rfl, (blk_cell BK170.out 0).trans rfl, (blk_cell BK170.out 1).trans rfl, ((HB.out.cell (World.block_lt_of_cell? w _ hw181_0)).trans hw181_0)⟩ (fun hHeld => ?_)
                        clear hK K
                        refine norm_ (a' := ?_) ?_ ?_
                        rotate_left
                        · show Act.put _ (some 57) _ = _
                          simp only [Act.put, List.setIfInBounds_toArray, List.set_cons_zero, List.set_cons_succ, i64_w, i32_w]
                          rfl
                        refine pure_ (i := 11) (N := some 58) (v := ?_) (a' := ?_) #[true, true, true, true, true, true, true, true, true, true, true, true, false] rfl rfl (any_of HT_.out (by kernel_rfl)) (fun _ _ _ h => h) (Or.inl ⟨by rfl, ?_⟩) ?_ ?_
                        rotate_left
                        · intro w'
                          go_simp
                          with_reducible rfl
                        rotate_left
                        · simp only [Act.put, List.setIfInBounds_toArray, List.set_cons_zero, List.set_cons_succ, i64_w, i32_w]
                          rfl
                        refine last_ (i := 12) (N := none) #[true, true, true, true, true, true, true, true, true, true, true, true, true] rfl rfl (one_of HT_.out (by kernel_rfl)) (by decide) (fun K hK => ?_)
                        have hs42 : w40.cell? ⟨gb176, 1, none⟩ = some (u177001) := (blk_cell BK176.out 1).trans rfl
                        have hfs42 := blk_frozen BK176.out 1
                        have hns42_0 := NB170_176.out
                        have hns42_1 := NB171_176.out
                        have hns42_2 := NB172_176.out
                        have hms42_0 := NB176_170.out
                        have hms42_1 := NB176_171.out
                        have hms42_2 := NB176_172.out
                        refine skip_ (w1 := ?_) (by rfl) rfl ?_ ?_
                        rotate_left
                        · go_simp
                          rfl
                        refine hK.out _ _ ?_
                        clear hK K
                        refine done_ (done_of HT_.out (by kernel_rfl)) ?_
                        try go_wp2
                        go_roundg k2
                        case measure => have := HK1.out; have := HK2.out; omega
                        case rel => exact ⟨(wrap64 (x8_2 + 1)), (y182), (.slice Ao41 y182.length co41), (by first | rfl | (simp; done) | (simp [*]; done)), H', ⟨by have := HK1.out; have := HK2.out; omega⟩, ⟨by (with_reducible repeat (first | apply Kd.R_alloc | apply Kd.R_drewN | apply Kd.R_drew)); exact Kd.R_mono (Kd.R_far (p := ⟨gb176, 1, none⟩) (Kd.R_types HO184.out BK176.out (by decide)) (fun _ hk => hk.2) (.slice Ao41 y182.length co41)) (fun _ hk => trivial)⟩, ⟨by (with_reducible repeat (first | refine blk_drewN ?_ _ | refine blk_drew ?_ | refine blk_alloc ?_ _)); refine blk_far ?_ NB170_176.out _; (with_reducible repeat (first | refine blk_drewN ?_ _ | refine blk_drew ?_ | refine blk_alloc ?_ _)); exact BK170.out⟩, ⟨by (with_reducible repeat (first | refine blk_drewN ?_ _ | refine blk_drew ?_ | refine blk_alloc ?_ _)); refine blk_far ?_ NB171_176.out _; (with_reducible repeat (first | refine blk_drewN ?_ _ | refine blk_drew ?_ | refine blk_alloc ?_ _)); exact BK171.out⟩, ⟨by (with_reducible repeat (first | refine blk_drewN ?_ _ | refine blk_drew ?_ | refine blk_alloc ?_ _)); refine blk_far ?_ NB172_176.out _; (with_reducible repeat (first | refine blk_drewN ?_ _ | refine blk_drew ?_ | refine blk_alloc ?_ _)); exact BK172.out⟩, ⟨by (with_reducible repeat (first | refine blk_drewN ?_ _ | refine blk_drew ?_ | refine blk_alloc ?_ _)); refine blk_put (cs := #[.int .i64 (wrap64 (a0_0 + a1_0)), u177001]) ?_ 1 _ rfl; (with_reducible repeat (first | refine blk_drewN ?_ _ | refine blk_drew ?_ | refine blk_alloc ?_ _)); exact BK176.out⟩, ⟨by repeat (first | (with_reducible first | exact HB.out | apply below_alloc | apply pw_below_drewN | apply below_drew1 | refine below_set ?_ GE170.out | refine below_set ?_ GE171.out | refine below_set ?_ GE172.out | refine below_set ?_ GE176.out) | exact HB.out)⟩⟩
                      · rw [if_neg c34] at H
                        exact absurd H (by simp)
                    · rw [if_neg c33] at H
                      exact absurd H (by simp)
                  · rw [if_neg c32] at H
                    have c32b0 : decide (x8_2 < (l0_1.length : Int)) = false := decide_eq_false c32
                    clear c32
                    have H' := Aside0.mk H
                    clear H
                    have hnb43 := NB170_171.out
                    have hnc43 := NB171_170.out
                    have hnb44 := NB170_172.out
                    have hnc44 := NB172_170.out
                    have hnb45 := NB170_176.out
                    have hnc45 := NB176_170.out
                    have hcz46_0 : wr.cell? ⟨gb170, 0, none⟩ = some (.int .i64 a0_0) := (blk_cell BK170.out 0).trans rfl
                    have hcz46_1 : wr.cell? ⟨gb170, 1, none⟩ = some (.slice A0_1 l0_1.length c0_1) := (blk_cell BK170.out 1).trans rfl
                    have hfz46_0 := blk_frozen BK170.out 0
                    have hfz46_1 := blk_frozen BK170.out 1
                    go_wp2
                    go_roundg k2
                    case measure => have := HK1.out; have := HK2.out; omega
                    case rel => exact ⟨(wrap64 (x6_1 + 1)), (x177001_2), (u177001), (by first | rfl | (simp; done) | (simp [*]; done)), H', ⟨by have := HK1.out; have := HK2.out; omega⟩, ⟨by (with_reducible repeat (first | apply Kd.R_alloc | apply Kd.R_drewN | apply Kd.R_drew)); exact HO_177001.out⟩, ⟨by (with_reducible repeat (first | refine blk_drewN ?_ _ | refine blk_drew ?_ | refine blk_alloc ?_ _)); exact BK170.out⟩, ⟨by (with_reducible repeat (first | refine blk_drewN ?_ _ | refine blk_drew ?_ | refine blk_alloc ?_ _)); exact BK171.out⟩, ⟨by (with_reducible repeat (first | refine blk_drewN ?_ _ | refine blk_drew ?_ | refine blk_alloc ?_ _)); exact BK172.out⟩, ⟨by (with_reducible repeat (first | refine blk_drewN ?_ _ | refine blk_drew ?_ | refine blk_alloc ?_ _)); exact BK176.out⟩, ⟨by repeat (first | (with_reducible first | exact HB.out | apply below_alloc | apply pw_below_drewN | apply below_drew1 | refine below_set ?_ GE170.out | refine below_set ?_ GE171.out | refine below_set ?_ GE172.out | refine below_set ?_ GE176.out) | exact HB.out)⟩⟩
            · rw [if_neg c20] at H
              exact absurd H (by simp)
          · rw [if_neg c18] at H
            exact absurd H (by simp)
        · rw [if_neg c16] at H
          exact absurd H (by simp)
      · rw [if_neg c15] at H
        have c15b0 : decide (x6_1 < (l1_1.length : Int)) = false := decide_eq_false c15
        clear c15
        simp only [Option.some.injEq, Prod.mk.injEq] at H
        obtain ⟨rfl, rfl⟩ := H
        have hnb47 := NB171_170.out
        have hnc47 := NB170_171.out
        have hnb48 := NB171_172.out
        have hnc48 := NB172_171.out
        have hnb49 := NB171_176.out
        have hnc49 := NB176_171.out
        have hcz50_0 : wr.cell? ⟨gb171, 0, none⟩ = some (.int .i64 a1_0) := (blk_cell BK171.out 0).trans rfl
        have hcz50_1 : wr.cell? ⟨gb171, 1, none⟩ = some (.slice A1_1 l1_1.length c1_1) := (blk_cell BK171.out 1).trans rfl
        have hfz50_0 := blk_frozen BK171.out 0
        have hfz50_1 := blk_frozen BK171.out 1
        have hnb51 := NB176_170.out
        have hnc51 := NB170_176.out
        have hnb52 := NB176_172.out
        have hnc52 := NB172_176.out
        have hcz53_0 : wr.cell? ⟨gb176, 0, none⟩ = some (.int .i64 (wrap64 (a0_0 + a1_0))) := (blk_cell BK176.out 0).trans rfl
        have hcz53_1 : wr.cell? ⟨gb176, 1, none⟩ = some (u177001) := (blk_cell BK176.out 1).trans rfl
        have hfz53_0 := blk_frozen BK176.out 0
        have hfz53_1 := blk_frozen BK176.out 1
        have hnb54 := NB172_170.out
        have hnc54 := NB170_172.out
        have hcz55_0 : wr.cell? ⟨gb172, 0, none⟩ = some (.int .i64 0) := (blk_cell BK172.out 0).trans rfl
        have hcz55_1 : wr.cell? ⟨gb172, 1, none⟩ = some (.slice none 0 0) := (blk_cell BK172.out 1).trans rfl
        have hfz55_0 := blk_frozen BK172.out 0
        have hfz55_1 := blk_frozen BK172.out 1
        obtain ⟨Ao56, co56, eo56⟩ := Kd.R_slice HO_177001.out
        subst eo56
        go_wp2
        refine bodyPost_ret (results_cell_row rfl _ _ gb172 26 #[.int .i64 (wrap64 (a0_0 + a1_0)), .slice Ao56 x177001_1.length co56] (0, 0) _ rfl (by (with_reducible repeat (first | refine blk_drewN ?_ _ | refine blk_drew ?_ | refine blk_alloc ?_ _)); refine blk_put (cs := #[.int .i64 (wrap64 (a0_0 + a1_0)), .slice none 0 0]) ?_ 1 _ rfl; (with_reducible repeat (first | refine blk_drewN ?_ _ | refine blk_drew ?_ | refine blk_alloc ?_ _)); refine blk_put (cs := #[.int .i64 0, .slice none 0 0]) ?_ 0 _ rfl; (with_reducible repeat (first | refine blk_drewN ?_ _ | refine blk_drew ?_ | refine blk_alloc ?_ _)); exact BK172.out) Try.underlying26 rfl (by kernel_rfl)) rfl ?_
        exact ⟨_, by first | rfl | (simp [errW_none, errW_some] <;> rfl) | (simp [*, errW_none, errW_some] <;> rfl), by (with_reducible repeat (first | apply Kd.R_alloc | apply Kd.R_drewN | apply Kd.R_drew)); exact Kd.R_mono (Kd.R_far (p := ⟨gb172, 1, none⟩) (Kd.R_far (p := ⟨gb172, 0, none⟩) (Kd.R_types HO_177001.out BK172.out (by decide)) (fun _ hk => hk.2) (.int .i64 (wrap64 (a0_0 + a1_0)))) (fun _ hk => hk.2) (.slice Ao56 x177001_1.length co56)) (fun _ hk => trivial), by repeat (first | (with_reducible first | exact HB.out | apply below_alloc | apply pw_below_drewN | apply below_drew1 | refine below_set ?_ GE170.out | refine below_set ?_ GE171.out | refine below_set ?_ GE172.out | refine below_set ?_ GE176.out) | exact HB.out)⟩

end Go.Proofs.Ytjoggjgmpoaaiaa.Q
end

section
/- Written by a program of this session (myprint.py over the kit's print). -/
namespace Go.Proofs.Ytjoggjgmpoaaiaa.Q
open Go.RowKit Go.Proofs.YtjoggjgmpoaaiaaW.PrintWords Go.Proofs.YtjoggjgmpoaaiaaW.PrintLast Go.Proofs.YtjoggjgmpoaaiaaW.PrintMore
attribute [local go_sem] max2_int min2_int max_two min_two max_three min_three max_four min_four   -- for this text's walks alone
set_option linter.unusedVariables false
set_option linter.unusedSimpArgs false

/-! ### spec_JoinOf: function 17 -/
def spec_JoinOf.j0 : Nat → Bool → Int → List Int → Int → List Int → Option (Int × List Int × Int)
  | 0, _, _, _, _, _ => none
  | k + 1, x6, x186000, x186001, x187000, x187001 => if x6 = true then (some (0, ([] : List Int), 1)) else (if (wrap64 (x186000 + x187000)) > 6 then (some (0, ([] : List Int), 3)) else ((spec_l01Join.f k x186000 x186001 x187000 x187001).bind fun bt190 => (some (bt190.1, bt190.2, 0))))
def spec_JoinOf.f (k : Nat) (a0_0 : Int) (l0_1 : List Int) (a1_0 : Int) (l1_1 : List Int) : Option (Int × List Int × Int) := (spec_l01Is.f k a0_0 l0_1).bind fun t188 => (if t188 = true then ((spec_l01Is.f k a1_0 l1_1).bind fun t189 => (spec_JoinOf.j0 k (!t189) a0_0 l0_1 a1_0 l1_1)) else (spec_JoinOf.j0 k true a0_0 l0_1 a1_0 l1_1))
theorem spec_JoinOf.mono_l : ∀ k, (∀ y0 y1 y2 y3 y4, LeO (spec_JoinOf.j0 k y0 y1 y2 y3 y4) (spec_JoinOf.j0 (k + 1) y0 y1 y2 y3 y4))
  | 0 => fun _ _ _ _ _ r h => by simp [spec_JoinOf.j0] at h
  | k + 1 => by
    have ih0 := spec_JoinOf.mono_l k
    · intro y0 y1 y2 y3 y4
      unfold spec_JoinOf.j0
      repeat' first
      | (with_reducible exact ih0 _ _ _ _ _)
      | (with_reducible exact spec_l01Is.mono _ _ _)
      | (with_reducible exact spec_l01Join.mono _ _ _ _ _)
      | (with_reducible exact LeO.refl _)
      | (with_reducible exact LeO.none _)
      | (with_reducible refine LeO.ite ?_ ?_)
      | (with_reducible refine LeO.bind ?_ (fun _ => ?_))
      | exact ih0 _ _ _ _ _
      | exact spec_l01Is.mono _ _ _
      | exact spec_l01Join.mono _ _ _ _ _
      | exact LeO.none _
      | refine LeO.ite ?_ ?_
      | refine LeO.bind ?_ (fun _ => ?_)
theorem spec_JoinOf.mono : ∀ a0 a1 a2 a3 k, LeO (spec_JoinOf.f k a0 a1 a2 a3) (spec_JoinOf.f (k + 1) a0 a1 a2 a3) := by
  intro a0 a1 a2 a3 k
  have ih0 := spec_JoinOf.mono_l k
  unfold spec_JoinOf.f
  repeat' first
      | (with_reducible exact ih0 _ _ _ _ _)
      | (with_reducible exact spec_l01Is.mono _ _ _)
      | (with_reducible exact spec_l01Join.mono _ _ _ _ _)
      | (with_reducible exact LeO.refl _)
      | (with_reducible exact LeO.none _)
      | (with_reducible refine LeO.ite ?_ ?_)
      | (with_reducible refine LeO.bind ?_ (fun _ => ?_))
      | exact ih0 _ _ _ _ _
      | exact spec_l01Is.mono _ _ _
      | exact spec_l01Join.mono _ _ _ _ _
      | exact LeO.none _
      | refine LeO.ite ?_ ?_
      | refine LeO.bind ?_ (fun _ => ?_)
set_option maxHeartbeats 8000000 in
set_option maxRecDepth 100000 in
theorem spec_JoinOf.calls (k : Nat) (a0_0 : Int) (A0_1 : Option Addr) (c0_1 : Nat) (l0_1 : List Int) (a1_0 : Int) (A1_1 : Option Addr) (c1_1 : Nat) (l1_1 : List Int) (r1 : Int) (r2 : List Int) (r3 : Int) (w : World) (hr0_1 : Kd.C (Kd.int .i64) w A0_1 l0_1.length l0_1) (hc0_1 : l0_1.length ≤ c0_1) (hr1_1 : Kd.C (Kd.int .i64) w A1_1 l1_1.length l1_1) (hc1_1 : l1_1.length ≤ c1_1) (h : spec_JoinOf.f k a0_0 l0_1 a1_0 l1_1 = some (r1, r2, r3)) :
    Calls Try.prog 17 #[.agg #[.int .i64 a0_0, .slice A0_1 l0_1.length c0_1], .agg #[.int .i64 a1_0, .slice A1_1 l1_1.length c1_1]] w fun e w' => ∃ v1_ : Value, e = .returned (.tuple #[.agg #[.int .i64 r1, v1_], .int .i64 r3]) ∧ Kd.R (Kd.int .i64) 2 w' w.heap.size (fun _ => True) v1_ r2 ∧ Below w.heap.size w w' := by
  have hu26 := Try.underlying26
  have HR0_1 := Aside0.mk hr0_1
  have HC0_1 := Aside0.mk hc0_1
  clear hr0_1 hc0_1
  have HR1_1 := Aside0.mk hr1_1
  have HC1_1 := Aside0.mk hc1_1
  clear hr1_1 hc1_1
  have HB := Aside0.mk (Below.refl w.heap.size w)
  have H : ((spec_l01Is.f k a0_0 l0_1).bind fun t188 => (if t188 = true then ((spec_l01Is.f k a1_0 l1_1).bind fun t189 => (spec_JoinOf.j0 k (!t189) a0_0 l0_1 a1_0 l1_1)) else (spec_JoinOf.j0 k true a0_0 l0_1 a1_0 l1_1))) = some (r1, r2, r3) := h
  clear h
  have HC3 := Aside0.mk H
  clear H
  go_enter Try.func17, Try.ntmps17
  go_upto_region 1 with (first | ((with_reducible refine gate_dst (N := 2) rfl ?_); refine box_event ?hg (N := 2) ?hd (cs := #[.int .i64 a0_0, .slice A0_1 l0_1.length c0_1]) (t := 26) ?hr ?_; (case hd => rfl); (case hg => rfl); (case hr => first | (go_simp; done) | (go_simp; rfl)); intro gb185 hg w4 hbox hb; have n0_ := Aside0.mk (below_step (by repeat (first | (with_reducible first | exact HB.out | apply below_alloc | apply pw_below_drewN | apply below_drew1) | exact HB.out)) hb); have n1_ := Aside0.mk (hbox); have n2_ := Aside0.mk ((by rw [hg]; exact (below_size (by repeat (first | (with_reducible first | exact HB.out | apply below_alloc | apply pw_below_drewN | apply below_drew1) | exact HB.out))) : w.heap.size ≤ gb185)); have n3_ := Aside0.mk ((by rw [hg]; exact (below_size (by repeat (first | (with_reducible first | exact HB.out | apply below_alloc | apply pw_below_drewN | apply below_drew1) | exact HB.out))) : w.heap.size ≤ gb185)); clear HB; have HB := n0_; have BK185 := n1_; have GW185 := n2_; have GE185 := n3_; clear n0_ n1_ n2_ n3_; clear hb hbox hg) | ((with_reducible refine gate_dst (N := 3) rfl ?_); refine box_event ?hg (N := 3) ?hd (cs := #[.int .i64 a1_0, .slice A1_1 l1_1.length c1_1]) (t := 26) ?hr ?_; (case hd => rfl); (case hg => rfl); (case hr => first | (go_simp; done) | (go_simp; rfl)); intro gb186 hg w5 hbox hb; have n0_ := Aside0.mk (blk_below (g := gb185) (o := .cells #[.int .i64 a0_0, .slice A0_1 l0_1.length c0_1] 26 (0, 0)) (by (with_reducible repeat (first | refine blk_drewN ?_ _ | refine blk_drew ?_ | refine blk_alloc ?_ _)); exact BK185.out) hb); have n1_ := Aside0.mk (below_step (by repeat (first | (with_reducible first | exact HB.out | apply below_alloc | apply pw_below_drewN | apply below_drew1 | refine below_set ?_ GE185.out) | exact HB.out)) hb); have n2_ := Aside0.mk (hbox); have n3_ := Aside0.mk ((by rw [hg]; exact (below_size (by repeat (first | (with_reducible first | exact HB.out | apply below_alloc | apply pw_below_drewN | apply below_drew1 | refine below_set ?_ GE185.out) | exact HB.out))) : w.heap.size ≤ gb186)); have n4_ := Aside0.mk ((by rw [hg]; exact (below_size (by repeat (first | (with_reducible first | exact HB.out | apply below_alloc | apply pw_below_drewN | apply below_drew1 | refine below_set ?_ GE185.out) | exact HB.out))) : w.heap.size ≤ gb186)); have n5_ := Aside0.mk ((by rw [hg]; exact Nat.ne_of_lt (blk_lt (g := gb185) (o := .cells #[.int .i64 a0_0, .slice A0_1 l0_1.length c0_1] 26 (0, 0)) (by (with_reducible repeat (first | refine blk_drewN ?_ _ | refine blk_drew ?_ | refine blk_alloc ?_ _)); exact BK185.out)) : gb185 ≠ gb186)); have n6_ := Aside0.mk ((by rw [hg]; exact Nat.ne_of_gt (blk_lt (g := gb185) (o := .cells #[.int .i64 a0_0, .slice A0_1 l0_1.length c0_1] 26 (0, 0)) (by (with_reducible repeat (first | refine blk_drewN ?_ _ | refine blk_drew ?_ | refine blk_alloc ?_ _)); exact BK185.out)) : gb186 ≠ gb185)); clear BK185; clear HB; have BK185 := n0_; have HB := n1_; have BK186 := n2_; have GW186 := n3_; have GE186 := n4_; have NB185_186 := n5_; have NB186_185 := n6_; clear n0_ n1_ n2_ n3_ n4_ n5_ n6_; clear hb hbox hg) | ((with_reducible refine gate_dst (N := 4) rfl ?_); refine box_event ?hg (N := 4) ?hd (cs := #[.int .i64 0, .slice none 0 0]) (t := 26) ?hr ?_; (case hd => rfl); (case hg => rfl); (case hr => first | (go_simp; done) | (go_simp; rfl)); intro gb187 hg w6 hbox hb; have n0_ := Aside0.mk (blk_below (g := gb185) (o := .cells #[.int .i64 a0_0, .slice A0_1 l0_1.length c0_1] 26 (0, 0)) (by (with_reducible repeat (first | refine blk_drewN ?_ _ | refine blk_drew ?_ | refine blk_alloc ?_ _)); exact BK185.out) hb); have n1_ := Aside0.mk (blk_below (g := gb186) (o := .cells #[.int .i64 a1_0, .slice A1_1 l1_1.length c1_1] 26 (0, 0)) (by (with_reducible repeat (first | refine blk_drewN ?_ _ | refine blk_drew ?_ | refine blk_alloc ?_ _)); exact BK186.out) hb); have n2_ := Aside0.mk (below_step (by repeat (first | (with_reducible first | exact HB.out | apply below_alloc | apply pw_below_drewN | apply below_drew1 | refine below_set ?_ GE185.out | refine below_set ?_ GE186.out) | exact HB.out)) hb); have n3_ := Aside0.mk (hbox); have n4_ := Aside0.mk ((by rw [hg]; exact (below_size (by repeat (first | (with_reducible first | exact HB.out | apply below_alloc | apply pw_below_drewN | apply below_drew1 | refine below_set ?_ GE185.out | refine below_set ?_ GE186.out) | exact HB.out))) : w.heap.size ≤ gb187)); have n5_ := Aside0.mk ((by rw [hg]; exact (below_size (by repeat (first | (with_reducible first | exact HB.out | apply below_alloc | apply pw_below_drewN | apply below_drew1 | refine below_set ?_ GE185.out | refine below_set ?_ GE186.out) | exact HB.out))) : w.heap.size ≤ gb187)); have n6_ := Aside0.mk ((by rw [hg]; exact Nat.ne_of_lt (blk_lt (g := gb185) (o := .cells #[.int .i64 a0_0, .slice A0_1 l0_1.length c0_1] 26 (0, 0)) (by (with_reducible repeat (first | refine blk_drewN ?_ _ | refine blk_drew ?_ | refine blk_alloc ?_ _)); exact BK185.out)) : gb185 ≠ gb187)); have n7_ := Aside0.mk ((by rw [hg]; exact Nat.ne_of_gt (blk_lt (g := gb185) (o := .cells #[.int .i64 a0_0, .slice A0_1 l0_1.length c0_1] 26 (0, 0)) (by (with_reducible repeat (first | refine blk_drewN ?_ _ | refine blk_drew ?_ | refine blk_alloc ?_ _)); exact BK185.out)) : gb187 ≠ gb185)); have n8_ := Aside0.mk ((by rw [hg]; exact Nat.ne_of_lt (blk_lt (g := gb186) (o := .cells #[.int .i64 a1_0, .slice A1_1 l1_1.length c1_1] 26 (0, 0)) (by (with_reducible repeat (first | refine blk_drewN ?_ _ | refine blk_drew ?_ | refine blk_alloc ?_ _)); exact BK186.out)) : gb186 ≠ gb187)); have n9_ := Aside0.mk ((by rw [hg]; exact Nat.ne_of_gt (blk_lt (g := gb186) (o := .cells #[.int .i64 a1_0, .slice A1_1 l1_1.length c1_1] 26 (0, 0)) (by (with_reducible repeat (first | refine blk_drewN ?_ _ | refine blk_drew ?_ | refine blk_alloc ?_ _)); exact BK186.out)) : gb187 ≠ gb186)); clear BK185; clear BK186; clear HB; have BK185 := n0_; have BK186 := n1_; have HB := n2_; have BK187 := n3_; have GW187 := n4_; have GE187 := n5_; have NB185_187 := n6_; have NB187_185 := n7_; have NB186_187 := n8_; have NB187_186 := n9_; clear n0_ n1_ n2_ n3_ n4_ n5_ n6_ n7_ n8_ n9_; clear hb hbox hg))
  (try simp only [Act.put, List.setIfInBounds_toArray, List.set_cons_zero, List.set_cons_succ])
  go_cut [6] (fun v6 wc => ∃ (kq : Nat) (x6_2 : Bool), v6 = .bool x6_2 ∧ Aside0 (spec_JoinOf.j0 kq x6_2 a0_0 l0_1 a1_0 l1_1 = some (r1, r2, r3)) ∧ Aside0 (kq ≤ k) ∧ Aside0 (wc.heap[gb185]? = some (.cells #[.int .i64 a0_0, (.slice A0_1 l0_1.length c0_1)] 26 (0, 0))) ∧ Aside0 (wc.heap[gb186]? = some (.cells #[.int .i64 a1_0, (.slice A1_1 l1_1.length c1_1)] 26 (0, 0))) ∧ Aside0 (wc.heap[gb187]? = some (.cells #[.int .i64 0, (.slice none 0 0)] 26 (0, 0))) ∧ Aside0 (Below w.heap.size w wc))
  case first =>
    have H := HC3.out
    clear HC3
    replace H := Option.bind_eq_some_iff.mp H
    obtain ⟨t188, A70, H⟩ := H
    replace H : (if t188 = true then ((spec_l01Is.f k a1_0 l1_1).bind fun t189 => (spec_JoinOf.j0 k (!t189) a0_0 l0_1 a1_0 l1_1)) else (spec_JoinOf.j0 k true a0_0 l0_1 a1_0 l1_1)) = some (r1, r2, r3) := H
    have A7 := Aside0.mk A70
    clear A70
    by_cases c8 : t188 = true
    · subst c8
      have H1 : ((spec_l01Is.f k a1_0 l1_1).bind fun t189 => (spec_JoinOf.j0 k (!t189) a0_0 l0_1 a1_0 l1_1)) = some (r1, r2, r3) := by rw [if_pos rfl] at H; exact H
      clear H
      have H := H1
      clear H1
      replace H := Option.bind_eq_some_iff.mp H
      obtain ⟨t189, A90, H⟩ := H
      replace H : (spec_JoinOf.j0 k (!t189) a0_0 l0_1 a1_0 l1_1) = some (r1, r2, r3) := H
      have A9 := Aside0.mk A90
      clear A90
      have H' := Aside0.mk H
      clear H
      have hnb10 := NB185_186.out
      have hnc10 := NB186_185.out
      have hnb11 := NB185_187.out
      have hnc11 := NB187_185.out
      have hcz12_0 : w6.cell? ⟨gb185, 0, none⟩ = some (.int .i64 a0_0) := (blk_cell BK185.out 0).trans rfl
      have hcz12_1 : w6.cell? ⟨gb185, 1, none⟩ = some (.slice A0_1 l0_1.length c0_1) := (blk_cell BK185.out 1).trans rfl
      have hfz12_0 := blk_frozen BK185.out 0
      have hfz12_1 := blk_frozen BK185.out 1
      go_wp2_with (first | ((with_reducible refine gate_callee (f := 24) rfl ?_); refine goesL_ (some 8) rfl rfl Try.func24 (by kernel_rfl) rfl #[.agg #[.int .i64 a0_0, .slice A0_1 l0_1.length c0_1]] rfl (by (try simp only [List.map_toArray, List.map_cons, List.map_nil]); first | done | rfl | (simp only [List.length_drop, List.length_take]; rfl)) ?_; (with_reducible refine (spec_l01Is.calls k a0_0 _ _ l0_1 true _ ?side1 ?side2 A7.out).mono ?_); (case side1 => repeat (first | exact (Kd.C_below HR0_1.out HB.out) | (with_reducible refine Kd.C_alloc ?_ _) | (with_reducible refine Kd.C_drewN ?_ _) | (with_reducible refine Kd.C_drew ?_))); (case side2 => exact HC0_1.out); rintro e w13 ⟨rfl, hb⟩; refine ⟨_, rfl, ?_⟩; have n0_ := Aside0.mk (blk_below (g := gb185) (o := .cells #[.int .i64 a0_0, .slice A0_1 l0_1.length c0_1] 26 (0, 0)) (by (with_reducible repeat (first | refine blk_drewN ?_ _ | refine blk_drew ?_ | refine blk_alloc ?_ _)); exact BK185.out) hb); have n1_ := Aside0.mk (blk_below (g := gb186) (o := .cells #[.int .i64 a1_0, .slice A1_1 l1_1.length c1_1] 26 (0, 0)) (by (with_reducible repeat (first | refine blk_drewN ?_ _ | refine blk_drew ?_ | refine blk_alloc ?_ _)); exact BK186.out) hb); have n2_ := Aside0.mk (blk_below (g := gb187) (o := .cells #[.int .i64 0, .slice none 0 0] 26 (0, 0)) (by (with_reducible repeat (first | refine blk_drewN ?_ _ | refine blk_drew ?_ | refine blk_alloc ?_ _)); exact BK187.out) hb); have n3_ := Aside0.mk (below_step (by repeat (first | (with_reducible first | exact HB.out | apply below_alloc | apply pw_below_drewN | apply below_drew1 | refine below_set ?_ GE185.out | refine below_set ?_ GE186.out | refine below_set ?_ GE187.out) | exact HB.out)) hb); clear BK185; clear BK186; clear BK187; clear HB; have BK185 := n0_; have BK186 := n1_; have BK187 := n2_; have HB := n3_; clear n0_ n1_ n2_ n3_; (try clear hb); (try clear hb2); (try clear hk); (try clear hi); have hnb14 := NB186_187.out; have hnc14 := NB187_186.out; have hcz15_0 : w13.cell? ⟨gb186, 0, none⟩ = some (.int .i64 a1_0) := (blk_cell BK186.out 0).trans rfl; have hcz15_1 : w13.cell? ⟨gb186, 1, none⟩ = some (.slice A1_1 l1_1.length c1_1) := (blk_cell BK186.out 1).trans rfl; have hfz15_0 := blk_frozen BK186.out 0; have hfz15_1 := blk_frozen BK186.out 1) | (go_at_call 24; (with_reducible refine (spec_l01Is.calls k a1_0 _ _ l1_1 t189 _ ?side1 ?side2 A9.out).mono ?_); (case side1 => repeat (first | exact (Kd.C_below HR1_1.out HB.out) | (with_reducible refine Kd.C_alloc ?_ _) | (with_reducible refine Kd.C_drewN ?_ _) | (with_reducible refine Kd.C_drew ?_))); (case side2 => exact HC1_1.out); rintro e w16 ⟨rfl, hb⟩; have n0_ := Aside0.mk (blk_below (g := gb185) (o := .cells #[.int .i64 a0_0, .slice A0_1 l0_1.length c0_1] 26 (0, 0)) (by (with_reducible repeat (first | refine blk_drewN ?_ _ | refine blk_drew ?_ | refine blk_alloc ?_ _)); exact BK185.out) hb); have n1_ := Aside0.mk (blk_below (g := gb186) (o := .cells #[.int .i64 a1_0, .slice A1_1 l1_1.length c1_1] 26 (0, 0)) (by (with_reducible repeat (first | refine blk_drewN ?_ _ | refine blk_drew ?_ | refine blk_alloc ?_ _)); exact BK186.out) hb); have n2_ := Aside0.mk (blk_below (g := gb187) (o := .cells #[.int .i64 0, .slice none 0 0] 26 (0, 0)) (by (with_reducible repeat (first | refine blk_drewN ?_ _ | refine blk_drew ?_ | refine blk_alloc ?_ _)); exact BK187.out) hb); have n3_ := Aside0.mk (below_step (by repeat (first | (with_reducible first | exact HB.out | apply below_alloc | apply pw_below_drewN | apply below_drew1 | refine below_set ?_ GE185.out | refine below_set ?_ GE186.out | refine below_set ?_ GE187.out) | exact HB.out)) hb); clear BK185; clear BK186; clear BK187; clear HB; have BK185 := n0_; have BK186 := n1_; have BK187 := n2_; have HB := n3_; clear n0_ n1_ n2_ n3_; (try clear hb); (try clear hb2); (try clear hk); (try clear hi)))
      go_meet
      case rel => exact ⟨_, (!t189), (by first | rfl | (simp; done) | (simp [*]; done)), H', ⟨by first | omega | exact Nat.le_refl _⟩, ⟨by (with_reducible repeat (first | refine blk_drewN ?_ _ | refine blk_drew ?_ | refine blk_alloc ?_ _)); exact BK185.out⟩, ⟨by (with_reducible repeat (first | refine blk_drewN ?_ _ | refine blk_drew ?_ | refine blk_alloc ?_ _)); exact BK186.out⟩, ⟨by (with_reducible repeat (first | refine blk_drewN ?_ _ | refine blk_drew ?_ | refine blk_alloc ?_ _)); exact BK187.out⟩, ⟨by repeat (first | (with_reducible first | exact HB.out | apply below_alloc | apply pw_below_drewN | apply below_drew1 | refine below_set ?_ GE185.out | refine below_set ?_ GE186.out | refine below_set ?_ GE187.out) | exact HB.out)⟩⟩
    · replace c8 := Bool.eq_false_iff.mpr c8
      subst c8
      have H1 : (spec_JoinOf.j0 k true a0_0 l0_1 a1_0 l1_1) = some (r1, r2, r3) := by rw [if_neg (show ¬ (false = true) by decide)] at H; exact H
      clear H
      have H := H1
      clear H1
      have H' := Aside0.mk H
      clear H
      have hnb17 := NB185_186.out
      have hnc17 := NB186_185.out
      have hnb18 := NB185_187.out
      have hnc18 := NB187_185.out
      have hcz19_0 : w6.cell? ⟨gb185, 0, none⟩ = some (.int .i64 a0_0) := (blk_cell BK185.out 0).trans rfl
      have hcz19_1 : w6.cell? ⟨gb185, 1, none⟩ = some (.slice A0_1 l0_1.length c0_1) := (blk_cell BK185.out 1).trans rfl
      have hfz19_0 := blk_frozen BK185.out 0
      have hfz19_1 := blk_frozen BK185.out 1
      go_wp2_with (first | ((with_reducible refine gate_callee (f := 24) rfl ?_); refine goesL_ (some 8) rfl rfl Try.func24 (by kernel_rfl) rfl #[.agg #[.int .i64 a0_0, .slice A0_1 l0_1.length c0_1]] rfl (by (try simp only [List.map_toArray, List.map_cons, List.map_nil]); first | done | rfl | (simp only [List.length_drop, List.length_take]; rfl)) ?_; (with_reducible refine (spec_l01Is.calls k a0_0 _ _ l0_1 false _ ?side1 ?side2 A7.out).mono ?_); (case side1 => repeat (first | exact (Kd.C_below HR0_1.out HB.out) | (with_reducible refine Kd.C_alloc ?_ _) | (with_reducible refine Kd.C_drewN ?_ _) | (with_reducible refine Kd.C_drew ?_))); (case side2 => exact HC0_1.out); rintro e w20 ⟨rfl, hb⟩; refine ⟨_, rfl, ?_⟩; have n0_ := Aside0.mk (blk_below (g := gb185) (o := .cells #[.int .i64 a0_0, .slice A0_1 l0_1.length c0_1] 26 (0, 0)) (by (with_reducible repeat (first | refine blk_drewN ?_ _ | refine blk_drew ?_ | refine blk_alloc ?_ _)); exact BK185.out) hb); have n1_ := Aside0.mk (blk_below (g := gb186) (o := .cells #[.int .i64 a1_0, .slice A1_1 l1_1.length c1_1] 26 (0, 0)) (by (with_reducible repeat (first | refine blk_drewN ?_ _ | refine blk_drew ?_ | refine blk_alloc ?_ _)); exact BK186.out) hb); have n2_ := Aside0.mk (blk_below (g := gb187) (o := .cells #[.int .i64 0, .slice none 0 0] 26 (0, 0)) (by (with_reducible repeat (first | refine blk_drewN ?_ _ | refine blk_drew ?_ | refine blk_alloc ?_ _)); exact BK187.out) hb); have n3_ := Aside0.mk (below_step (by repeat (first | (with_reducible first | exact HB.out | apply below_alloc | apply pw_below_drewN | apply below_drew1 | refine below_set ?_ GE185.out | refine below_set ?_ GE186.out | refine below_set ?_ GE187.out) | exact HB.out)) hb); clear BK185; clear BK186; clear BK187; clear HB; have BK185 := n0_; have BK186 := n1_; have BK187 := n2_; have HB := n3_; clear n0_ n1_ n2_ n3_; (try clear hb); (try clear hb2); (try clear hk); (try clear hi)))
      go_meet
      case rel => exact ⟨_, (true), (by first | rfl | (simp; done) | (simp [*]; done)), H', ⟨by first | omega | exact Nat.le_refl _⟩, ⟨by (with_reducible repeat (first | refine blk_drewN ?_ _ | refine blk_drew ?_ | refine blk_alloc ?_ _)); exact BK185.out⟩, ⟨by (with_reducible repeat (first | refine blk_drewN ?_ _ | refine blk_drew ?_ | refine blk_alloc ?_ _)); exact BK186.out⟩, ⟨by (with_reducible repeat (first | refine blk_drewN ?_ _ | refine blk_drew ?_ | refine blk_alloc ?_ _)); exact BK187.out⟩, ⟨by repeat (first | (with_reducible first | exact HB.out | apply below_alloc | apply pw_below_drewN | apply below_drew1 | refine below_set ?_ GE185.out | refine below_set ?_ GE186.out | refine below_set ?_ GE187.out) | exact HB.out)⟩⟩
  case rest =>
    clear HC3
    try clear c1
    try clear c2
    try clear p2
    try clear c8
    try clear c10
    try clear c11
    try clear c14
    try clear c17
    try clear c18
    try clear hcz12_0
    try clear hcz12_1
    try clear hcz15_0
    try clear hcz15_1
    try clear hcz19_0
    try clear hcz19_1
    try clear hfz12_0
    try clear hfz12_1
    try clear hfz15_0
    try clear hfz15_1
    try clear hfz19_0
    try clear hfz19_1
    obtain ⟨kq, x6_2, rfl, HA, HJ2, BK185, BK186, BK187, HB⟩ := hcut
    cases kq with
    | zero => exact absurd HA.out (by simp [spec_JoinOf.j0])
    | succ kj2 =>
      have H := HA.out
      clear HA
      simp only [spec_JoinOf.j0] at H
      by_cases c21 : x6_2 = true
      · subst c21
        have H1 : (some (0, ([] : List Int), 1)) = some (r1, r2, r3) := by rw [if_pos rfl] at H; exact H
        clear H
        have H := H1
        clear H1
        simp only [Option.some.injEq, Prod.mk.injEq] at H
        obtain ⟨rfl, rfl, rfl⟩ := H
        have hnb22 := NB187_185.out
        have hnc22 := NB185_187.out
        have hnb23 := NB187_186.out
        have hnc23 := NB186_187.out
        have hcz24_0 : wc.cell? ⟨gb187, 0, none⟩ = some (.int .i64 0) := (blk_cell BK187.out 0).trans rfl
        have hcz24_1 : wc.cell? ⟨gb187, 1, none⟩ = some (.slice none 0 0) := (blk_cell BK187.out 1).trans rfl
        have hfz24_0 := blk_frozen BK187.out 0
        have hfz24_1 := blk_frozen BK187.out 1
        go_wp2
        refine bodyPost_ret (results_ct rfl _ _ gb187 26 #[.int .i64 0, .slice none 0 0] (0, 0) _ rfl (by (with_reducible repeat (first | refine blk_drewN ?_ _ | refine blk_drew ?_ | refine blk_alloc ?_ _)); refine blk_put (cs := #[.int .i64 0, .slice none 0 0]) ?_ 1 _ rfl; (with_reducible repeat (first | refine blk_drewN ?_ _ | refine blk_drew ?_ | refine blk_alloc ?_ _)); refine blk_put (cs := #[.int .i64 0, .slice none 0 0]) ?_ 0 _ rfl; (with_reducible repeat (first | refine blk_drewN ?_ _ | refine blk_drew ?_ | refine blk_alloc ?_ _)); exact BK187.out) Try.underlying26 rfl (by kernel_rfl)) rfl ?_
        exact ⟨_, by first | rfl | (simp [errW_none, errW_some] <;> rfl) | (simp [*, errW_none, errW_some] <;> rfl), by first | exact Kd.R_nil _ _ _ _ _ | exact Kd.N_nil _ _ _ _ _ | exact Kd.V_nil _ _ _ _ _ | exact Kd.Q_nil _ _ _ _ _ | exact Kd.S_nil _ _ _ _ _, by repeat (first | (with_reducible first | exact HB.out | apply below_alloc | apply pw_below_drewN | apply below_drew1 | refine below_set ?_ GE185.out | refine below_set ?_ GE186.out | refine below_set ?_ GE187.out) | exact HB.out)⟩
      · replace c21 := Bool.eq_false_iff.mpr c21
        subst c21
        have H1 : (if (wrap64 (a0_0 + a1_0)) > 6 then (some (0, ([] : List Int), 3)) else ((spec_l01Join.f kj2 a0_0 l0_1 a1_0 l1_1).bind fun bt190 => (some (bt190.1, bt190.2, 0)))) = some (r1, r2, r3) := by rw [if_neg (show ¬ (false = true) by decide)] at H; exact H
        clear H
        have H := H1
        clear H1
        by_cases c25 : (wrap64 (a0_0 + a1_0)) > 6
        · rw [if_pos c25] at H
          have c25b0 : decide (6 < (wrap64 (a0_0 + a1_0))) = true := decide_eq_true c25
          clear c25
          simp only [Option.some.injEq, Prod.mk.injEq] at H
          obtain ⟨rfl, rfl, rfl⟩ := H
          have hnb26 := NB185_186.out
          have hnc26 := NB186_185.out
          have hnb27 := NB185_187.out
          have hnc27 := NB187_185.out
          have hcz28_0 : wc.cell? ⟨gb185, 0, none⟩ = some (.int .i64 a0_0) := (blk_cell BK185.out 0).trans rfl
          have hcz28_1 : wc.cell? ⟨gb185, 1, none⟩ = some (.slice A0_1 l0_1.length c0_1) := (blk_cell BK185.out 1).trans rfl
          have hfz28_0 := blk_frozen BK185.out 0
          have hfz28_1 := blk_frozen BK185.out 1
          have hnb29 := NB186_187.out
          have hnc29 := NB187_186.out
          have hcz30_0 : wc.cell? ⟨gb186, 0, none⟩ = some (.int .i64 a1_0) := (blk_cell BK186.out 0).trans rfl
          have hcz30_1 : wc.cell? ⟨gb186, 1, none⟩ = some (.slice A1_1 l1_1.length c1_1) := (blk_cell BK186.out 1).trans rfl
          have hfz30_0 := blk_frozen BK186.out 0
          have hfz30_1 := blk_frozen BK186.out 1
          have hcz31_0 : wc.cell? ⟨gb187, 0, none⟩ = some (.int .i64 0) := (blk_cell BK187.out 0).trans rfl
          have hcz31_1 : wc.cell? ⟨gb187, 1, none⟩ = some (.slice none 0 0) := (blk_cell BK187.out 1).trans rfl
          have hfz31_0 := blk_frozen BK187.out 0
          have hfz31_1 := blk_frozen BK187.out 1
          go_wp2
          refine bodyPost_ret (results_ct rfl _ _ gb187 26 #[.int .i64 0, .slice none 0 0] (0, 0) _ rfl (by (with_reducible repeat (first | refine blk_drewN ?_ _ | refine blk_drew ?_ | refine blk_alloc ?_ _)); refine blk_put (cs := #[.int .i64 0, .slice none 0 0]) ?_ 1 _ rfl; (with_reducible repeat (first | refine blk_drewN ?_ _ | refine blk_drew ?_ | refine blk_alloc ?_ _)); refine blk_put (cs := #[.int .i64 0, .slice none 0 0]) ?_ 0 _ rfl; (with_reducible repeat (first | refine blk_drewN ?_ _ | refine blk_drew ?_ | refine blk_alloc ?_ _)); exact BK187.out) Try.underlying26 rfl (by kernel_rfl)) rfl ?_
          exact ⟨_, by first | rfl | (simp [errW_none, errW_some] <;> rfl) | (simp [*, errW_none, errW_some] <;> rfl), by first | exact Kd.R_nil _ _ _ _ _ | exact Kd.N_nil _ _ _ _ _ | exact Kd.V_nil _ _ _ _ _ | exact Kd.Q_nil _ _ _ _ _ | exact Kd.S_nil _ _ _ _ _, by repeat (first | (with_reducible first | exact HB.out | apply below_alloc | apply pw_below_drewN | apply below_drew1 | refine below_set ?_ GE185.out | refine below_set ?_ GE186.out | refine below_set ?_ GE187.out) | exact HB.out)⟩
        · rw [if_neg c25] at H
          have c25b0 : decide (6 < (wrap64 (a0_0 + a1_0))) = false := decide_eq_false c25
          clear c25
          replace H := Option.bind_eq_some_iff.mp H
          obtain ⟨⟨t190, t191⟩, A320, H⟩ := H
          replace H : (some (t190, t191, 0)) = some (r1, r2, r3) := H
          have A32 := Aside0.mk A320
          clear A320
          simp only [Option.some.injEq, Prod.mk.injEq] at H
          obtain ⟨rfl, rfl, rfl⟩ := H
          have hnb33 := NB185_186.out
          have hnc33 := NB186_185.out
          have hnb34 := NB185_187.out
          have hnc34 := NB187_185.out
          have hcz35_0 : wc.cell? ⟨gb185, 0, none⟩ = some (.int .i64 a0_0) := (blk_cell BK185.out 0).trans rfl
          have hcz35_1 : wc.cell? ⟨gb185, 1, none⟩ = some (.slice A0_1 l0_1.length c0_1) := (blk_cell BK185.out 1).trans rfl
          have hfz35_0 := blk_frozen BK185.out 0
          have hfz35_1 := blk_frozen BK185.out 1
          have hnb36 := NB186_187.out
          have hnc36 := NB187_186.out
          have hcz37_0 : wc.cell? ⟨gb186, 0, none⟩ = some (.int .i64 a1_0) := (blk_cell BK186.out 0).trans rfl
          have hcz37_1 : wc.cell? ⟨gb186, 1, none⟩ = some (.slice A1_1 l1_1.length c1_1) := (blk_cell BK186.out 1).trans rfl
          have hfz37_0 := blk_frozen BK186.out 0
          have hfz37_1 := blk_frozen BK186.out 1
          go_wp2_with (first | ((with_reducible refine gate_callee (f := 33) rfl ?_); refine goesL_ (some 26) rfl rfl Try.func33 (by kernel_rfl) rfl #[.agg #[.int .i64 a0_0, .slice A0_1 l0_1.length c0_1], .agg #[.int .i64 a1_0, .slice A1_1 l1_1.length c1_1]] rfl (by (try simp only [List.map_toArray, List.map_cons, List.map_nil]); first | done | rfl | (simp only [List.length_drop, List.length_take]; rfl)) ?_; (with_reducible refine (spec_l01Join.calls kj2 a0_0 _ _ l0_1 a1_0 _ _ l1_1 t190 t191 _ ?side1 ?side2 ?side3 ?side4 A32.out).mono ?_); (case side1 => repeat (first | exact (Kd.C_below HR0_1.out HB.out) | (with_reducible refine Kd.C_alloc ?_ _) | (with_reducible refine Kd.C_drewN ?_ _) | (with_reducible refine Kd.C_drew ?_))); (case side2 => exact HC0_1.out); (case side3 => repeat (first | exact (Kd.C_below HR1_1.out HB.out) | (with_reducible refine Kd.C_alloc ?_ _) | (with_reducible refine Kd.C_drewN ?_ _) | (with_reducible refine Kd.C_drew ?_))); (case side4 => exact HC1_1.out); rintro e w38 ⟨v192, rfl, ho0, hb⟩; refine ⟨_, rfl, ?_⟩; have n0_ := Aside0.mk (Kd.R_lower ho0 (below_size (by repeat (first | (with_reducible first | exact HB.out | apply below_alloc | apply pw_below_drewN | apply below_drew1 | refine below_set ?_ GE185.out | refine below_set ?_ GE186.out | refine below_set ?_ GE187.out) | exact HB.out)))); have n1_ := Aside0.mk (blk_below (g := gb185) (o := .cells #[.int .i64 a0_0, .slice A0_1 l0_1.length c0_1] 26 (0, 0)) (by (with_reducible repeat (first | refine blk_drewN ?_ _ | refine blk_drew ?_ | refine blk_alloc ?_ _)); exact BK185.out) hb); have n2_ := Aside0.mk (blk_below (g := gb186) (o := .cells #[.int .i64 a1_0, .slice A1_1 l1_1.length c1_1] 26 (0, 0)) (by (with_reducible repeat (first | refine blk_drewN ?_ _ | refine blk_drew ?_ | refine blk_alloc ?_ _)); exact BK186.out) hb); have n3_ := Aside0.mk (blk_below (g := gb187) (o := .cells #[.int .i64 0, .slice none 0 0] 26 (0, 0)) (by (with_reducible repeat (first | refine blk_drewN ?_ _ | refine blk_drew ?_ | refine blk_alloc ?_ _)); exact BK187.out) hb); have n4_ := Aside0.mk (below_step (by repeat (first | (with_reducible first | exact HB.out | apply below_alloc | apply pw_below_drewN | apply below_drew1 | refine below_set ?_ GE185.out | refine below_set ?_ GE186.out | refine below_set ?_ GE187.out) | exact HB.out)) hb); clear BK185; clear BK186; clear BK187; clear HB; have HO193 := n0_; have BK185 := n1_; have BK186 := n2_; have BK187 := n3_; have HB := n4_; clear n0_ n1_ n2_ n3_ n4_; (try clear hb); (try clear hb2); (try clear hk); (try clear hi); (try clear ho0); have hcz39_0 : w38.cell? ⟨gb187, 0, none⟩ = some (.int .i64 0) := (blk_cell BK187.out 0).trans rfl; have hcz39_1 : w38.cell? ⟨gb187, 1, none⟩ = some (.slice none 0 0) := (blk_cell BK187.out 1).trans rfl; have hfz39_0 := blk_frozen BK187.out 0; have hfz39_1 := blk_frozen BK187.out 1; obtain ⟨Ao40, co40, eo40⟩ := Kd.R_slice HO193.out; subst eo40))
          refine bodyPost_ret (results_ct rfl _ _ gb187 26 #[.int .i64 t190, .slice Ao40 t191.length co40] (0, 0) _ rfl (by (with_reducible repeat (first | refine blk_drewN ?_ _ | refine blk_drew ?_ | refine blk_alloc ?_ _)); refine blk_put (cs := #[.int .i64 t190, .slice none 0 0]) ?_ 1 _ rfl; (with_reducible repeat (first | refine blk_drewN ?_ _ | refine blk_drew ?_ | refine blk_alloc ?_ _)); refine blk_put (cs := #[.int .i64 0, .slice none 0 0]) ?_ 0 _ rfl; (with_reducible repeat (first | refine blk_drewN ?_ _ | refine blk_drew ?_ | refine blk_alloc ?_ _)); exact BK187.out) Try.underlying26 rfl (by kernel_rfl)) rfl ?_
          exact ⟨_, by first | rfl | (simp [errW_none, errW_some] <;> rfl) | (simp [*, errW_none, errW_some] <;> rfl), by (with_reducible repeat (first | apply Kd.R_alloc | apply Kd.R_drewN | apply Kd.R_drew)); exact Kd.R_mono (Kd.R_far (p := ⟨gb187, 1, none⟩) (Kd.R_far (p := ⟨gb187, 0, none⟩) (Kd.R_types HO193.out BK187.out (by decide)) (fun _ hk => hk.2) (.int .i64 t190)) (fun _ hk => hk.2) (.slice Ao40 t191.length co40)) (fun _ hk => trivial), by repeat (first | (with_reducible first | exact HB.out | apply below_alloc | apply pw_below_drewN | apply below_drew1 | refine below_set ?_ GE185.out | refine below_set ?_ GE186.out | refine below_set ?_ GE187.out) | exact HB.out)⟩

/-! ### spec_l01Ones: function 44 -/
def spec_l01Ones.l0 : Nat → Int → Int → Option (Int)
  | 0, _, _ => none
  | k + 1, x0, x3 => if x0 > 0 then (spec_l01Ones.l0 k (wrap64 (Int.tdiv x0 2)) (wrap64 (x3 + (Int.tmod x0 2)))) else (some x3)
def spec_l01Ones.f (k : Nat) (a0 : Int) : Option (Int) := spec_l01Ones.l0 k a0 0
theorem spec_l01Ones.mono_l : ∀ k, (∀ y0 y1, LeO (spec_l01Ones.l0 k y0 y1) (spec_l01Ones.l0 (k + 1) y0 y1))
  | 0 => fun _ _ r h => by simp [spec_l01Ones.l0] at h
  | k + 1 => by
    have ih0 := spec_l01Ones.mono_l k
    · intro y0 y1
      unfold spec_l01Ones.l0
      repeat' first
      | (with_reducible exact ih0 _ _)
      | (with_reducible exact LeO.refl _)
      | (with_reducible exact LeO.none _)
      | (with_reducible refine LeO.ite ?_ ?_)
      | (with_reducible refine LeO.bind ?_ (fun _ => ?_))
      | exact ih0 _ _
      | exact LeO.none _
      | refine LeO.ite ?_ ?_
      | refine LeO.bind ?_ (fun _ => ?_)
theorem spec_l01Ones.mono : ∀ a0 k, LeO (spec_l01Ones.f k a0) (spec_l01Ones.f (k + 1) a0) := by
  intro a0 k
  have ih0 := spec_l01Ones.mono_l k
  unfold spec_l01Ones.f
  repeat' first
      | (with_reducible exact ih0 _ _)
      | (with_reducible exact LeO.refl _)
      | (with_reducible exact LeO.none _)
      | (with_reducible refine LeO.ite ?_ ?_)
      | (with_reducible refine LeO.bind ?_ (fun _ => ?_))
      | exact ih0 _ _
      | exact LeO.none _
      | refine LeO.ite ?_ ?_
      | refine LeO.bind ?_ (fun _ => ?_)
set_option maxHeartbeats 8000000 in
set_option maxRecDepth 100000 in
theorem spec_l01Ones.calls (k : Nat) (a0 : Int) (r : Int) (w : World) (h : spec_l01Ones.f k a0 = some r) :
    Calls Try.prog 44 #[.int .i64 a0] w fun e w' => e = .returned (.int .i64 r) ∧ Drawn0 w w' := by
  have H : (spec_l01Ones.l0 k a0 0) = some r := h
  clear h
  have H' := Aside0.mk H
  clear H
  go_enter Try.func44, Try.ntmps44
  go_wp2
  go_loopg [0, 3] k (fun kq v0 v3 w' => ∃ (x0_1 : Int) (x3_1 : Int), v0 = .int .i64 x0_1 ∧ v3 = .int .i64 x3_1 ∧ Aside0 (spec_l01Ones.l0 kq x0_1 x3_1 = some r) ∧ Aside0 (kq ≤ k) ∧ Drawn0 w w')
  case atStart => exact ⟨(a0), (0), (by first | rfl | (simp; done) | (simp [*]; done)), (by first | rfl | (simp; done) | (simp [*]; done)), H', ⟨Nat.le_refl _⟩, by repeat (first | exact Drawn0.refl _ | apply Drawn0.step)⟩
  case round =>
    clear H'
    obtain ⟨x0_1, x3_1, rfl, rfl, HA, HK1, ⟨m1, rfl⟩⟩ := hrel
    cases gk with
    | zero => exact absurd HA.out (by simp [spec_l01Ones.l0])
    | succ k1 =>
      have H := HA.out
      clear HA
      simp only [spec_l01Ones.l0] at H
      by_cases c2 : x0_1 > 0
      · rw [if_pos c2] at H
        have c2b0 : decide (0 < x0_1) = true := decide_eq_true c2
        clear c2
        have H' := Aside0.mk H
        clear H
        go_wp2
        go_roundg k1
        case measure => have := HK1.out; omega
        case rel => exact ⟨(wrap64 (Int.tdiv x0_1 2)), (wrap64 (x3_1 + (Int.tmod x0_1 2))), (by first | rfl | (simp; done) | (simp [*]; done)), (by first | rfl | (simp; done) | (simp [*]; done)), H', ⟨by have := HK1.out; omega⟩, by repeat (first | exact Drawn0.refl _ | apply Drawn0.step)⟩
      · rw [if_neg c2] at H
        have c2b0 : decide (0 < x0_1) = false := decide_eq_false c2
        clear c2
        obtain rfl := Option.some.inj H
        go_wp2
        go_ret
        exact ⟨by first | rfl | (simp; done) | (simp [*]; done), by repeat (first | exact Drawn0.refl _ | apply Drawn0.step)⟩

end Go.Proofs.Ytjoggjgmpoaaiaa.Q
end

section
/- The reference's JoinOf comes to what the program's comes to. -/
namespace Go.Proofs.Ytjoggjgmpoaaiaa.K
open Go.RowKit Go.Shelf Go.Proofs.Ytjoggjgmpoaaiaa.Q Go.Proofs.YtjoggjgmpoaaiaaW.PrintWords Go.Proofs.YtjoggjgmpoaaiaaW.PrintLast Go.Proofs.YtjoggjgmpoaaiaaW.PrintMore
set_option linter.unusedVariables false
set_option linter.unusedSimpArgs false

/-- One block of a join's faces: a face of the second, moved up by p, and it with each of the first. -/
def blkL (p : Int) (k : List Int) (g : Int) : List Int := (g * p) :: k.map (fun a => g * p + a)
def joinL (p : Int) (k l : List Int) : List Int := k ++ l.flatMap (blkL p k)

theorem shl_is (g n : Int) (h0 : 0 ≤ n ∧ n ≤ 6) (hg : 0 ≤ g ∧ g ≤ 63) : shl .i64 g n = g * 2 ^ n.toNat := by
  have h : n = 0 ∨ n = 1 ∨ n = 2 ∨ n = 3 ∨ n = 4 ∨ n = 5 ∨ n = 6 := by omega
  unfold shl
  rw [Nat.min_eq_left (by show n.toNat ≤ 64; omega)]
  show IntKind.wrap .i64 _ = _
  rw [IntKind.wrap_i64]
  rcases h with rfl | rfl | rfl | rfl | rfl | rfl | rfl <;> simp <;> omega

theorem blk_length (p : Int) (k : List Int) (g : Int) : (blkL p k g).length = k.length + 1 := by simp [blkL]

theorem specJoin_l1 (n : Int) (k : List Int) (m : Int) (l : List Int) (N : Int) (hk : k.length ≤ 63) (p g : Int) (hp : 1 ≤ p ∧ p ≤ 64) (hg : 0 ≤ g ∧ g ≤ 63) (hr : ∀ x ∈ k, 1 ≤ x ∧ x ≤ 63) (i : Int) (R : Nat) (r : Int × List Int) (tot : List Int) (ht : tot.length ≤ 100000)
    (h : ∀ f, R ≤ f → spec_l01Join.l0 f (wrap64 (i + 1)) n k m l N tot = some r) :
    ∀ (d j f : Nat) (acc : List Int), k.length - j = d → j ≤ k.length → R + d < f → acc ++ (k.drop j).map (fun a => g * p + a) = tot →
    spec_l01Join.l1 f i (g * p) (j : Int) n k m l N acc = some r := by
  have hgp : 0 ≤ g * p ∧ g * p ≤ 63 * 64 := ⟨Int.mul_nonneg hg.1 (by omega), Int.mul_le_mul hg.2 hp.2 (by omega) (by omega)⟩
  intro d
  induction d with
  | zero =>
    intro j f acc hd hj hf hacc
    obtain ⟨f, rfl⟩ : ∃ m, f = m + 1 := ⟨f - 1, by omega⟩
    obtain rfl : j = k.length := by omega
    simp at hacc
    subst hacc
    simp only [spec_l01Join.l1]
    rw [if_neg (by omega)]
    exact h f (by omega)
  | succ d ih =>
    intro j f acc hd hj hf hacc
    obtain ⟨f, rfl⟩ : ∃ m, f = m + 1 := ⟨f - 1, by omega⟩
    simp only [spec_l01Join.l1]
    have hjl : j < k.length := by omega
    have hx := hr _ (List.getElem_mem hjl)
    have hal : acc.length ≤ 100000 := by
      have := congrArg List.length hacc
      rw [List.length_append] at this
      omega
    rw [List.drop_eq_getElem_cons hjl, List.map_cons] at hacc
    rw [if_pos (by omega), if_pos (by omega), if_pos (by omega), rd_nat k j hjl]
    generalize g * p = q at hgp hacc ih ⊢
    rw [w64 (q + k[j]) (by omega) (by omega), w64 ((j : Int) + 1) (by omega) (by omega), nat_succ]
    exact ih (j + 1) f _ (by omega) (by omega) (by omega) (by rw [List.append_assoc]; exact hacc)

theorem specJoin_l0 (n : Int) (hn : 1 ≤ n ∧ n ≤ 6) (k : List Int) (m : Int) (l : List Int) (N : Int) (hk : k.length ≤ 63) (hl : l.length ≤ 63) (hr : ∀ x ∈ k, 1 ≤ x ∧ x ≤ 63) (hr2 : ∀ x ∈ l, 1 ≤ x ∧ x ≤ 63) :
    ∀ (d i f : Nat) (acc : List Int), l.length - i = d → i ≤ l.length → 70 * d < f → acc.length ≤ 64 * i + 63 →
    spec_l01Join.l0 f (i : Int) n k m l N acc = some (N, acc ++ (l.drop i).flatMap (blkL (2 ^ n.toNat) k)) := by
  have hp := two_pow n.toNat 6 (by omega)
  have hu : IntKind.u64.wrap n = n := u64_id n (by omega) (by omega)
  intro d
  induction d with
  | zero =>
    intro i f acc hd hi hf ha
    obtain ⟨f, rfl⟩ : ∃ m, f = m + 1 := ⟨f - 1, by omega⟩
    obtain rfl : i = l.length := by omega
    simp only [spec_l01Join.l0]
    rw [if_neg (by omega)]
    simp
  | succ d ih =>
    intro i f acc hd hi hf ha
    obtain ⟨f, rfl⟩ : ∃ m, f = m + 1 := ⟨f - 1, by omega⟩
    simp only [spec_l01Join.l0]
    have hil : i < l.length := by omega
    have hx := hr2 _ (List.getElem_mem hil)
    rw [if_pos (by omega), if_pos (by omega), hu, if_pos (by omega), if_pos (by omega), rd_nat l i hil, shl_is _ n (by omega) (by omega), List.drop_eq_getElem_cons hil, List.flatMap_cons]
    have hb := blk_length (2 ^ n.toNat) k l[i]
    refine specJoin_l1 n k m l N hk (2 ^ n.toNat) l[i] ⟨hp.1, by have := hp.2; omega⟩ (by omega) hr (i : Int) (70 * d + 1) _ (acc ++ blkL (2 ^ n.toNat) k l[i]) (by rw [List.length_append]; omega)
      (fun f hf => ?_) k.length 0 f _ (by omega) (by omega) (by omega) (by rw [List.drop_zero, List.append_assoc]; rfl)
    rw [w64 _ (by omega) (by omega), nat_succ, ih (i + 1) f _ (by omega) (by omega) (by omega) (by rw [List.length_append]; omega), List.append_assoc]

theorem and_full_64 : ∀ (x : Fin 64) (n : Fin 7), Go.bits .and .i64 (x.val : Int) (fullOf (n.val : Int)) = (x.val : Int) % 2 ^ n.val := by decide +kernel
theorem and_full (x n : Int) (hx : 0 ≤ x ∧ x ≤ 63) (hn : 0 ≤ n ∧ n ≤ 6) : Go.bits .and .i64 x (fullOf n) = x % 2 ^ n.toNat := by
  obtain ⟨a, rfl⟩ := Int.eq_ofNat_of_zero_le hx.1
  obtain ⟨b, rfl⟩ := Int.eq_ofNat_of_zero_le hn.1
  exact and_full_64 ⟨a, by omega⟩ ⟨b, by omega⟩

theorem mem_blk (p : Int) (k : List Int) (g x : Int) : x ∈ blkL p k g ↔ x = g * p ∨ ∃ a ∈ k, x = g * p + a := by
  unfold blkL
  rw [List.mem_cons, List.mem_map]
  constructor
  · rintro (h | ⟨a, ha, h⟩)
    · exact .inl h
    · exact .inr ⟨a, ha, h.symm⟩
  · rintro (h | ⟨a, ha, h⟩)
    · exact .inl h
    · exact .inr ⟨a, ha, h.symm⟩
theorem mem_join (p : Int) (k l : List Int) (x : Int) : x ∈ joinL p k l ↔ x ∈ k ∨ ∃ g ∈ l, x = g * p ∨ ∃ a ∈ k, x = g * p + a := by
  unfold joinL
  rw [List.mem_append, List.mem_flatMap]
  simp only [mem_blk]
theorem join_asc (p : Int) (hp : 1 ≤ p) (k l : List Int) (hk : k.Pairwise (· < ·)) (hl : l.Pairwise (· < ·)) (hr : ∀ x ∈ k, 1 ≤ x ∧ x < p) (hr2 : ∀ x ∈ l, 1 ≤ x) : (joinL p k l).Pairwise (· < ·) := by
  have hmul : ∀ g g' : Int, g < g' → g * p + p ≤ g' * p := fun g g' h => by
    have : (g + 1) * p ≤ g' * p := Int.mul_le_mul_of_nonneg_right (by omega) (by omega)
    rw [Int.add_mul, Int.one_mul] at this
    exact this
  unfold joinL
  rw [List.pairwise_append]
  refine ⟨hk, ?_, ?_⟩
  · rw [List.pairwise_flatMap]
    refine ⟨fun g _ => ?_, hl.imp_of_mem ?_⟩
    · unfold blkL
      rw [List.pairwise_cons, List.pairwise_map]
      refine ⟨fun x hx => ?_, hk.imp fun h => by omega⟩
      obtain ⟨a, ha, rfl⟩ := List.mem_map.1 hx
      have := hr a ha
      omega
    · intro g g' _ _ h x hx y hy
      have hm := hmul g g' h
      rw [mem_blk] at hx hy
      have h1 : x < g * p + p := by
        rcases hx with h1 | ⟨a, ha, h1⟩
        · omega
        · have := hr a ha
          omega
      have h2 : g' * p ≤ y := by
        rcases hy with h1 | ⟨a, ha, h1⟩
        · omega
        · have := hr a ha
          omega
      omega
  · intro x hx y hy
    obtain ⟨g, hg, hy⟩ := List.mem_flatMap.1 hy
    have h1 := hr x hx
    have h3 := hr2 g hg
    have hm := hmul 0 g (by omega)
    rw [Int.zero_mul, Int.zero_add] at hm
    rw [mem_blk] at hy
    rcases hy with h2 | ⟨a, ha, h2⟩
    · omega
    · have := hr a ha
      omega

theorem join_eq {n : Int} {k : List Int} {m : Int} {l : List Int} (hk : isC n k = true) (hl : isC m l = true) (h6 : n + m ≤ 6) : thoseL (n + m) (joinP n k l) = joinL (2 ^ n.toNat) k l := by
  obtain ⟨hn, ks, kr, k63⟩ := isC_faces hk
  obtain ⟨hm, ls, lr, l63⟩ := isC_faces hl
  have hp := two_pow n.toNat 6 (by omega)
  have hF : fullOf n = 2 ^ n.toNat - 1 := rfl
  have hG : fullOf m = 2 ^ m.toNat - 1 := rfl
  have hFm := full_range (n + m) (by omega)
  have hpm : fullOf (n + m) + 1 = 2 ^ n.toNat * 2 ^ m.toNat := by
    unfold fullOf
    rw [show (n + m).toNat = n.toNat + m.toNat by omega, Int.pow_add]
    omega
  obtain ⟨p, hpp⟩ : ∃ p : Int, p = 2 ^ n.toNat := ⟨_, rfl⟩
  obtain ⟨q, hqq⟩ : ∃ q : Int, q = 2 ^ m.toNat := ⟨_, rfl⟩
  rw [← hpp] at hp hF hpm ⊢
  rw [← hqq] at hG hpm
  refine asc_ext _ _ (those_asc _ _) (join_asc p (by omega) k l ks ls (fun x hx => by have := kr x hx; omega) (fun x hx => (lr x hx).1)) fun x => ?_
  rw [mem_those, mem_join]
  unfold joinP
  simp only [Bool.and_eq_true, Bool.or_eq_true, beq_iff_eq]
  constructor
  · rintro ⟨⟨h1, h2⟩, h3, h4⟩
    rw [and_full x n (by omega) (by omega), ← hpp] at h3
    rw [← hpp] at h4
    rw [has_asc k _ (by omega) ks, decide_eq_true_eq] at h3
    rw [has_asc l _ (by omega) ls, decide_eq_true_eq] at h4
    have hd : p * (x / p) + x % p = x := Int.mul_ediv_add_emod x p
    rcases h4 with h4 | h4
    · rw [h4, Int.mul_zero, Int.zero_add] at hd
      rcases h3 with h3 | h3
      · omega
      · rw [hd] at h3
        exact .inl h3
    · refine .inr ⟨_, h4, ?_⟩
      rw [Int.mul_comm]
      rcases h3 with h3 | h3
      · exact .inl (by omega)
      · exact .inr ⟨_, h3, by omega⟩
  · have key : ∀ g a : Int, (g = 0 ∨ g ∈ l) → (a = 0 ∨ a ∈ k) → (g ≠ 0 ∨ a ≠ 0) → x = g * p + a → ((1 ≤ x ∧ x ≤ fullOf (n + m)) ∧ (x % p = a ∧ x / p = g)) := by
      intro g a hg ha hne hx
      have hgr : 0 ≤ g ∧ g + 1 ≤ q := by
        rcases hg with h | h
        · have := two_pow m.toNat 6 (by omega)
          omega
        · have := lr g h
          omega
      have har : 0 ≤ a ∧ a < p := by
        rcases ha with h | h
        · omega
        · have := kr a h
          omega
      have e1 : (g + 1) * p ≤ q * p := Int.mul_le_mul_of_nonneg_right hgr.2 (by omega)
      rw [Int.add_mul, Int.one_mul, Int.mul_comm q p] at e1
      have e2 : 0 ≤ g * p := Int.mul_nonneg hgr.1 (by omega)
      have e3 : g ≠ 0 → p ≤ g * p := fun h => by
        have : 1 * p ≤ g * p := Int.mul_le_mul_of_nonneg_right (by omega) (by omega)
        omega
      refine ⟨⟨?_, by omega⟩, ?_, ?_⟩
      · rcases hne with h | h
        · have := e3 h
          omega
        · omega
      · rw [hx, Int.add_comm, Int.add_mul_emod_self_right]
        exact Int.emod_eq_of_lt har.1 har.2
      · rw [hx, Int.add_comm, Int.add_mul_ediv_right _ _ (by omega), Int.ediv_eq_zero_of_lt har.1 har.2]
        omega
    have fin : ∀ g a : Int, (g = 0 ∨ g ∈ l) → (a = 0 ∨ a ∈ k) → (g ≠ 0 ∨ a ≠ 0) → x = g * p + a → (1 ≤ x ∧ x ≤ fullOf (n + m)) ∧ (Go.bits .and .i64 x (fullOf n) = 0 ∨ hasB k (Go.bits .and .i64 x (fullOf n)) = true) ∧ (x / 2 ^ n.toNat = 0 ∨ hasB l (x / 2 ^ n.toNat) = true) := by
      intro g a hg ha hne hx
      obtain ⟨h1, h2, h3⟩ := key g a hg ha hne hx
      refine ⟨h1, ?_, ?_⟩
      · rw [and_full x n (by omega) (by omega), ← hpp, h2, has_asc k _ (by omega) ks, decide_eq_true_eq]
        exact ha
      · rw [← hpp, h3, has_asc l _ (by omega) ls, decide_eq_true_eq]
        exact hg
    rintro (h | ⟨g, hg, h | ⟨a, ha, h⟩⟩)
    · have := kr x h
      exact fin 0 x (.inl rfl) (.inr h) (.inr (by omega)) (by omega)
    · have := lr g hg
      exact fin g 0 (.inr hg) (.inl rfl) (.inl (by omega)) (by omega)
    · have := lr g hg
      exact fin g a (.inr hg) (.inr ha) (.inl (by omega)) h

theorem specJoinL_is {n : Int} {k : List Int} {m : Int} {l : List Int} (hk : isC n k = true) (hl : isC m l = true) (f : Nat) (hf : 4500 ≤ f) : spec_l01Join.f f n k m l = some (n + m, joinL (2 ^ n.toNat) k l) := by
  obtain ⟨hn, ks, kr, k63⟩ := isC_faces hk
  obtain ⟨hm, ls, lr, l63⟩ := isC_faces hl
  unfold spec_l01Join.f spec_l01Own.f
  simp only [Option.bind_some, List.length_nil, List.nil_append]
  rw [if_pos (by omega)]
  simp only [Option.bind_some]
  rw [w64 _ (by omega) (by omega)]
  have := specJoin_l0 n hn k m l (n + m) k63 l63 (fun x hx => ⟨(kr x hx).1, (kr x hx).2.2⟩) (fun x hx => ⟨(lr x hx).1, (lr x hx).2.2⟩) l.length 0 f k (by omega) (by omega) (by omega) (by omega)
  exact this
theorem specJoin_is (n : Int) (k : List Int) (m : Int) (l : List Int) (hk : k.length ≤ 2097152) (hl : l.length ≤ 2097152) (f : Nat) (hf : isK k + isK l + 4501 ≤ f) : spec_JoinOf.f f n k m l = some (joinOf n k m l) := by
  obtain ⟨f, rfl⟩ : ∃ m, f = m + 1 := ⟨f - 1, by omega⟩
  unfold spec_JoinOf.f joinOf
  rw [specIs_is n k hk _ (by omega), specIs_is m l hl _ (by omega)]
  simp only [Option.bind_some]
  cases hi : isC n k with
  | false => simp [spec_JoinOf.j0]
  | true =>
    cases hj : isC m l with
    | false => simp [spec_JoinOf.j0]
    | true =>
      have hn := isC_size hi
      have hm := isC_size hj
      simp only [spec_JoinOf.j0, if_true, Bool.not_true, Bool.false_eq_true, if_false, and_self]
      rw [w64 _ (by omega) (by omega)]
      by_cases h6 : 6 < n + m
      · rw [if_pos h6, if_pos h6]
      · rw [if_neg h6, if_neg h6, specJoinL_is hi hj f (by omega), join_eq hi hj (by omega)]
        rfl
theorem joinOf_length (n : Int) (k : List Int) (m : Int) (l : List Int) : (joinOf n k m l).2.1.length ≤ 63 := by
  unfold joinOf
  by_cases h : isC n k = true ∧ isC m l = true
  · rw [if_pos h]
    have hn := isC_size h.1
    have hm := isC_size h.2
    by_cases h6 : 6 < n + m
    · rw [if_pos h6]
      exact Nat.zero_le _
    · rw [if_neg h6]
      have h2 := upTo_filter_length (joinP n k l) (2 ^ (n + m).toNat - 1)
      have h3 : 2 ^ (n + m).toNat ≤ 2 ^ 6 := Nat.pow_le_pow_right (by omega) (by omega)
      show (thoseL (n + m) _).length ≤ 63
      unfold thoseL
      omega
  · rw [if_neg h]
    exact Nat.zero_le _

end Go.Proofs.Ytjoggjgmpoaaiaa.K
end

section
/- The walk through the law FnExactJoinOf. -/
namespace Go.Proofs.Ytjoggjgmpoaaiaa.K
open Go.RowKit Go.Shelf Go.Proofs.Ytjoggjgmpoaaiaa.Q Go.Proofs.YtjoggjgmpoaaiaaW.PrintWords Go.Proofs.YtjoggjgmpoaaiaaW.PrintLast Go.Proofs.YtjoggjgmpoaaiaaW.PrintMore
set_option linter.unusedVariables false
set_option linter.unusedSimpArgs false

set_option maxRecDepth 100000 in
set_option maxHeartbeats 8000000 in
theorem LJoinOf_b0 (n0 : Int) (A0 : Option Addr) (c0 : Nat) (l0 : List Int) (n1 : Int) (A1 : Option Addr) (c1 : Nat) (l1 : List Int) (w : World) (hr0 : Ki.C w A0 l0.length l0) (hc0 : l0.length ≤ c0) (hr1 : Ki.C w A1 l1.length l1) (hc1 : l1.length ≤ c1)  (hz : (1048576 : Int) < (l0.length : Int)) :
    Calls Try.prog 4 #[.agg #[I n0, .slice A0 l0.length c0], .agg #[I n1, .slice A1 l1.length c1]] w fun e w' => e = .returned (.bool true) ∧ Grew w w' := by
  have hbig0 := hr0.2.1
  have HR0 := Aside0.mk hr0
  have HC0 := Aside0.mk hc0
  clear hr0 hc0
  have hbig1 := hr1.2.1
  have HR1 := Aside0.mk hr1
  have HC1 := Aside0.mk hc1
  clear hr1 hc1
  obtain ⟨W0, hW0⟩ : ∃ W0, W0 = ((w.alloc (.cells #[I n0, .slice A0 l0.length c0] 24)).alloc (.cells #[I n1, .slice A1 l1.length c1] 24)) := ⟨_, rfl⟩
  have hb_p0 : (Item.box w.heap.size 24 #[I n0, .slice A0 l0.length c0]).ok W0 := by
    rw [hW0]
    refine blk_alloc ?_ _
    have := blk_new w (.cells #[I n0, .slice A0 l0.length c0] 24)
    exact this
  have hb_p1 : (Item.box (w.heap.size + 1) 24 #[I n1, .slice A1 l1.length c1]).ok W0 := by
    rw [hW0]
    have := blk_new (w.alloc (.cells #[I n0, .slice A0 l0.length c0] 24)) (.cells #[I n1, .slice A1 l1.length c1] 24)
    rwa [World.size_alloc] at this
  have HM0 : Aside0 (Mem W0 [.box w.heap.size 24 #[I n0, .slice A0 l0.length c0], .box (w.heap.size + 1) 24 #[I n1, .slice A1 l1.length c1]]) := ⟨Mem.cons (it := .box w.heap.size 24 #[I n0, .slice A0 l0.length c0]) hb_p0 (Mem.cons (it := .box (w.heap.size + 1) 24 #[I n1, .slice A1 l1.length c1]) hb_p1 (Mem.nil _))⟩
  have HG0 : Aside0 (Grew w W0) := ⟨by rw [hW0]; exact below_alloc (below_alloc (Grew.refl w) _) _⟩
  have hs0 : W0.heap.size = w.heap.size + 2 := by rw [hW0]; simp
  clear hb_p0 hb_p1
  have H0 := Aside0.mk (szC_calls n0 A0 c0 l0 (1048576 : Int) (by omega) W0 (Kd.C_below HR0.out HG0.out) HC0.out)
  rw [if_pos (by omega)] at H0
  have p0_0 : W0.cell? ⟨w.heap.size, 0, none⟩ = some (I n0) := blk_cell HM0.out.head 0
  have p0_1 : W0.cell? ⟨w.heap.size, 1, none⟩ = some (.slice A0 l0.length c0) := blk_cell HM0.out.head 1
  subst hW0
  go_enter Try.func4, Try.ntmps4
  go_wp2_with fail
  refine H0.out.mono ?_
  rintro e w1 ⟨rfl, hG1⟩
  clear p0_0 p0_1
  have HM1 := Aside0.mk (HM0.out.grew hG1)
  have HG1 := Aside0.mk (Grew.trans HG0.out hG1)
  have hs1 := hG1.size
  try simp at hs1
  clear hG1 H0
  go_wp2_with fail
  go_ret
  exact ⟨rfl, HG1.out⟩

set_option maxRecDepth 100000 in
set_option maxHeartbeats 8000000 in
theorem LJoinOf_b1 (n0 : Int) (A0 : Option Addr) (c0 : Nat) (l0 : List Int) (n1 : Int) (A1 : Option Addr) (c1 : Nat) (l1 : List Int) (w : World) (hr0 : Ki.C w A0 l0.length l0) (hc0 : l0.length ≤ c0) (hr1 : Ki.C w A1 l1.length l1) (hc1 : l1.length ≤ c1) (hl0 : ¬ (1048576 : Int) < (l0.length : Int)) (hz : ((1048576 : Int) - (l0.length : Int)) < (l1.length : Int)) :
    Calls Try.prog 4 #[.agg #[I n0, .slice A0 l0.length c0], .agg #[I n1, .slice A1 l1.length c1]] w fun e w' => e = .returned (.bool true) ∧ Grew w w' := by
  have hbig0 := hr0.2.1
  have HR0 := Aside0.mk hr0
  have HC0 := Aside0.mk hc0
  clear hr0 hc0
  have hbig1 := hr1.2.1
  have HR1 := Aside0.mk hr1
  have HC1 := Aside0.mk hc1
  clear hr1 hc1
  obtain ⟨W0, hW0⟩ : ∃ W0, W0 = ((w.alloc (.cells #[I n0, .slice A0 l0.length c0] 24)).alloc (.cells #[I n1, .slice A1 l1.length c1] 24)) := ⟨_, rfl⟩
  have hb_p0 : (Item.box w.heap.size 24 #[I n0, .slice A0 l0.length c0]).ok W0 := by
    rw [hW0]
    refine blk_alloc ?_ _
    have := blk_new w (.cells #[I n0, .slice A0 l0.length c0] 24)
    exact this
  have hb_p1 : (Item.box (w.heap.size + 1) 24 #[I n1, .slice A1 l1.length c1]).ok W0 := by
    rw [hW0]
    have := blk_new (w.alloc (.cells #[I n0, .slice A0 l0.length c0] 24)) (.cells #[I n1, .slice A1 l1.length c1] 24)
    rwa [World.size_alloc] at this
  have HM0 : Aside0 (Mem W0 [.box w.heap.size 24 #[I n0, .slice A0 l0.length c0], .box (w.heap.size + 1) 24 #[I n1, .slice A1 l1.length c1]]) := ⟨Mem.cons (it := .box w.heap.size 24 #[I n0, .slice A0 l0.length c0]) hb_p0 (Mem.cons (it := .box (w.heap.size + 1) 24 #[I n1, .slice A1 l1.length c1]) hb_p1 (Mem.nil _))⟩
  have HG0 : Aside0 (Grew w W0) := ⟨by rw [hW0]; exact below_alloc (below_alloc (Grew.refl w) _) _⟩
  have hs0 : W0.heap.size = w.heap.size + 2 := by rw [hW0]; simp
  clear hb_p0 hb_p1
  have H0 := Aside0.mk (szC_calls n0 A0 c0 l0 (1048576 : Int) (by omega) W0 (Kd.C_below HR0.out HG0.out) HC0.out)
  rw [if_neg (by omega)] at H0
  have p0_0 : W0.cell? ⟨w.heap.size, 0, none⟩ = some (I n0) := blk_cell HM0.out.head 0
  have p0_1 : W0.cell? ⟨w.heap.size, 1, none⟩ = some (.slice A0 l0.length c0) := blk_cell HM0.out.head 1
  subst hW0
  go_enter Try.func4, Try.ntmps4
  have hneg0 : ¬ (((1048576 : Int) - (l0.length : Int)) < 0) := by omega
  go_wp2_with fail
  refine H0.out.mono ?_
  rintro e w1 ⟨rfl, hG1⟩
  clear p0_0 p0_1
  have HM1 := Aside0.mk (HM0.out.grew hG1)
  have HG1 := Aside0.mk (Grew.trans HG0.out hG1)
  have hs1 := hG1.size
  try simp at hs1
  clear hG1 H0
  have H1 := Aside0.mk (szC_calls n1 A1 c1 l1 ((1048576 : Int) - (l0.length : Int)) (by omega) w1 (Kd.C_below HR1.out HG1.out) HC1.out)
  rw [if_pos (by omega)] at H1
  have p1_0 : w1.cell? ⟨w.heap.size + 1, 0, none⟩ = some (I n1) := blk_cell HM1.out.tail.head 0
  have p1_1 : w1.cell? ⟨w.heap.size + 1, 1, none⟩ = some (.slice A1 l1.length c1) := blk_cell HM1.out.tail.head 1
  go_wp2_with fail
  refine H1.out.mono ?_
  rintro e w2 ⟨rfl, hG2⟩
  clear p1_0 p1_1
  have HM2 := Aside0.mk (HM1.out.grew hG2)
  have HG2 := Aside0.mk (Grew.trans HG1.out hG2)
  have hs2 := hG2.size
  clear hG2 H1
  go_wp2_with fail
  go_ret
  exact ⟨rfl, HG2.out⟩

set_option maxRecDepth 100000 in
set_option maxHeartbeats 8000000 in
theorem LJoinOf_main (n0 : Int) (A0 : Option Addr) (c0 : Nat) (l0 : List Int) (n1 : Int) (A1 : Option Addr) (c1 : Nat) (l1 : List Int) (w : World) (hr0 : Ki.C w A0 l0.length l0) (hc0 : l0.length ≤ c0) (hr1 : Ki.C w A1 l1.length l1) (hc1 : l1.length ≤ c1) (hl0 : ¬ (1048576 : Int) < (l0.length : Int)) (hl1 : ¬ ((1048576 : Int) - (l0.length : Int)) < (l1.length : Int)) :
    Calls Try.prog 4 #[.agg #[I n0, .slice A0 l0.length c0], .agg #[I n1, .slice A1 l1.length c1]] w fun e w' => e = .returned (.bool true) ∧ Grew w w' := by
    obtain ⟨rn0, r0, r1, HS, HI, hlen0⟩ : ∃ (rn0 : Int) (r0 : List Int) (r1 : Int), Aside0 (∀ W A0 c0 A1 c1, Ki.C W A0 l0.length l0 → l0.length ≤ c0 → Ki.C W A1 l1.length l1 → l1.length ≤ c1 → Calls Try.prog 17 #[.agg #[I n0, .slice A0 l0.length c0], .agg #[I n1, .slice A1 l1.length c1]] W fun e w' => ∃ v0, e = .returned (.tuple #[.agg #[I rn0, v0], I r1]) ∧ Ki.R 2 w' W.heap.size (fun _ => True) v0 r0 ∧ Grew W w') ∧ Aside0 (∀ W A0 c0 A1 c1, Ki.C W A0 l0.length l0 → l0.length ≤ c0 → Ki.C W A1 l1.length l1 → l1.length ≤ c1 → Calls Try.prog 18 #[.agg #[I n0, .slice A0 l0.length c0], .agg #[I n1, .slice A1 l1.length c1]] W fun e w' => ∃ v0, e = .returned (.tuple #[.agg #[I rn0, v0], I r1]) ∧ Ki.R 2 w' W.heap.size (fun _ => True) v0 r0 ∧ Grew W w') ∧ r0.length ≤ 1000000 := by
      have hbig0 := hr0.2.1
      have hbig1 := hr1.2.1
      have hS := fun (W : World) (A0 : Option Addr) (c0 : Nat) (A1 : Option Addr) (c1 : Nat) (hr0 : Ki.C W A0 l0.length l0) (hc0 : l0.length ≤ c0) (hr1 : Ki.C W A1 l1.length l1) (hc1 : l1.length ≤ c1) => spec_JoinOf.calls (isK l0 + isK l1 + 4501) n0 A0 c0 l0 n1 A1 c1 l1 _ _ _ W hr0 hc0 hr1 hc1 (specJoin_is n0 l0 n1 l1 (by omega) (by omega) _ (Nat.le_refl _))
      have hI := fun (W : World) (A0 : Option Addr) (c0 : Nat) (A1 : Option Addr) (c1 : Nat) (hr0 : Ki.C W A0 l0.length l0) (hc0 : l0.length ≤ c0) (hr1 : Ki.C W A1 l1.length l1) (hc1 : l1.length ≤ c1) => JoinOf_calls n0 A0 c0 l0 n1 A1 c1 l1 W ⟨hr0, hc0, by omega⟩ ⟨hr1, hc1, by omega⟩
      have hlen0 := joinOf_length n0 l0 n1 l1
      exact ⟨(joinOf n0 l0 n1 l1).1, (joinOf n0 l0 n1 l1).2.1, (joinOf n0 l0 n1 l1).2.2, ⟨hS⟩, ⟨hI⟩, Nat.le_trans hlen0 (by decide)⟩
    have hbig0 := hr0.2.1
    have HR0 := Aside0.mk hr0
    have HC0 := Aside0.mk hc0
    clear hr0 hc0
    have hbig1 := hr1.2.1
    have HR1 := Aside0.mk hr1
    have HC1 := Aside0.mk hc1
    clear hr1 hc1
    obtain ⟨W0, hW0⟩ : ∃ W0, W0 = ((w.alloc (.cells #[I n0, .slice A0 l0.length c0] 24)).alloc (.cells #[I n1, .slice A1 l1.length c1] 24)) := ⟨_, rfl⟩
    have hb_p0 : (Item.box w.heap.size 24 #[I n0, .slice A0 l0.length c0]).ok W0 := by
      rw [hW0]
      refine blk_alloc ?_ _
      have := blk_new w (.cells #[I n0, .slice A0 l0.length c0] 24)
      exact this
    have hb_p1 : (Item.box (w.heap.size + 1) 24 #[I n1, .slice A1 l1.length c1]).ok W0 := by
      rw [hW0]
      have := blk_new (w.alloc (.cells #[I n0, .slice A0 l0.length c0] 24)) (.cells #[I n1, .slice A1 l1.length c1] 24)
      rwa [World.size_alloc] at this
    have HM0 : Aside0 (Mem W0 [.box w.heap.size 24 #[I n0, .slice A0 l0.length c0], .box (w.heap.size + 1) 24 #[I n1, .slice A1 l1.length c1]]) := ⟨Mem.cons (it := .box w.heap.size 24 #[I n0, .slice A0 l0.length c0]) hb_p0 (Mem.cons (it := .box (w.heap.size + 1) 24 #[I n1, .slice A1 l1.length c1]) hb_p1 (Mem.nil _))⟩
    have HG0 : Aside0 (Grew w W0) := ⟨by rw [hW0]; exact below_alloc (below_alloc (Grew.refl w) _) _⟩
    have hs0 : W0.heap.size = w.heap.size + 2 := by rw [hW0]; simp
    clear hb_p0 hb_p1
    have H0 := Aside0.mk (szC_calls n0 A0 c0 l0 (1048576 : Int) (by omega) W0 (Kd.C_below HR0.out HG0.out) HC0.out)
    rw [if_neg (by omega)] at H0
    have p0_0 : W0.cell? ⟨w.heap.size, 0, none⟩ = some (I n0) := blk_cell HM0.out.head 0
    have p0_1 : W0.cell? ⟨w.heap.size, 1, none⟩ = some (.slice A0 l0.length c0) := blk_cell HM0.out.head 1
    subst hW0
    go_enter Try.func4, Try.ntmps4
    have hneg0 : ¬ (((1048576 : Int) - (l0.length : Int)) < 0) := by omega
    go_wp2_with fail
    refine H0.out.mono ?_
    rintro e w1 ⟨rfl, hG1⟩
    clear p0_0 p0_1
    have HM1 := Aside0.mk (HM0.out.grew hG1)
    have HG1 := Aside0.mk (Grew.trans HG0.out hG1)
    have hs1 := hG1.size
    try simp at hs1
    clear hG1 H0
    have H1 := Aside0.mk (szC_calls n1 A1 c1 l1 ((1048576 : Int) - (l0.length : Int)) (by omega) w1 (Kd.C_below HR1.out HG1.out) HC1.out)
    rw [if_neg (by omega)] at H1
    have p1_0 : w1.cell? ⟨w.heap.size + 1, 0, none⟩ = some (I n1) := blk_cell HM1.out.tail.head 0
    have p1_1 : w1.cell? ⟨w.heap.size + 1, 1, none⟩ = some (.slice A1 l1.length c1) := blk_cell HM1.out.tail.head 1
    have hneg1 : ¬ ((((1048576 : Int) - (l0.length : Int)) - (l1.length : Int)) < 0) := by omega
    go_wp2_with fail
    refine H1.out.mono ?_
    rintro e w2 ⟨rfl, hG2⟩
    clear p1_0 p1_1
    have HM2 := Aside0.mk (HM1.out.grew hG2)
    have HG2 := Aside0.mk (Grew.trans HG1.out hG2)
    have hs2 := hG2.size
    clear hG2 H1
    have p0_0 : w2.cell? ⟨w.heap.size, 0, none⟩ = some (I n0) := blk_cell HM2.out.head 0
    have p0_1 : w2.cell? ⟨w.heap.size, 1, none⟩ = some (.slice A0 l0.length c0) := blk_cell HM2.out.head 1
    have p1_0 : w2.cell? ⟨w.heap.size + 1, 0, none⟩ = some (I n1) := blk_cell HM2.out.tail.head 0
    have p1_1 : w2.cell? ⟨w.heap.size + 1, 1, none⟩ = some (.slice A1 l1.length c1) := blk_cell HM2.out.tail.head 1
    have hl_p0 : w.heap.size < w2.heap.size := World.block_lt_of_cell? w2 _ p0_0
    have hl_p1 : w.heap.size + 1 < w2.heap.size := World.block_lt_of_cell? w2 _ p1_0
    go_upto_region 8 with fail
    go_cut [6, 7] (fun s0 s1 wx => ∃ (Aw0 : Option Addr) (cw0 low0 hiw0 : Nat) (Gw0 : Nat), s0 = .pointer (some ⟨Gw0, 0, none⟩) ∧ s1 = I r1 ∧ Aside0 (w2.heap.size ≤ low0 ∧ hiw0 ≤ wx.heap.size ∧ w2.heap.size ≤ Gw0 ∧ Gw0 < wx.heap.size) ∧ Aside0 (Mem wx [.box Gw0 26 #[I rn0, .slice Aw0 r0.length cw0], .row low0 hiw0 (.slice Aw0 r0.length cw0) r0]) ∧ Aside0 (Grew w2 wx))
    case first =>
      have HB := Aside0.mk (Grew.refl w2)
      have HP0 : Aside0 (∀ W, Grew w2 W → Calls Try.prog 9 #[.agg #[I n0, .slice A0 l0.length c0]] W fun e w' => ∃ A' c', e = .returned (.agg #[I n0, .slice A' l0.length c']) ∧ Row w' W.heap.size w'.heap.size (.slice A' l0.length c') l0 ∧ Grew W w') := ⟨fun W hW => toC_calls n0 A0 c0 l0 W (Kd.C_below HR0.out (Grew.trans HG2.out hW)) HC0.out (by omega)⟩
      have HP1 : Aside0 (∀ W, Grew w2 W → Calls Try.prog 9 #[.agg #[I n1, .slice A1 l1.length c1]] W fun e w' => ∃ A' c', e = .returned (.agg #[I n1, .slice A' l1.length c']) ∧ Row w' W.heap.size w'.heap.size (.slice A' l1.length c') l1 ∧ Grew W w') := ⟨fun W hW => toC_calls n1 A1 c1 l1 W (Kd.C_below HR1.out (Grew.trans HG2.out hW)) HC1.out (by omega)⟩
      go_region_held3 (fun w' => w'.cell? ⟨w.heap.size, 0, none⟩ = some (I n0) ∧ w'.cell? ⟨w.heap.size, 1, none⟩ = some (.slice A0 l0.length c0) ∧ w'.cell? ⟨w.heap.size + 1, 0, none⟩ = some (I n1) ∧ w'.cell? ⟨w.heap.size + 1, 1, none⟩ = some (.slice A1 l1.length c1))
        ((refine ⟨(Below.cell (w := w2) ?_ (p := ⟨w.heap.size, 0, none⟩) hl_p0).trans p0_0, (Below.cell (w := w2) ?_ (p := ⟨w.heap.size, 1, none⟩) hl_p0).trans p0_1, (Below.cell (w := w2) ?_ (p := ⟨w.heap.size + 1, 0, none⟩) hl_p1).trans p1_0, (Below.cell (w := w2) ?_ (p := ⟨w.heap.size + 1, 1, none⟩) hl_p1).trans p1_1⟩ <;> (repeat (first | exact HB.out | exact Below.refl _ _ | apply below_drew | apply pw_below_drewN | apply below_alloc | (refine Below.setCell ?_ ?_ _; rotate_left; (focus (first | omega | (simp; done) | (simp; omega))))))))
        (first
          | (go_at_call 9; first | ((with_reducible refine Calls.mono (HP0.out _ ?_) ?_); (focus (repeat (first | exact HB.out | exact Below.refl _ _ | apply below_drew | apply pw_below_drewN | apply below_alloc | (refine Below.setCell ?_ ?_ _; rotate_left; (focus (first | omega | (simp; done) | (simp; omega))))))); rintro e wA0 ⟨AA0, cA0, rfl, hRA0, hGA0⟩; obtain ⟨hcA0, hfA0⟩ := bcell hGA0; (try have hy_wA0_w2 : w2.heap.size < wA0.heap.size := by (have hq_ := hGA0.size; (try simp at hq_); omega));  have HB := Aside0.mk (Grew.trans (show Grew w2 _ by repeat (first | exact HB.out | exact Below.refl _ _ | apply below_drew | apply pw_below_drewN | apply below_alloc | (refine Below.setCell ?_ ?_ _; rotate_left; (focus (first | omega | (simp; done) | (simp; omega)))))) hGA0); have HQ0 := Aside0.mk hGA0; have HRA0 := Aside0.mk hRA0; have hzA0 : w2.heap.size ≤ wA0.heap.size := HB.out.size; clear hRA0 hGA0) | ((with_reducible refine Calls.mono (HP1.out _ ?_) ?_); (focus (repeat (first | exact HB.out | exact Below.refl _ _ | apply below_drew | apply pw_below_drewN | apply below_alloc | (refine Below.setCell ?_ ?_ _; rotate_left; (focus (first | omega | (simp; done) | (simp; omega))))))); rintro e wA1 ⟨AA1, cA1, rfl, hRA1, hGA1⟩; obtain ⟨hcA1, hfA1⟩ := bcell hGA1; (try have hy_wA1_w2 : w2.heap.size < wA1.heap.size := by (have hq_ := hGA1.size; (try simp at hq_); omega)); (try have hy_wA1_wA0 : wA0.heap.size < wA1.heap.size := by (have hq_ := hGA1.size; (try simp at hq_); omega)); have HRA0 := Aside0.mk (Row.grew2 HRA0.out (by repeat (first | exact HB.out | exact Below.refl _ _ | apply below_drew | apply pw_below_drewN | apply below_alloc | (refine Below.setCell ?_ ?_ _; rotate_left; (focus (first | omega | (simp; done) | (simp; omega)))))) hGA1); have HB := Aside0.mk (Grew.trans (show Grew w2 _ by repeat (first | exact HB.out | exact Below.refl _ _ | apply below_drew | apply pw_below_drewN | apply below_alloc | (refine Below.setCell ?_ ?_ _; rotate_left; (focus (first | omega | (simp; done) | (simp; omega)))))) hGA1); have HQ1 := Aside0.mk hGA1; have HRA1 := Aside0.mk hRA1; have hzA1 : w2.heap.size ≤ wA1.heap.size := HB.out.size; clear hRA1 hGA1))
          | (go_at_call 17; (with_reducible refine Calls.mono (HS.out _ AA0 cA0 AA1 cA1 ?_ ?_ ?_ ?_) ?_); (focus exact (Row.slice (Row.grew2 HRA0.out (by repeat (first | exact HB.out | exact Below.refl _ _ | apply below_drew | apply pw_below_drewN | apply below_alloc | (refine Below.setCell ?_ ?_ _; rotate_left; (focus (first | omega | (simp; done) | (simp; omega)))))) (Below.refl _ _))).2.2); (focus exact (Row.slice HRA0.out).2.1); (focus exact (Row.slice (Row.grew2 HRA1.out (by repeat (first | exact HB.out | exact Below.refl _ _ | apply below_drew | apply pw_below_drewN | apply below_alloc | (refine Below.setCell ?_ ?_ _; rotate_left; (focus (first | omega | (simp; done) | (simp; omega)))))) (Below.refl _ _))).2.2); (focus exact (Row.slice HRA1.out).2.1); rintro e wJ ⟨vw0, rfl, hRw0, hGJ⟩; obtain ⟨Aw0, cw0, rfl⟩ := Kd.R_slice hRw0; obtain ⟨hcJ, hfJ⟩ := bcell hGJ; (try have hy_wJ_w2 : w2.heap.size < wJ.heap.size := by (have hq_ := hGJ.size; (try simp at hq_); omega)); (try have hy_wJ_wA0 : wA0.heap.size < wJ.heap.size := by (have hq_ := hGJ.size; (try simp at hq_); omega)); (try have hy_wJ_wA1 : wA1.heap.size < wJ.heap.size := by (have hq_ := hGJ.size; (try simp at hq_); omega)); have HB := Aside0.mk (Grew.trans (show Grew w2 _ by repeat (first | exact HB.out | exact Below.refl _ _ | apply below_drew | apply pw_below_drewN | apply below_alloc | (refine Below.setCell ?_ ?_ _; rotate_left; (focus (first | omega | (simp; done) | (simp; omega)))))) hGJ); have HRJ0 := Aside0.mk (Row.of_R hRw0); have HQJ := Aside0.mk hGJ; have hzJ : w2.heap.size ≤ wJ.heap.size := HB.out.size; clear hGJ hRw0))
      all_goals (go_wp2_with fail; go_meet; first | exact ⟨Aw0, cw0, _, _, _, rfl, rfl, cutC_new HB.out HRJ0.out ⟨by first | omega | (simp; done) | (simp; omega), Nat.le_refl _⟩⟩ | exact ⟨Aw0, cw0, _, _, _, rfl, rfl, cutC_set (by first | omega | (simp; done) | (simp; omega)) (blk_below (blk_new _ _) HQJ.out) HB.out HRJ0.out ⟨by first | omega | (simp; done) | (simp; omega), Nat.le_refl _⟩⟩ | exact ⟨Aw0, cw0, _, _, _, rfl, rfl, cutC_set (by first | omega | (simp; done) | (simp; omega)) (blk_below (blk_drew (blk_new _ _)) HQJ.out) HB.out HRJ0.out ⟨by first | omega | (simp; done) | (simp; omega), Nat.le_refl _⟩⟩ | exact ⟨Aw0, cw0, _, _, _, rfl, rfl, cutC_set (by first | omega | (simp; done) | (simp; omega)) (blk_below (blk_below (blk_new _ _) HQ1.out) HQJ.out) HB.out HRJ0.out ⟨by first | omega | (simp; done) | (simp; omega), Nat.le_refl _⟩⟩ | exact ⟨Aw0, cw0, _, _, _, rfl, rfl, cutC_set (by first | omega | (simp; done) | (simp; omega)) (blk_below (blk_below (blk_drew (blk_new _ _)) HQ1.out) HQJ.out) HB.out HRJ0.out ⟨by first | omega | (simp; done) | (simp; omega), Nat.le_refl _⟩⟩ | exact ⟨Aw0, cw0, _, _, _, rfl, rfl, cutC_set (by first | omega | (simp; done) | (simp; omega)) (blk_below (blk_below (blk_below (blk_new _ _) HQ0.out) HQ1.out) HQJ.out) HB.out HRJ0.out ⟨by first | omega | (simp; done) | (simp; omega), Nat.le_refl _⟩⟩ | exact ⟨Aw0, cw0, _, _, _, rfl, rfl, cutC_set (by first | omega | (simp; done) | (simp; omega)) (blk_below (blk_below (blk_below (blk_drew (blk_new _ _)) HQ0.out) HQ1.out) HQJ.out) HB.out HRJ0.out ⟨by first | omega | (simp; done) | (simp; omega), Nat.le_refl _⟩⟩)
    case rest =>
    clear p0_0 p0_1 p1_0 p1_1
    have hwc : ∃ x : World, x = wc := ⟨_, rfl⟩
    obtain ⟨w4, hwc⟩ := hwc
    subst hwc
    obtain ⟨Aw0, cw0, low0, hiw0, Gw0, rfl, rfl, HZ4, HI4, HJ4⟩ := hcut
    have HM4 : Aside0 (Mem w4 [.box Gw0 26 #[I rn0, .slice Aw0 r0.length cw0], .row low0 hiw0 (.slice Aw0 r0.length cw0) r0, .box w.heap.size 24 #[I n0, .slice A0 l0.length c0], .box (w.heap.size + 1) 24 #[I n1, .slice A1 l1.length c1]]) := ⟨Mem.cons (it := .box Gw0 26 #[I rn0, .slice Aw0 r0.length cw0]) (HI4.out.head) (Mem.cons (it := .row low0 hiw0 (.slice Aw0 r0.length cw0) r0) (HI4.out.tail.head) (HM2.out.grew HJ4.out))⟩
    have HG4 := Aside0.mk (Grew.trans HG2.out HJ4.out)
    have hs4 := HJ4.out.size
    have hz4 := HZ4.out
    clear HZ4 HI4 HJ4 hl_p0 hl_p1
    have p0_0 : w4.cell? ⟨w.heap.size, 0, none⟩ = some (I n0) := blk_cell HM4.out.tail.tail.head 0
    have p0_1 : w4.cell? ⟨w.heap.size, 1, none⟩ = some (.slice A0 l0.length c0) := blk_cell HM4.out.tail.tail.head 1
    go_wp2_with fail
    clear p0_0 p0_1
    refine (toC_calls n0 A0 c0 l0 w4 (Kd.C_below HR0.out HG4.out) HC0.out (by omega)).mono ?_
    rintro e w5 ⟨Ax0, cx0, rfl, hR5, hG5⟩
    have HM5 : Aside0 (Mem w5 [.row w4.heap.size w5.heap.size (.slice Ax0 l0.length cx0) l0, .box Gw0 26 #[I rn0, .slice Aw0 r0.length cw0], .row low0 hiw0 (.slice Aw0 r0.length cw0) r0, .box w.heap.size 24 #[I n0, .slice A0 l0.length c0], .box (w.heap.size + 1) 24 #[I n1, .slice A1 l1.length c1]]) := ⟨Mem.cons (it := .row w4.heap.size w5.heap.size (.slice Ax0 l0.length cx0) l0) (hR5) (HM4.out.grew hG5)⟩
    have HG5 := Aside0.mk (Grew.trans HG4.out hG5)
    have hs5 := hG5.size
    clear hG5 
    have HM6 : Aside0 (Mem (w5.alloc (.cells #[I n0, .slice Ax0 l0.length cx0] 26)) [.box w5.heap.size 26 #[I n0, .slice Ax0 l0.length cx0], .row w4.heap.size w5.heap.size (.slice Ax0 l0.length cx0) l0, .box Gw0 26 #[I rn0, .slice Aw0 r0.length cw0], .row low0 hiw0 (.slice Aw0 r0.length cw0) r0, .box w.heap.size 24 #[I n0, .slice A0 l0.length c0], .box (w.heap.size + 1) 24 #[I n1, .slice A1 l1.length c1]]) := ⟨Mem.cons (blk_new w5 _) (HM5.out.grew (below_alloc (Grew.refl w5) _))⟩
    have HG6 : Aside0 (Grew w (w5.alloc (.cells #[I n0, .slice Ax0 l0.length cx0] 26))) := ⟨Grew.trans HG5.out (below_alloc (Grew.refl w5) _)⟩
    have hS6 : (w5.alloc (.cells #[I n0, .slice Ax0 l0.length cx0] 26)).heap.size = w5.heap.size + 1 := by simp
    have p1_0 : (w5.alloc (.cells #[I n0, .slice Ax0 l0.length cx0] 26)).cell? ⟨w.heap.size + 1, 0, none⟩ = some (I n1) := blk_cell HM6.out.tail.tail.tail.tail.tail.head 0
    have p1_1 : (w5.alloc (.cells #[I n0, .slice Ax0 l0.length cx0] 26)).cell? ⟨w.heap.size + 1, 1, none⟩ = some (.slice A1 l1.length c1) := blk_cell HM6.out.tail.tail.tail.tail.tail.head 1
    go_wp2_with fail
    generalize (w5.alloc (.cells #[I n0, .slice Ax0 l0.length cx0] 26)) = W6 at HM6 HG6 hS6 p1_0 p1_1 ⊢
    clear p1_0 p1_1
    refine (toC_calls n1 A1 c1 l1 W6 (Kd.C_below HR1.out HG6.out) HC1.out (by omega)).mono ?_
    rintro e w7 ⟨Ax1, cx1, rfl, hR7, hG7⟩
    have HM7 : Aside0 (Mem w7 [.row W6.heap.size w7.heap.size (.slice Ax1 l1.length cx1) l1, .box w5.heap.size 26 #[I n0, .slice Ax0 l0.length cx0], .row w4.heap.size w5.heap.size (.slice Ax0 l0.length cx0) l0, .box Gw0 26 #[I rn0, .slice Aw0 r0.length cw0], .row low0 hiw0 (.slice Aw0 r0.length cw0) r0, .box w.heap.size 24 #[I n0, .slice A0 l0.length c0], .box (w.heap.size + 1) 24 #[I n1, .slice A1 l1.length c1]]) := ⟨Mem.cons (it := .row W6.heap.size w7.heap.size (.slice Ax1 l1.length cx1) l1) (hR7) (HM6.out.grew hG7)⟩
    have HG7 := Aside0.mk (Grew.trans HG6.out hG7)
    have hs7 := hG7.size
    clear hG7 
    have HM8 : Aside0 (Mem (w7.alloc (.cells #[I n1, .slice Ax1 l1.length cx1] 26)) [.box w7.heap.size 26 #[I n1, .slice Ax1 l1.length cx1], .row W6.heap.size w7.heap.size (.slice Ax1 l1.length cx1) l1, .box w5.heap.size 26 #[I n0, .slice Ax0 l0.length cx0], .row w4.heap.size w5.heap.size (.slice Ax0 l0.length cx0) l0, .box Gw0 26 #[I rn0, .slice Aw0 r0.length cw0], .row low0 hiw0 (.slice Aw0 r0.length cw0) r0, .box w.heap.size 24 #[I n0, .slice A0 l0.length c0], .box (w.heap.size + 1) 24 #[I n1, .slice A1 l1.length c1]]) := ⟨Mem.cons (blk_new w7 _) (HM7.out.grew (below_alloc (Grew.refl w7) _))⟩
    have HG8 : Aside0 (Grew w (w7.alloc (.cells #[I n1, .slice Ax1 l1.length cx1] 26))) := ⟨Grew.trans HG7.out (below_alloc (Grew.refl w7) _)⟩
    have hS8 : (w7.alloc (.cells #[I n1, .slice Ax1 l1.length cx1] 26)).heap.size = w7.heap.size + 1 := by simp
    have bx0_0 : (w7.alloc (.cells #[I n1, .slice Ax1 l1.length cx1] 26)).cell? ⟨w5.heap.size, 0, none⟩ = some (I n0) := blk_cell HM8.out.tail.tail.head 0
    have bx0_1 : (w7.alloc (.cells #[I n1, .slice Ax1 l1.length cx1] 26)).cell? ⟨w5.heap.size, 1, none⟩ = some (.slice Ax0 l0.length cx0) := blk_cell HM8.out.tail.tail.head 1
    have bx1_0 : (w7.alloc (.cells #[I n1, .slice Ax1 l1.length cx1] 26)).cell? ⟨w7.heap.size, 0, none⟩ = some (I n1) := blk_cell HM8.out.head 0
    have bx1_1 : (w7.alloc (.cells #[I n1, .slice Ax1 l1.length cx1] 26)).cell? ⟨w7.heap.size, 1, none⟩ = some (.slice Ax1 l1.length cx1) := blk_cell HM8.out.head 1
    go_wp2_with fail
    generalize (w7.alloc (.cells #[I n1, .slice Ax1 l1.length cx1] 26)) = W8 at HM8 HG8 hS8 bx0_0 bx0_1 bx1_0 bx1_1 ⊢
    clear bx0_0 bx0_1 bx1_0 bx1_1
    refine (HI.out W8 Ax0 cx0 Ax1 cx1 (Row.slice HM8.out.tail.tail.tail.head).2.2 (Row.slice HM8.out.tail.tail.tail.head).2.1 (Row.slice HM8.out.tail.head).2.2 (Row.slice HM8.out.tail.head).2.1).mono ?_
    rintro e w9 ⟨vg0, rfl, hRg0, hG9⟩
    obtain ⟨Ag0, cg0, rfl⟩ := Kd.R_slice hRg0
    have HM9 : Aside0 (Mem w9 [.row W8.heap.size w9.heap.size (.slice Ag0 r0.length cg0) r0, .box w7.heap.size 26 #[I n1, .slice Ax1 l1.length cx1], .row W6.heap.size w7.heap.size (.slice Ax1 l1.length cx1) l1, .box w5.heap.size 26 #[I n0, .slice Ax0 l0.length cx0], .row w4.heap.size w5.heap.size (.slice Ax0 l0.length cx0) l0, .box Gw0 26 #[I rn0, .slice Aw0 r0.length cw0], .row low0 hiw0 (.slice Aw0 r0.length cw0) r0, .box w.heap.size 24 #[I n0, .slice A0 l0.length c0], .box (w.heap.size + 1) 24 #[I n1, .slice A1 l1.length c1]]) := ⟨Mem.cons (it := .row W8.heap.size w9.heap.size (.slice Ag0 r0.length cg0) r0) (Row.of_R hRg0) (HM8.out.grew hG9)⟩
    have HG9 := Aside0.mk (Grew.trans HG8.out hG9)
    have hs9 := hG9.size
    clear hG9 
    have HM10 : Aside0 (Mem (w9.alloc (.cells #[I rn0, .slice Ag0 r0.length cg0] 26)) [.box w9.heap.size 26 #[I rn0, .slice Ag0 r0.length cg0], .row W8.heap.size w9.heap.size (.slice Ag0 r0.length cg0) r0, .box w7.heap.size 26 #[I n1, .slice Ax1 l1.length cx1], .row W6.heap.size w7.heap.size (.slice Ax1 l1.length cx1) l1, .box w5.heap.size 26 #[I n0, .slice Ax0 l0.length cx0], .row w4.heap.size w5.heap.size (.slice Ax0 l0.length cx0) l0, .box Gw0 26 #[I rn0, .slice Aw0 r0.length cw0], .row low0 hiw0 (.slice Aw0 r0.length cw0) r0, .box w.heap.size 24 #[I n0, .slice A0 l0.length c0], .box (w.heap.size + 1) 24 #[I n1, .slice A1 l1.length c1]]) := ⟨Mem.cons (blk_new w9 _) (HM9.out.grew (below_alloc (Grew.refl w9) _))⟩
    have HG10 : Aside0 (Grew w (w9.alloc (.cells #[I rn0, .slice Ag0 r0.length cg0] 26))) := ⟨Grew.trans HG9.out (below_alloc (Grew.refl w9) _)⟩
    have hS10 : (w9.alloc (.cells #[I rn0, .slice Ag0 r0.length cg0] 26)).heap.size = w9.heap.size + 1 := by simp
    have bg0_0 : (w9.alloc (.cells #[I rn0, .slice Ag0 r0.length cg0] 26)).cell? ⟨w9.heap.size, 0, none⟩ = some (I rn0) := blk_cell HM10.out.head 0
    have bg0_1 : (w9.alloc (.cells #[I rn0, .slice Ag0 r0.length cg0] 26)).cell? ⟨w9.heap.size, 1, none⟩ = some (.slice Ag0 r0.length cg0) := blk_cell HM10.out.head 1
    have bw0_0 : (w9.alloc (.cells #[I rn0, .slice Ag0 r0.length cg0] 26)).cell? ⟨Gw0, 0, none⟩ = some (I rn0) := blk_cell HM10.out.tail.tail.tail.tail.tail.tail.head 0
    have bw0_1 : (w9.alloc (.cells #[I rn0, .slice Ag0 r0.length cg0] 26)).cell? ⟨Gw0, 1, none⟩ = some (.slice Aw0 r0.length cw0) := blk_cell HM10.out.tail.tail.tail.tail.tail.tail.head 1
    go_wp2_with fail
    generalize (w9.alloc (.cells #[I rn0, .slice Ag0 r0.length cg0] 26)) = W10 at HM10 HG10 hS10 bg0_0 bg0_1 bw0_0 bw0_1 ⊢
    clear bg0_0 bg0_1 bw0_0 bw0_1
    refine (eqC_calls rn0 r0 Ag0 Aw0 cg0 cw0 _ _ _ _ _ _ W10 HM10.out.tail.head HM10.out.tail.tail.tail.tail.tail.tail.tail.head).mono ?_
    rintro e w11 ⟨rfl, hG11⟩
    have HM11 := Aside0.mk (HM10.out.grew hG11)
    have HG11 := Aside0.mk (Grew.trans HG10.out hG11)
    have hs11 := hG11.size
    clear hG11
    go_wp2_with fail
    have bx0_0 : w11.cell? ⟨w5.heap.size, 0, none⟩ = some (I n0) := blk_cell HM11.out.tail.tail.tail.tail.head 0
    have bx0_1 : w11.cell? ⟨w5.heap.size, 1, none⟩ = some (.slice Ax0 l0.length cx0) := blk_cell HM11.out.tail.tail.tail.tail.head 1
    have p0_0 : w11.cell? ⟨w.heap.size, 0, none⟩ = some (I n0) := blk_cell HM11.out.tail.tail.tail.tail.tail.tail.tail.tail.head 0
    have p0_1 : w11.cell? ⟨w.heap.size, 1, none⟩ = some (.slice A0 l0.length c0) := blk_cell HM11.out.tail.tail.tail.tail.tail.tail.tail.tail.head 1
    have hlx : w5.heap.size < w11.heap.size := World.block_lt_of_cell? w11 _ bx0_0
    have hlp : w.heap.size < w11.heap.size := World.block_lt_of_cell? w11 _ p0_0
    go_region_held3 (fun w' => w'.cell? ⟨w5.heap.size, 0, none⟩ = some (I n0) ∧ w'.cell? ⟨w5.heap.size, 1, none⟩ = some (.slice Ax0 l0.length cx0) ∧ w'.cell? ⟨w.heap.size, 0, none⟩ = some (I n0) ∧ w'.cell? ⟨w.heap.size, 1, none⟩ = some (.slice A0 l0.length c0))
      (first | exact ⟨(HDb.out.cell (p := ⟨w5.heap.size, 0, none⟩) hlx).trans bx0_0, (HDb.out.cell (p := ⟨w5.heap.size, 1, none⟩) hlx).trans bx0_1, (HDb.out.cell (p := ⟨w.heap.size, 0, none⟩) hlp).trans p0_0, (HDb.out.cell (p := ⟨w.heap.size, 1, none⟩) hlp).trans p0_1⟩ | exact ⟨(HDa.out.cell (p := ⟨w5.heap.size, 0, none⟩) hlx).trans bx0_0, (HDa.out.cell (p := ⟨w5.heap.size, 1, none⟩) hlx).trans bx0_1, (HDa.out.cell (p := ⟨w.heap.size, 0, none⟩) hlp).trans p0_0, (HDa.out.cell (p := ⟨w.heap.size, 1, none⟩) hlp).trans p0_1⟩ | go_keep)
      (first
        | (go_at_call 9; refine (toC_calls n0 A0 c0 l0 _ (Kd.C_below HR0.out (Below.trans HG11.out ((Below.refl _ w11).drew))) HC0.out (by omega)).mono ?_; rintro e w12 ⟨Aq0, cq0, rfl, hRa, hGa⟩; have HDa : Aside0 (Grew w11 w12) := ⟨Below.trans ((Below.refl _ w11).drew) hGa⟩; have HRa := Aside0.mk hRa; clear hRa hGa)
        | (go_at_call 12; refine (eqC_calls n0 l0 Ax0 Aq0 cx0 cq0 _ _ _ _ _ _ w12 (HM11.out.grew HDa.out).tail.tail.tail.tail.tail.head HRa.out).mono ?_; rintro e w13 ⟨rfl, hGb⟩; have HDb : Aside0 (Grew w11 w13) := ⟨Grew.trans HDa.out hGb⟩; clear hGb))
    clear bx0_0 bx0_1 p0_0 p0_1
    have hG13 := HDb.out
    clear hlx hlp HDa HDb HRa
    have HM13 := Aside0.mk (HM11.out.grew hG13)
    have HG13 := Aside0.mk (Grew.trans HG11.out hG13)
    have hs13 := hG13.size
    clear hG13
    go_wp2_with fail
    have bx1_0 : w13.cell? ⟨w7.heap.size, 0, none⟩ = some (I n1) := blk_cell HM13.out.tail.tail.head 0
    have bx1_1 : w13.cell? ⟨w7.heap.size, 1, none⟩ = some (.slice Ax1 l1.length cx1) := blk_cell HM13.out.tail.tail.head 1
    have p1_0 : w13.cell? ⟨w.heap.size + 1, 0, none⟩ = some (I n1) := blk_cell HM13.out.tail.tail.tail.tail.tail.tail.tail.tail.tail.head 0
    have p1_1 : w13.cell? ⟨w.heap.size + 1, 1, none⟩ = some (.slice A1 l1.length c1) := blk_cell HM13.out.tail.tail.tail.tail.tail.tail.tail.tail.tail.head 1
    have hlx : w7.heap.size < w13.heap.size := World.block_lt_of_cell? w13 _ bx1_0
    have hlp : w.heap.size + 1 < w13.heap.size := World.block_lt_of_cell? w13 _ p1_0
    go_region_held3 (fun w' => w'.cell? ⟨w7.heap.size, 0, none⟩ = some (I n1) ∧ w'.cell? ⟨w7.heap.size, 1, none⟩ = some (.slice Ax1 l1.length cx1) ∧ w'.cell? ⟨w.heap.size + 1, 0, none⟩ = some (I n1) ∧ w'.cell? ⟨w.heap.size + 1, 1, none⟩ = some (.slice A1 l1.length c1))
      (first | exact ⟨(HDb.out.cell (p := ⟨w7.heap.size, 0, none⟩) hlx).trans bx1_0, (HDb.out.cell (p := ⟨w7.heap.size, 1, none⟩) hlx).trans bx1_1, (HDb.out.cell (p := ⟨w.heap.size + 1, 0, none⟩) hlp).trans p1_0, (HDb.out.cell (p := ⟨w.heap.size + 1, 1, none⟩) hlp).trans p1_1⟩ | exact ⟨(HDa.out.cell (p := ⟨w7.heap.size, 0, none⟩) hlx).trans bx1_0, (HDa.out.cell (p := ⟨w7.heap.size, 1, none⟩) hlx).trans bx1_1, (HDa.out.cell (p := ⟨w.heap.size + 1, 0, none⟩) hlp).trans p1_0, (HDa.out.cell (p := ⟨w.heap.size + 1, 1, none⟩) hlp).trans p1_1⟩ | go_keep)
      (first
        | (go_at_call 9; refine (toC_calls n1 A1 c1 l1 _ (Kd.C_below HR1.out (Below.trans HG13.out ((Below.refl _ w13).drew))) HC1.out (by omega)).mono ?_; rintro e w14 ⟨Aq1, cq1, rfl, hRa, hGa⟩; have HDa : Aside0 (Grew w13 w14) := ⟨Below.trans ((Below.refl _ w13).drew) hGa⟩; have HRa := Aside0.mk hRa; clear hRa hGa)
        | (go_at_call 12; refine (eqC_calls n1 l1 Ax1 Aq1 cx1 cq1 _ _ _ _ _ _ w14 (HM13.out.grew HDa.out).tail.tail.tail.head HRa.out).mono ?_; rintro e w15 ⟨rfl, hGb⟩; have HDb : Aside0 (Grew w13 w15) := ⟨Grew.trans HDa.out hGb⟩; clear hGb))
    clear bx1_0 bx1_1 p1_0 p1_1
    have hG15 := HDb.out
    clear hlx hlp HDa HDb HRa
    have HM15 := Aside0.mk (HM13.out.grew hG15)
    have HG15 := Aside0.mk (Grew.trans HG13.out hG15)
    have hs15 := hG15.size
    clear hG15
    have bx0_0 : w15.cell? ⟨w5.heap.size, 0, none⟩ = some (I n0) := blk_cell HM15.out.tail.tail.tail.tail.head 0
    have bx0_1 : w15.cell? ⟨w5.heap.size, 1, none⟩ = some (.slice Ax0 l0.length cx0) := blk_cell HM15.out.tail.tail.tail.tail.head 1
    go_wp2_with fail
    clear bx0_0 bx0_1
    refine (markC_calls n0 Ax0 l0.length cx0 l0 1 (by omega) (by omega) _ _ w w15 HG15.out (by omega) HM15.out.tail.tail.tail.tail.tail.head).mono ?_
    rintro e w16 ⟨rfl, hX16, hB16, hK16⟩
    have HM16 : Aside0 (Mem w16 [.box w9.heap.size 26 #[I rn0, .slice Ag0 r0.length cg0], .row W8.heap.size w9.heap.size (.slice Ag0 r0.length cg0) r0, .box w7.heap.size 26 #[I n1, .slice Ax1 l1.length cx1], .row W6.heap.size w7.heap.size (.slice Ax1 l1.length cx1) l1, .box w5.heap.size 26 #[I n0, .slice Ax0 l0.length cx0], .box Gw0 26 #[I rn0, .slice Aw0 r0.length cw0], .row low0 hiw0 (.slice Aw0 r0.length cw0) r0, .box w.heap.size 24 #[I n0, .slice A0 l0.length c0], .box (w.heap.size + 1) 24 #[I n1, .slice A1 l1.length c1]]) := ⟨Mem.kept (Mem.cons (it := .box w9.heap.size 26 #[I rn0, .slice Ag0 r0.length cg0]) HM15.out.head (Mem.cons (it := .row W8.heap.size w9.heap.size (.slice Ag0 r0.length cg0) r0) HM15.out.tail.head (Mem.cons (it := .box w7.heap.size 26 #[I n1, .slice Ax1 l1.length cx1]) HM15.out.tail.tail.head (Mem.cons (it := .row W6.heap.size w7.heap.size (.slice Ax1 l1.length cx1) l1) HM15.out.tail.tail.tail.head (Mem.cons (it := .box w5.heap.size 26 #[I n0, .slice Ax0 l0.length cx0]) HM15.out.tail.tail.tail.tail.head (Mem.cons (it := .box Gw0 26 #[I rn0, .slice Aw0 r0.length cw0]) HM15.out.tail.tail.tail.tail.tail.tail.head (Mem.cons (it := .row low0 hiw0 (.slice Aw0 r0.length cw0) r0) HM15.out.tail.tail.tail.tail.tail.tail.tail.head (Mem.cons (it := .box w.heap.size 24 #[I n0, .slice A0 l0.length c0]) HM15.out.tail.tail.tail.tail.tail.tail.tail.tail.head (Mem.cons (it := .box (w.heap.size + 1) 24 #[I n1, .slice A1 l1.length c1]) HM15.out.tail.tail.tail.tail.tail.tail.tail.tail.tail.head (Mem.nil _)))))))))) hK16 (by intro it hit k hk; simp only [List.mem_cons, List.not_mem_nil, or_false] at hit; rcases hit with rfl | rfl | rfl | rfl | rfl | rfl | rfl | rfl | rfl <;> (simp only [Item.at_] at hk; omega))⟩
    have HG16 := Aside0.mk hB16
    have hs16 := hK16.1
    clear hX16 hB16 hK16
    have bx1_0 : w16.cell? ⟨w7.heap.size, 0, none⟩ = some (I n1) := blk_cell HM16.out.tail.tail.head 0
    have bx1_1 : w16.cell? ⟨w7.heap.size, 1, none⟩ = some (.slice Ax1 l1.length cx1) := blk_cell HM16.out.tail.tail.head 1
    go_wp2_with fail
    clear bx1_0 bx1_1
    refine (markC_calls n1 Ax1 l1.length cx1 l1 (1 + (l0.length : Int)) (by omega) (by omega) _ _ w w16 HG16.out (by omega) HM16.out.tail.tail.tail.head).mono ?_
    rintro e w17 ⟨rfl, hX17, hB17, hK17⟩
    have HM17 : Aside0 (Mem w17 [.box w9.heap.size 26 #[I rn0, .slice Ag0 r0.length cg0], .row W8.heap.size w9.heap.size (.slice Ag0 r0.length cg0) r0, .box w7.heap.size 26 #[I n1, .slice Ax1 l1.length cx1], .box w5.heap.size 26 #[I n0, .slice Ax0 l0.length cx0], .box Gw0 26 #[I rn0, .slice Aw0 r0.length cw0], .row low0 hiw0 (.slice Aw0 r0.length cw0) r0, .box w.heap.size 24 #[I n0, .slice A0 l0.length c0], .box (w.heap.size + 1) 24 #[I n1, .slice A1 l1.length c1]]) := ⟨Mem.kept (Mem.cons (it := .box w9.heap.size 26 #[I rn0, .slice Ag0 r0.length cg0]) HM16.out.head (Mem.cons (it := .row W8.heap.size w9.heap.size (.slice Ag0 r0.length cg0) r0) HM16.out.tail.head (Mem.cons (it := .box w7.heap.size 26 #[I n1, .slice Ax1 l1.length cx1]) HM16.out.tail.tail.head (Mem.cons (it := .box w5.heap.size 26 #[I n0, .slice Ax0 l0.length cx0]) HM16.out.tail.tail.tail.tail.head (Mem.cons (it := .box Gw0 26 #[I rn0, .slice Aw0 r0.length cw0]) HM16.out.tail.tail.tail.tail.tail.head (Mem.cons (it := .row low0 hiw0 (.slice Aw0 r0.length cw0) r0) HM16.out.tail.tail.tail.tail.tail.tail.head (Mem.cons (it := .box w.heap.size 24 #[I n0, .slice A0 l0.length c0]) HM16.out.tail.tail.tail.tail.tail.tail.tail.head (Mem.cons (it := .box (w.heap.size + 1) 24 #[I n1, .slice A1 l1.length c1]) HM16.out.tail.tail.tail.tail.tail.tail.tail.tail.head (Mem.nil _))))))))) hK17 (by intro it hit k hk; simp only [List.mem_cons, List.not_mem_nil, or_false] at hit; rcases hit with rfl | rfl | rfl | rfl | rfl | rfl | rfl | rfl <;> (simp only [Item.at_] at hk; omega))⟩
    have HG17 := Aside0.mk hB17
    have hs17 := hK17.1
    clear hX17 hB17 hK17
    have hneg : ¬ (((1 + (l0.length : Int)) + (l1.length : Int)) < 0) := by omega
    have bg0_0 : w17.cell? ⟨w9.heap.size, 0, none⟩ = some (I rn0) := blk_cell HM17.out.head 0
    have bg0_1 : w17.cell? ⟨w9.heap.size, 1, none⟩ = some (.slice Ag0 r0.length cg0) := blk_cell HM17.out.head 1
    have bw0_0 : w17.cell? ⟨Gw0, 0, none⟩ = some (I rn0) := blk_cell HM17.out.tail.tail.tail.tail.head 0
    have bw0_1 : w17.cell? ⟨Gw0, 1, none⟩ = some (.slice Aw0 r0.length cw0) := blk_cell HM17.out.tail.tail.tail.tail.head 1
    go_wp2_with fail
    clear bg0_0 bg0_1 bw0_0 bw0_1
    refine (eqC_calls rn0 r0 Ag0 Aw0 cg0 cw0 _ _ _ _ _ _ w17 HM17.out.tail.head HM17.out.tail.tail.tail.tail.tail.head).mono ?_
    rintro e w18 ⟨rfl, hG18⟩
    have HM18 := Aside0.mk (HM17.out.grew hG18)
    have HG18 := Aside0.mk (Grew.trans HG17.out hG18)
    have hs18 := hG18.size
    clear hG18
    clear hneg
    have bg0_0 : w18.cell? ⟨w9.heap.size, 0, none⟩ = some (I rn0) := blk_cell HM18.out.head 0
    have bg0_1 : w18.cell? ⟨w9.heap.size, 1, none⟩ = some (.slice Ag0 r0.length cg0) := blk_cell HM18.out.head 1
    go_wp2_with fail
    clear bg0_0 bg0_1
    refine (markC_calls rn0 Ag0 r0.length cg0 r0 1 (by omega) (by omega) _ _ w w18 HG18.out (by omega) HM18.out.tail.head).mono ?_
    rintro e w19 ⟨rfl, hX19, hB19, hK19⟩
    have HM19 : Aside0 (Mem w19 [.row W8.heap.size w9.heap.size (.slice Ag0 r0.length cg0) (marks 1 r0.length), .box w9.heap.size 26 #[I rn0, .slice Ag0 r0.length cg0], .box w7.heap.size 26 #[I n1, .slice Ax1 l1.length cx1], .box w5.heap.size 26 #[I n0, .slice Ax0 l0.length cx0], .box Gw0 26 #[I rn0, .slice Aw0 r0.length cw0], .row low0 hiw0 (.slice Aw0 r0.length cw0) r0, .box w.heap.size 24 #[I n0, .slice A0 l0.length c0], .box (w.heap.size + 1) 24 #[I n1, .slice A1 l1.length c1]]) := ⟨Mem.cons (it := .row W8.heap.size w9.heap.size (.slice Ag0 r0.length cg0) (marks 1 r0.length)) hX19 (Mem.kept (Mem.cons (it := .box w9.heap.size 26 #[I rn0, .slice Ag0 r0.length cg0]) HM18.out.head (Mem.cons (it := .box w7.heap.size 26 #[I n1, .slice Ax1 l1.length cx1]) HM18.out.tail.tail.head (Mem.cons (it := .box w5.heap.size 26 #[I n0, .slice Ax0 l0.length cx0]) HM18.out.tail.tail.tail.head (Mem.cons (it := .box Gw0 26 #[I rn0, .slice Aw0 r0.length cw0]) HM18.out.tail.tail.tail.tail.head (Mem.cons (it := .row low0 hiw0 (.slice Aw0 r0.length cw0) r0) HM18.out.tail.tail.tail.tail.tail.head (Mem.cons (it := .box w.heap.size 24 #[I n0, .slice A0 l0.length c0]) HM18.out.tail.tail.tail.tail.tail.tail.head (Mem.cons (it := .box (w.heap.size + 1) 24 #[I n1, .slice A1 l1.length c1]) HM18.out.tail.tail.tail.tail.tail.tail.tail.head (Mem.nil _)))))))) hK19 (by intro it hit k hk; simp only [List.mem_cons, List.not_mem_nil, or_false] at hit; rcases hit with rfl | rfl | rfl | rfl | rfl | rfl | rfl <;> (simp only [Item.at_] at hk; omega)))⟩
    have HG19 := Aside0.mk hB19
    have hs19 := hK19.1
    clear hX19 hB19 hK19
    have hneg0 : ¬ ((1 + (r0.length : Int)) < 0) := by omega
    have bg0_0 : w19.cell? ⟨w9.heap.size, 0, none⟩ = some (I rn0) := blk_cell HM19.out.tail.head 0
    have bg0_1 : w19.cell? ⟨w9.heap.size, 1, none⟩ = some (.slice Ag0 r0.length cg0) := blk_cell HM19.out.tail.head 1
    go_wp2_with fail
    clear bg0_0 bg0_1
    refine (heldC_calls rn0 Ag0 r0.length r0.length cg0 _ _ 1 (by omega) (by omega) w19 HM19.out.head).mono ?_
    rintro e w20 ⟨rfl, hG20⟩
    have HM20 := Aside0.mk (HM19.out.grew hG20)
    have HG20 := Aside0.mk (Grew.trans HG19.out hG20)
    have hs20 := hG20.size
    clear hG20
    have p0_0 : w20.cell? ⟨w.heap.size, 0, none⟩ = some (I n0) := blk_cell HM20.out.tail.tail.tail.tail.tail.tail.head 0
    have p0_1 : w20.cell? ⟨w.heap.size, 1, none⟩ = some (.slice A0 l0.length c0) := blk_cell HM20.out.tail.tail.tail.tail.tail.tail.head 1
    have p1_0 : w20.cell? ⟨w.heap.size + 1, 0, none⟩ = some (I n1) := blk_cell HM20.out.tail.tail.tail.tail.tail.tail.tail.head 0
    have p1_1 : w20.cell? ⟨w.heap.size + 1, 1, none⟩ = some (.slice A1 l1.length c1) := blk_cell HM20.out.tail.tail.tail.tail.tail.tail.tail.head 1
    have hl_p0 : w.heap.size < w20.heap.size := World.block_lt_of_cell? w20 _ p0_0
    have hl_p1 : w.heap.size + 1 < w20.heap.size := World.block_lt_of_cell? w20 _ p1_0
    go_upto_region 31 with fail
    go_cut [15, 16] (fun s0 s1 wx => ∃ (Ah0 : Option Addr) (ch0 loh0 hih0 : Nat) (Gh0 : Nat), s0 = .pointer (some ⟨Gh0, 0, none⟩) ∧ s1 = I r1 ∧ Aside0 (w20.heap.size ≤ loh0 ∧ hih0 ≤ wx.heap.size ∧ w20.heap.size ≤ Gh0 ∧ Gh0 < wx.heap.size) ∧ Aside0 (Mem wx [.box Gh0 26 #[I rn0, .slice Ah0 r0.length ch0], .row loh0 hih0 (.slice Ah0 r0.length ch0) r0]) ∧ Aside0 (Grew w20 wx))
    case first =>
      have HB := Aside0.mk (Grew.refl w20)
      have HP0 : Aside0 (∀ W, Grew w20 W → Calls Try.prog 9 #[.agg #[I n0, .slice A0 l0.length c0]] W fun e w' => ∃ A' c', e = .returned (.agg #[I n0, .slice A' l0.length c']) ∧ Row w' W.heap.size w'.heap.size (.slice A' l0.length c') l0 ∧ Grew W w') := ⟨fun W hW => toC_calls n0 A0 c0 l0 W (Kd.C_below HR0.out (Grew.trans HG20.out hW)) HC0.out (by omega)⟩
      have HP1 : Aside0 (∀ W, Grew w20 W → Calls Try.prog 9 #[.agg #[I n1, .slice A1 l1.length c1]] W fun e w' => ∃ A' c', e = .returned (.agg #[I n1, .slice A' l1.length c']) ∧ Row w' W.heap.size w'.heap.size (.slice A' l1.length c') l1 ∧ Grew W w') := ⟨fun W hW => toC_calls n1 A1 c1 l1 W (Kd.C_below HR1.out (Grew.trans HG20.out hW)) HC1.out (by omega)⟩
      go_region_held3 (fun w' => w'.cell? ⟨w.heap.size, 0, none⟩ = some (I n0) ∧ w'.cell? ⟨w.heap.size, 1, none⟩ = some (.slice A0 l0.length c0) ∧ w'.cell? ⟨w.heap.size + 1, 0, none⟩ = some (I n1) ∧ w'.cell? ⟨w.heap.size + 1, 1, none⟩ = some (.slice A1 l1.length c1))
        ((refine ⟨(Below.cell (w := w20) ?_ (p := ⟨w.heap.size, 0, none⟩) hl_p0).trans p0_0, (Below.cell (w := w20) ?_ (p := ⟨w.heap.size, 1, none⟩) hl_p0).trans p0_1, (Below.cell (w := w20) ?_ (p := ⟨w.heap.size + 1, 0, none⟩) hl_p1).trans p1_0, (Below.cell (w := w20) ?_ (p := ⟨w.heap.size + 1, 1, none⟩) hl_p1).trans p1_1⟩ <;> (repeat (first | exact HB.out | exact Below.refl _ _ | apply below_drew | apply pw_below_drewN | apply below_alloc | (refine Below.setCell ?_ ?_ _; rotate_left; (focus (first | omega | (simp; done) | (simp; omega))))))))
        (first
          | (go_at_call 9; first | ((with_reducible refine Calls.mono (HP0.out _ ?_) ?_); (focus (repeat (first | exact HB.out | exact Below.refl _ _ | apply below_drew | apply pw_below_drewN | apply below_alloc | (refine Below.setCell ?_ ?_ _; rotate_left; (focus (first | omega | (simp; done) | (simp; omega))))))); rintro e wA0 ⟨AA0, cA0, rfl, hRA0, hGA0⟩; obtain ⟨hcA0, hfA0⟩ := bcell hGA0; (try have hy_wA0_w20 : w20.heap.size < wA0.heap.size := by (have hq_ := hGA0.size; (try simp at hq_); omega));  have HB := Aside0.mk (Grew.trans (show Grew w20 _ by repeat (first | exact HB.out | exact Below.refl _ _ | apply below_drew | apply pw_below_drewN | apply below_alloc | (refine Below.setCell ?_ ?_ _; rotate_left; (focus (first | omega | (simp; done) | (simp; omega)))))) hGA0); have HQ0 := Aside0.mk hGA0; have HRA0 := Aside0.mk hRA0; have hzA0 : w20.heap.size ≤ wA0.heap.size := HB.out.size; clear hRA0 hGA0) | ((with_reducible refine Calls.mono (HP1.out _ ?_) ?_); (focus (repeat (first | exact HB.out | exact Below.refl _ _ | apply below_drew | apply pw_below_drewN | apply below_alloc | (refine Below.setCell ?_ ?_ _; rotate_left; (focus (first | omega | (simp; done) | (simp; omega))))))); rintro e wA1 ⟨AA1, cA1, rfl, hRA1, hGA1⟩; obtain ⟨hcA1, hfA1⟩ := bcell hGA1; (try have hy_wA1_w20 : w20.heap.size < wA1.heap.size := by (have hq_ := hGA1.size; (try simp at hq_); omega)); (try have hy_wA1_wA0 : wA0.heap.size < wA1.heap.size := by (have hq_ := hGA1.size; (try simp at hq_); omega)); have HRA0 := Aside0.mk (Row.grew2 HRA0.out (by repeat (first | exact HB.out | exact Below.refl _ _ | apply below_drew | apply pw_below_drewN | apply below_alloc | (refine Below.setCell ?_ ?_ _; rotate_left; (focus (first | omega | (simp; done) | (simp; omega)))))) hGA1); have HB := Aside0.mk (Grew.trans (show Grew w20 _ by repeat (first | exact HB.out | exact Below.refl _ _ | apply below_drew | apply pw_below_drewN | apply below_alloc | (refine Below.setCell ?_ ?_ _; rotate_left; (focus (first | omega | (simp; done) | (simp; omega)))))) hGA1); have HQ1 := Aside0.mk hGA1; have HRA1 := Aside0.mk hRA1; have hzA1 : w20.heap.size ≤ wA1.heap.size := HB.out.size; clear hRA1 hGA1))
          | (go_at_call 18; (with_reducible refine Calls.mono (HI.out _ AA0 cA0 AA1 cA1 ?_ ?_ ?_ ?_) ?_); (focus exact (Row.slice (Row.grew2 HRA0.out (by repeat (first | exact HB.out | exact Below.refl _ _ | apply below_drew | apply pw_below_drewN | apply below_alloc | (refine Below.setCell ?_ ?_ _; rotate_left; (focus (first | omega | (simp; done) | (simp; omega)))))) (Below.refl _ _))).2.2); (focus exact (Row.slice HRA0.out).2.1); (focus exact (Row.slice (Row.grew2 HRA1.out (by repeat (first | exact HB.out | exact Below.refl _ _ | apply below_drew | apply pw_below_drewN | apply below_alloc | (refine Below.setCell ?_ ?_ _; rotate_left; (focus (first | omega | (simp; done) | (simp; omega)))))) (Below.refl _ _))).2.2); (focus exact (Row.slice HRA1.out).2.1); rintro e wJ ⟨vh0, rfl, hRh0, hGJ⟩; obtain ⟨Ah0, ch0, rfl⟩ := Kd.R_slice hRh0; obtain ⟨hcJ, hfJ⟩ := bcell hGJ; (try have hy_wJ_w20 : w20.heap.size < wJ.heap.size := by (have hq_ := hGJ.size; (try simp at hq_); omega)); (try have hy_wJ_wA0 : wA0.heap.size < wJ.heap.size := by (have hq_ := hGJ.size; (try simp at hq_); omega)); (try have hy_wJ_wA1 : wA1.heap.size < wJ.heap.size := by (have hq_ := hGJ.size; (try simp at hq_); omega)); have HB := Aside0.mk (Grew.trans (show Grew w20 _ by repeat (first | exact HB.out | exact Below.refl _ _ | apply below_drew | apply pw_below_drewN | apply below_alloc | (refine Below.setCell ?_ ?_ _; rotate_left; (focus (first | omega | (simp; done) | (simp; omega)))))) hGJ); have HRJ0 := Aside0.mk (Row.of_R hRh0); have HQJ := Aside0.mk hGJ; have hzJ : w20.heap.size ≤ wJ.heap.size := HB.out.size; clear hGJ hRh0))
      all_goals (go_wp2_with fail; go_meet; first | exact ⟨Ah0, ch0, _, _, _, rfl, rfl, cutC_new HB.out HRJ0.out ⟨by first | omega | (simp; done) | (simp; omega), Nat.le_refl _⟩⟩ | exact ⟨Ah0, ch0, _, _, _, rfl, rfl, cutC_set (by first | omega | (simp; done) | (simp; omega)) (blk_below (blk_new _ _) HQJ.out) HB.out HRJ0.out ⟨by first | omega | (simp; done) | (simp; omega), Nat.le_refl _⟩⟩ | exact ⟨Ah0, ch0, _, _, _, rfl, rfl, cutC_set (by first | omega | (simp; done) | (simp; omega)) (blk_below (blk_drew (blk_new _ _)) HQJ.out) HB.out HRJ0.out ⟨by first | omega | (simp; done) | (simp; omega), Nat.le_refl _⟩⟩ | exact ⟨Ah0, ch0, _, _, _, rfl, rfl, cutC_set (by first | omega | (simp; done) | (simp; omega)) (blk_below (blk_below (blk_new _ _) HQ1.out) HQJ.out) HB.out HRJ0.out ⟨by first | omega | (simp; done) | (simp; omega), Nat.le_refl _⟩⟩ | exact ⟨Ah0, ch0, _, _, _, rfl, rfl, cutC_set (by first | omega | (simp; done) | (simp; omega)) (blk_below (blk_below (blk_drew (blk_new _ _)) HQ1.out) HQJ.out) HB.out HRJ0.out ⟨by first | omega | (simp; done) | (simp; omega), Nat.le_refl _⟩⟩ | exact ⟨Ah0, ch0, _, _, _, rfl, rfl, cutC_set (by first | omega | (simp; done) | (simp; omega)) (blk_below (blk_below (blk_below (blk_new _ _) HQ0.out) HQ1.out) HQJ.out) HB.out HRJ0.out ⟨by first | omega | (simp; done) | (simp; omega), Nat.le_refl _⟩⟩ | exact ⟨Ah0, ch0, _, _, _, rfl, rfl, cutC_set (by first | omega | (simp; done) | (simp; omega)) (blk_below (blk_below (blk_below (blk_drew (blk_new _ _)) HQ0.out) HQ1.out) HQJ.out) HB.out HRJ0.out ⟨by first | omega | (simp; done) | (simp; omega), Nat.le_refl _⟩⟩)
    case rest =>
    clear p0_0 p0_1 p1_0 p1_1
    have hwc : ∃ x : World, x = wc := ⟨_, rfl⟩
    obtain ⟨w22, hwc⟩ := hwc
    subst hwc
    obtain ⟨Ah0, ch0, loh0, hih0, Gh0, rfl, rfl, HZ22, HI22, HJ22⟩ := hcut
    have HM22 : Aside0 (Mem w22 [.box Gh0 26 #[I rn0, .slice Ah0 r0.length ch0], .row loh0 hih0 (.slice Ah0 r0.length ch0) r0, .row W8.heap.size w9.heap.size (.slice Ag0 r0.length cg0) (marks 1 r0.length), .box w9.heap.size 26 #[I rn0, .slice Ag0 r0.length cg0], .box w7.heap.size 26 #[I n1, .slice Ax1 l1.length cx1], .box w5.heap.size 26 #[I n0, .slice Ax0 l0.length cx0], .box Gw0 26 #[I rn0, .slice Aw0 r0.length cw0], .row low0 hiw0 (.slice Aw0 r0.length cw0) r0, .box w.heap.size 24 #[I n0, .slice A0 l0.length c0], .box (w.heap.size + 1) 24 #[I n1, .slice A1 l1.length c1]]) := ⟨Mem.cons (it := .box Gh0 26 #[I rn0, .slice Ah0 r0.length ch0]) (HI22.out.head) (Mem.cons (it := .row loh0 hih0 (.slice Ah0 r0.length ch0) r0) (HI22.out.tail.head) (HM20.out.grew HJ22.out))⟩
    have HG22 := Aside0.mk (Grew.trans HG20.out HJ22.out)
    have hs22 := HJ22.out.size
    have hz22 := HZ22.out
    clear HZ22 HI22 HJ22 hl_p0 hl_p1
    have bh0_0 : w22.cell? ⟨Gh0, 0, none⟩ = some (I rn0) := blk_cell HM22.out.head 0
    have bh0_1 : w22.cell? ⟨Gh0, 1, none⟩ = some (.slice Ah0 r0.length ch0) := blk_cell HM22.out.head 1
    have bw0_0 : w22.cell? ⟨Gw0, 0, none⟩ = some (I rn0) := blk_cell HM22.out.tail.tail.tail.tail.tail.tail.head 0
    have bw0_1 : w22.cell? ⟨Gw0, 1, none⟩ = some (.slice Aw0 r0.length cw0) := blk_cell HM22.out.tail.tail.tail.tail.tail.tail.head 1
    go_wp2_with fail
    clear bh0_0 bh0_1 bw0_0 bw0_1
    refine (eqC_calls rn0 r0 Ah0 Aw0 ch0 cw0 _ _ _ _ _ _ w22 HM22.out.tail.head HM22.out.tail.tail.tail.tail.tail.tail.tail.head).mono ?_
    rintro e w23 ⟨rfl, hG23⟩
    have HM23 := Aside0.mk (HM22.out.grew hG23)
    have HG23 := Aside0.mk (Grew.trans HG22.out hG23)
    have hs23 := hG23.size
    clear hG23
    clear hneg0
    have hneg0 : ¬ ((1 + (r0.length : Int)) < 0) := by omega
    have bg0_0 : w23.cell? ⟨w9.heap.size, 0, none⟩ = some (I rn0) := blk_cell HM23.out.tail.tail.tail.head 0
    have bg0_1 : w23.cell? ⟨w9.heap.size, 1, none⟩ = some (.slice Ag0 r0.length cg0) := blk_cell HM23.out.tail.tail.tail.head 1
    go_wp2_with fail
    clear bg0_0 bg0_1
    refine (heldC_calls rn0 Ag0 r0.length r0.length cg0 _ _ 1 (by omega) (by omega) w23 HM23.out.tail.tail.head).mono ?_
    rintro e w24 ⟨rfl, hG24⟩
    have HM24 := Aside0.mk (HM23.out.grew hG24)
    have HG24 := Aside0.mk (Grew.trans HG23.out hG24)
    have hs24 := hG24.size
    clear hG24
    go_wp2_with fail
    go_ret
    exact ⟨rfl, HG24.out⟩

theorem LJoinOf_calls (n0 : Int) (A0 : Option Addr) (c0 : Nat) (l0 : List Int) (n1 : Int) (A1 : Option Addr) (c1 : Nat) (l1 : List Int) (w : World) (hr0 : Ki.C w A0 l0.length l0) (hc0 : l0.length ≤ c0) (hr1 : Ki.C w A1 l1.length l1) (hc1 : l1.length ≤ c1) :
    Calls Try.prog 4 #[.agg #[I n0, .slice A0 l0.length c0], .agg #[I n1, .slice A1 l1.length c1]] w fun e w' => e = .returned (.bool true) ∧ Grew w w' := by
  by_cases hl0 : (1048576 : Int) < (l0.length : Int)
  · exact LJoinOf_b0 n0 A0 c0 l0 n1 A1 c1 l1 w hr0 hc0 hr1 hc1  hl0
  by_cases hl1 : ((1048576 : Int) - (l0.length : Int)) < (l1.length : Int)
  · exact LJoinOf_b1 n0 A0 c0 l0 n1 A1 c1 l1 w hr0 hc0 hr1 hc1 hl0 hl1
  exact LJoinOf_main n0 A0 c0 l0 n1 A1 c1 l1 w hr0 hc0 hr1 hc1 hl0 hl1

end Go.Proofs.Ytjoggjgmpoaaiaa.K
end

section

namespace Go.Proofs.Ytjoggjgmpoaaiaa.fnExactJoinOf
open Go.ChangeShapes Go.WideShapes Go.ChangeAt Go.RowKit Go.Joins Go.Proofs.Ytjoggjgmpoaaiaa.K Go.Proofs.YtjoggjgmpoaaiaaW.PrintWords
open Go.ChangeMaps (open_string shut_string)
set_option linter.unusedVariables false
set_option maxRecDepth 100000 in
theorem lifted (os : Os) (started : os.Started) (H : Type) (enc : TypeId × Value → H) :
    ReturnsInHanded {} Try.checked os 4 .any (Rows.fnExactJoinOfSpec.pre6 enc Try.prog Try.f4 Rows.fnExactJoinOfRow.domain false) (Rows.fnExactJoinOfSpec.post enc Try.prog Try.f4 false true false false) := by
  refine returnsInHanded_of_change_sized (C := Try.checked) ownKnob_none started (by kernel_rfl) Try.func4
    (ChangeSpec.witness6 (enc := enc) (C := Try.checked) false ⟨#[], #[.agg #[.int .i64 0, .slice none 0 0], .agg #[.int .i64 0, .slice none 0 0]], []⟩ 8 (by kernel_rfl) (by kernel_rfl) (by kernel_rfl) (by kernel_rfl)) ?_
  intro W base args ds gs before hval0 hW hcnd hsz0 _
  have hsz : (DataW.weightsEach Try.prog (Try.f4.params.toList ++ Rows.fnExactJoinOfSpec.plain.varTypes Try.prog) (ds ++ gs)).all (· ≤ reachBytes) = true := hsz0
  have hval : ∀ (j : Nat) t v, Try.f4.params[j]? = some t → args[j]? = some v → Value.okWide Try.prog W .any base t v := hval0
  have hW' := hW
  obtain ⟨p, q, hA0, hV, rfl, hfz, hnd⟩ := hW
  have hA : DataW.TrodAll enc Try.prog W 0 (fun _ => true) true Try.f4.params.toList args.toList ds p := hA0
  rw [Try.params4] at hA hval hsz
  obtain ⟨v0, vs0, d0, ds0, p0, q0, hargs, rfl, rfl, h0, r0⟩ := trodAll_cons hA
  obtain ⟨v1, vs1, d1, ds1, p1, q1, rfl, rfl, rfl, h1, r1⟩ := trodAll_cons r0
  obtain ⟨rfl, rfl, rfl⟩ := trodAll_nil r1
  obtain rfl : args = #[v0, v1] := by cases args; simp_all
  obtain ⟨rfl, rfl⟩ := trodVars_none hV
  have k0 := h0
  have lt0 : ∀ x ∈ p0, x.block < W.heap.size := by obtain ⟨m, hm⟩ := k0; exact DataW.trod_lt m _ _ _ hm
  obtain ⟨x0, z0, y0_0, y1_0, m0, hv0, hd0, hp0, hy0_0, hy1_0⟩ := open_agg2 Try.underlying24 (by kernel_rfl) (show Try.prog.cellsOf 24 = 2 by kernel_rfl) (hval 0 24 v0 rfl rfl) h0
  obtain ⟨n0, e0_0, _, w0⟩ := DataW.trod_int Try.underlying2 hy0_0
  obtain ⟨A0, c0, l0, e1_0, hc0, hr0, _⟩ := ints_open hy1_0
  simp only [List.cons.injEq, and_true] at e0_0
  subst e0_0 e1_0
  subst hv0
  have k1 := h1
  have lt1 : ∀ x ∈ p1, x.block < W.heap.size := by obtain ⟨m, hm⟩ := k1; exact DataW.trod_lt m _ _ _ hm
  obtain ⟨x1, z1, y0_1, y1_1, m1, hv1, hd1, hp1, hy0_1, hy1_1⟩ := open_agg2 Try.underlying24 (by kernel_rfl) (show Try.prog.cellsOf 24 = 2 by kernel_rfl) (hval 1 24 v1 rfl rfl) h1
  obtain ⟨n1, e0_1, _, w1⟩ := DataW.trod_int Try.underlying2 hy0_1
  obtain ⟨A1, c1, l1, e1_1, hc1, hr1, _⟩ := ints_open hy1_1
  simp only [List.cons.injEq, and_true] at e0_1
  subst e0_1 e1_1
  subst hv1
  clear hA0 hval0 hsz0 hsz
  refine (K.LJoinOf_calls n0 A0 c0 l0 n1 A1 c1 l1 W hr0 hc0 hr1 hc1).mono fun e W' ⟨he, bel0⟩ => ?_
  have bel : Below W.heap.size W W' := bel0
  subst he
  exact ⟨_, rfl, _, _, _, [], _, [], hW', trodAll_mk1 (shut_bool Try.underlying4 _), (trodAll_cons_mk (Below.trod laidOut (by kernel_rfl) (of_decide_eq_true (by kernel_rfl)) k0 bel lt0) (trodAll_cons_mk (Below.trod laidOut (by kernel_rfl) (of_decide_eq_true (by kernel_rfl)) k1 bel lt1) trodAll_mk0)), rfl, bel.frame _, fun h => by cases h⟩
theorem over : Rows.fnExactJoinOfRow.holds Try.pinned (OpenSpec.ofChange Rows.fnExactJoinOfSpec) :=
  OpenClaim.holds_of_wide 4 Try.f4 rfl rfl rfl rfl rfl rfl rfl ⟨rfl, rfl, rfl, rfl, rfl⟩ rfl rfl rfl rfl rfl (by kernel_rfl) Try.func4 (by kernel_rfl)
    (of_decide_eq_true (by kernel_rfl)) (by unfold Func.isWrapper; first | (rw [if_pos (by decide +kernel)]; kernel_rfl) | (rw [if_neg (by decide +kernel)]; exact ⟨rfl, rfl⟩))
    (fun os started H enc _ => lifted os started H enc)
theorem proved : Rows.FnExactJoinOfSaid := over
#print axioms proved
end Go.Proofs.Ytjoggjgmpoaaiaa.fnExactJoinOf
namespace Go.Proofs.Ytjoggjgmpoaaiaa
theorem fnExactJoinOf_holds : Rows.FnExactJoinOfSaid := fnExactJoinOf.proved
end Go.Proofs.Ytjoggjgmpoaaiaa
end
